import PyProof.Rows.All
import Wide.All
import OpenK.AllK
import Wide.FinOn
import HandS.ForMost
import HandS.Exc
import HandS.TryOnly
import HandS.ExcOwn
import HandS.WordsExc
import HandS.Wide
import HandS.WideMore
import HandS.WideBits
import HandS.Style
import HandS.IsInst
import HandS.Conv
import HandS.Zip
import HandS.Flow
import HandS.Lambda
import HandS.ExcCtx
import HandS.TupAny
import HandS.TupMul
import HandS.Deep
import KE.SortData
import PyProof.TupleOfSeq
import KE.KRevSl
import HandS.HotCalls
import HandS.ExcIs
import HandS.Iter
import HandS.EndTab
import PySem.Challenge.RW_allplaces_k07_squares
section
set_option Elab.async false
set_option linter.all false
set_option maxRecDepth 100000
/-! Pure data over the layer of readings: D, what stands for it, the environments, and for each reading the same over data. -/
namespace PD
open PySem L2

/-- data: own i is the object that the slot i alone holds (a list or a dict that the def changes) -/
inductive D where
  | non | bl (b : Bool) | int (i : Int) | str (s : Str)
  | tup (xs : List D) | lst (xs : List D)
  | fn (a : Addr) | own (i : Nat)
  | dct (ks : List Int) (vs : List D)
  | scr (ns : List Int)

/-- what stands at a is known to the module -/
def KLst (K : PySem.W.Frag) (a : Addr) (xs : List V) : Prop :=
  ∃ (o : Obj) (its : Array Value) (n : Nat), K.lookup a = some o ∧ o.cls = .type "list" ∧ o.dict = none ∧ o.data = .seq its n ∧ its.size ≤ sizeLine ∧ Vals xs its.toList

/-- all but tables and what is told by its one object -/
def Pn : HO → Prop
  | .tbl _ => False
  | .ext _ => False
  | _ => True
mutual
/-- v stands for d; nothing of it lies in A -/
inductive Rp (K : PySem.W.Frag) (A : Addr → Prop) (H : Hp) : D → V → Prop
  | non : Rp K A H .non .non
  | bl (b : Bool) : Rp K A H (.bl b) (.bl b)
  | int (i : Int) : Rp K A H (.int i) (.int i)
  | str (s : Str) : Rp K A H (.str s) (.str s)
  | tup {a : Addr} {ds : List D} {vs : List V} : ¬ A a → H a = some (.tup vs) → RpL K A H ds vs → Rp K A H (.tup ds) (.ref a)
  | lst {a : Addr} {ds : List D} {vs : List V} : ¬ A a → H a = some (.lst vs) → RpL K A H ds vs → Rp K A H (.lst ds) (.ref a)
  | frz {a : Addr} {o : Obj} (ns : List Int) : ¬ A a → H a = some (.frz o (.lst (ns.map V.int))) → Rp K A H (.scr ns) (.ref a)
  | slst {a : Addr} (ns : List Int) : ¬ A a → H a = some (.lst (ns.map V.int)) → Rp K A H (.scr ns) (.ref a)
  | klst {a : Addr} (ns : List Int) : KLst K a (ns.map V.int) → Rp K A H (.scr ns) (.ref a)
  | dct {a : Addr} {ks : List Int} {ds : List D} {vs : List V} : ¬ A a → H a = some (.dK ((ks.map Sum.inl).zip vs)) → ks.length = vs.length → RpL K A H ds vs → Rp K A H (.dct ks ds) (.ref a)
  | fn (a : Addr) : Rp K A H (.fn a) (.ref a)
inductive RpL (K : PySem.W.Frag) (A : Addr → Prop) (H : Hp) : List D → List V → Prop
  | nil : RpL K A H [] []
  | cons {d : D} {v : V} {ds : List D} {vs : List V} : Rp K A H d v → RpL K A H ds vs → RpL K A H (d :: ds) (v :: vs)
end

section
variable {K : PySem.W.Frag} {A A' : Addr → Prop} {H H' : Hp}
mutual
theorem Rp.move (h : ∀ a o, ¬ A a → H a = some o → Pn o → ¬ A' a ∧ H' a = some o) : ∀ {d : D} {v : V}, Rp K A H d v → Rp K A' H' d v
  | _, _, .non => .non
  | _, _, .bl b => .bl b
  | _, _, .int b => .int b
  | _, _, .str b => .str b
  | _, _, .tup n e r => .tup (h _ _ n e trivial).1 (h _ _ n e trivial).2 (RpL.move h r)
  | _, _, .lst n e r => .lst (h _ _ n e trivial).1 (h _ _ n e trivial).2 (RpL.move h r)
  | _, _, .frz ns n e => .frz ns (h _ _ n e trivial).1 (h _ _ n e trivial).2
  | _, _, .slst ns n e => .slst ns (h _ _ n e trivial).1 (h _ _ n e trivial).2
  | _, _, .klst ns k => .klst ns k
  | _, _, .dct n e l r => .dct (h _ _ n e trivial).1 (h _ _ n e trivial).2 l (RpL.move h r)
  | _, _, .fn a => .fn a
theorem RpL.move (h : ∀ a o, ¬ A a → H a = some o → Pn o → ¬ A' a ∧ H' a = some o) : ∀ {ds : List D} {vs : List V}, RpL K A H ds vs → RpL K A' H' ds vs
  | _, _, .nil => .nil
  | _, _, .cons a b => .cons (Rp.move h a) (RpL.move h b)
end
theorem RpL.length : ∀ {ds : List D} {vs : List V}, RpL K A H ds vs → ds.length = vs.length
  | _, _, .nil => rfl
  | _, _, .cons _ b => congrArg (· + 1) (RpL.length b)
theorem RpL.append : ∀ {ds : List D} {vs : List V} {es : List D} {ws : List V}, RpL K A H ds vs → RpL K A H es ws → RpL K A H (ds ++ es) (vs ++ ws)
  | _, _, _, _, .nil, h => h
  | _, _, _, _, .cons a b, h => .cons a (RpL.append b h)
theorem RpL.get : ∀ {ds : List D} {vs : List V} {i : Nat} {v : V}, RpL K A H ds vs → vs[i]? = some v → ∃ d, ds[i]? = some d ∧ Rp K A H d v
  | _, _, _, _, .nil, e => by simp at e
  | _, _, 0, _, .cons a _, e => by simp at e; subst e; exact ⟨_, rfl, a⟩
  | _, _, i + 1, _, .cons _ b, e => by
    obtain ⟨d, e1, r⟩ := RpL.get (i := i) b (by simpa using e)
    exact ⟨d, by simpa using e1, r⟩
theorem RpL.got : ∀ {ds : List D} {vs : List V} {i : Nat} {d : D}, RpL K A H ds vs → ds[i]? = some d → ∃ v, vs[i]? = some v ∧ Rp K A H d v
  | _, _, _, _, .nil, e => by simp at e
  | _, _, 0, _, .cons a _, e => by simp at e; subst e; exact ⟨_, rfl, a⟩
  | _, _, i + 1, _, .cons _ b, e => by
    obtain ⟨d, e1, r⟩ := RpL.got (i := i) b (by simpa using e)
    exact ⟨d, by simpa using e1, r⟩
theorem RpL.set : ∀ {ds : List D} {vs : List V} (i : Nat) {d : D} {v : V}, RpL K A H ds vs → Rp K A H d v → RpL K A H (ds.set i d) (vs.set i v)
  | _, _, _, _, _, .nil, _ => .nil
  | _, _, 0, _, _, .cons _ b, r => .cons r b
  | _, _, i + 1, _, _, .cons a b, r => .cons a (RpL.set i b r)
theorem RpL.take : ∀ {ds : List D} {vs : List V} (n : Nat), RpL K A H ds vs → RpL K A H (ds.take n) (vs.take n)
  | _, _, 0, _ => by rw [List.take_zero, List.take_zero]; exact .nil
  | _, _, _ + 1, .nil => .nil
  | _, _, n + 1, .cons a b => .cons a (RpL.take n b)
theorem RpL.drop : ∀ {ds : List D} {vs : List V} (n : Nat), RpL K A H ds vs → RpL K A H (ds.drop n) (vs.drop n)
  | _, _, 0, h => h
  | _, _, _ + 1, .nil => .nil
  | _, _, n + 1, .cons _ b => RpL.drop n b
theorem RpL.eraseIdx : ∀ {ds : List D} {vs : List V} (n : Nat), RpL K A H ds vs → RpL K A H (ds.eraseIdx n) (vs.eraseIdx n)
  | _, _, _, .nil => .nil
  | _, _, 0, .cons _ b => b
  | _, _, n + 1, .cons a b => .cons a (RpL.eraseIdx n b)
theorem RpL.reverse {ds : List D} {vs : List V} (h : RpL K A H ds vs) : RpL K A H ds.reverse vs.reverse := by
  induction ds generalizing vs with
  | nil => cases h; exact .nil
  | cons d ds ih =>
    cases h with
    | cons a b =>
      rw [List.reverse_cons, List.reverse_cons]
      exact (ih b).append (.cons a .nil)
theorem RpL.rep {ds : List D} {vs : List V} (h : RpL K A H ds vs) : ∀ k : Nat, RpL K A H (List.replicate k ds).flatten (List.replicate k vs).flatten
  | 0 => .nil
  | k + 1 => by
    rw [List.replicate_succ, List.replicate_succ, List.flatten_cons, List.flatten_cons]
    exact h.append (RpL.rep h k)
theorem RpL.ints : ∀ {ns : List Int} {vs : List V}, RpL K A H (ns.map D.int) vs → vs = ns.map V.int
  | [], _, .nil => rfl
  | _ :: _, _, .cons (.int _) b => congrArg (_ :: ·) (RpL.ints b)
theorem RpL.of_ints : ∀ (ns : List Int), RpL K A H (ns.map D.int) (ns.map V.int)
  | [] => .nil
  | n :: ns => .cons (.int n) (RpL.of_ints ns)
theorem RpL.bls : ∀ {ns : List Bool} {vs : List V}, RpL K A H (ns.map D.bl) vs → vs = ns.map V.bl
  | [], _, .nil => rfl
  | _ :: _, _, .cons (.bl _) b => congrArg (_ :: ·) (RpL.bls b)
/-- a list that is read -/
theorem Rp.seqL {ds : List D} {v : V} (h : Rp K A H (.lst ds) v) : ∃ a vs, v = .ref a ∧ ¬ A a ∧ H a = some (.lst vs) ∧ RpL K A H ds vs := by
  cases h with
  | lst n e r => exact ⟨_, _, rfl, n, e, r⟩
theorem Rp.seqS {ns : List Int} {v : V} (h : Rp K A H (.scr ns) v) : ∃ a, v = .ref a ∧ SqL K H a (ns.map V.int) := by
  cases h with
  | frz ns n e => exact ⟨_, rfl, .inl (.inr ⟨_, e⟩)⟩
  | slst ns n e => exact ⟨_, rfl, .of e⟩
  | klst ns k => exact ⟨_, rfl, .inr k⟩
theorem Rp.seqT {ds : List D} {v : V} (h : Rp K A H (.tup ds) v) : ∃ a vs, v = .ref a ∧ ¬ A a ∧ H a = some (.tup vs) ∧ RpL K A H ds vs := by
  cases h with
  | tup n e r => exact ⟨_, _, rfl, n, e, r⟩
end

/-! ### the environment of a def that runs -/
/-- the program's errors -/
inductive Ex where
  | form | range
/-- what is fixed through a def: the written part, what must not be touched nor held (z), the caller's object in slot 0 that may be changed, the heap at the start, the slots that hold objects of their own, the wish of an error -/
structure C0 where
  K : PySem.W.Frag
  z : Addr → Prop
  box : Option Addr
  h0 : Hp
  own : Nat → Bool
  ew : L2.XK
  dw : Ex → Prop
  cl : Ex → Addr
  T : List (Addr × Str)
/-- what is wanted of errors -/
def C0.Good (c : C0) : Prop := ∀ x H', (∀ a o, c.h0 a = some o → Pn o → c.box ≠ some a → H' a = some o) → LamX.Tabs c.T H' → c.dw x → c.ew (.ref (c.cl x)) none H'

/-- what is held besides: values on the way, objects on the way -/
structure Tm where
  vals : List (D × V)
  hold : List (Addr × HO)

abbrev Env := List (Option D)

/-- where one must not reach -/
def Far (c : C0) (t : Tm) (σ : L2.St) (a : Addr) : Prop :=
  c.z a ∨ (∃ o, (a, o) ∈ t.hold) ∨ ∃ i, c.own i = true ∧ σ[i]? = some (some (.ref a))

/-- what an object that a slot alone holds is -/
def OwnC (K : PySem.W.Frag) (A : Addr → Prop) (H : Hp) (o : HO) : D → Prop
  | .lst ds => ∃ vs, o = .lst vs ∧ RpL K A H ds vs
  | .dct ks ds => ∃ vs : List V, o = .dK ((ks.map Sum.inl).zip vs) ∧ ks.length = vs.length ∧ RpL K A H ds vs
  | _ => False
def OwnAt (K : PySem.W.Frag) (A : Addr → Prop) (H : Hp) (l : Addr) (d : D) : Prop := ∃ o, H l = some o ∧ OwnC K A H o d

structure EnvOk (c : C0) (t : Tm) (σ : L2.St) (H : Hp) (ρ : Env) : Prop where
  len : σ.length = ρ.length
  frame : ∀ a o, c.h0 a = some o → Pn o → c.box ≠ some a → H a = some o
  tabs : LamX.Tabs c.T H
  trk : ∀ a, Far c t σ a → ∃ o, H a = some o ∧ Pn o
  val : ∀ i d, ρ[i]? = some (some d) → c.own i = false → ∃ v, σ[i]? = some (some v) ∧ Rp c.K (Far c t σ) H d v
  ownv : ∀ i d, ρ[i]? = some (some d) → c.own i = true → ∃ l, σ[i]? = some (some (.ref l)) ∧ OwnAt c.K (Far c t σ) H l d ∧ (c.box = some l ∨ ∀ o, c.h0 l = some o → Pn o → False)
  ownn : ∀ i, c.own i = true → ρ[i]? = some none → σ[i]? = some none
  dist : ∀ i j l, c.own i = true → c.own j = true → σ[i]? = some (some (.ref l)) → σ[j]? = some (some (.ref l)) → i = j
  bx : ∀ b, c.box = some b → c.own 0 = true ∧ σ[0]? = some (some (.ref b))
  tv : ∀ p ∈ t.vals, Rp c.K (Far c t σ) H p.1 p.2
  th : ∀ p ∈ t.hold, H p.1 = some p.2 ∧ (∀ i, c.own i = true → σ[i]? ≠ some (some (.ref p.1))) ∧ (∀ o, c.h0 p.1 = some o → Pn o → False) ∧ Pn p.2

/-- a value on the way: what stands for d, or the own object of a slot -/
def RpO (c : C0) (t : Tm) (σ : L2.St) (H : Hp) (d : D) (v : V) : Prop :=
  Rp c.K (Far c t σ) H d v ∨ ∃ i, d = .own i ∧ c.own i = true ∧ σ[i]? = some (some v)

end PD

end
section
set_option Elab.async false
set_option linter.all false
set_option maxRecDepth 100000
namespace PD
open PySem L2

/-! ### environments: growth, a change, a store -/
section
variable {c : C0} {t : Tm} {σ : L2.St} {H H' : Hp} {ρ : Env}

theorem OwnC.move {K : PySem.W.Frag} {A A' : Addr → Prop} {o : HO} {d : D} (h : ∀ a o, ¬ A a → H a = some o → Pn o → ¬ A' a ∧ H' a = some o) (x : OwnC K A H o d) : OwnC K A' H' o d := by
  cases d with
  | lst ds => obtain ⟨vs, e, r⟩ := x; exact ⟨vs, e, RpL.move h r⟩
  | dct ks ds => obtain ⟨vs, e, n, r⟩ := x; exact ⟨vs, e, n, RpL.move h r⟩
  | _ => exact False.elim x
theorem OwnC.pn {K : PySem.W.Frag} {A : Addr → Prop} {o : HO} {d : D} (x : OwnC K A H o d) : Pn o := by
  cases d with
  | lst ds => obtain ⟨vs, e, r⟩ := x; subst e; trivial
  | dct ks ds => obtain ⟨vs, e, n, r⟩ := x; subst e; trivial
  | _ => exact False.elim x
theorem OwnAt.move {K : PySem.W.Frag} {A A' : Addr → Prop} {l : Addr} {d : D} (hl : ∀ o, H l = some o → Pn o → H' l = some o) (h : ∀ a o, ¬ A a → H a = some o → Pn o → ¬ A' a ∧ H' a = some o) (x : OwnAt K A H l d) : OwnAt K A' H' l d := by
  obtain ⟨o, e, x⟩ := x
  exact ⟨o, hl _ e x.pn, x.move h⟩
/-- nothing but tables grows, nothing is lost -/
def Gr (T : List (Addr × Str)) (H H' : Hp) : Prop := (∀ a o, H a = some o → Pn o → H' a = some o) ∧ (LamX.Tabs T H → LamX.Tabs T H')
theorem Gr.refl {T : List (Addr × Str)} : Gr T H H := ⟨fun _ _ e _ => e, id⟩
theorem Gr.of {T : List (Addr × Str)} (g : ∀ a o, H a = some o → H' a = some o) : Gr T H H' := ⟨fun a o e _ => g a o e, fun t => t.ext g⟩
/-- tables stay behind a change of a plain object -/
theorem tabs_upd {T : List (Addr × Str)} {l : Addr} {o o' : HO} (t : LamX.Tabs T H) (e : H l = some o) (pn : Pn o) : LamX.Tabs T (upd H l o') := fun p hp => by
  obtain ⟨ps, h1, h2, h3⟩ := t p hp
  refine ⟨ps, by rw [upd_ne (fun z => by rw [z, e] at h1; cases h1; exact pn)]; exact h1, h2, fun pos cv hc => ?_⟩
  obtain ⟨c, e1, e2⟩ := h3 pos cv hc
  exact ⟨c, e1, by rw [upd_ne (fun z => by rw [z, e] at e2; unfold LamX.CodeO at e2; cases e2; exact pn)]; exact e2⟩
theorem OwnAt.there {K : PySem.W.Frag} {A : Addr → Prop} {l : Addr} {d : D} (x : OwnAt K A H l d) : ∃ o, H l = some o ∧ Pn o := x.imp fun _ h => ⟨h.1, h.2.pn⟩

/-- all that is tracked stays -/
theorem EnvOk.grow (h : EnvOk c t σ H ρ) (g : Gr c.T H H') : EnvOk c t σ H' ρ where
  len := h.len
  frame := fun a o e p n => g.1 _ _ (h.frame a o e p n) p
  tabs := g.2 h.tabs
  trk := fun a f => let ⟨o, e, p⟩ := h.trk a f; ⟨o, g.1 _ _ e p, p⟩
  val := fun i d e n => let ⟨v, e1, r⟩ := h.val i d e n; ⟨v, e1, r.move fun a o na ea p => ⟨na, g.1 _ _ ea p⟩⟩
  ownv := fun i d e n => let ⟨l, e1, x, z⟩ := h.ownv i d e n; ⟨l, e1, x.move (fun o => g.1 l o) (fun a o na ea p => ⟨na, g.1 _ _ ea p⟩), z⟩
  ownn := h.ownn
  dist := h.dist
  bx := h.bx
  tv := fun p hp => (h.tv p hp).move fun a o na ea q => ⟨na, g.1 _ _ ea q⟩
  th := fun p hp => let ⟨a, b, e, q⟩ := h.th p hp; ⟨g.1 _ _ a q, b, e, q⟩
theorem upd_grow {p : Addr} {o : HO} (hp : H p = none) : ∀ a o', H a = some o' → upd H p o a = some o' := fun a o' e => by
  rw [upd_ne (ne_of_none e hp)]; exact e
theorem EnvOk.new {p : Addr} {o : HO} (h : EnvOk c t σ H ρ) (hp : H p = none) : EnvOk c t σ (upd H p o) ρ := h.grow (.of (upd_grow hp))
theorem EnvOk.far {p : Addr} (h : EnvOk c t σ H ρ) (hp : H p = none) : ¬ Far c t σ p := fun f => by
  obtain ⟨o, e, _⟩ := h.trk p f
  rw [hp] at e; cases e
theorem EnvOk.h0n {p : Addr} (h : EnvOk c t σ H ρ) (hp : H p = none) : ∀ o, c.h0 p = some o → Pn o → False := fun o e pn => by
  by_cases hb : c.box = some p
  · obtain ⟨a, b⟩ := h.bx p hb
    exact absurd (.inr (.inr ⟨0, a, b⟩)) (h.far hp)
  · have := h.frame p o e pn hb
    rw [hp] at this; cases this
theorem Rp.grow {d : D} {v : V} {A : Addr → Prop} {K : PySem.W.Frag} (r : Rp K A H d v) (g : ∀ a o, H a = some o → H' a = some o) : Rp K A H' d v := r.move fun a o na ea _ => ⟨na, g _ _ ea⟩
theorem RpL.grow {d : List D} {v : List V} {A : Addr → Prop} {K : PySem.W.Frag} (r : RpL K A H d v) (g : ∀ a o, H a = some o → H' a = some o) : RpL K A H' d v := r.move fun a o na ea _ => ⟨na, g _ _ ea⟩

theorem RpO.grow {d : D} {v : V} (r : RpO c t σ H d v) (g : ∀ a o, H a = some o → H' a = some o) : RpO c t σ H' d v := r.imp (fun r => r.grow g) id
/-- an own object is changed -/
theorem EnvOk.mut {i : Nat} {l : Addr} {d d' : D} {o : HO} (h : EnvOk c t σ H ρ) (hi : c.own i = true) (hd : ρ[i]? = some (some d)) (hl : σ[i]? = some (some (.ref l)))
    (new : OwnC c.K (Far c t σ) H o d') : EnvOk c t σ (upd H l o) (ρ.set i (some d')) := by
  have fl : Far c t σ l := .inr (.inr ⟨i, hi, hl⟩)
  have keep : ∀ a o', ¬ Far c t σ a → H a = some o' → Pn o' → ¬ Far c t σ a ∧ upd H l o a = some o' := fun a o' na e _ => ⟨na, by
    rw [upd_ne (fun z => na (by rw [z]; exact fl))]; exact e⟩
  have hlen : i < ρ.length := (List.getElem?_eq_some_iff.mp hd).1
  obtain ⟨l', e1, x, bz⟩ := h.ownv i d hd hi
  rw [hl] at e1; cases e1
  refine ⟨by rw [List.length_set]; exact h.len, fun a o' e pn n => ?_, let ⟨o, e, pn⟩ := h.trk l fl; tabs_upd h.tabs e pn, fun a f => ?_, fun j dj e n => ?_, fun j dj e n => ?_, fun j n e => ?_, h.dist, h.bx, fun p hp => (h.tv p hp).move keep, fun p hp => ?_⟩
  · have hne : a ≠ l := fun z => by
      subst z
      rcases bz with z | z
      · exact n z
      · exact z o' e pn
    rw [upd_ne hne]; exact h.frame a o' e pn n
  · by_cases z : a = l
    · subst z; exact ⟨_, upd_same, new.pn⟩
    · obtain ⟨o', e, pn⟩ := h.trk a f
      exact ⟨o', by rw [upd_ne z]; exact e, pn⟩
  · have hij : i ≠ j := fun z => by subst z; rw [hi] at n; cases n
    rw [List.getElem?_set_ne hij] at e
    obtain ⟨v, e1, r⟩ := h.val j dj e n
    exact ⟨v, e1, r.move keep⟩
  · by_cases hij : i = j
    · subst hij
      rw [List.getElem?_set_self hlen] at e
      cases e
      exact ⟨l, hl, ⟨o, upd_same, new.move keep⟩, bz⟩
    · rw [List.getElem?_set_ne hij] at e
      obtain ⟨l2, e1, x2, z2⟩ := h.ownv j dj e n
      have hne : l2 ≠ l := fun z => by subst z; exact hij (h.dist i j _ hi n hl e1)
      exact ⟨l2, e1, x2.move (fun o' q _ => by rw [upd_ne hne]; exact q) keep, z2⟩
  · by_cases hij : i = j
    · subst hij
      rw [List.getElem?_set_self hlen] at e; cases e
    · rw [List.getElem?_set_ne hij] at e
      exact h.ownn j n e
  · obtain ⟨a, b, e, q⟩ := h.th p hp
    have hne : p.1 ≠ l := fun z => b i hi (by rw [z]; exact hl)
    exact ⟨by rw [upd_ne hne]; exact a, b, e, q⟩

theorem far_set {i : Nat} {x : Option V} {a : Addr} (hi : c.own i = false) : Far c t (σ.set i x) a ↔ Far c t σ a := by
  unfold Far
  have e : ∀ j, c.own j = true → (σ.set i x)[j]? = σ[j]? := fun j hj => List.getElem?_set_ne fun z => by subst z; rw [hi] at hj; cases hj
  constructor
  · rintro (f | f | ⟨j, hj, f⟩)
    · exact .inl f
    · exact .inr (.inl f)
    · rw [e j hj] at f; exact .inr (.inr ⟨j, hj, f⟩)
  · rintro (f | f | ⟨j, hj, f⟩)
    · exact .inl f
    · exact .inr (.inl f)
    · exact .inr (.inr ⟨j, hj, by rw [e j hj]; exact f⟩)
/-- a slot is stored (or forgotten) -/
theorem EnvOk.put {i : Nat} {x : Option V} {y : Option D} (h : EnvOk c t σ H ρ) (hi : c.own i = false) (r : ∀ d, y = some d → ∃ v, x = some v ∧ Rp c.K (Far c t σ) H d v) : EnvOk c t (σ.set i x) H (ρ.set i y) := by
  have ff : Far c t (σ.set i x) = Far c t σ := funext fun a => propext (far_set hi)
  have e : ∀ j, c.own j = true → (σ.set i x)[j]? = σ[j]? ∧ (ρ.set i y)[j]? = ρ[j]? := fun j hj => by
    have hij : i ≠ j := fun z => by subst z; rw [hi] at hj; cases hj
    exact ⟨List.getElem?_set_ne hij, List.getElem?_set_ne hij⟩
  refine ⟨by rw [List.length_set, List.length_set]; exact h.len, h.frame, h.tabs, fun a f => h.trk a (by rw [ff] at f; exact f), fun j d ej n => ?_, fun j d ej n => ?_, fun j n ej => ?_, fun j k l hj hk e1 e2 => ?_, fun b hb => ?_, fun p hp => by rw [ff]; exact h.tv p hp, fun p hp => ?_⟩
  · rw [ff]
    by_cases hij : i = j
    · subst hij
      have hlt : i < ρ.length := by
        have := (List.getElem?_eq_some_iff.mp ej).1
        rwa [List.length_set] at this
      rw [List.getElem?_set_self hlt] at ej
      obtain ⟨v, e1, r1⟩ := r d (Option.some.inj ej)
      exact ⟨v, by rw [List.getElem?_set_self (by rw [h.len]; exact hlt), e1], r1⟩
    · rw [List.getElem?_set_ne hij] at ej ⊢
      exact h.val j d ej n
  · rw [(e j n).2] at ej
    rw [(e j n).1, ff]
    exact h.ownv j d ej n
  · rw [(e j n).2] at ej
    rw [(e j n).1]
    exact h.ownn j n ej
  · rw [(e j hj).1] at e1
    rw [(e k hk).1] at e2
    exact h.dist j k l hj hk e1 e2
  · obtain ⟨a, z⟩ := h.bx b hb
    exact ⟨a, by rw [(e 0 a).1]; exact z⟩
  · obtain ⟨a, b, z⟩ := h.th p hp
    exact ⟨a, fun j hj => by rw [(e j hj).1]; exact b j hj, z⟩
/-- a new object of its own is stored in a slot -/
theorem EnvOk.putNew {i : Nat} {p : Addr} {o : HO} {d : D} (h : EnvOk c t σ H ρ) (hi : c.own i = true) (hb : c.box = none ∨ i ≠ 0) (hlt : i < ρ.length) (hp : H p = none)
    (new : OwnC c.K (Far c t σ) H o d) : EnvOk c t (σ.set i (some (.ref p))) (upd H p o) (ρ.set i (some d)) := by
  have fp := h.far hp
  have keep : ∀ a o', ¬ Far c t σ a → H a = some o' → Pn o' → ¬ Far c t (σ.set i (some (.ref p))) a ∧ upd H p o a = some o' := fun a o' na e _ => by
    have hne : a ≠ p := ne_of_none e hp
    refine ⟨?_, by rw [upd_ne hne]; exact e⟩
    rintro (f | f | ⟨j, hj, f⟩)
    · exact na (.inl f)
    · exact na (.inr (.inl f))
    · by_cases hij : i = j
      · subst hij
        rw [List.getElem?_set_self (by rw [h.len]; exact hlt)] at f
        cases f; exact hne rfl
      · rw [List.getElem?_set_ne hij] at f
        exact na (.inr (.inr ⟨j, hj, f⟩))
  refine ⟨by rw [List.length_set, List.length_set]; exact h.len, fun a o' e pn n => ?_, h.tabs.ext (upd_grow hp), fun a f => ?_, fun j dj ej n => ?_, fun j dj ej n => ?_, fun j n ej => ?_, fun j k l hj hk e1 e2 => ?_, fun b hb' => ?_, fun q hq => (h.tv q hq).move keep, fun q hq => ?_⟩
  · have := h.frame a o' e pn n
    rw [upd_ne (ne_of_none this hp)]; exact this
  · by_cases z : a = p
    · subst z; exact ⟨_, upd_same, new.pn⟩
    · rw [upd_ne z]
      refine h.trk a ?_
      rcases f with f | f | ⟨j, hj, f⟩
      · exact .inl f
      · exact .inr (.inl f)
      · by_cases hij : i = j
        · subst hij
          rw [List.getElem?_set_self (by rw [h.len]; exact hlt)] at f
          cases f; exact absurd rfl z
        · rw [List.getElem?_set_ne hij] at f
          exact .inr (.inr ⟨j, hj, f⟩)
  · have hij : i ≠ j := fun z => by subst z; rw [hi] at n; cases n
    rw [List.getElem?_set_ne hij] at ej ⊢
    obtain ⟨v, e1, r⟩ := h.val j dj ej n
    exact ⟨v, e1, r.move keep⟩
  · by_cases hij : i = j
    · subst hij
      rw [List.getElem?_set_self hlt] at ej
      cases ej
      exact ⟨p, by rw [List.getElem?_set_self (by rw [h.len]; exact hlt)], ⟨o, upd_same, new.move keep⟩, .inr (h.h0n hp)⟩
    · rw [List.getElem?_set_ne hij] at ej ⊢
      obtain ⟨l2, e1, x2, z2⟩ := h.ownv j dj ej n
      exact ⟨l2, e1, x2.move (fun o' q _ => by rw [upd_ne (ne_of_none q hp)]; exact q) keep, z2⟩
  · by_cases hij : i = j
    · subst hij
      rw [List.getElem?_set_self hlt] at ej; cases ej
    · rw [List.getElem?_set_ne hij] at ej ⊢
      exact h.ownn j n ej
  · by_cases hij : i = j
    · subst hij
      by_cases hik : i = k
      · exact hik
      · rw [List.getElem?_set_self (by rw [h.len]; exact hlt)] at e1
        rw [List.getElem?_set_ne hik] at e2
        cases e1
        exact absurd (.inr (.inr ⟨k, hk, e2⟩)) fp
    · rw [List.getElem?_set_ne hij] at e1
      by_cases hik : i = k
      · subst hik
        rw [List.getElem?_set_self (by rw [h.len]; exact hlt)] at e2
        cases e2
        exact absurd (.inr (.inr ⟨j, hj, e1⟩)) fp
      · rw [List.getElem?_set_ne hik] at e2
        exact h.dist j k l hj hk e1 e2
  · obtain ⟨a, z⟩ := h.bx b hb'
    have hij : i ≠ 0 := hb.resolve_left (by rw [hb']; simp)
    exact ⟨a, by rw [List.getElem?_set_ne hij]; exact z⟩
  · obtain ⟨a, b, z⟩ := h.th q hq
    have hne : q.1 ≠ p := ne_of_none a hp
    refine ⟨by rw [upd_ne hne]; exact a, fun j hj e => ?_, z⟩
    by_cases hij : i = j
    · subst hij
      rw [List.getElem?_set_self (by rw [h.len]; exact hlt)] at e
      cases e; exact hne rfl
    · rw [List.getElem?_set_ne hij] at e
      exact b j hj e
end
end PD

end
section
set_option Elab.async false
set_option linter.all false
set_option maxRecDepth 100000
namespace PD
open PySem L2

/-! ### the readings over data -/
abbrev DE := Env → (D → Env → Prop) → Prop
abbrev DT := Env → (Bool → Env → Prop) → Prop
abbrev DA := Env → (List D → Env → Prop) → Prop
structure DEnds where
  nx : Env → Prop
  rt : D → Env → Prop
  bk : Env → Prop
  ct : Env → Prop
abbrev DS := DEnds → Env → Prop

inductive RpOL (c : C0) (t : Tm) (σ : L2.St) (H : Hp) : List D → List V → Prop
  | nil : RpOL c t σ H [] []
  | cons {d : D} {v : V} {ds : List D} {vs : List V} : RpO c t σ H d v → RpOL c t σ H ds vs → RpOL c t σ H (d :: ds) (v :: vs)

def SE (c : C0) (te : TE) (de : DE) : Prop := ∀ (t : Tm) (σ : L2.St) (H : Hp) (ρ : Env) (P : D → Env → Prop) (Q : VK), EnvOk c t σ H ρ → de ρ P →
  (∀ v d H' ρ', EnvOk c t σ H' ρ' → RpO c t σ H' d v → P d ρ' → Q v H') → te σ H Q
/-- .. whose value is no slot's own object -/
def SV (c : C0) (te : TE) (de : DE) : Prop := ∀ (t : Tm) (σ : L2.St) (H : Hp) (ρ : Env) (P : D → Env → Prop) (Q : VK), EnvOk c t σ H ρ → de ρ P →
  (∀ v d H' ρ', EnvOk c t σ H' ρ' → Rp c.K (Far c t σ) H' d v → P d ρ' → Q v H') → te σ H Q
theorem SV.se {c : C0} {te : TE} {de : DE} (h : SV c te de) : SE c te de := fun t σ H ρ P Q e q k => h t σ H ρ P Q e q fun v d H' ρ' e' r p => k v d H' ρ' e' (.inl r) p
def ST (c : C0) (tt : TT) (dt : DT) : Prop := ∀ (t : Tm) (σ : L2.St) (H : Hp) (ρ : Env) (P : Bool → Env → Prop) (Q : Bool → Hp → Prop), EnvOk c t σ H ρ → dt ρ P →
  (∀ b H' ρ', EnvOk c t σ H' ρ' → P b ρ' → Q b H') → tt σ H Q
/-- n arguments -/
def SA (c : C0) (n : Nat) (ta : TA) (da : DA) : Prop := ∀ (t : Tm) (σ : L2.St) (H : Hp) (ρ : Env) (P : List D → Env → Prop) (Q : List V → Hp → Prop), EnvOk c t σ H ρ → da ρ P →
  (∀ vs ds H' ρ', EnvOk c t σ H' ρ' → RpL c.K (Far c t σ) H' ds vs → vs.length = n → P ds ρ' → Q vs H') → ta σ H Q
def SAO (c : C0) (ta : TA) (da : DA) : Prop := ∀ (t : Tm) (σ : L2.St) (H : Hp) (ρ : Env) (P : List D → Env → Prop) (Q : List V → Hp → Prop), EnvOk c t σ H ρ → da ρ P →
  (∀ vs ds H' ρ', EnvOk c t σ H' ρ' → RpOL c t σ H' ds vs → P ds ρ' → Q vs H') → ta σ H Q
def SS (c : C0) (ts : TS) (ds : DS) : Prop := ∀ (t : Tm) (σ : L2.St) (H : Hp) (ρ : Env) (De : DEnds) (E : Ends), EnvOk c t σ H ρ → ds De ρ →
  (∀ σ' H' ρ', EnvOk c t σ' H' ρ' → De.nx ρ' → E.nx σ' H') → (∀ v d σ' H' ρ', EnvOk c t σ' H' ρ' → RpO c t σ' H' d v → De.rt d ρ' → E.rt v H') →
  (∀ σ' H' ρ', EnvOk c t σ' H' ρ' → De.bk ρ' → E.bk σ' H') → (∀ σ' H' ρ', EnvOk c t σ' H' ρ' → De.ct ρ' → E.ct σ' H') → ts E σ H

section
variable {c : C0} {t : Tm} {σ : L2.St} {H H' : Hp} {ρ : Env}

/-- a value on the way is kept -/
theorem EnvOk.push {d : D} {v : V} (h : EnvOk c t σ H ρ) (r : RpO c t σ H d v) : ∃ t' : Tm, t'.hold = t.hold ∧ EnvOk c t' σ H ρ ∧ ∀ H' ρ', EnvOk c t' σ H' ρ' → EnvOk c t σ H' ρ' ∧ RpO c t σ H' d v := by
  rcases r with r | r
  · refine ⟨⟨(d, v) :: t.vals, t.hold⟩, rfl, { h with tv := fun p hp => ?_ }, fun H' ρ' h' => ⟨{ h' with tv := fun p hp => h'.tv p (List.mem_cons_of_mem _ hp) }, .inl (h'.tv (d, v) List.mem_cons_self)⟩⟩
    rcases List.mem_cons.mp hp with e | hp
    · rw [e]; exact r
    · exact h.tv p hp
  · exact ⟨t, rfl, h, fun H' ρ' h' => ⟨h', .inr r⟩⟩
theorem Far.hold {t' : Tm} (e : t'.hold = t.hold) : Far c t' σ = Far c t σ := by
  funext a; unfold Far; rw [e]
theorem RpO.hold {t' : Tm} {d : D} {v : V} (e : t'.hold = t.hold) (r : RpO c t' σ H d v) : RpO c t σ H d v := by
  unfold RpO at r ⊢; rw [Far.hold e] at r; exact r
theorem RpO.hold' {t' : Tm} {d : D} {v : V} (e : t'.hold = t.hold) (r : RpO c t σ H d v) : RpO c t' σ H d v := r.hold e.symm
theorem RpOL.hold {t' : Tm} (e : t'.hold = t.hold) : ∀ {ds : List D} {vs : List V}, RpOL c t' σ H ds vs → RpOL c t σ H ds vs
  | _, _, .nil => .nil
  | _, _, .cons a b => .cons (a.hold e) (RpOL.hold e b)
theorem RpOL.length : ∀ {ds : List D} {vs : List V}, RpOL c t σ H ds vs → ds.length = vs.length
  | _, _, .nil => rfl
  | _, _, .cons _ b => congrArg (· + 1) (RpOL.length b)

/-! values, sequences -/
def NotOwn : D → Prop
  | .own _ => False
  | _ => True
theorem RpO.rp {d : D} {v : V} (r : RpO c t σ H d v) (n : NotOwn d) : Rp c.K (Far c t σ) H d v := by
  rcases r with r | ⟨i, rfl, _, _⟩
  · exact r
  · exact False.elim n
def AllNot : List D → Prop
  | [] => True
  | d :: ds => NotOwn d ∧ AllNot ds
theorem RpOL.rp : ∀ {ds : List D} {vs : List V}, RpOL c t σ H ds vs → AllNot ds → RpL c.K (Far c t σ) H ds vs
  | _, _, .nil, _ => .nil
  | _, _, .cons a b, n => .cons (a.rp n.1) (RpOL.rp b n.2)
theorem RpL.rpo : ∀ {ds : List D} {vs : List V}, RpL c.K (Far c t σ) H ds vs → RpOL c t σ H ds vs
  | _, _, .nil => .nil
  | _, _, .cons a b => .cons (.inl a) (RpL.rpo b)

/-- a list, its items -/
def onL (ρ : Env) (d : D) (k : List D → Prop) : Prop :=
  match d with
  | .lst xs => k xs
  | .own i => match ρ[i]? with
    | some (some (.lst xs)) => k xs
    | _ => False
  | _ => False
/-- a list, a tuple, the script: its items -/
def onS (ρ : Env) (d : D) (k : List D → Prop) : Prop :=
  match d with
  | .lst xs => k xs
  | .tup xs => k xs
  | .scr ns => k (ns.map D.int)
  | .own i => match ρ[i]? with
    | some (some (.lst xs)) => k xs
    | _ => False
  | _ => False
theorem EnvOk.ownL {i : Nat} {xs : List D} {v : V} (h : EnvOk c t σ H ρ) (hi : c.own i = true) (e : σ[i]? = some (some v)) (hd : ρ[i]? = some (some (.lst xs))) : ∃ a vs, v = .ref a ∧ H a = some (.lst vs) ∧ RpL c.K (Far c t σ) H xs vs := by
  obtain ⟨l, e1, ⟨o, ho, vs, rfl, r⟩, _⟩ := h.ownv i _ hd hi
  rw [e] at e1; cases e1
  exact ⟨l, vs, rfl, ho, r⟩
theorem onL_ok {d : D} {v : V} {k : List D → Prop} (h : EnvOk c t σ H ρ) (r : RpO c t σ H d v) (q : onL ρ d k) : ∃ xs a vs, v = .ref a ∧ H a = some (.lst vs) ∧ RpL c.K (Far c t σ) H xs vs ∧ k xs := by
  rcases r with r | ⟨i, rfl, hi, e⟩
  · cases d with
    | lst xs =>
      obtain ⟨a, vs, e, _, h1, h2⟩ := r.seqL
      exact ⟨xs, a, vs, e, h1, h2, q⟩
    | own i => cases r
    | _ => exact False.elim q
  · have q' : (match ρ[i]? with
      | some (some (.lst xs)) => k xs
      | _ => False) := q
    split at q'
    · rename_i xs hx
      obtain ⟨a, vs, e1, h1, h2⟩ := h.ownL hi e hx
      exact ⟨xs, a, vs, e1, h1, h2, q'⟩
    · exact False.elim q'
theorem onS_ok {d : D} {v : V} {k : List D → Prop} (h : EnvOk c t σ H ρ) (r : RpO c t σ H d v) (q : onS ρ d k) : ∃ xs a vs, v = .ref a ∧ (SqL c.K H a vs ∨ SqT c.K H a vs) ∧ RpL c.K (Far c t σ) H xs vs ∧ k xs := by
  rcases r with r | ⟨i, rfl, hi, e⟩
  · cases d with
    | lst xs =>
      obtain ⟨a, vs, e, _, h1, h2⟩ := r.seqL
      exact ⟨xs, a, vs, e, .inl (.of h1), h2, q⟩
    | tup xs =>
      obtain ⟨a, vs, e, _, h1, h2⟩ := r.seqT
      exact ⟨xs, a, vs, e, .inr (.of h1), h2, q⟩
    | scr ns =>
      obtain ⟨a, e, h1⟩ := r.seqS
      exact ⟨_, a, _, e, .inl h1, .of_ints ns, q⟩
    | own i => cases r
    | _ => exact False.elim q
  · have q' : onL ρ (.own i) k := q
    obtain ⟨xs, a, vs, e, h1, h2, h3⟩ := onL_ok h (.inr ⟨i, rfl, hi, e⟩) q'
    exact ⟨xs, a, vs, e, .inl (.of h1), h2, h3⟩

/-! ### names, constants -/
def dVar (i : Nat) : DE := fun ρ P => match ρ[i]? with
  | some (some d) => P d ρ
  | _ => False
def dOwn (i : Nat) : DE := fun ρ P => match ρ[i]? with
  | some (some _) => P (.own i) ρ
  | _ => False
def dC (d : D) : DE := fun ρ P => P d ρ
theorem sv_var (i : Nat) (hi : c.own i = false) : SV c (tVar i) (dVar i) := fun t σ H ρ P Q h q k => by
  unfold dVar at q
  split at q
  · rename_i d hd
    obtain ⟨v, e, r⟩ := h.val i d hd hi
    exact ⟨v, e, k v d H ρ h r q⟩
  · exact False.elim q
theorem se_own (i : Nat) (hi : c.own i = true) : SE c (tVar i) (dOwn i) := fun t σ H ρ P Q h q k => by
  unfold dOwn at q
  split at q
  · rename_i d hd
    obtain ⟨l, e, x, _⟩ := h.ownv i d hd hi
    exact ⟨_, e, k _ _ H ρ h (.inr ⟨i, rfl, hi, e⟩) q⟩
  · exact False.elim q
theorem sv_non : SV c (tC .non) (dC .non) := fun t σ H ρ P Q h q k => k _ _ H ρ h .non q
theorem sv_bl {b : Bool} : SV c (tC (.bl b)) (dC (.bl b)) := fun t σ H ρ P Q h q k => k _ _ H ρ h (.bl b) q
theorem sv_int {i : Int} : SV c (tC (.int i)) (dC (.int i)) := fun t σ H ρ P Q h q k => k _ _ H ρ h (.int i) q
theorem sv_str {s : Str} : SV c (tC (.str s)) (dC (.str s)) := fun t σ H ρ P Q h q k => k _ _ H ρ h (.str s) q
theorem sv_fn {a : Addr} : SV c (tC (.ref a)) (dC (.fn a)) := fun t σ H ρ P Q h q k => k _ _ H ρ h (.fn a) q

/-! ### operators -/
/-- a two-place operation on values, over data -/
def SR2 (c : C0) (r : R2) (f : Env → D → D → (D → Prop) → Prop) : Prop := ∀ (t : Tm) (σ : L2.St) (H : Hp) (ρ : Env) (x y : V) (dx dy : D) (P : D → Prop) (Q : VK), EnvOk c t σ H ρ → RpO c t σ H dx x → RpO c t σ H dy y →
  f ρ dx dy P → (∀ v d H', EnvOk c t σ H' ρ → Rp c.K (Far c t σ) H' d v → P d → Q v H') → r x y H Q
def SR1 (c : C0) (r : V → Hp → VK → Prop) (f : Env → D → (D → Prop) → Prop) : Prop := ∀ (t : Tm) (σ : L2.St) (H : Hp) (ρ : Env) (x : V) (dx : D) (P : D → Prop) (Q : VK), EnvOk c t σ H ρ → RpO c t σ H dx x →
  f ρ dx P → (∀ v d H', EnvOk c t σ H' ρ → Rp c.K (Far c t σ) H' d v → P d → Q v H') → r x H Q
def SRL (c : C0) (r : List V → Hp → VK → Prop) (f : Env → List D → (D → Prop) → Prop) : Prop := ∀ (t : Tm) (σ : L2.St) (H : Hp) (ρ : Env) (xs : List V) (ds : List D) (P : D → Prop) (Q : VK), EnvOk c t σ H ρ → RpOL c t σ H ds xs →
  f ρ ds P → (∀ v d H', EnvOk c t σ H' ρ → Rp c.K (Far c t σ) H' d v → P d → Q v H') → r xs H Q
def dOp (f : Env → D → D → (D → Prop) → Prop) (a b : DE) : DE := fun ρ P => a ρ fun x ρ1 => b ρ1 fun y ρ2 => f ρ2 x y fun z => P z ρ2
def dUn (f : Env → D → (D → Prop) → Prop) (a : DE) : DE := fun ρ P => a ρ fun x ρ1 => f ρ1 x fun z => P z ρ1
variable {r : R2} {f : Env → D → D → (D → Prop) → Prop} {ta tb tc : TE} {da db dc : DE}
/-- two expressions in a row -/
theorem se_two {P : D → D → Env → Prop} {R : V → V → Hp → Prop} (ha : SE c ta da) (hb : SE c tb db) (h : EnvOk c t σ H ρ) (q : da ρ fun x ρ1 => db ρ1 fun y ρ2 => P x y ρ2)
    (k : ∀ x y dx dy H' ρ', EnvOk c t σ H' ρ' → RpO c t σ H' dx x → RpO c t σ H' dy y → P dx dy ρ' → R x y H') : ta σ H fun x H1 => tb σ H1 fun y H2 => R x y H2 := by
  refine ha t σ H ρ _ _ h q fun v d H1 ρ1 h1 r1 q1 => ?_
  obtain ⟨t', e, h1', back⟩ := h1.push r1
  refine hb t' σ H1 ρ1 _ _ h1' q1 fun v2 d2 H2 ρ2 h2 r2 q2 => ?_
  obtain ⟨h3, r3⟩ := back H2 ρ2 h2
  exact k v v2 d d2 H2 ρ2 h3 r3 (r2.hold e) q2
theorem sv_op (hr : SR2 c r f) (ha : SE c ta da) (hb : SE c tb db) : SV c (tOp r ta tb) (dOp f da db) := fun t σ H ρ P Q h q k =>
  se_two (P := fun x y ρ2 => f ρ2 x y fun z => P z ρ2) ha hb h q fun x y dx dy H' ρ' h' rx ry q' => hr t σ H' ρ' x y dx dy _ _ h' rx ry q' fun v d H2 h2 r2 p2 => k v d H2 ρ' h2 r2 p2
theorem sv_un {r : V → Hp → VK → Prop} {f : Env → D → (D → Prop) → Prop} (hr : SR1 c r f) (ha : SE c ta da) : SV c (tUn r ta) (dUn f da) := fun t σ H ρ P Q h q k =>
  ha t σ H ρ _ _ h q fun v d H1 ρ1 h1 r1 q1 => hr t σ H1 ρ1 v d _ _ h1 r1 q1 fun v2 d2 H2 h2 r2 p2 => k v2 d2 H2 ρ1 h2 r2 p2

/-- ints in -/
def i2 (C : Int → Int → Prop) (g : Int → Int → D) (_ : Env) : D → D → (D → Prop) → Prop
  | .int i, .int j, k => C i j ∧ k (g i j)
  | _, _, _ => False
def i2' (g : Int → Int → D) (_ : Env) : D → D → (D → Prop) → Prop
  | .int i, .int j, k => k (g i j)
  | _, _, _ => False
def u1 (g : Int → D) (_ : Env) : D → (D → Prop) → Prop
  | .int i, k => k (g i)
  | _, _ => False
theorem RpO.int {i : Int} {v : V} (r : RpO c t σ H (.int i) v) : v = .int i := by
  rcases r with r | ⟨j, e, _⟩
  · cases r; rfl
  · cases e
theorem RpO.str {i : Str} {v : V} (r : RpO c t σ H (.str i) v) : v = .str i := by
  rcases r with r | ⟨j, e, _⟩
  · cases r; rfl
  · cases e
theorem RpO.bl {i : Bool} {v : V} (r : RpO c t σ H (.bl i) v) : v = .bl i := by
  rcases r with r | ⟨j, e, _⟩
  · cases r; rfl
  · cases e
theorem RpO.non {v : V} (r : RpO c t σ H .non v) : v = .non := by
  rcases r with r | ⟨j, e, _⟩
  · cases r; rfl
  · cases e
/-- scalars -/
def vD : D → Option V
  | .non => some .non
  | .bl b => some (.bl b)
  | .int i => some (.int i)
  | .str s => some (.str s)
  | _ => none
theorem RpO.vD {d : D} {v w : V} (r : RpO c t σ H d v) (e : vD d = some w) : v = w := by
  cases d with
  | non => cases e; exact r.non
  | bl b => cases e; exact r.bl
  | int b => cases e; exact r.int
  | str b => cases e; exact r.str
  | _ => cases e
theorem vD_rp {d : D} {w : V} {A : Addr → Prop} {K : PySem.W.Frag} (e : vD d = some w) : Rp K A H d w := by
  cases d with
  | non => cases e; exact .non
  | bl b => cases e; exact .bl b
  | int b => cases e; exact .int b
  | str b => cases e; exact .str b
  | _ => cases e
theorem sr_I {C : Int → Int → Prop} {g : Int → Int → V} {g' : Int → Int → D} (e : ∀ i j, vD (g' i j) = some (g i j)) : SR2 c (rI C g) (i2 C g') := fun t σ H ρ x y dx dy P Q h rx ry q k => by
  cases dx with
  | int i => cases dy with
    | int j => exact ⟨i, j, rx.int, ry.int, q.1, k _ _ H h (vD_rp (e i j)) q.2⟩
    | _ => exact False.elim q
  | _ => exact False.elim q
theorem sr_I0 {g : Int → Int → V} {g' : Int → Int → D} (e : ∀ i j, vD (g' i j) = some (g i j)) : SR2 c (rI0 g) (i2' g') := fun t σ H ρ x y dx dy P Q h rx ry q k => by
  cases dx with
  | int i => cases dy with
    | int j => exact ⟨i, j, rx.int, ry.int, k _ _ H h (vD_rp (e i j)) q⟩
    | _ => exact False.elim q
  | _ => exact False.elim q
theorem sr_U {g : Int → V} {g' : Int → D} (e : ∀ i, vD (g' i) = some (g i)) : SR1 c (rU g) (u1 g') := fun t σ H ρ x dx P Q h rx q k => by
  cases dx with
  | int i => exact ⟨i, rx.int, k _ _ H h (vD_rp (e i)) q⟩
  | _ => exact False.elim q
end
end PD

end
section
set_option Elab.async false
set_option linter.all false
set_option maxRecDepth 100000
namespace PD
open PySem PySem.Spec PyProof.Rows L2

/-! ### operators by values, wider -/
section
variable {X : Cx}
def rAdd4 (K : PySem.W.Frag) : R2 := fun x y H Q => rI0 (fun i j => .int (i + j)) x y H Q ∨ (∃ i j, x = .str i ∧ y = .str j ∧ i.length + j.length ≤ sizeLine ∧ Q (.str (i ++ j)) H) ∨ rCatA K x y H Q ∨ rCat x y H Q
theorem op_add4 : OpR X (binaryOp .Add) (rAdd4 X.K) := OpR.or op_add (OpR.or op_add_str (OpR.or op_catA op_cat))
def rDiv2 : R2 := fun x y H Q => rI CDivW (fun i j => .int (i / j)) x y H Q ∨ rI CDivN (fun i j => .int (i.fdiv j)) x y H Q
theorem op_div2 : OpR X (binaryOp .FloorDiv) rDiv2 := OpR.or op_fdivW op_fdivN
end

section
variable {c : C0} {t : Tm} {σ : L2.St} {H H' : Hp} {ρ : Env}

def addP (ρ : Env) (x y : D) (k : D → Prop) : Prop :=
  match x, y with
  | .int i, .int j => k (.int (i + j))
  | .str i, .str j => i.length + j.length ≤ sizeLine ∧ k (.str (i ++ j))
  | .tup xs, .tup ys => xs.length + ys.length ≤ sizeLine ∧ k (.tup (xs ++ ys))
  | x, y => onL ρ x fun xs => onL ρ y fun ys => xs.length + ys.length ≤ sizeLine ∧ k (.lst (xs ++ ys))
theorem addL {x y : V} {dx dy : D} {P : D → Prop} {Q : VK} (h : EnvOk c t σ H ρ) (rx : RpO c t σ H dx x) (ry : RpO c t σ H dy y) (q : onL ρ dx fun xs => onL ρ dy fun ys => xs.length + ys.length ≤ sizeLine ∧ P (.lst (xs ++ ys)))
    (k : ∀ v d H', EnvOk c t σ H' ρ → Rp c.K (Far c t σ) H' d v → P d → Q v H') : rAdd4 c.K x y H Q := by
  obtain ⟨xs, a, vs, rfl, ha, rxs, q⟩ := onL_ok h rx q
  obtain ⟨ys, b, ws, rfl, hb, rys, q1, q2⟩ := onL_ok h ry q
  refine .inr (.inr (.inr ⟨a, b, vs, ws, rfl, rfl, ha, hb, by rw [← rxs.length, ← rys.length]; exact q1, fun p hp => ?_⟩))
  exact k _ _ _ (h.new hp) (.lst (h.far hp) upd_same ((rxs.append rys).grow (upd_grow hp))) q2
theorem sr_add : SR2 c (rAdd4 c.K) addP := fun t σ H ρ x y dx dy P Q h rx ry q k => by
  unfold addP at q
  split at q
  · rename_i i j
    exact .inl ⟨i, j, rx.int, ry.int, k _ _ H h (.int _) q⟩
  · rename_i i j
    exact .inr (.inl ⟨i, j, rx.str, ry.str, q.1, k _ _ H h (.str _) q.2⟩)
  · rename_i xs ys
    obtain ⟨a, vs, rfl, na, ha, rxs⟩ := (rx.rp trivial).seqT
    obtain ⟨b, ws, rfl, nb, hb, rys⟩ := (ry.rp trivial).seqT
    refine .inr (.inr (.inl ⟨a, b, vs, ws, rfl, rfl, .of ha, .of hb, by rw [← rxs.length, ← rys.length]; exact q.1, fun e => ?_, fun _ e => ?_, fun _ _ p hp => ?_⟩))
    · subst e
      cases rxs
      exact k _ _ H h (ry.rp trivial) q.2
    · subst e
      cases rys
      rw [List.append_nil] at q
      exact k _ _ H h (rx.rp trivial) q.2
    · exact k _ _ _ (h.new hp) (.tup (h.far hp) upd_same ((rxs.append rys).grow (upd_grow hp))) q.2
  · exact addL h rx ry q k
theorem sr_sub : SR2 c (rI0 fun i j => .int (i - j)) (i2' fun i j => .int (i - j)) := sr_I0 fun _ _ => rfl
def MulOk (i j : Int) : Prop := i.natAbs.log2 + j.natAbs.log2 < 1000000
theorem sr_mul : SR2 c (rI CMulW fun i j => .int (i * j)) (i2 MulOk fun i j => .int (i * j)) := sr_I fun _ _ => rfl
def DivOk (_ j : Int) : Prop := 0 < j ∧ j.natAbs.log2 < 9000
theorem sr_div : SR2 c (rI CDivW fun i j => .int (i / j)) (i2 DivOk fun i j => .int (i / j)) := sr_I fun _ _ => rfl
theorem sr_divN : SR2 c (rI CDivN fun i j => .int (i.fdiv j)) (i2 CDivN fun i j => .int (i.fdiv j)) := sr_I fun _ _ => rfl
theorem sr_mod : SR2 c (rI (fun _ j => 0 < j) fun i j => .int (i % j)) (i2 (fun _ j => 0 < j) fun i j => .int (i % j)) := sr_I fun _ _ => rfl
theorem sr_shl : SR2 c (rI CPow fun i j => .int (i * 2 ^ j.toNat)) (i2 CPow fun i j => .int (i * 2 ^ j.toNat)) := sr_I fun _ _ => rfl
theorem sr_pow : SR2 c (rI CPow fun i j => .int (i ^ j.toNat)) (i2 CPow fun i j => .int (i ^ j.toNat)) := sr_I fun _ _ => rfl
theorem sr_neg : SR1 c (rU fun i => .int (-i)) (u1 fun i => .int (-i)) := sr_U fun _ => rfl
theorem sr_lt : SR2 c (rI0 fun i j => .bl (decide (i < j))) (i2' fun i j => .bl (decide (i < j))) := sr_I0 fun _ _ => rfl
theorem sr_le : SR2 c (rI0 fun i j => .bl (decide (i ≤ j))) (i2' fun i j => .bl (decide (i ≤ j))) := sr_I0 fun _ _ => rfl
theorem sr_gt : SR2 c (rI0 fun i j => .bl (decide (j < i))) (i2' fun i j => .bl (decide (j < i))) := sr_I0 fun _ _ => rfl
theorem sr_ge : SR2 c (rI0 fun i j => .bl (decide (j ≤ i))) (i2' fun i j => .bl (decide (j ≤ i))) := sr_I0 fun _ _ => rfl

/-! ### is -/
def isN : D → Bool
  | .non => true
  | _ => false
def isNP (neg : Bool) (_ : Env) (x y : D) (k : D → Prop) : Prop := match y with
  | .non => k (.bl (if neg then !isN x else isN x))
  | _ => False
theorem RpO.isN {d : D} {v : V} (r : RpO c t σ H d v) (h : EnvOk c t σ H ρ) : decide (v = .non) = isN d := by
  rcases r with r | ⟨i, rfl, hi, e⟩
  · cases r <;> first | rfl | (exact decide_eq_false (fun z => by cases z))
  · cases hd : ρ[i]? with
    | none =>
      have l1 := List.getElem?_eq_none_iff.mp hd
      have l2 := (List.getElem?_eq_some_iff.mp e).1
      have := h.len
      omega
    | some o =>
      cases o with
      | none =>
        have := h.ownn i hi hd
        rw [e] at this; cases this
      | some d =>
        obtain ⟨l, e1, _⟩ := h.ownv i d hd hi
        rw [e] at e1; cases e1
        exact decide_eq_false (fun z => by cases z)
theorem sr_isN : SR2 c (fun x y H Q => y = .non ∧ Q (.bl (decide (x = .non))) H) (isNP false) := fun t σ H ρ x y dx dy P Q h rx ry q k => by
  cases dy with
  | non =>
    refine ⟨ry.non, ?_⟩
    rw [rx.isN h]
    exact k _ _ H h (.bl _) q
  | _ => exact False.elim q
theorem sr_notN : SR2 c (fun x y H Q => y = .non ∧ Q (.bl (!decide (x = .non))) H) (isNP true) := fun t σ H ρ x y dx dy P Q h rx ry q k => by
  cases dy with
  | non =>
    refine ⟨ry.non, ?_⟩
    rw [rx.isN h]
    exact k _ _ H h (.bl _) q
  | _ => exact False.elim q

/-! ### == -/
mutual
def toPy : D → PyData
  | .non => .none
  | .bl b => .bool b
  | .int i => .int i
  | .str s => .str s
  | .tup xs => .tuple (toPys xs)
  | .lst xs => .list (toPys xs)
  | .fn _ => .none
  | .own _ => .none
  | .dct _ _ => .none
  | .scr ns => .list (ns.map PyData.int)
def toPys : List D → List PyData
  | [] => []
  | x :: xs => toPy x :: toPys xs
end
mutual
/-- data of at most that depth -/
def okN : Nat → D → Bool
  | _, .non => true
  | _, .bl _ => true
  | _, .int _ => true
  | _, .str s => PyData.strOk s
  | 0, .tup _ => false
  | n + 1, .tup xs => okNs n xs
  | 0, .lst _ => false
  | n + 1, .lst xs => okNs n xs
  | _, .fn _ => false
  | _, .own _ => false
  | _, .dct _ _ => false
  | _, .scr _ => false
def okNs : Nat → List D → Bool
  | _, [] => true
  | n, x :: xs => okN n x && okNs n xs
end

mutual
theorem Rp.dp {K : PySem.W.Frag} {A : Addr → Prop} : ∀ {n : Nat} {d : D} {v : V}, okN n d = true → Rp K A H d v → Dp K H v (toPy d)
  | _, .non, _, _, .non => by rw [toPy]; exact .non
  | _, .bl _, _, _, .bl b => by rw [toPy]; exact .bl b
  | _, .int _, _, _, .int b => by rw [toPy]; exact .int b
  | _, .str _, _, _, .str b => by rw [toPy]; exact .str b
  | n + 1, .tup xs, _, o, .tup _ e r => by rw [toPy]; exact .tup (.of e) (RpL.dp (n := n) (by rw [okN] at o; exact o) r)
  | 0, .tup xs, _, o, _ => by rw [okN] at o; cases o
  | n + 1, .lst xs, _, o, .lst _ e r => by rw [toPy]; exact .lst (.of e) (RpL.dp (n := n) (by rw [okN] at o; exact o) r)
  | 0, .lst xs, _, o, _ => by rw [okN] at o; cases o
  | _, .fn _, _, o, _ => by rw [okN] at o; cases o
  | _, .own _, _, o, _ => by rw [okN] at o; cases o
  | _, .dct _ _, _, o, _ => by rw [okN] at o; cases o
  | _, .scr _, _, o, _ => by rw [okN] at o; cases o
theorem RpL.dp {K : PySem.W.Frag} {A : Addr → Prop} : ∀ {n : Nat} {ds : List D} {vs : List V}, okNs n ds = true → RpL K A H ds vs → DpAll K H vs (toPys ds)
  | _, [], _, _, .nil => by rw [toPys]; exact .nil
  | n, x :: xs, _, o, .cons a b => by
    rw [okNs, Bool.and_eq_true] at o
    rw [toPys]
    exact .cons (Rp.dp o.1 a) (RpL.dp o.2 b)
end
mutual
theorem okN_shape : ∀ {n : Nat} {d : D}, okN n d = true → (toPy d).canLay0 = true ∧ (toPy d).depth ≤ n
  | _, .non, _ => by rw [toPy]; exact ⟨by rw [PyData.canLay0], by rw [PyData.depth]; exact Nat.zero_le _⟩
  | _, .bl _, _ => by rw [toPy]; exact ⟨by rw [PyData.canLay0], by rw [PyData.depth]; exact Nat.zero_le _⟩
  | _, .int _, _ => by rw [toPy]; exact ⟨by rw [PyData.canLay0], by rw [PyData.depth]; exact Nat.zero_le _⟩
  | _, .str _, o => by rw [okN] at o; rw [toPy]; exact ⟨by rw [PyData.canLay0]; exact o, by rw [PyData.depth]; exact Nat.zero_le _⟩
  | n + 1, .tup xs, o => by
    rw [okN] at o
    have := okNs_shape o
    rw [toPy]
    exact ⟨by rw [PyData.canLay0]; exact this.1, by rw [PyData.depth]; exact Nat.succ_le_succ this.2⟩
  | 0, .tup xs, o => by rw [okN] at o; cases o
  | n + 1, .lst xs, o => by
    rw [okN] at o
    have := okNs_shape o
    rw [toPy]
    exact ⟨by rw [PyData.canLay0]; exact this.1, by rw [PyData.depth]; exact Nat.succ_le_succ this.2⟩
  | 0, .lst xs, o => by rw [okN] at o; cases o
  | _, .fn _, o => by rw [okN] at o; cases o
  | _, .own _, o => by rw [okN] at o; cases o
  | _, .dct _ _, o => by rw [okN] at o; cases o
  | _, .scr _, o => by rw [okN] at o; cases o
theorem okNs_shape : ∀ {n : Nat} {ds : List D}, okNs n ds = true → PyData.canLayAll0 (toPys ds) = true ∧ PyData.depthAll (toPys ds) ≤ n
  | _, [], _ => by rw [toPys]; exact ⟨by rw [PyData.canLayAll0], by rw [PyData.depthAll]; exact Nat.zero_le _⟩
  | n, x :: xs, o => by
    rw [okNs, Bool.and_eq_true] at o
    have h1 := okN_shape o.1
    have h2 := okNs_shape o.2
    rw [toPys]
    exact ⟨by rw [PyData.canLayAll0, h1.1, h2.1]; rfl, by rw [PyData.depthAll]; exact Nat.max_le.mpr ⟨h1.2, h2.2⟩⟩
end
mutual
theorem okN_mono : ∀ {n m : Nat} {d : D}, n ≤ m → okN n d = true → okN m d = true
  | _, _, .non, _, _ => by rw [okN]
  | _, _, .bl _, _, _ => by rw [okN]
  | _, _, .int _, _, _ => by rw [okN]
  | _, _, .str _, _, o => by rw [okN] at o ⊢; exact o
  | n + 1, m + 1, .tup xs, h, o => by rw [okN] at o ⊢; exact okNs_mono (Nat.le_of_succ_le_succ h) o
  | 0, _, .tup xs, _, o => by rw [okN] at o; cases o
  | n + 1, 0, .tup xs, h, o => by cases h
  | n + 1, m + 1, .lst xs, h, o => by rw [okN] at o ⊢; exact okNs_mono (Nat.le_of_succ_le_succ h) o
  | 0, _, .lst xs, _, o => by rw [okN] at o; cases o
  | n + 1, 0, .lst xs, h, o => by cases h
  | _, _, .fn _, _, o => by rw [okN] at o; cases o
  | _, _, .own _, _, o => by rw [okN] at o; cases o
  | _, _, .dct _ _, _, o => by rw [okN] at o; cases o
  | _, _, .scr _, _, o => by rw [okN] at o; cases o
theorem okNs_mono : ∀ {n m : Nat} {ds : List D}, n ≤ m → okNs n ds = true → okNs m ds = true
  | _, _, [], _, _ => by rw [okNs]
  | _, _, x :: xs, h, o => by
    rw [okNs, Bool.and_eq_true] at o ⊢
    exact ⟨okN_mono h o.1, okNs_mono h o.2⟩
end
theorem okN_shaped {n : Nat} {d : D} (h : n ≤ 64) (o : okN n d = true) : SeqAt.shaped (toPy d) = true := by
  have := okN_shape o
  unfold SeqAt.shaped
  rw [this.1, decide_eq_true (Nat.le_trans this.2 h)]; rfl
/-- of an own object what it holds -/
def deref (ρ : Env) : D → D
  | .own i => match ρ[i]? with
    | some (some d) => d
    | _ => .own i
  | d => d
theorem okN_notOwn {n : Nat} {i : Nat} : okN n (.own i) ≠ true := by
  cases n <;> (rw [okN]; intro h; cases h)
theorem RpO.dp {n : Nat} {d : D} {v : V} (h : EnvOk c t σ H ρ) (r : RpO c t σ H d v) (o : okN n (deref ρ d) = true) : Dp c.K H v (toPy (deref ρ d)) := by
  rcases r with r | ⟨i, rfl, hi, e⟩
  · cases d with
    | own i => cases r
    | _ => exact r.dp o
  · cases hz : ρ[i]? with
    | none =>
      have e0 : deref ρ (.own i) = .own i := by unfold deref; simp only [hz]
      rw [e0] at o
      exact absurd o okN_notOwn
    | some z => cases z with
     | none =>
      have e0 : deref ρ (.own i) = .own i := by unfold deref; simp only [hz]
      rw [e0] at o
      exact absurd o okN_notOwn
     | some d =>
      have e0 : deref ρ (.own i) = d := by unfold deref; simp only [hz]
      rw [e0] at o ⊢
      obtain ⟨l, e1, ⟨ob, ho, x⟩, _⟩ := h.ownv i d hz hi
      rw [e] at e1; cases e1
      cases d with
      | lst ds =>
        obtain ⟨vs, rfl, r⟩ := x
        cases n with
        | zero => rw [okN] at o; cases o
        | succ n =>
          rw [okN] at o
          rw [toPy]
          exact .lst (.of ho) (r.dp o)
      | dct ks ds => rw [okN] at o; cases o
      | _ => exact False.elim x
def eqD (x y : D) : Bool := PyData.eqv (toPy x) (toPy y)
def eqP (ρ : Env) (x y : D) (k : D → Prop) : Prop := okN 60 (deref ρ x) = true ∧ okN 60 (deref ρ y) = true ∧ k (.bl (eqD (deref ρ x) (deref ρ y)))
def neP (ρ : Env) (x y : D) (k : D → Prop) : Prop := okN 60 (deref ρ x) = true ∧ okN 60 (deref ρ y) = true ∧ k (.bl (!eqD (deref ρ x) (deref ρ y)))
theorem sr_eq : SR2 c (rEqD c.K) eqP := fun t σ H ρ x y dx dy P Q h rx ry q k =>
  ⟨_, _, rx.dp h q.1, ry.dp h q.2.1, okN_shaped (by decide) q.1, okN_shaped (by decide) q.2.1, k _ _ H h (.bl _) q.2.2⟩
theorem sr_ne : SR2 c (rNeD c.K) neP := fun t σ H ρ x y dx dy P Q h rx ry q k =>
  ⟨_, _, rx.dp h q.1, ry.dp h q.2.1, okN_shaped (by decide) q.1, okN_shaped (by decide) q.2.1, k _ _ H h (.bl _) q.2.2⟩
/-! what == says -/
theorem eqD_int (a b : Int) : eqD (.int a) (.int b) = decide (a = b) := by
  unfold eqD; rw [toPy, toPy, PyData.eqv]; rfl
theorem eqD_bl (a b : Bool) : eqD (.bl a) (.bl b) = (a == b) := by
  unfold eqD; rw [toPy, toPy, PyData.eqv]
theorem eqD_str (a b : Str) : eqD (.str a) (.str b) = (a == b) := by
  unfold eqD; rw [toPy, toPy, PyData.eqv]
theorem eqD_refl : ∀ {n : Nat} {d : D}, okN n d = true → eqD d d = true := fun {n d} o => by
  unfold eqD
  exact SeqAt.eqv_refl _ (okN_shape o).1
def eqDs : List D → List D → Bool
  | [], [] => true
  | x :: xs, y :: ys => eqD x y && eqDs xs ys
  | _, _ => false
theorem eqvAll_ds : ∀ xs ys : List D, PyData.eqvAll (toPys xs) (toPys ys) = eqDs xs ys
  | [], [] => by rw [toPys, PyData.eqvAll]; rfl
  | [], y :: ys => by rw [toPys, toPys, PyData.eqvAll]; rfl
  | x :: xs, [] => by rw [toPys, toPys, PyData.eqvAll]; rfl
  | x :: xs, y :: ys => by rw [toPys, toPys, PyData.eqvAll, eqvAll_ds xs ys]; rfl
theorem eqD_tup (xs ys : List D) : eqD (.tup xs) (.tup ys) = eqDs xs ys := by
  unfold eqD; rw [toPy, toPy, PyData.eqv, eqvAll_ds]
theorem eqD_lst (xs ys : List D) : eqD (.lst xs) (.lst ys) = eqDs xs ys := by
  unfold eqD; rw [toPy, toPy, PyData.eqv, eqvAll_ds]

/-! ### in -/
def inP (ρ : Env) (x y : D) (k : D → Prop) : Prop := okN 60 (deref ρ x) = true ∧ onL ρ y fun ys => okNs 59 ys = true ∧ k (.bl (ys.any fun z => eqD z (deref ρ x)))
def niP (ρ : Env) (x y : D) (k : D → Prop) : Prop := okN 60 (deref ρ x) = true ∧ onL ρ y fun ys => okNs 59 ys = true ∧ k (.bl (!ys.any fun z => eqD z (deref ρ x)))
theorem any_ds (x : D) : ∀ ys : List D, ((toPys ys).any fun z => PyData.eqv z (toPy x)) = ys.any fun z => eqD z x
  | [] => by rw [toPys]; rfl
  | y :: ys => by rw [toPys, List.any_cons, List.any_cons, any_ds x ys]; rfl
theorem sr_in : SR2 c (rInD c.K) inP := fun t σ H ρ x y dx dy P Q h rx ry q k => by
  obtain ⟨ys, a, vs, rfl, ha, r, o, q2⟩ := onL_ok h ry q.2
  have o2 : okN 60 (.lst ys) = true := by rw [okN]; exact o
  have e : toPy (.lst ys) = .list (toPys ys) := by rw [toPy]
  refine ⟨_, toPys ys, rx.dp h q.1, .lst (.of ha) (r.dp o), okN_shaped (by decide) q.1, by rw [← e]; exact okN_shaped (by decide) o2, ?_⟩
  rw [any_ds]
  exact k _ _ H h (.bl _) q2
theorem sr_ni : SR2 c (rNotInD c.K) niP := fun t σ H ρ x y dx dy P Q h rx ry q k => by
  obtain ⟨ys, a, vs, rfl, ha, r, o, q2⟩ := onL_ok h ry q.2
  have o2 : okN 60 (.lst ys) = true := by rw [okN]; exact o
  have e : toPy (.lst ys) = .list (toPys ys) := by rw [toPy]
  refine ⟨_, toPys ys, rx.dp h q.1, .lst (.of ha) (r.dp o), okN_shaped (by decide) q.1, by rw [← e]; exact okN_shaped (by decide) o2, ?_⟩
  rw [any_ds]
  exact k _ _ H h (.bl _) q2
end
/-- .. a tuple -/
def rInT (K : PySem.W.Frag) : R2 := fun x y H Q => ∃ d ds, Dp K H x d ∧ Dp K H y (.tuple ds) ∧ SeqAt.shaped d = true ∧ SeqAt.shaped (.tuple ds) = true ∧ Q (.bl (ds.any fun z => PyData.eqv z d)) H
def rNotInT (K : PySem.W.Frag) : R2 := fun x y H Q => ∃ d ds, Dp K H x d ∧ Dp K H y (.tuple ds) ∧ SeqAt.shaped d = true ∧ SeqAt.shaped (.tuple ds) = true ∧ Q (.bl (!ds.any fun z => PyData.eqv z d)) H
section
variable {X : Cx}
theorem op_inT (hu : X.A.units + 65 < cLine) : OpR X (compareOp .In) (rInT X.K) := by
  intro pins s σ H x y v u Q I rx ry h
  obtain ⟨d, ds, hd, he, sd, se, q⟩ := h
  obtain ⟨as, r1⟩ := Dp.reads I d x v hd rx
  obtain ⟨bs, r2⟩ := Dp.reads I (.tuple ds) y u he ry
  exact SeqAt.in_tuple_reads r2 r1 (SeqAt.canLay_of_shaped se) (SeqAt.canLay_of_shaped sd) (room_in_shaped sd hu) ⟨.bl _, H, I, rfl, q⟩
theorem op_notInT (hu : X.A.units + 65 < cLine) : OpR X (compareOp .NotIn) (rNotInT X.K) := by
  intro pins s σ H x y v u Q I rx ry h
  obtain ⟨d, ds, hd, he, sd, se, q⟩ := h
  obtain ⟨as, r1⟩ := Dp.reads I d x v hd rx
  obtain ⟨bs, r2⟩ := Dp.reads I (.tuple ds) y u he ry
  exact SeqAt.notIn_tuple_reads r2 r1 (SeqAt.canLay_of_shaped se) (SeqAt.canLay_of_shaped sd) (room_in_shaped sd hu) ⟨.bl _, H, I, rfl, q⟩
end
end PD

end
section
set_option Elab.async false
set_option linter.all false
set_option maxRecDepth 100000
namespace PD
open PySem PySem.Spec PyProof.Rows L2

section
variable {c : C0} {t : Tm} {σ : L2.St} {H H' : Hp} {ρ : Env}
variable {te ta tb tc : TE} {de da db dc : DE} {tt tu : TT} {dt du : DT}

/-! ### arguments, displays -/
def dNil : DA := fun ρ P => P [] ρ
def dCons (a : DE) (r : DA) : DA := fun ρ P => a ρ fun d ρ1 => r ρ1 fun ds ρ2 => P (d :: ds) ρ2
theorem sa_nil : SA c 0 tNil dNil := fun t σ H ρ P Q h q k => k [] [] H ρ h .nil rfl q
theorem sa_cons {n : Nat} {tr : TA} {dr : DA} (ha : SV c ta da) (hr : SA c n tr dr) : SA c (n + 1) (tCons ta tr) (dCons da dr) := fun t σ H ρ P Q h q k => by
  refine ha t σ H ρ _ _ h q fun v d H1 ρ1 h1 r1 q1 => ?_
  obtain ⟨t', e, h1', back⟩ := h1.push (.inl r1)
  refine hr t' σ H1 ρ1 _ _ h1' q1 fun vs ds H2 ρ2 h2 r2 n2 q2 => ?_
  obtain ⟨h3, r3⟩ := back H2 ρ2 h2
  rw [Far.hold e] at r2
  have r3' : Rp c.K (Far c t σ) H2 d v := by
    rcases r3 with r3 | ⟨i, rfl, _⟩
    · exact r3
    · cases r1
  exact k _ _ H2 ρ2 h3 (.cons r3' r2) (congrArg (· + 1) n2) q2
theorem sao_nil : SAO c tNil dNil := fun t σ H ρ P Q h q k => k [] [] H ρ h .nil q
theorem sao_cons {tr : TA} {dr : DA} (ha : SE c ta da) (hr : SAO c tr dr) : SAO c (tCons ta tr) (dCons da dr) := fun t σ H ρ P Q h q k => by
  refine ha t σ H ρ _ _ h q fun v d H1 ρ1 h1 r1 q1 => ?_
  obtain ⟨t', e, h1', back⟩ := h1.push r1
  refine hr t' σ H1 ρ1 _ _ h1' q1 fun vs ds H2 ρ2 h2 r2 q2 => ?_
  obtain ⟨h3, r3⟩ := back H2 ρ2 h2
  exact k _ _ H2 ρ2 h3 (.cons r3 (r2.hold e)) q2
theorem SA.o {n : Nat} {ta : TA} {da : DA} (h : SA c n ta da) : SAO c ta da := fun t σ H ρ P Q e q k => h t σ H ρ P Q e q fun vs ds H' ρ' e' r _ p => k vs ds H' ρ' e' r.rpo p
def dTup (a : DA) : DE := fun ρ P => a ρ fun ds ρ1 => P (.tup ds) ρ1
def dLst (a : DA) : DE := fun ρ P => a ρ fun ds ρ1 => P (.lst ds) ρ1
theorem sv_tup {n : Nat} {ta : TA} {da : DA} (h : SA c n ta da) (hn : n ≤ sizeLine := by decide) : SV c (tTup ta) (dTup da) := fun t σ H ρ P Q e q k =>
  h t σ H ρ _ _ e q fun vs ds H1 ρ1 h1 r n1 q1 => ⟨by rw [n1]; exact hn, fun p hp => k _ _ _ ρ1 (h1.new hp) (.tup (h1.far hp) upd_same (r.grow (upd_grow hp))) q1⟩
theorem sv_lst {n : Nat} {ta : TA} {da : DA} (h : SA c n ta da) (hn : n ≤ sizeLine := by decide) : SV c (tLst ta) (dLst da) := fun t σ H ρ P Q e q k =>
  h t σ H ρ _ _ e q fun vs ds H1 ρ1 h1 r n1 q1 => ⟨by rw [n1]; exact hn, fun p hp => k _ _ _ ρ1 (h1.new hp) (.lst (h1.far hp) upd_same (r.grow (upd_grow hp))) q1⟩

/-! ### built-in functions -/
def dCB (f : Env → List D → (D → Prop) → Prop) (a : DA) : DE := fun ρ P => a ρ fun ds ρ1 => f ρ1 ds fun z => P z ρ1
theorem sv_cb {r : List V → Hp → VK → Prop} {f : Env → List D → (D → Prop) → Prop} {ta : TA} {da : DA} (hr : SRL c r f) (ha : SAO c ta da) : SV c (tCB r ta) (dCB f da) := fun t σ H ρ P Q h q k =>
  ha t σ H ρ _ _ h q fun vs ds H1 ρ1 h1 r1 q1 => hr t σ H1 ρ1 vs ds _ _ h1 r1 q1 fun v d H2 h2 r2 p2 => k v d H2 ρ1 h2 r2 p2
theorem RpOL.one {d : D} {vs : List V} (r : RpOL c t σ H [d] vs) : ∃ v, vs = [v] ∧ RpO c t σ H d v := by
  cases r with
  | cons a b => cases b; exact ⟨_, rfl, a⟩
theorem RpOL.two {d e : D} {vs : List V} (r : RpOL c t σ H [d, e] vs) : ∃ v w, vs = [v, w] ∧ RpO c t σ H d v ∧ RpO c t σ H e w := by
  cases r with
  | cons a b => cases b with
    | cons b d => cases d; exact ⟨_, _, rfl, a, b⟩
def lenP (ρ : Env) (ds : List D) (k : D → Prop) : Prop := match ds with
  | [d] => onS ρ d fun xs => k (.int xs.length)
  | _ => False
theorem sr_len0 : SRL c (fun xs H Q => ∃ p ys, xs = [.ref p] ∧ (SqL c.K H p ys ∨ SqT c.K H p ys) ∧ Q (.int ys.length) H) lenP := fun t σ H ρ vs ds P Q h r q k => by
  unfold lenP at q
  split at q
  · obtain ⟨v, rfl, r1⟩ := r.one
    obtain ⟨xs, a, vs, rfl, hs, rs, q⟩ := onS_ok h r1 q
    exact ⟨a, vs, rfl, hs, k _ _ H h (.int _) (by rw [← rs.length]; exact q)⟩
  · exact False.elim q
def absP (_ : Env) (ds : List D) (k : D → Prop) : Prop := match ds with
  | [.int i] => k (.int i.natAbs)
  | _ => False
theorem sr_abs : SRL c (fun xs H Q => ∃ i, xs = [.int i] ∧ Q (.int (if i < 0 then -i else i)) H) absP := fun t σ H ρ vs ds P Q h r q k => by
  unfold absP at q
  split at q
  · rename_i i
    obtain ⟨v, rfl, r1⟩ := r.one
    refine ⟨i, by rw [r1.int], k _ _ H h (.int _) ?_⟩
    rw [show (if i < 0 then -i else i) = (i.natAbs : Int) by split <;> omega]
    exact q
  · exact False.elim q
def intP (_ : Env) (ds : List D) (k : D → Prop) : Prop := match ds with
  | [.int i] => k (.int i)
  | [.bl b] => k (.int (if b then 1 else 0))
  | _ => False
theorem sr_intC : SRL c (fun xs H Q => (∃ i, xs = [.int i] ∧ Q (.int i) H) ∨ ∃ k, xs = [.bl k] ∧ Q (.int (if k then 1 else 0)) H) intP := fun t σ H ρ vs ds P Q h r q k => by
  unfold intP at q
  split at q
  · obtain ⟨v, rfl, r1⟩ := r.one
    exact .inl ⟨_, by rw [r1.int], k _ _ H h (.int _) q⟩
  · obtain ⟨v, rfl, r1⟩ := r.one
    exact .inr ⟨_, by rw [r1.bl], k _ _ H h (.int _) q⟩
  · exact False.elim q
def max2P (_ : Env) (ds : List D) (k : D → Prop) : Prop := match ds with
  | [.int i, .int j] => k (.int (if j > i then j else i))
  | _ => False
theorem sr_max2 : SRL c (fun xs H Q => ∃ i j, xs = [.int i, .int j] ∧ Q (.int (if j > i then j else i)) H) max2P := fun t σ H ρ vs ds P Q h r q k => by
  unfold max2P at q
  split at q
  · obtain ⟨v, w, rfl, r1, r2⟩ := r.two
    exact ⟨_, _, by rw [r1.int, r2.int], k _ _ H h (.int _) q⟩
  · exact False.elim q
def min2P (_ : Env) (ds : List D) (k : D → Prop) : Prop := match ds with
  | [.int i, .int j] => k (.int (if j < i then j else i))
  | _ => False
theorem sr_min2 : SRL c (fun xs H Q => ∃ i j, xs = [.int i, .int j] ∧ Q (.int (if j < i then j else i)) H) min2P := fun t σ H ρ vs ds P Q h r q k => by
  unfold min2P at q
  split at q
  · obtain ⟨v, w, rfl, r1, r2⟩ := r.two
    exact ⟨_, _, by rw [r1.int, r2.int], k _ _ H h (.int _) q⟩
  · exact False.elim q
/-- the ints of a list of data -/
def sumP (ρ : Env) (ds : List D) (k : D → Prop) : Prop := match ds with
  | [d] => onL ρ d fun xs => ∃ ns : List Int, xs = ns.map D.int ∧ k (.int ns.sum)
  | _ => False
theorem sr_sum : SRL c (rSum c.K) sumP := fun t σ H ρ vs ds P Q h r q k => by
  unfold sumP at q
  split at q
  · obtain ⟨v, rfl, r1⟩ := r.one
    obtain ⟨xs, a, vs, rfl, ha, rs, ns, rfl, q⟩ := onL_ok h r1 q
    have e := rs.ints
    subst e
    exact ⟨a, ns, rfl, .of ha, k _ _ H h (.int _) q⟩
  · exact False.elim q
def allP (ρ : Env) (ds : List D) (k : D → Prop) : Prop := match ds with
  | [d] => onL ρ d fun xs => ∃ ns : List Bool, xs = ns.map D.bl ∧ k (.bl (ns.all id))
  | _ => False
def anyP (ρ : Env) (ds : List D) (k : D → Prop) : Prop := match ds with
  | [d] => onL ρ d fun xs => ∃ ns : List Bool, xs = ns.map D.bl ∧ k (.bl (ns.any id))
  | _ => False
theorem sr_all : SRL c (rAll c.K) allP := fun t σ H ρ vs ds P Q h r q k => by
  unfold allP at q
  split at q
  · obtain ⟨v, rfl, r1⟩ := r.one
    obtain ⟨xs, a, vs, rfl, ha, rs, ns, rfl, q⟩ := onL_ok h r1 q
    have e := rs.bls
    subst e
    exact ⟨a, ns, rfl, .of ha, k _ _ H h (.bl _) q⟩
  · exact False.elim q
theorem sr_any : SRL c (rAny c.K) anyP := fun t σ H ρ vs ds P Q h r q k => by
  unfold anyP at q
  split at q
  · obtain ⟨v, rfl, r1⟩ := r.one
    obtain ⟨xs, a, vs, rfl, ha, rs, ns, rfl, q⟩ := onL_ok h r1 q
    have e := rs.bls
    subst e
    exact ⟨a, ns, rfl, .of ha, k _ _ H h (.bl _) q⟩
  · exact False.elim q
def listP (ρ : Env) (ds : List D) (k : D → Prop) : Prop := match ds with
  | [d] => onS ρ d fun xs => k (.lst xs)
  | _ => False
theorem sr_list0 : SRL c (fun xs H Q => ∃ p ys, xs = [.ref p] ∧ (SqL c.K H p ys ∨ SqT c.K H p ys) ∧ ∀ l, H l = none → Q (.ref l) (upd H l (.lst ys))) listP := fun t σ H ρ vs ds P Q h r q k => by
  unfold listP at q
  split at q
  · obtain ⟨v, rfl, r1⟩ := r.one
    obtain ⟨xs, a, vs, rfl, hs, rs, q⟩ := onS_ok h r1 q
    exact ⟨a, vs, rfl, hs, fun l hl => k _ _ _ (h.new hl) (.lst (h.far hl) upd_same (rs.grow (upd_grow hl))) q⟩
  · exact False.elim q
/-- tuple(x) -/
def tupleP (ρ : Env) (d : D) (k : D → Prop) : Prop := match d with
  | .tup xs => k (.tup xs)
  | d => onL ρ d fun xs => k (.tup xs)
def dTuple (a : DE) : DE := fun ρ P => a ρ fun d ρ1 => tupleP ρ1 d fun z => P z ρ1
theorem sv_tuple (ha : SE c ta da) : SV c (tThen ta (kTup c.K)) (dTuple da) := fun t σ H ρ P Q h q k =>
  ha t σ H ρ _ _ h q fun v d H1 ρ1 h1 r1 q1 => by
    have q1 : tupleP ρ1 d fun z => P z ρ1 := q1
    unfold tupleP at q1
    split at q1
    · obtain ⟨a, vs, rfl, _, hs, rs⟩ := (r1.rp trivial).seqT
      exact .inr ⟨a, vs, rfl, .of hs, k _ _ H1 ρ1 h1 (r1.rp trivial) q1⟩
    · obtain ⟨xs, a, vs, rfl, hs, rs, q1⟩ := onL_ok h1 r1 q1
      exact .inl ⟨a, vs, rfl, .of hs, fun p hp => k _ _ _ ρ1 (h1.new hp) (.tup (h1.far hp) upd_same (rs.grow (upd_grow hp))) q1⟩

/-! ### isinstance -/
def tyD : D → Option String
  | .non => some "NoneType"
  | .bl _ => some "bool"
  | .int _ => some "int"
  | .str _ => some "str"
  | .tup _ => some "tuple"
  | .lst _ => some "list"
  | _ => none
def isInt : D → Bool
  | .int _ => true
  | .bl _ => true
  | _ => false
def isBool : D → Bool
  | .bl _ => true
  | _ => false
def isStr : D → Bool
  | .str _ => true
  | _ => false
def isTup : D → Bool
  | .tup _ => true
  | _ => false
def isLst : D → Bool
  | .lst _ => true
  | _ => false
theorem kit_int : ∀ d n, tyD d = some n → kitB n "int" = some (isInt d) := fun d n e => by
  cases d <;> cases e <;> first | (show kitB _ _ = some true; decide +kernel) | (show kitB _ _ = some false; decide +kernel)
theorem kit_bool : ∀ d n, tyD d = some n → kitB n "bool" = some (isBool d) := fun d n e => by
  cases d <;> cases e <;> first | (show kitB _ _ = some true; decide +kernel) | (show kitB _ _ = some false; decide +kernel)
theorem kit_str : ∀ d n, tyD d = some n → kitB n "str" = some (isStr d) := fun d n e => by
  cases d <;> cases e <;> first | (show kitB _ _ = some true; decide +kernel) | (show kitB _ _ = some false; decide +kernel)
theorem kit_tup : ∀ d n, tyD d = some n → kitB n "tuple" = some (isTup d) := fun d n e => by
  cases d <;> cases e <;> first | (show kitB _ _ = some true; decide +kernel) | (show kitB _ _ = some false; decide +kernel)
theorem kit_lst : ∀ d n, tyD d = some n → kitB n "list" = some (isLst d) := fun d n e => by
  cases d <;> cases e <;> first | (show kitB _ _ = some true; decide +kernel) | (show kitB _ _ = some false; decide +kernel)
theorem Rp.ty {d : D} {v : V} {n : String} {A : Addr → Prop} (r : Rp c.K A H d v) (e : tyD d = some n) : TyX c.K H v (.type n) := by
  cases d with
  | non => cases e; cases r; exact .base .non
  | bl b => cases e; cases r; exact .base (.bl _)
  | int b => cases e; cases r; exact .base (.int _)
  | str b => cases e; cases r; exact .base (.str _)
  | tup b => cases e; cases r with | tup _ e _ => exact .base (.tup e)
  | lst b => cases e; cases r with | lst _ e _ => exact .base (.lst e)
  | _ => cases e
def dIsi (p : D → Bool) (a : DE) : DE := fun ρ P => a ρ fun d ρ1 => (tyD d).isSome = true ∧ P (.bl (p d)) ρ1
theorem sv_isi {T : String} {p : D → Bool} (hp : ∀ d n, tyD d = some n → kitB n T = some (p d)) (ha : SV c ta da) : SV c (tCB (rIsi c.K) (tCons ta (tCons (tC (.ty T)) tNil))) (dIsi p da) := fun t σ H ρ P Q h q k =>
  ha t σ H ρ _ _ h q fun v d H1 ρ1 h1 r1 q1 => by
    obtain ⟨n, hn⟩ := Option.isSome_iff_exists.mp q1.1
    exact ⟨v, .ty T, .type n, .type T, p d, rfl, .ty T, r1.ty hn, kit_ty (hp d n hn), k _ _ H1 ρ1 h1 (.bl _) q1.2⟩

/-! ### tests -/
/-- by a test's answer -/
def sel (b : Bool) (p q : Prop) : Prop := match b with
  | true => p
  | false => q
theorem sel_of {b : Bool} {p q : Prop} (h1 : b = true → p) (h2 : b = false → q) : sel b p q := by
  cases b with
  | true => exact h1 rfl
  | false => exact h2 rfl
theorem sel_true {p q : Prop} : sel true p q = p := rfl
theorem sel_false {p q : Prop} : sel false p q = q := rfl
theorem sel_ite {b : Bool} {p q : Prop} (h : sel b p q) : if b = true then p else q := by
  cases b with
  | true => exact (if_pos rfl).mpr h
  | false => exact (if_neg (fun z => by cases z)).mpr h
def dTest (a : DE) : DT := fun ρ P => a ρ fun d ρ1 => match d with
  | .bl b => P b ρ1
  | _ => False
theorem st_testO (ha : SV c ta da) : ST c (tTest ta) (dTest da) := fun t σ H ρ P Q h q k =>
  ha t σ H ρ _ _ h q fun v d H1 ρ1 h1 r1 q1 => by
    cases d with
    | bl b => cases r1; exact ⟨b, rfl, k b H1 ρ1 h1 q1⟩
    | _ => exact False.elim q1
theorem st_test (ha : SV c ta da) : ST c (tB ta) (dTest da) := st_testO ha
def dAnd (a b : DT) : DT := fun ρ P => a ρ fun k ρ1 => sel k (b ρ1 P) (P false ρ1)
def dOr (a b : DT) : DT := fun ρ P => a ρ fun k ρ1 => sel k (P true ρ1) (b ρ1 P)
def dNot (a : DT) : DT := fun ρ P => a ρ fun k ρ1 => P (!k) ρ1
theorem st_and (ha : ST c tt dt) (hb : ST c tu du) : ST c (tAnd tt tu) (dAnd dt du) := fun t σ H ρ P Q h q k =>
  ha t σ H ρ _ _ h q fun b H1 ρ1 h1 q1 => by
    cases b with
    | true => exact (if_pos rfl).mpr (hb t σ H1 ρ1 _ _ h1 q1 k)
    | false => exact (if_neg (fun z => by cases z)).mpr (k _ H1 ρ1 h1 q1)
theorem st_or (ha : ST c tt dt) (hb : ST c tu du) : ST c (tOr tt tu) (dOr dt du) := fun t σ H ρ P Q h q k =>
  ha t σ H ρ _ _ h q fun b H1 ρ1 h1 q1 => by
    cases b with
    | true => exact (if_pos rfl).mpr (k _ H1 ρ1 h1 q1)
    | false => exact (if_neg (fun z => by cases z)).mpr (hb t σ H1 ρ1 _ _ h1 q1 k)
theorem st_not (ha : ST c tt dt) : ST c (tNot tt) (dNot dt) := fun t σ H ρ P Q h q k => ha t σ H ρ _ _ h q fun b H1 ρ1 h1 q1 => k _ H1 ρ1 h1 q1
/-! .. as values -/
def dAndV (a b : DE) : DE := fun ρ P => a ρ fun d ρ1 => match d with
  | .bl k => sel k (b ρ1 P) (P (.bl false) ρ1)
  | _ => False
def dOrV (a b : DE) : DE := fun ρ P => a ρ fun d ρ1 => match d with
  | .bl k => sel k (P (.bl true) ρ1) (b ρ1 P)
  | _ => False
def dNotV (a : DE) : DE := fun ρ P => a ρ fun d ρ1 => match d with
  | .bl k => P (.bl (!k)) ρ1
  | _ => False
theorem sv_andV (ha : SV c ta da) (hb : SV c tb db) : SV c (tAndV ta tb) (dAndV da db) := fun t σ H ρ P Q h q k =>
  ha t σ H ρ _ _ h q fun v d H1 ρ1 h1 r1 q1 => by
    cases d with
    | bl b =>
      cases r1
      refine ⟨b, rfl, ?_⟩
      cases b with
      | true => exact (if_pos rfl).mpr (hb t σ H1 ρ1 _ _ h1 q1 k)
      | false => exact (if_neg (fun z => by cases z)).mpr (k _ _ H1 ρ1 h1 (.bl _) q1)
    | _ => exact False.elim q1
theorem sv_orV (ha : SV c ta da) (hb : SV c tb db) : SV c (tOrV ta tb) (dOrV da db) := fun t σ H ρ P Q h q k =>
  ha t σ H ρ _ _ h q fun v d H1 ρ1 h1 r1 q1 => by
    cases d with
    | bl b =>
      cases r1
      refine ⟨b, rfl, ?_⟩
      cases b with
      | true => exact (if_pos rfl).mpr (k _ _ H1 ρ1 h1 (.bl _) q1)
      | false => exact (if_neg (fun z => by cases z)).mpr (hb t σ H1 ρ1 _ _ h1 q1 k)
    | _ => exact False.elim q1
theorem sv_notV (ha : SV c ta da) : SV c (tNotV ta) (dNotV da) := fun t σ H ρ P Q h q k =>
  ha t σ H ρ _ _ h q fun v d H1 ρ1 h1 r1 q1 => by
    cases d with
    | bl b => cases r1; exact ⟨b, rfl, k _ _ H1 ρ1 h1 (.bl _) q1⟩
    | _ => exact False.elim q1
def dIf (a : DT) (b e : DE) : DE := fun ρ P => a ρ fun k ρ1 => sel k (b ρ1 P) (e ρ1 P)
theorem sv_if (ht : ST c tt dt) (ha : SV c ta da) (hb : SV c tb db) : SV c (tIf tt ta tb) (dIf dt da db) := fun t σ H ρ P Q h q k =>
  ht t σ H ρ _ _ h q fun b H1 ρ1 h1 q1 => by
    cases b with
    | true => exact (if_pos rfl).mpr (ha t σ H1 ρ1 _ _ h1 q1 k)
    | false => exact (if_neg (fun z => by cases z)).mpr (hb t σ H1 ρ1 _ _ h1 q1 k)
/-- a op b op' c -/
def dChain (f f' : Env → D → D → (D → Prop) → Prop) (a b e : DE) : DE := fun ρ P => a ρ fun x ρ1 => b ρ1 fun y ρ2 => f ρ2 x y fun z => match z with
  | .bl k => sel k (e ρ2 fun w ρ3 => f' ρ3 y w fun z => P z ρ3) (P (.bl false) ρ2)
  | _ => False
theorem sv_chain {r r' : R2} {f f' : Env → D → D → (D → Prop) → Prop} (hr : SR2 c r f) (hr' : SR2 c r' f') (ha : SV c ta da) (hb : SV c tb db) (hc : SV c tc dc) : SV c (tChain r r' ta tb tc) (dChain f f' da db dc) := fun t σ H ρ P Q h q k => by
  refine se_two (P := fun x y ρ2 => f ρ2 x y fun z => match z with
    | .bl k => sel k (dc ρ2 fun w ρ3 => f' ρ3 y w fun z => P z ρ3) (P (.bl false) ρ2)
    | _ => False) ha.se hb.se h q fun x y dx dy H' ρ' h' rx ry q' => ?_
  obtain ⟨t', e, h1, back⟩ := h'.push ry
  refine hr t' σ H' ρ' x y dx dy _ _ h1 (rx.hold' e) (ry.hold' e) q' fun z d H2 h2 r2 p2 => ?_
  obtain ⟨h3, r3⟩ := back H2 ρ' h2
  cases d with
  | bl b =>
    cases r2
    refine ⟨b, rfl, ?_⟩
    cases b with
    | true =>
      refine (if_pos rfl).mpr (hc t' σ H2 ρ' _ _ h2 p2 fun w dw H4 ρ4 h4 r4 p4 => ?_)
      obtain ⟨h5, r5⟩ := back H4 ρ4 h4
      rw [Far.hold e] at r4
      exact hr' t σ H4 ρ4 y w dy dw _ _ h5 r5 (.inl r4) p4 fun v d H6 h6 r6 p6 => k v d H6 ρ4 h6 r6 p6
    | false => exact (if_neg (fun z => by cases z)).mpr (k _ _ H2 ρ' h3 (.bl _) p2)
  | _ => exact False.elim p2

/-! ### subscripts, slices -/
def ixP (ρ : Env) (x i : D) (k : D → Prop) : Prop := match i with
  | .int i => onS ρ x fun xs => match atI xs i with
    | some z => k z
    | none => False
  | _ => False
theorem atI_rp {K : PySem.W.Frag} {A : Addr → Prop} {ds : List D} {vs : List V} {i : Int} {z : D} (r : RpL K A H ds vs) (e : atI ds i = some z) : ∃ v, atI vs i = some v ∧ Rp K A H z v := by
  unfold atI at e ⊢
  rw [← r.length]
  cases hj : ixN ds.length i with
  | none => rw [hj] at e; cases e
  | some j =>
    rw [hj] at e
    exact r.got e
theorem sr_ix : SR2 c (rIx c.K) ixP := fun t σ H ρ x y dx dy P Q h rx ry q k => by
  cases dy with
  | int i =>
    obtain ⟨xs, a, vs, rfl, hs, rs, q⟩ := onS_ok h rx q
    cases e : atI xs i with
    | none => rw [e] at q; exact False.elim q
    | some z =>
      rw [e] at q
      obtain ⟨v, e2, r2⟩ := atI_rp rs e
      have q2 := k v z H h r2 q
      rcases hs with hs | hs
      · exact .inl ⟨a, vs, i, v, rfl, ry.int, hs, e2, q2⟩
      · exact .inr (.inl ⟨a, vs, i, v, rfl, ry.int, hs, e2, q2⟩)
  | _ => exact False.elim q
/-- a part of a slice -/
abbrev DO := Env → (Option Int → Env → Prop) → Prop
def SO (c : C0) (to : TO) (d : DO) : Prop := ∀ (t : Tm) (σ : L2.St) (H : Hp) (ρ : Env) (P : Option Int → Env → Prop) (Q : Option Int → Hp → Prop), EnvOk c t σ H ρ → d ρ P →
  (∀ o H' ρ', EnvOk c t σ H' ρ' → P o ρ' → Q o H') → to σ H Q
def dNoPart : DO := fun ρ P => P none ρ
def dPart (a : DE) : DO := fun ρ P => a ρ fun d ρ1 => match d with
  | .int i => P (some i) ρ1
  | _ => False
theorem so_none : SO c tNoPart dNoPart := fun t σ H ρ P Q h q k => k _ H ρ h q
theorem so_some (ha : SV c ta da) : SO c (tPart ta) (dPart da) := fun t σ H ρ P Q h q k =>
  ha t σ H ρ _ _ h q fun v d H1 ρ1 h1 r1 q1 => by
    cases d with
    | int i => cases r1; exact ⟨i, rfl, k _ H1 ρ1 h1 q1⟩
    | _ => exact False.elim q1
def cutD (xs : List D) (lo hi : Option Int) : List D := (xs.drop (HT.sIx xs.length 0 lo)).take (HT.sIx xs.length xs.length hi - HT.sIx xs.length 0 lo)
theorem cut_rp {K : PySem.W.Frag} {A : Addr → Prop} {ds : List D} {vs : List V} {lo hi : Option Int} (r : RpL K A H ds vs) : RpL K A H (cutD ds lo hi) (cutV vs lo hi) := by
  unfold cutD cutV
  rw [r.length]
  exact (r.drop _).take _
theorem cut_all {ds : List D} {lo hi : Option Int} (h : HT.sIx ds.length 0 lo = 0 ∧ HT.sIx ds.length ds.length hi = ds.length) : cutD ds lo hi = ds := by
  unfold cutD
  rw [h.1, h.2, List.drop_zero, Nat.sub_zero, List.take_length]
def slP (ρ : Env) (x : D) (lo hi : Option Int) (k : D → Prop) : Prop := match x with
  | .tup xs => k (.tup (cutD xs lo hi))
  | x => onL ρ x fun xs => k (.lst (cutD xs lo hi))
def dSl (a : DE) (lo hi : DO) : DE := fun ρ P => a ρ fun x ρ1 => lo ρ1 fun l ρ2 => hi ρ2 fun u ρ3 => slP ρ3 x l u fun z => P z ρ3
theorem sv_sl0 {tl th : TO} {dl dh : DO} (ha : SE c ta da) (hl : SO c tl dl) (hh : SO c th dh) :
    SV c (tSl (fun x lo hi H Q => rSlA c.K x lo hi H Q ∨ rSlL c.K x lo hi H Q) ta tl th) (dSl da dl dh) := fun t σ H ρ P Q h q k => by
  refine ha t σ H ρ _ _ h q fun v d H1 ρ1 h1 r1 q1 => ?_
  obtain ⟨t', e, h1', back⟩ := h1.push r1
  refine hl t' σ H1 ρ1 _ _ h1' q1 fun lo H2 ρ2 h2 q2 => hh t' σ H2 ρ2 _ _ h2 q2 fun hi H3 ρ3 h3 q3 => ?_
  obtain ⟨h4, r4⟩ := back H3 ρ3 h3
  have q3 : slP ρ3 d lo hi fun z => P z ρ3 := q3
  unfold slP at q3
  split at q3
  · obtain ⟨a, vs, rfl, _, hs, rs⟩ := (r4.rp trivial).seqT
    refine .inl ⟨a, vs, rfl, .of hs, fun w => ?_, fun _ p hp => k _ _ _ ρ3 (h4.new hp) (.tup (h4.far hp) upd_same ((cut_rp rs).grow (upd_grow hp))) q3⟩
    rw [← rs.length] at w
    rw [cut_all w] at q3
    exact k _ _ H3 ρ3 h4 (r4.rp trivial) q3
  · obtain ⟨xs, a, vs, rfl, hs, rs, q3⟩ := onL_ok h4 r4 q3
    exact .inr ⟨a, vs, rfl, .of hs, fun p hp => k _ _ _ ρ3 (h4.new hp) (.lst (h4.far hp) upd_same ((cut_rp rs).grow (upd_grow hp))) q3⟩
end
end PD

end
section
set_option Elab.async false
set_option linter.all false
set_option maxRecDepth 100000
namespace PD
open PySem PySem.Spec PyProof.Rows L2

section
variable {c : C0} {t : Tm} {σ : L2.St} {H H' : Hp} {ρ : Env}
variable {te ta tb tc : TE} {de da db dc : DE} {tt tu : TT} {dt du : DT} {ts tv : TS} {ds dv : DS}

/-! ### a new object, held -/
abbrev Tm.add (t : Tm) (p : Addr) (o : HO) : Tm := ⟨t.vals, (p, o) :: t.hold⟩
theorem far_add {p a : Addr} {o : HO} : Far c (t.add p o) σ a ↔ a = p ∨ Far c t σ a := by
  unfold Far
  constructor
  · rintro (f | ⟨o', f⟩ | f)
    · exact .inr (.inl f)
    · rcases List.mem_cons.mp f with e | f
      · cases e; exact .inl rfl
      · exact .inr (.inr (.inl ⟨o', f⟩))
    · exact .inr (.inr (.inr f))
  · rintro (f | f | ⟨o', f⟩ | f)
    · subst f; exact .inr (.inl ⟨o, List.mem_cons_self⟩)
    · exact .inl f
    · exact .inr (.inl ⟨o', List.mem_cons_of_mem _ f⟩)
    · exact .inr (.inr f)
theorem EnvOk.add {p : Addr} {o : HO} (h : EnvOk c t σ H ρ) (hp : H p = none) (pn : Pn o := by trivial) : EnvOk c (t.add p o) σ (upd H p o) ρ := by
  have keep : ∀ a o', ¬ Far c t σ a → H a = some o' → Pn o' → ¬ Far c (t.add p o) σ a ∧ upd H p o a = some o' := fun a o' na e _ => by
    have hne : a ≠ p := ne_of_none e hp
    exact ⟨fun f => (far_add.mp f).elim hne na, by rw [upd_ne hne]; exact e⟩
  have h1 := h.new (o := o) hp
  refine ⟨h.len, h1.frame, h1.tabs, fun a f => ?_, fun i d e n => ?_, fun i d e n => ?_, h.ownn, h.dist, h.bx, fun q hq => (h.tv q hq).move keep, fun q hq => ?_⟩
  · rcases far_add.mp f with rfl | f
    · exact ⟨o, upd_same, pn⟩
    · exact h1.trk a f
  · obtain ⟨v, e1, r⟩ := h.val i d e n
    exact ⟨v, e1, r.move keep⟩
  · obtain ⟨l, e1, x, z⟩ := h.ownv i d e n
    exact ⟨l, e1, x.move (fun o q _ => upd_grow hp l o q) keep, z⟩
  · rcases List.mem_cons.mp hq with e | hq
    · subst e
      exact ⟨upd_same, fun i hi e => h.far hp (.inr (.inr ⟨i, hi, e⟩)), h.h0n hp, pn⟩
    · exact h1.th q hq
/-- it is let go: a list of data that may be held anywhere -/
theorem EnvOk.drop {p : Addr} {o : HO} (h : EnvOk c (t.add p o) σ H ρ) (hn : ¬ Far c t σ p) : EnvOk c t σ H ρ := by
  have keep : ∀ a o', ¬ Far c (t.add p o) σ a → H a = some o' → Pn o' → ¬ Far c t σ a ∧ H a = some o' := fun a o' na e _ => ⟨fun f => na (far_add.mpr (.inr f)), e⟩
  refine ⟨h.len, h.frame, h.tabs, fun a f => h.trk a (far_add.mpr (.inr f)), fun i d e n => ?_, fun i d e n => ?_, h.ownn, h.dist, h.bx, fun q hq => (h.tv q hq).move keep, fun q hq => h.th q (List.mem_cons_of_mem _ hq)⟩
  · obtain ⟨v, e1, r⟩ := h.val i d e n
    exact ⟨v, e1, r.move keep⟩
  · obtain ⟨l, e1, x, z⟩ := h.ownv i d e n
    exact ⟨l, e1, x.move (fun o q _ => q) keep, z⟩
/-- the held object is changed -/
theorem EnvOk.chg {p : Addr} {o o' : HO} (h : EnvOk c (t.add p o) σ H ρ) (hn : ¬ Far c t σ p) (pn' : Pn o' := by trivial) : EnvOk c (t.add p o') σ (upd H p o') ρ := by
  have ff : ∀ a, Far c (t.add p o') σ a ↔ Far c (t.add p o) σ a := fun a => by rw [far_add, far_add]
  have keep : ∀ a u, ¬ Far c (t.add p o) σ a → H a = some u → Pn u → ¬ Far c (t.add p o') σ a ∧ upd H p o' a = some u := fun a u na e _ => by
    have hne : a ≠ p := fun z => na (far_add.mpr (.inl z))
    exact ⟨fun f => na ((ff a).mp f), by rw [upd_ne hne]; exact e⟩
  obtain ⟨hp, hown, h0, pn⟩ := h.th (p, o) List.mem_cons_self
  refine ⟨h.len, fun a u e qn n => ?_, tabs_upd h.tabs hp pn, fun a f => ?_, fun i d e n => ?_, fun i d e n => ?_, h.ownn, h.dist, h.bx, fun q hq => (h.tv q hq).move keep, fun q hq => ?_⟩
  · have hne : a ≠ p := fun z => by subst z; exact h0 u e qn
    rw [upd_ne hne]; exact h.frame a u e qn n
  · by_cases z : a = p
    · subst z; exact ⟨_, upd_same, pn'⟩
    · rw [upd_ne z]; exact h.trk a ((ff a).mp f)
  · obtain ⟨v, e1, r⟩ := h.val i d e n
    exact ⟨v, e1, r.move keep⟩
  · obtain ⟨l, e1, x, z⟩ := h.ownv i d e n
    have hne : l ≠ p := fun z => by subst z; exact hown i n e1
    exact ⟨l, e1, x.move (fun u q _ => by rw [upd_ne hne]; exact q) keep, z⟩
  · rcases List.mem_cons.mp hq with e | hq
    · subst e
      exact ⟨upd_same, hown, h0, pn'⟩
    · obtain ⟨a, b, e⟩ := h.th q (List.mem_cons_of_mem _ hq)
      have hne : q.1 ≠ p := fun z => hn (.inr (.inl ⟨q.2, by rw [← z]; exact hq⟩))
      exact ⟨by rw [upd_ne hne]; exact a, b, e⟩
/-- it becomes a slot's own -/
theorem EnvOk.putHeld {i : Nat} {p : Addr} {o : HO} {d : D} (h : EnvOk c (t.add p o) σ H ρ) (hn : ¬ Far c t σ p) (hi : c.own i = true) (hb : c.box = none ∨ i ≠ 0) (hlt : i < ρ.length)
    (new : OwnC c.K (Far c (t.add p o) σ) H o d) : EnvOk c t (σ.set i (some (.ref p))) H (ρ.set i (some d)) := by
  obtain ⟨hp, hown, h0, pn⟩ := h.th (p, o) List.mem_cons_self
  have hl : i < σ.length := by rw [h.len]; exact hlt
  have ff : ∀ a, Far c t (σ.set i (some (.ref p))) a → Far c (t.add p o) σ a := fun a f => by
    rcases f with f | f | ⟨j, hj, f⟩
    · exact far_add.mpr (.inr (.inl f))
    · exact far_add.mpr (.inr (.inr (.inl f)))
    · by_cases hij : i = j
      · subst hij
        rw [List.getElem?_set_self hl] at f
        cases f; exact far_add.mpr (.inl rfl)
      · rw [List.getElem?_set_ne hij] at f
        exact far_add.mpr (.inr (.inr (.inr ⟨j, hj, f⟩)))
  have keep : ∀ a u, ¬ Far c (t.add p o) σ a → H a = some u → Pn u → ¬ Far c t (σ.set i (some (.ref p))) a ∧ H a = some u := fun a u na e _ => ⟨fun f => na (ff a f), e⟩
  refine ⟨by rw [List.length_set, List.length_set]; exact h.len, h.frame, h.tabs, fun a f => h.trk a (ff a f), fun j dj ej n => ?_, fun j dj ej n => ?_, fun j n ej => ?_, fun j k l hj hk e1 e2 => ?_, fun b hb' => ?_, fun q hq => (h.tv q hq).move keep, fun q hq => ?_⟩
  · have hij : i ≠ j := fun z => by subst z; rw [hi] at n; cases n
    rw [List.getElem?_set_ne hij] at ej ⊢
    obtain ⟨v, e1, r⟩ := h.val j dj ej n
    exact ⟨v, e1, r.move keep⟩
  · by_cases hij : i = j
    · subst hij
      rw [List.getElem?_set_self hlt] at ej
      cases ej
      exact ⟨p, by rw [List.getElem?_set_self hl], ⟨o, hp, new.move keep⟩, .inr h0⟩
    · rw [List.getElem?_set_ne hij] at ej ⊢
      obtain ⟨l2, e1, x2, z2⟩ := h.ownv j dj ej n
      exact ⟨l2, e1, x2.move (fun _ q _ => q) keep, z2⟩
  · by_cases hij : i = j
    · subst hij
      rw [List.getElem?_set_self hlt] at ej; cases ej
    · rw [List.getElem?_set_ne hij] at ej ⊢
      exact h.ownn j n ej
  · by_cases hij : i = j
    · subst hij
      by_cases hik : i = k
      · exact hik
      · rw [List.getElem?_set_self hl] at e1
        rw [List.getElem?_set_ne hik] at e2
        cases e1
        exact absurd e2 (hown k hk)
    · rw [List.getElem?_set_ne hij] at e1
      by_cases hik : i = k
      · subst hik
        rw [List.getElem?_set_self hl] at e2
        cases e2
        exact absurd e1 (hown j hj)
      · rw [List.getElem?_set_ne hik] at e2
        exact h.dist j k l hj hk e1 e2
  · obtain ⟨a, z⟩ := h.bx b hb'
    have hij : i ≠ 0 := hb.resolve_left (by rw [hb']; simp)
    exact ⟨a, by rw [List.getElem?_set_ne hij]; exact z⟩
  · obtain ⟨a, b, z⟩ := h.th q (List.mem_cons_of_mem _ hq)
    have hne : q.1 ≠ p := fun e => hn (.inr (.inl ⟨q.2, by rw [← e]; exact hq⟩))
    refine ⟨a, fun j hj e => ?_, z⟩
    by_cases hij : i = j
    · subst hij
      rw [List.getElem?_set_self hl] at e
      cases e; exact hne rfl
    · rw [List.getElem?_set_ne hij] at e
      exact b j hj e

/-- te makes a new object, which is d -/
def SF (c : C0) (te : TE) (de : DE) : Prop := ∀ (t : Tm) (σ : L2.St) (H : Hp) (ρ : Env) (P : D → Env → Prop) (Q : VK), EnvOk c t σ H ρ → de ρ P →
  (∀ p o d H' ρ', ¬ Far c t σ p → EnvOk c (t.add p o) σ H' ρ' → OwnC c.K (Far c (t.add p o) σ) H' o d → P d ρ' → Q (.ref p) H') → te σ H Q
/-- .. a new list -/
def SFL (c : C0) (te : TE) (de : DE) : Prop := ∀ (t : Tm) (σ : L2.St) (H : Hp) (ρ : Env) (P : D → Env → Prop) (Q : VK), EnvOk c t σ H ρ → de ρ P →
  (∀ p vs xs H' ρ', ¬ Far c t σ p → EnvOk c (t.add p (.lst vs)) σ H' ρ' → RpL c.K (Far c (t.add p (.lst vs)) σ) H' xs vs → P (.lst xs) ρ' → Q (.ref p) H') → te σ H Q
theorem SFL.f (h : SFL c te de) : SF c te de := fun t σ H ρ P Q e q k => h t σ H ρ P Q e q fun p vs xs H' ρ' np h1 r p1 => k p (.lst vs) (.lst xs) H' ρ' np h1 ⟨vs, rfl, r⟩ p1
theorem SFL.v (h : SFL c te de) : SV c te de := fun t σ H ρ P Q e q k =>
  h t σ H ρ P Q e q fun p vs xs H' ρ' np h1 rs p1 => by
    have keep : ∀ a o', ¬ Far c (t.add p (.lst vs)) σ a → H' a = some o' → Pn o' → ¬ Far c t σ a ∧ H' a = some o' := fun a o' na e _ => ⟨fun f => na (far_add.mpr (.inr f)), e⟩
    exact k _ _ H' ρ' (h1.drop np) (.lst np (h1.th (p, .lst vs) List.mem_cons_self).1 (rs.move keep)) p1
theorem sf_lst {n : Nat} {ta : TA} {da : DA} (h : SA c n ta da) (hn : n ≤ sizeLine := by decide) : SF c (tLst ta) (dLst da) := fun t σ H ρ P Q e q k =>
  h t σ H ρ _ _ e q fun vs ds H1 ρ1 h1 r n1 q1 => ⟨by rw [n1]; exact hn, fun p hp => k p (.lst vs) (.lst ds) _ ρ1 (h1.far hp) (h1.add hp) ⟨vs, rfl, r.move fun a u na e _ => ⟨fun f => (far_add.mp f).elim (ne_of_none e hp) na, upd_grow hp a u e⟩⟩ q1⟩
theorem sf_list0 (ha : SE c ta da) : SF c (tCB (fun xs H Q => ∃ p ys, xs = [.ref p] ∧ (SqL c.K H p ys ∨ SqT c.K H p ys) ∧ ∀ l, H l = none → Q (.ref l) (upd H l (.lst ys))) (tCons ta tNil)) (dCB listP (dCons da dNil)) := fun t σ H ρ P Q h q k =>
  ha t σ H ρ _ _ h q fun v d H1 ρ1 h1 r1 q1 => by
    have q1 : onS ρ1 d fun xs => P (.lst xs) ρ1 := q1
    obtain ⟨xs, a, vs, rfl, hs, rs, q1⟩ := onS_ok h1 r1 q1
    exact ⟨a, vs, rfl, hs, fun p hp => k p (.lst vs) (.lst xs) _ ρ1 (h1.far hp) (h1.add hp) ⟨vs, rfl, rs.move fun a u na e _ => ⟨fun f => (far_add.mp f).elim (ne_of_none e hp) na, upd_grow hp a u e⟩⟩ q1⟩

/-! ### statements -/
def dNext : DS := fun De ρ => De.nx ρ
def dSeq (a b : DS) : DS := fun De ρ => a { De with nx := fun ρ1 => b De ρ1 } ρ
def dBreak : DS := fun De ρ => De.bk ρ
def dCont : DS := fun De ρ => De.ct ρ
def dDrop (a : DE) : DS := fun De ρ => a ρ fun _ ρ1 => De.nx ρ1
def dRet (a : DE) : DS := fun De ρ => a ρ De.rt
def dRetN : DS := fun De ρ => De.rt .non ρ
def dIfS (a : DT) (b e : DS) : DS := fun De ρ => a ρ fun k ρ1 => sel k (b De ρ1) (e De ρ1)
def dSet (i : Nat) (a : DE) : DS := fun De ρ => a ρ fun d ρ1 => De.nx (ρ1.set i (some d))
theorem ss_next : SS c tNext dNext := fun t σ H ρ De E h q n r b k => n σ H ρ h q
theorem ss_brk : SS c tBreak dBreak := fun t σ H ρ De E h q n r b k => b σ H ρ h q
theorem ss_ct : SS c tCont dCont := fun t σ H ρ De E h q n r b k => k σ H ρ h q
theorem ss_seq (h1 : SS c ts ds) (h2 : SS c tv dv) : SS c (tSeq ts tv) (dSeq ds dv) := fun t σ H ρ De E h q n r b k =>
  h1 t σ H ρ _ _ h q (fun σ' H' ρ' h' q' => h2 t σ' H' ρ' De E h' q' n r b k) r b k
theorem ss_drop (ha : SE c ta da) : SS c (tDrop ta) (dDrop da) := fun t σ H ρ De E h q n r b k => ha t σ H ρ _ _ h q fun v d H1 ρ1 h1 _ q1 => n σ H1 ρ1 h1 q1
theorem ss_ret (ha : SE c ta da) : SS c (tRet ta) (dRet da) := fun t σ H ρ De E h q n r b k => ha t σ H ρ _ _ h q fun v d H1 ρ1 h1 r1 q1 => r v d σ H1 ρ1 h1 r1 q1
theorem ss_retN : SS c tRetN dRetN := fun t σ H ρ De E h q n r b k => r .non .non σ H ρ h (.inl .non) q
theorem ss_if (ht : ST c tt dt) (h1 : SS c ts ds) (h2 : SS c tv dv) : SS c (tIfS tt ts tv) (dIfS dt ds dv) := fun t σ H ρ De E h q n r b k =>
  ht t σ H ρ _ _ h q fun x H1 ρ1 e1 q1 => by
    cases x with
    | true => exact (if_pos rfl).mpr (h1 t σ H1 ρ1 De E e1 q1 n r b k)
    | false => exact (if_neg (fun z => by cases z)).mpr (h2 t σ H1 ρ1 De E e1 q1 n r b k)
def dNever : DS := fun _ _ => False
theorem ss_never : SS c tNever dNever := fun t σ H ρ De E h q n r b k => False.elim q
theorem ss_set (i : Nat) (hi : c.own i = false) (ha : SV c ta da) : SS c (tAsg ta (gName i)) (dSet i da) := fun t σ H ρ De E h q n r b k =>
  ha t σ H ρ _ _ h q fun v d H1 ρ1 h1 r1 q1 => n _ H1 _ (h1.put hi fun d' e => ⟨v, rfl, by cases e; exact r1⟩) q1
/-- .. of a slot that holds an object of its own: a new one -/
def dSetO (i : Nat) (a : DE) : DS := fun De ρ => a ρ fun d ρ1 => i < ρ1.length ∧ De.nx (ρ1.set i (some d))
theorem ss_setO (i : Nat) (hi : c.own i = true) (hb : c.box = none ∨ i ≠ 0) (ha : SF c ta da) : SS c (tAsg ta (gName i)) (dSetO i da) := fun t σ H ρ De E h q n r b k =>
  ha t σ H ρ _ _ h q fun p o d H1 ρ1 hn h1 r1 q1 => n _ H1 _ (h1.putHeld hn hi hb q1.1 r1) q1.2
/-- name op= e of ints -/
def dAug (i : Nat) (f : Int → Int → Int) (a : DE) : DS := fun De ρ => match ρ[i]? with
  | some (some (.int x)) => a ρ fun d ρ1 => match d with
    | .int y => De.nx (ρ1.set i (some (.int (f x y))))
    | _ => False
  | _ => False
theorem ss_aug {f : Int → Int → Int} (i : Nat) (hi : c.own i = false) (ha : SV c ta da) : SS c (tAug i ta (ipI f)) (dAug i f da) := fun t σ H ρ De E h q n r b k => by
  unfold dAug at q
  split at q
  · rename_i x hx
    obtain ⟨v, e, r1⟩ := h.val i _ hx hi
    cases r1
    refine ⟨_, e, ha t σ H ρ _ _ h q fun v d H1 ρ1 h1 r1 q1 => ?_⟩
    cases d with
    | int y =>
      cases r1
      exact ⟨x, y, rfl, rfl, n _ H1 _ (h1.put hi fun d' e => ⟨_, rfl, by cases e; exact .int _⟩) q1⟩
    | _ => exact False.elim q1
  · exact False.elim q
/-- xs.append(e) -/
def dApp (i : Nat) (a : DE) : DS := fun De ρ => match ρ[i]? with
  | some (some (.lst _)) => a ρ fun d ρ1 => match ρ1[i]? with
    | some (some (.lst xs)) => xs.length < sizeLine ∧ De.nx (ρ1.set i (some (.lst (xs ++ [d]))))
    | _ => False
  | _ => False
theorem ss_app (i : Nat) (hi : c.own i = true) (ha : SV c ta da) : SS c (tDrop (tBM c.K "list" rAppend (tVar i) (tCons ta tNil))) (dApp i da) := fun t σ H ρ De E h q n r b k => by
  unfold dApp at q
  split at q
  · rename_i xs0 hx0
    obtain ⟨l0, e0, ⟨o0, ho0, vs0, rfl, rs0⟩, _⟩ := h.ownv i _ hx0 hi
    refine ⟨_, e0, .inl ⟨rfl, _, .of ho0⟩, ha t σ H ρ _ _ h q fun v d H1 ρ1 h1 r1 q1 => ?_⟩
    have q1 : (match ρ1[i]? with
      | some (some (.lst xs)) => xs.length < sizeLine ∧ De.nx (ρ1.set i (some (.lst (xs ++ [d]))))
      | _ => False) := q1
    split at q1
    · rename_i xs hx
      obtain ⟨l, e1, ⟨o, ho, vs, rfl, rs⟩, _⟩ := h1.ownv i _ hx hi
      rw [e0] at e1; cases e1
      exact ⟨l0, vs, v, rfl, rfl, ho, by rw [← rs.length]; exact q1.1, n _ _ _ (h1.mut (d' := .lst (xs ++ [d])) hi hx e0 ⟨_, rfl, rs.append (.cons r1 .nil)⟩) q1.2⟩
    · exact False.elim q1
  · exact False.elim q
/-- xs[i] = e of a slot's own list -/
def dSetIx (i : Nat) (a j : DE) : DS := fun De ρ => a ρ fun d ρ1 => match ρ1[i]? with
  | some (some (.lst _)) => j ρ1 fun z ρ2 => match z, ρ2[i]? with
    | .int z, some (some (.lst xs)) => match ixN xs.length z with
      | some m => De.nx (ρ2.set i (some (.lst (xs.set m d))))
      | none => False
    | _, _ => False
  | _ => False
theorem ss_setIx (i : Nat) (hi : c.own i = true) (ha : SV c ta da) (hb : SV c tb db) : SS c (tAsg ta (gSub (tVar i) tb rSetL)) (dSetIx i da db) := fun t σ H ρ De E h q n r b k => by
  refine ha t σ H ρ _ _ h q fun v d H1 ρ1 h1 r1 q1 => ?_
  have q1 : (match ρ1[i]? with
  | some (some (.lst _)) => db ρ1 fun z ρ2 => match z, ρ2[i]? with
    | .int z, some (some (.lst xs)) => match ixN xs.length z with
      | some m => De.nx (ρ2.set i (some (.lst (xs.set m d))))
      | none => False
    | _, _ => False
  | _ => False) := q1
  split at q1
  · rename_i xs0 hx0
    obtain ⟨l0, e0, ⟨o0, ho0, vs0, rfl, rs0⟩, _⟩ := h1.ownv i _ hx0 hi
    obtain ⟨t', e, h1', back⟩ := h1.push (.inl r1)
    refine ⟨_, e0, hb t' σ H1 ρ1 _ _ h1' q1 fun w z H2 ρ2 h2 r2 q2 => ?_⟩
    obtain ⟨h3, r3⟩ := back H2 ρ2 h2
    have r3 : Rp c.K (Far c t σ) H2 d v := by
      rcases r3 with r3 | ⟨i, rfl, _⟩
      · exact r3
      · cases r1
    cases z with
    | int z =>
      cases r2
      have q2 : (match ρ2[i]? with
        | some (some (.lst xs)) => match ixN xs.length z with
          | some m => De.nx (ρ2.set i (some (.lst (xs.set m d))))
          | none => False
        | _ => False) := by
        revert q2
        cases ρ2[i]? with
        | none => exact id
        | some o => cases o with
          | none => exact id
          | some o => cases o <;> exact id
      split at q2
      · rename_i xs hx
        split at q2
        · rename_i m hm
          obtain ⟨l, e1, ⟨o, ho, vs, rfl, rs⟩, _⟩ := h3.ownv i _ hx hi
          rw [e0] at e1; cases e1
          exact ⟨l0, vs, z, m, rfl, rfl, ho, by rw [← rs.length]; exact hm, n _ _ _ (h3.mut (d' := .lst (xs.set m d)) hi hx e0 ⟨_, rfl, rs.set m r3⟩) q2⟩
        · exact False.elim q2
      · exact False.elim q2
    | _ => exact False.elim q2
  · exact False.elim q1

/-! ### targets -/
abbrev DG := D → Env → (Env → Prop) → Prop
abbrev DGs := List D → Env → (Env → Prop) → Prop
/-- g stores into the slots is -/
def SG (c : C0) (is : List Nat) (g : TG) (dg : DG) : Prop := ∀ (t : Tm) (σ : L2.St) (H : Hp) (ρ : Env) (v : V) (d : D) (P : Env → Prop) (Q : L2.St → Hp → Prop), EnvOk c t σ H ρ → Rp c.K (Far c t σ) H d v → dg d ρ P →
  (∀ σ' ρ', EnvOk c t σ' H ρ' → σ'.length = σ.length → (∀ j, j ∉ is → σ'[j]? = σ[j]? ∧ ρ'[j]? = ρ[j]?) → Far c t σ' = Far c t σ → P ρ' → Q σ' H) → g v σ H Q
def SGs (c : C0) (is : List Nat) (g : TGs) (dg : DGs) : Prop := ∀ (t : Tm) (σ : L2.St) (H : Hp) (ρ : Env) (vs : List V) (ds : List D) (P : Env → Prop) (Q : L2.St → Hp → Prop), EnvOk c t σ H ρ → RpL c.K (Far c t σ) H ds vs → dg ds ρ P →
  (∀ σ' ρ', EnvOk c t σ' H ρ' → σ'.length = σ.length → (∀ j, j ∉ is → σ'[j]? = σ[j]? ∧ ρ'[j]? = ρ[j]?) → Far c t σ' = Far c t σ → P ρ' → Q σ' H) → g vs σ H Q
def dgName (i : Nat) : DG := fun d ρ P => P (ρ.set i (some d))
theorem sg_name (i : Nat) (hi : c.own i = false) : SG c [i] (gName i) (dgName i) := fun t σ H ρ v d P Q h r q k =>
  k _ _ (h.put hi fun d' e => ⟨v, rfl, by cases e; exact r⟩) (List.length_set ..) (fun j hj => ⟨List.getElem?_set_ne fun z => hj (by rw [z]; exact List.mem_singleton_self _), List.getElem?_set_ne fun z => hj (by rw [z]; exact List.mem_singleton_self _)⟩)
    (funext fun a => propext (far_set hi)) q
def dgNil : DGs := fun ds ρ P => match ds with
  | [] => P ρ
  | _ => False
def dgCons (g : DG) (r : DGs) : DGs := fun ds ρ P => match ds with
  | d :: ds => g d ρ fun ρ1 => r ds ρ1 P
  | [] => False
theorem sgs_nil : SGs c [] gNil dgNil := fun t σ H ρ vs ds P Q h r q k => by
  cases r with
  | nil => exact ⟨rfl, k σ ρ h rfl (fun _ _ => ⟨rfl, rfl⟩) rfl q⟩
  | cons _ _ => exact False.elim q
theorem sgs_cons {is js : List Nat} {g : TG} {gs : TGs} {dg : DG} {dgs : DGs} (h1 : SG c is g dg) (h2 : SGs c js gs dgs) : SGs c (is ++ js) (gCons g gs) (dgCons dg dgs) := fun t σ H ρ vs ds P Q h r q k => by
  cases r with
  | nil => exact False.elim q
  | cons a b =>
    refine ⟨_, _, rfl, h1 t σ H ρ _ _ _ _ h a q fun σ1 ρ1 e1 l1 s1 f1 q1 => ?_⟩
    refine h2 t σ1 H ρ1 _ _ _ _ e1 (by rw [f1]; exact b) q1 fun σ2 ρ2 e2 l2 s2 f2 q2 => ?_
    exact k σ2 ρ2 e2 (l2.trans l1) (fun j hj => ⟨((s2 j fun z => hj (List.mem_append_right _ z)).1).trans (s1 j fun z => hj (List.mem_append_left _ z)).1, ((s2 j fun z => hj (List.mem_append_right _ z)).2).trans (s1 j fun z => hj (List.mem_append_left _ z)).2⟩) (f2.trans f1) q2
/-- a tuple taken apart -/
def dgTup (n : Nat) (g : DGs) : DG := fun d ρ P => match d with
  | .tup xs => xs.length = n ∧ g xs ρ P
  | _ => False
theorem sg_tup {is : List Nat} {n : Nat} {g : TGs} {dg : DGs} (h1 : SGs c is g dg) : SG c is (gTup c.K n g) (dgTup n dg) := fun t σ H ρ v d P Q h r q k => by
  cases d with
  | tup xs =>
    obtain ⟨a, vs, rfl, _, ha, rs⟩ := r.seqT
    exact ⟨a, vs, rfl, .of ha, by rw [← rs.length]; exact q.1, h1 t σ H ρ vs xs _ _ h rs q.2 k⟩
  | _ => exact False.elim q
def dAsg (a : DE) (g : DG) : DS := fun De ρ => a ρ fun d ρ1 => g d ρ1 De.nx
theorem ss_asg {is : List Nat} {g : TG} {dg : DG} (ha : SV c ta da) (hg : SG c is g dg) : SS c (tAsg ta g) (dAsg da dg) := fun t σ H ρ De E h q n r b k =>
  ha t σ H ρ _ _ h q fun v d H1 ρ1 h1 r1 q1 => hg t σ H1 ρ1 v d _ _ h1 r1 q1 fun σ' ρ' h' _ _ _ q' => n σ' H1 ρ' h' q'
/-! a, b = x, y -/
def dPar (i j : Nat) (a : DA) : DS := fun De ρ => a ρ fun ds ρ1 => match ds with
  | [d, e] => De.nx ((ρ1.set i (some d)).set j (some e))
  | _ => False
theorem ss_par {m : Nat} {ta : TA} {da : DA} (i j : Nat) (hi : c.own i = false) (hj : c.own j = false) (ha : SA c m ta da) : SS c (tPar i j ta) (dPar i j da) := fun t σ H ρ De E h q n r b k =>
  ha t σ H ρ _ _ h q fun vs ds H1 ρ1 h1 rs m1 q1 => by
    cases rs with
    | nil => exact False.elim q1
    | cons a rs => cases rs with
      | nil => exact False.elim q1
      | cons b rs => cases rs with
        | cons d rs => exact False.elim q1
        | nil =>
          refine ⟨_, _, rfl, n _ H1 _ ?_ q1⟩
          have h2 := h1.put (x := some _) (y := some _) hi fun d' e => ⟨_, rfl, by cases e; exact a⟩
          exact h2.put hj fun d' e => ⟨_, rfl, by cases e; rw [show Far c t (σ.set i _) = Far c t σ from funext fun a => propext (far_set hi)]; exact b⟩
def dPar3 (i j l : Nat) (a : DA) : DS := fun De ρ => a ρ fun ds ρ1 => match ds with
  | [d, e, f] => De.nx (((ρ1.set i (some d)).set j (some e)).set l (some f))
  | _ => False
theorem ss_par3 {m : Nat} {ta : TA} {da : DA} (i j l : Nat) (hi : c.own i = false) (hj : c.own j = false) (hl : c.own l = false) (ha : SA c m ta da) : SS c (tPar3 i j l ta) (dPar3 i j l da) := fun t σ H ρ De E h q n r b k =>
  ha t σ H ρ _ _ h q fun vs ds H1 ρ1 h1 rs m1 q1 => by
    cases rs with
    | nil => exact False.elim q1
    | cons a rs => cases rs with
      | nil => exact False.elim q1
      | cons b rs => cases rs with
        | nil => exact False.elim q1
        | cons d rs => cases rs with
          | cons d rs => exact False.elim q1
          | nil =>
            refine ⟨_, _, _, rfl, n _ H1 _ ?_ q1⟩
            have h2 := h1.put (x := some _) (y := some _) hi fun d' e => ⟨_, rfl, by cases e; exact a⟩
            have h3 := h2.put (x := some _) (y := some _) hj fun d' e => ⟨_, rfl, by cases e; rw [show Far c t (σ.set i _) = Far c t σ from funext fun a => propext (far_set hi)]; exact b⟩
            exact h3.put hl fun d' e => ⟨_, rfl, by
              cases e
              rw [show ∀ τ : L2.St, Far c t (τ.set j _) = Far c t τ from fun τ => funext fun a => propext (far_set hj), show Far c t (σ.set i _) = Far c t σ from funext fun a => propext (far_set hi)]
              exact d⟩
end
end PD

end
section
set_option Elab.async false
set_option linter.all false
set_option maxRecDepth 100000
namespace L2
open PySem PySem.Spec PyProof.Rows
/-- a list or a tuple, walked -/
def iSeq (K : PySem.W.Frag) (tl : TE) : TI := fun σ H R => tl σ H fun x H1 => ∃ a, x = .ref a ∧ (((∃ xs, SqL K H1 a xs) ∧ R (Itl K a) H1) ∨ ((∃ xs, SqT K H1 a xs) ∧ R (Itt K a) H1))
theorem pi_seq {X : Cx} {tg l : Expr} {tl : TE} (hl : PE X l tl) : PI X tg l (iSeq X.K tl) := by
  refine ⟨fun pins s σ H R I h => ?_⟩
  refine thn (hl.run pins s σ H _ I h) fun v s1 ⟨x, H1, I1, r1, q1⟩ => ?_
  obtain ⟨a, e, q⟩ := q1
  subst e
  cases r1
  rcases q with ⟨⟨xs, hq⟩, q⟩ | ⟨⟨xs, hq⟩, q⟩
  · obtain ⟨its, rv, p, hz⟩ := I1.list hq
    refine wpAny_pyIter_list p.isList ?_
    refine ⟨s1.heap.objs.size, [s1.heap.objs.size], _, _, H1, rfl, I1.kept (t' := s1.toks) fun b o e => Heap.get?_push_of_some _ e, turn_list a _, ⟨_, Heap.get?_push_size _ rfl, rfl, rfl⟩, fun b hb => ?_, q⟩
    have e : b = s1.heap.objs.size := by simpa using hb
    subst e
    exact I1.fpOk (Nat.le_refl _) (I1.hok.fresh (Nat.le_refl _))
  · obtain ⟨its, rv, p, hz⟩ := I1.tuple hq
    refine wpAny_pyIter_tuple (show s1.heap.IsTuple a its.toArray from p) ?_
    refine ⟨s1.heap.objs.size, [s1.heap.objs.size], _, _, H1, rfl, I1.kept (t' := s1.toks) fun b o e => Heap.get?_push_of_some _ e, turn_tuple a _, ⟨_, Heap.get?_push_size _ rfl, rfl, rfl⟩, fun b hb => ?_, q⟩
    have e : b = s1.heap.objs.size := by simpa using hb
    subst e
    exact I1.fpOk (Nat.le_refl _) (I1.hok.fresh (Nat.le_refl _))
end L2
namespace PD
open PySem PySem.Spec PyProof.Rows L2 RZ

section
variable {c : C0} {t : Tm} {σ : L2.St} {H H' : Hp} {ρ : Env}
variable {te ta tb tc : TE} {de da db dc : DE} {tt tu : TT} {dt du : DT} {ts tv : TS} {ds dv : DS}

/-! ### while -/
def dWhile (a : DT) (b : DS) : DS := fun De ρ => ∃ W : Nat → Env → Prop, (∃ m, W m ρ) ∧ ∀ m ρ1, W m ρ1 → a ρ1 fun k ρ2 =>
  sel k (b { De with nx := fun ρ3 => ∃ m', m' < m ∧ W m' ρ3, ct := fun ρ3 => ∃ m', m' < m ∧ W m' ρ3, bk := De.nx } ρ2) (De.nx ρ2)
theorem ss_while (ht : ST c tt dt) (hb : SS c ts ds) : SS c (tWhile tt ts) (dWhile dt ds) := fun t σ H ρ De E h q n r b k => by
  obtain ⟨W, ⟨m0, w0⟩, turn⟩ := q
  refine ⟨fun m σ H => ∃ ρ, EnvOk c t σ H ρ ∧ W m ρ, ⟨m0, ρ, h, w0⟩, fun m σ1 H1 ⟨ρ1, h1, w1⟩ => ?_⟩
  refine ht t σ1 H1 ρ1 _ _ h1 (turn m ρ1 w1) fun x H2 ρ2 h2 q2 => ?_
  cases x with
  | true =>
    refine (if_pos rfl).mpr ⟨fun σ' H' => ∃ m', m' < m ∧ ∃ ρ, EnvOk c t σ' H' ρ ∧ W m' ρ, fun _ _ z => z, ?_⟩
    exact hb t σ1 H2 ρ2 _ _ h2 q2 (fun σ' H' ρ' e ⟨m', l, w⟩ => ⟨m', l, ρ', e, w⟩) r n (fun σ' H' ρ' e ⟨m', l, w⟩ => ⟨m', l, ρ', e, w⟩)
  | false => exact (if_neg (fun z => by cases z)).mpr (n σ1 H2 ρ2 h2 q2)
/-! ### what is walked -/
/-- a value is held besides, whatever the slots do -/
theorem EnvOk.pin {d : D} {v : V} (h : EnvOk c t σ H ρ) (r : Rp c.K (Far c t σ) H d v) : EnvOk c ⟨(d, v) :: t.vals, t.hold⟩ σ H ρ :=
  { h with tv := fun p hp => (List.mem_cons.mp hp).elim (fun e => by rw [e]; exact r) fun hp => h.tv p hp }
theorem EnvOk.unpin {d : D} {v : V} (h : EnvOk c ⟨(d, v) :: t.vals, t.hold⟩ σ H ρ) : EnvOk c t σ H ρ := { h with tv := fun p hp => h.tv p (List.mem_cons_of_mem _ hp) }
theorem EnvOk.pinned {d : D} {v : V} (h : EnvOk c ⟨(d, v) :: t.vals, t.hold⟩ σ H ρ) : Rp c.K (Far c t σ) H d v := h.tv (d, v) List.mem_cons_self
/-- t2 holds what t holds (its objects may be others) -/
def Sub (t t2 : Tm) : Prop := ∀ p ∈ t.vals, p ∈ t2.vals
theorem Sub.refl (t : Tm) : Sub t t := fun _ h => h
theorem Sub.cons {t t2 : Tm} {x : D × V} {hl : List (Addr × HO)} (h : Sub t t2) : Sub t ⟨x :: t2.vals, hl⟩ := fun p hp => List.mem_cons_of_mem _ (h p hp)
theorem EnvOk.sub {t2 : Tm} (h : EnvOk c t2 σ H ρ) (s : Sub t t2) (e : t2.hold = t.hold) : EnvOk c t σ H ρ := by
  obtain ⟨vs, hs⟩ := t
  obtain ⟨vs2, hs2⟩ := t2
  cases e
  exact { h with tv := fun p hp => h.tv p (s p hp) }
def ItOk (c : C0) (t' : Tm) (J : It) (items : List D) : Prop := ∀ t σ H ρ, Sub t' t → EnvOk c t σ H ρ →
  (∀ i, i < items.length → J.go i H) ∧ (∀ i x H', J.yld i H x H' → i < items.length → ∃ d, items[i]? = some d ∧ EnvOk c t σ H' ρ ∧ Rp c.K (Far c t σ) H' d x) ∧ J.stop items.length H
abbrev DI := Env → (List D → Env → Prop) → Prop
def SI (c : C0) (wi : TI) (di : DI) : Prop := ∀ (t : Tm) (σ : L2.St) (H : Hp) (ρ : Env) (P : List D → Env → Prop) (R : It → Hp → Prop), EnvOk c t σ H ρ → di ρ P →
  (∀ t' J items H' ρ', t'.hold = t.hold → Sub t t' → EnvOk c t' σ H' ρ' → ItOk c t' J items → P items ρ' → R J H') → wi σ H R
theorem itl_ok {t' : Tm} {a : Addr} {xs : List D} (f : ∀ t σ H ρ, Sub t' t → EnvOk c t σ H ρ → ∃ vs, SqL c.K H a vs ∧ RpL c.K (Far c t σ) H xs vs) : ItOk c t' (Itl c.K a) xs := fun t σ H ρ s h => by
  obtain ⟨vs, hs, rs⟩ := f t σ H ρ s h
  refine ⟨fun i hi => ?_, fun i x H' y hi => ?_, vs, hs, Nat.le_of_eq rs.length.symm⟩
  · obtain ⟨v, e, r⟩ := rs.got (List.getElem?_eq_getElem hi)
    exact ⟨vs, v, hs, e⟩
  · obtain ⟨rfl, y⟩ := y
    obtain ⟨d, e, r⟩ := rs.get (y vs hs)
    exact ⟨d, e, h, r⟩
theorem itt_ok {t' : Tm} {a : Addr} {xs : List D} (f : ∀ t σ H ρ, Sub t' t → EnvOk c t σ H ρ → ∃ vs, SqT c.K H a vs ∧ RpL c.K (Far c t σ) H xs vs) : ItOk c t' (Itt c.K a) xs := fun t σ H ρ s h => by
  obtain ⟨vs, hs, rs⟩ := f t σ H ρ s h
  refine ⟨fun i hi => ?_, fun i x H' y hi => ?_, vs, hs, Nat.le_of_eq rs.length.symm⟩
  · obtain ⟨v, e, r⟩ := rs.got (List.getElem?_eq_getElem hi)
    exact ⟨vs, v, hs, e⟩
  · obtain ⟨rfl, y⟩ := y
    obtain ⟨d, e, r⟩ := rs.get (y vs hs)
    exact ⟨d, e, h, r⟩
/-- the items of a list, a tuple -/
def dSeqI (a : DE) : DI := fun ρ P => a ρ fun d ρ1 => match d with
  | .lst xs => P xs ρ1
  | .tup xs => P xs ρ1
  | .scr ns => P (ns.map D.int) ρ1
  | _ => False
theorem si_seq (ha : SV c ta da) : SI c (iSeq c.K ta) (dSeqI da) := fun t σ H ρ P R h q k =>
  ha t σ H ρ _ _ h q fun v d H1 ρ1 h1 r1 q1 => by
    have un : Sub t ⟨(d, v) :: t.vals, t.hold⟩ := (Sub.refl t).cons
    cases d with
    | lst xs =>
      obtain ⟨a, vs, rfl, _, hs, _⟩ := r1.seqL
      refine ⟨a, rfl, .inl ⟨⟨vs, .of hs⟩, k ⟨(_, _) :: t.vals, t.hold⟩ _ xs H1 ρ1 rfl un (h1.pin r1) (itl_ok fun t2 σ H ρ s h => ?_) q1⟩⟩
      obtain ⟨a', vs, e, _, hs, rs⟩ := (h.tv _ (s _ List.mem_cons_self)).seqL
      cases e
      exact ⟨vs, .of hs, rs⟩
    | tup xs =>
      obtain ⟨a, vs, rfl, _, hs, _⟩ := r1.seqT
      refine ⟨a, rfl, .inr ⟨⟨vs, .of hs⟩, k ⟨(_, _) :: t.vals, t.hold⟩ _ xs H1 ρ1 rfl un (h1.pin r1) (itt_ok fun t2 σ H ρ s h => ?_) q1⟩⟩
      obtain ⟨a', vs, e, _, hs, rs⟩ := (h.tv _ (s _ List.mem_cons_self)).seqT
      cases e
      exact ⟨vs, .of hs, rs⟩
    | scr ns =>
      obtain ⟨a, rfl, hs⟩ := r1.seqS
      refine ⟨a, rfl, .inl ⟨⟨_, hs⟩, k ⟨(_, _) :: t.vals, t.hold⟩ _ _ H1 ρ1 rfl un (h1.pin r1) (itl_ok fun t2 σ H ρ s h => ?_) q1⟩⟩
      obtain ⟨a', e, hs⟩ := (h.tv _ (s _ List.mem_cons_self)).seqS
      cases e
      exact ⟨_, hs, .of_ints ns⟩
    | _ => exact False.elim q1
/-- range -/
def rgD (lo : Int) (n : Nat) : List D := (List.range n).map fun i => .int (lo + (i : Nat))
theorem rgD_length (lo : Int) (n : Nat) : (rgD lo n).length = n := by unfold rgD; rw [List.length_map, List.length_range]
theorem rgD_get {lo : Int} {n i : Nat} (h : i < n) : (rgD lo n)[i]? = some (.int (lo + (i : Nat))) := by
  unfold rgD; rw [List.getElem?_map, List.getElem?_range h]; rfl
theorem rgD_got {lo : Int} {n i : Nat} {d : D} (h : (rgD lo n)[i]? = some d) : i < n ∧ d = .int (lo + (i : Nat)) := by
  have hi : i < n := by
    have := (List.getElem?_eq_some_iff.mp h).1
    rwa [rgD_length] at this
  rw [rgD_get hi] at h
  exact ⟨hi, (Option.some.inj h).symm⟩
theorem itr_ok {t' : Tm} {lo : Int} {n : Nat} : ItOk c t' (Itr lo n) (rgD lo n) := fun t σ H ρ s h => by
  rw [rgD_length]
  refine ⟨fun i hi => hi, fun i x H' y hi => ?_, Nat.le_refl _⟩
  obtain ⟨rfl, rfl⟩ := y
  exact ⟨_, rgD_get hi, h, .int _⟩
def dRange1 (a : DE) : DI := fun ρ P => a ρ fun d ρ1 => match d with
  | .int n => (-(2 ^ 62) ≤ n ∧ n < 2 ^ 62) ∧ P (rgD 0 n.toNat) ρ1
  | _ => False
def dRange2 (a b : DE) : DI := fun ρ P => a ρ fun d ρ1 => b ρ1 fun e ρ2 => match d, e with
  | .int m, .int n => (-(2 ^ 62) ≤ m ∧ m < 2 ^ 62 ∧ -(2 ^ 62) ≤ n ∧ n < 2 ^ 62) ∧ P (rgD m (n - m).toNat) ρ2
  | _, _ => False
theorem si_range1 (ha : SV c ta da) : SI c (iRng1 (tCons ta tNil)) (dRange1 da) := fun t σ H ρ P R h q k =>
  ha t σ H ρ _ _ h q fun v d H1 ρ1 h1 r1 q1 => by
    cases d with
    | int n =>
      cases r1
      exact ⟨n, rfl, q1.1.1, q1.1.2, k t _ _ H1 ρ1 rfl (.refl t) h1 itr_ok q1.2⟩
    | _ => exact False.elim q1
theorem si_range2 (ha : SV c ta da) (hb : SV c tb db) : SI c (iRng2 (tCons ta (tCons tb tNil))) (dRange2 da db) := fun t σ H ρ P R h q k => by
  refine se_two (P := fun d e ρ2 => match d, e with
    | .int m, .int n => (-(2 ^ 62) ≤ m ∧ m < 2 ^ 62 ∧ -(2 ^ 62) ≤ n ∧ n < 2 ^ 62) ∧ P (rgD m (n - m).toNat) ρ2
    | _, _ => False) ha.se hb.se h q fun x y dx dy H' ρ' h' rx ry q' => ?_
  cases dx with
  | int m => cases dy with
    | int n => exact ⟨m, n, by rw [rx.int, ry.int], q'.1, k t _ _ H' ρ' rfl (.refl t) h' itr_ok q'.2⟩
    | _ => exact False.elim q'
  | _ => exact False.elim q'
/-- zip of two tuples -/
def pairs : List D → List D → List D
  | x :: xs, y :: ys => .tup [x, y] :: pairs xs ys
  | _, _ => []
theorem pairs_get : ∀ {xs ys : List D} {i : Nat} {x y : D}, xs[i]? = some x → ys[i]? = some y → (pairs xs ys)[i]? = some (.tup [x, y])
  | x :: xs, y :: ys, 0, _, _, h1, h2 => by simp at h1 h2; subst h1; subst h2; rfl
  | x :: xs, y :: ys, i + 1, _, _, h1, h2 => pairs_get (xs := xs) (ys := ys) (i := i) (by simpa using h1) (by simpa using h2)
  | [], _, _, _, _, h1, _ => by simp at h1
  | _ :: _, [], _, _, _, _, h2 => by simp at h2
theorem pairs_length : ∀ xs ys : List D, (pairs xs ys).length = min xs.length ys.length
  | [], _ => by simp [pairs]
  | x :: xs, [] => by simp [pairs]
  | x :: xs, y :: ys => by rw [pairs, List.length_cons, pairs_length xs ys, List.length_cons, List.length_cons]; omega
theorem itz_ok {t' : Tm} {a b : Addr} {xs ys : List D} (f : ∀ t σ H ρ, Sub t' t → EnvOk c t σ H ρ → ∃ vs ws, SqT c.K H a vs ∧ SqT c.K H b ws ∧ RpL c.K (Far c t σ) H xs vs ∧ RpL c.K (Far c t σ) H ys ws) : ItOk c t' (ItzT c.K a b) (pairs xs ys) := fun t σ H ρ s h => by
  obtain ⟨vs, ws, hs, hs2, rs, rs2⟩ := f t σ H ρ s h
  rw [pairs_length]
  refine ⟨fun i hi => ?_, fun i x H' y hi => ?_, vs, ws, hs, hs2, ?_⟩
  · obtain ⟨v, e, r⟩ := rs.got (List.getElem?_eq_getElem (show i < xs.length by omega))
    obtain ⟨w, e2, r2⟩ := rs2.got (List.getElem?_eq_getElem (show i < ys.length by omega))
    exact ⟨vs, ws, v, w, hs, hs2, e, e2⟩
  · obtain ⟨T, x1, y1, rfl, hT, rfl, f1, f2⟩ := y
    obtain ⟨d, e, r⟩ := rs.get (f1 vs hs)
    obtain ⟨d2, e2, r2⟩ := rs2.get (f2 ws hs2)
    exact ⟨_, pairs_get e e2, h.new hT, .tup (h.far hT) upd_same (.cons (r.grow (upd_grow hT)) (.cons (r2.grow (upd_grow hT)) .nil))⟩
  · rw [← rs.length, ← rs2.length]; omega
def dZipT (a b : DE) : DI := fun ρ P => a ρ fun d ρ1 => b ρ1 fun e ρ2 => match d, e with
  | .tup xs, .tup ys => P (pairs xs ys) ρ2
  | _, _ => False
theorem si_zipT (ha : SV c ta da) (hb : SV c tb db) : SI c (iZipA c.K (tCons ta (tCons tb tNil))) (dZipT da db) := fun t σ H ρ P R h q k => by
  refine se_two (P := fun d e ρ2 => match d, e with
    | .tup xs, .tup ys => P (pairs xs ys) ρ2
    | _, _ => False) ha.se hb.se h q fun x y dx dy H' ρ' h' rx ry q' => ?_
  cases dx with
  | tup xs => cases dy with
    | tup ys =>
      have rx := rx.rp trivial
      have ry := ry.rp trivial
      obtain ⟨a, vs, rfl, _, hs, rs⟩ := rx.seqT
      obtain ⟨b, ws, rfl, _, hs2, rs2⟩ := ry.seqT
      refine ⟨a, b, vs, ws, rfl, .inr ⟨.of hs, .of hs2, k ⟨(.tup xs, .ref a) :: (.tup ys, .ref b) :: t.vals, t.hold⟩ _ _ H' ρ' rfl (Sub.cons (t2 := ⟨(.tup ys, .ref b) :: t.vals, t.hold⟩) (Sub.cons (.refl t))) ?_ (itz_ok fun t2 σ H ρ s h => ?_) q'⟩⟩
      · exact EnvOk.pin (t := ⟨(.tup ys, .ref b) :: t.vals, t.hold⟩) (h'.pin ry) rx
      · obtain ⟨_, vs, e, _, hs, rs⟩ := (h.tv _ (s _ List.mem_cons_self)).seqT
        obtain ⟨_, ws, e2, _, hs2, rs2⟩ := (h.tv _ (s _ (List.mem_cons_of_mem _ List.mem_cons_self))).seqT
        cases e; cases e2
        exact ⟨vs, ws, .of hs, .of hs2, rs, rs2⟩
    | _ => exact False.elim q'
  | _ => exact False.elim q'

/-! ### for -/
def dFor (di : DI) (g : DG) (b : DS) : DS := fun De ρ => di ρ fun items ρ1 => ∃ W : Nat → Env → Prop, W 0 ρ1 ∧
  (∀ i d ρ2, items[i]? = some d → W i ρ2 → g d ρ2 fun ρ3 => b { De with nx := W (i + 1), ct := W (i + 1), bk := De.nx } ρ3) ∧ ∀ ρ2, W items.length ρ2 → De.nx ρ2
theorem ss_for {wi : TI} {di : DI} {g : TG} {dg : DG} {is : List Nat} (hi : SI c wi di) (hg : SG c is g dg) (hb : SS c ts ds) : SS c (tFor wi g ts) (dFor di dg ds) := fun t σ H ρ De E h q n r b k => by
  refine hi t σ H ρ _ _ h q fun t' J items H1 ρ1 e0 sb h1 it q1 => ?_
  obtain ⟨W, w0, turn, done⟩ := q1
  have un : ∀ σ1 H1 ρ1, EnvOk c t' σ1 H1 ρ1 → EnvOk c t σ1 H1 ρ1 := fun _ _ _ h => h.sub sb e0
  refine ⟨fun i m σ H => m = items.length - i ∧ i ≤ items.length ∧ ∃ ρ, EnvOk c t' σ H ρ ∧ W i ρ, ⟨items.length, by simp, Nat.zero_le _, ρ1, h1, w0⟩, ?_⟩
  rintro i m σ2 H2 ⟨rfl, hi, ρ2, h2, w2⟩
  obtain ⟨go, yld, stop⟩ := it t' σ2 H2 ρ2 (.refl _) h2
  by_cases hlt : i < items.length
  · refine .inr ⟨go i hlt, fun σ H => ∃ ρ, EnvOk c t' σ H ρ ∧ W (i + 1) ρ, fun σ' H' ⟨ρ', h', w'⟩ => ⟨items.length - (i + 1), by omega, rfl, hlt, ρ', h', w'⟩, fun x H3 y => ?_⟩
    obtain ⟨d, e, h3, r3⟩ := yld i x H3 y hlt
    refine hg t' σ2 H3 ρ2 x d _ _ h3 r3 (turn i d ρ2 e w2) fun σ4 ρ4 h4 _ _ _ q4 => ?_
    exact hb t' σ4 H3 ρ4 _ _ h4 q4 (fun σ' H' ρ' h' w => ⟨ρ', h', w⟩) (fun v d σ' H' ρ' h' r' q' => r v d σ' H' ρ' (un _ _ _ h') (r'.hold e0) q') (fun σ' H' ρ' h' q' => n σ' H' ρ' (un _ _ _ h') q') (fun σ' H' ρ' h' w => ⟨ρ', h', w⟩)
  · have e : i = items.length := by omega
    subst e
    exact .inl ⟨stop, n σ2 H2 ρ2 (un _ _ _ h2) (done ρ2 w2)⟩
end
end PD

end
section
set_option Elab.async false
set_option linter.all false
set_option maxRecDepth 100000
namespace PD
open PySem PySem.Spec PyProof.Rows L2 RZ

section
variable {c : C0} {t : Tm} {σ : L2.St} {H H' : Hp} {ρ : Env}
variable {te ta tb tc : TE} {de da db dc : DE} {tt tu : TT} {dt du : DT} {ts tv : TS} {ds dv : DS}

/-! ### comprehensions -/
def wipeD (ρ : Env) : List Nat → Env
  | [] => ρ
  | v :: vs => (wipeD ρ vs).set v none
/-- the slots vs as they were -/
def backD (vs : List Nat) (ρ0 ρ : Env) : Env := match vs with
  | [] => ρ
  | v :: vs => (backD vs ρ0 ρ).set v (ρ0[v]?.join)
def backS (vs : List Nat) (σ0 σ : L2.St) : L2.St := match vs with
  | [] => σ
  | v :: vs => (backS vs σ0 σ).set v (σ0[v]?.join)
theorem backS_len (σ0 σ : L2.St) : ∀ vs : List Nat, (backS vs σ0 σ).length = σ.length
  | [] => rfl
  | v :: vs => by rw [backS, List.length_set, backS_len σ0 σ vs]
theorem backS_eq {σ0 σ : L2.St} {vs : List Nat} (hl : σ.length = σ0.length) (h : ∀ j, j ∉ vs → σ[j]? = σ0[j]?) : backS vs σ0 σ = σ0 := by
  have key : ∀ (vs : List Nat) (j : Nat), (backS vs σ0 σ)[j]? = if j ∈ vs then σ0[j]? else σ[j]? := by
    intro vs
    induction vs with
    | nil => intro j; rw [backS, if_neg (by simp)]
    | cons v vs ih =>
      intro j
      rw [backS]
      by_cases e : v = j
      · subst e
        rw [if_pos List.mem_cons_self]
        by_cases hlt : v < (backS vs σ0 σ).length
        · rw [List.getElem?_set_self hlt]
          rw [backS_len, hl] at hlt
          rw [List.getElem?_eq_getElem hlt]; rfl
        · rw [List.getElem?_eq_none (by rw [List.length_set]; omega)]
          rw [backS_len, hl] at hlt
          rw [List.getElem?_eq_none (by omega)]
      · rw [List.getElem?_set_ne e, ih j]
        by_cases m : j ∈ vs
        · rw [if_pos m, if_pos (List.mem_cons_of_mem _ m)]
        · rw [if_neg m, if_neg (fun z => (List.mem_cons.mp z).elim (fun z => e z.symm) m)]
  refine List.ext_getElem? fun j => ?_
  rw [key vs j]
  by_cases m : j ∈ vs
  · rw [if_pos m]
  · rw [if_neg m, h j m]
theorem EnvOk.wiped (h : EnvOk c t σ H ρ) : ∀ vs : List Nat, (∀ v ∈ vs, c.own v = false) → EnvOk c t (wipe σ vs) H (wipeD ρ vs) ∧ Far c t (wipe σ vs) = Far c t σ
  | [], _ => ⟨h, rfl⟩
  | v :: vs, hv => by
    obtain ⟨h1, f1⟩ := EnvOk.wiped h vs fun u hu => hv u (List.mem_cons_of_mem _ hu)
    have ho := hv v List.mem_cons_self
    exact ⟨h1.put ho (fun d e => nomatch e), (funext fun a => propext (far_set ho)).trans f1⟩
/-- the slots' values are held besides -/
theorem EnvOk.pinAll (h : EnvOk c t σ H ρ) : ∀ vs : List Nat, (∀ v ∈ vs, c.own v = false) → ∃ t2 : Tm, t2.hold = t.hold ∧ Sub t t2 ∧ EnvOk c t2 σ H ρ ∧
    ∀ t3 σ1 H1 ρ1, Sub t2 t3 → EnvOk c t3 σ1 H1 ρ1 → ∀ v ∈ vs, ∀ d, ρ[v]? = some (some d) → ∃ u, σ[v]? = some (some u) ∧ Rp c.K (Far c t3 σ1) H1 d u
  | [], _ => ⟨t, rfl, .refl t, h, fun _ _ _ _ _ _ v hv => absurd hv (by simp)⟩
  | v :: vs, hv => by
    obtain ⟨t2, e2, s2, h2, f2⟩ := EnvOk.pinAll h vs fun u hu => hv u (List.mem_cons_of_mem _ hu)
    cases hz : ρ[v]? with
    | none => exact ⟨t2, e2, s2, h2, fun t3 σ1 H1 ρ1 s h u hu d e => (List.mem_cons.mp hu).elim (fun z => by subst z; rw [hz] at e; cases e) fun hu => f2 t3 σ1 H1 ρ1 s h u hu d e⟩
    | some o => cases o with
      | none => exact ⟨t2, e2, s2, h2, fun t3 σ1 H1 ρ1 s h u hu d e => (List.mem_cons.mp hu).elim (fun z => by subst z; rw [hz] at e; cases e) fun hu => f2 t3 σ1 H1 ρ1 s h u hu d e⟩
      | some d0 =>
        obtain ⟨u0, e0, r0⟩ := h2.val v d0 hz (hv v List.mem_cons_self)
        refine ⟨⟨(d0, u0) :: t2.vals, t2.hold⟩, e2, s2.cons, h2.pin r0, fun t3 σ1 H1 ρ1 s h u hu d e => ?_⟩
        rcases List.mem_cons.mp hu with z | hu
        · subst z
          rw [hz] at e; cases e
          exact ⟨u0, e0, h.tv _ (s _ List.mem_cons_self)⟩
        · exact f2 t3 σ1 H1 ρ1 (fun p hp => s p (List.mem_cons_of_mem _ hp)) h u hu d e
theorem EnvOk.backed {ρ5 : Env} {σ2 : L2.St} (h : EnvOk c t σ2 H ρ5) : ∀ vs : List Nat, (∀ v ∈ vs, c.own v = false) → (∀ v ∈ vs, ∀ d, ρ[v]? = some (some d) → ∃ u, σ[v]? = some (some u) ∧ Rp c.K (Far c t σ2) H d u) →
    EnvOk c t (backS vs σ σ2) H (backD vs ρ ρ5) ∧ Far c t (backS vs σ σ2) = Far c t σ2
  | [], _, _ => ⟨h, rfl⟩
  | v :: vs, hv, f => by
    obtain ⟨h1, f1⟩ := EnvOk.backed h vs (fun u hu => hv u (List.mem_cons_of_mem _ hu)) fun u hu => f u (List.mem_cons_of_mem _ hu)
    have ho := hv v List.mem_cons_self
    refine ⟨h1.put ho fun d e => ?_, (funext fun a => propext (far_set ho)).trans f1⟩
    cases hz : ρ[v]? with
    | none => rw [hz] at e; cases e
    | some o =>
      rw [hz] at e
      have e' : o = some d := e
      subst e'
      obtain ⟨u, e1, r⟩ := f v List.mem_cons_self d hz
      exact ⟨u, by rw [e1]; rfl, by rw [f1]; exact r⟩
theorem wipe_in {σ : L2.St} {j : Nat} : ∀ {vs : List Nat}, j ∈ vs → j < σ.length → (wipe σ vs)[j]? = some none
  | v :: vs, h, hl => by
    rw [wipe]
    by_cases e : v = j
    · subst e
      exact List.getElem?_set_self (by rw [wipe_length]; exact hl)
    · rw [List.getElem?_set_ne e]
      exact wipe_in ((List.mem_cons.mp h).resolve_left fun z => e z.symm) hl
theorem wipe_eq {σ σ2 : L2.St} {vs : List Nat} (hl : σ2.length = σ.length) (h : ∀ j, j ∉ vs → σ2[j]? = σ[j]?) : wipe σ2 vs = wipe σ vs := by
  refine List.ext_getElem? fun j => ?_
  by_cases m : j ∈ vs
  · by_cases hlt : j < σ.length
    · rw [wipe_in m hlt, wipe_in m (by rw [hl]; exact hlt)]
    · rw [List.getElem?_eq_none (by rw [wipe_length]; omega), List.getElem?_eq_none (by rw [wipe_length]; omega)]
  · rw [wipe_out m, wipe_out m, h j m]

def dLc (di : DI) (g : DG) (a : DT) (b : DE) (vs : List Nat) : DE := fun ρ P => di ρ fun items ρ1 => ∃ W : Nat → List D → Env → Prop, W 0 [] ρ1 ∧
  (∀ i d acc ρ2, items[i]? = some d → W i acc ρ2 → g d (wipeD ρ2 vs) fun ρ3 => a ρ3 fun k ρ4 =>
    sel k (b ρ4 fun y ρ5 => acc.length < sizeLine ∧ W (i + 1) (acc ++ [y]) (backD vs ρ2 ρ5)) (W (i + 1) acc (backD vs ρ2 ρ4))) ∧ ∀ acc ρ2, W items.length acc ρ2 → P (.lst acc) ρ2
def dYes : DT := fun ρ P => P true ρ
theorem st_yes : ST c tYes dYes := fun t σ H ρ P Q h q k => k true H ρ h q
/-- the items so far, held -/
def Kept (t : Tm) (acc : List D) (avs : List V) : Prop := acc.length = avs.length ∧ ∀ (j : Nat) (d : D) (v : V), acc[j]? = some d → avs[j]? = some v → (d, v) ∈ t.vals
theorem Kept.rp {K : PySem.W.Frag} {A : Addr → Prop} : ∀ {acc : List D} {avs : List V}, Kept t acc avs → (∀ p ∈ t.vals, Rp K A H p.1 p.2) → RpL K A H acc avs
  | [], [], _, _ => .nil
  | [], _ :: _, k, _ => by cases k.1
  | _ :: _, [], k, _ => by cases k.1
  | d :: acc, v :: avs, k, h => .cons (h _ (k.2 0 d v rfl rfl)) (Kept.rp (acc := acc) (avs := avs) ⟨Nat.succ.inj k.1, fun j d v e1 e2 => k.2 (j + 1) d v e1 e2⟩ h)
theorem Kept.mono {t2 : Tm} {acc : List D} {avs : List V} (k : Kept t acc avs) (s : Sub t t2) : Kept t2 acc avs := ⟨k.1, fun j d v e1 e2 => s _ (k.2 j d v e1 e2)⟩
theorem Kept.snoc {acc : List D} {avs : List V} {d : D} {v : V} {hl : List (Addr × HO)} (k : Kept t acc avs) : Kept ⟨(d, v) :: t.vals, hl⟩ (acc ++ [d]) (avs ++ [v]) := by
  refine ⟨by rw [List.length_append, List.length_append, k.1]; rfl, fun j d' v' e1 e2 => ?_⟩
  by_cases h : j < acc.length
  · rw [List.getElem?_append_left h] at e1
    rw [List.getElem?_append_left (by rw [← k.1]; exact h)] at e2
    exact List.mem_cons_of_mem _ (k.2 j d' v' e1 e2)
  · have hj : j = acc.length := by
      have := (List.getElem?_eq_some_iff.mp e1).1
      rw [List.length_append] at this
      have : ([d] : List D).length = 1 := rfl
      omega
    subst hj
    rw [List.getElem?_append_right (Nat.le_refl _), Nat.sub_self] at e1
    rw [k.1, List.getElem?_append_right (Nat.le_refl _), Nat.sub_self] at e2
    cases e1; cases e2
    exact List.mem_cons_self
theorem sfl_lc {wi : TI} {di : DI} {g : TG} {dg : DG} {is vs : List Nat} (hi : SI c wi di) (hg : SG c is g dg) (ht : ST c tt dt) (he : SV c ta da) (hv' : (vs.all fun v => !c.own v) = true) (hs' : (is.all fun j => vs.contains j) = true) :
    SFL c (tLc wi g tt ta vs) (dLc di dg dt da vs) := fun t σ H ρ P Q h q k => by
  have hv : ∀ v ∈ vs, c.own v = false := fun v m => by simpa using List.all_eq_true.mp hv' v m
  have hs : ∀ j ∈ is, j ∈ vs := fun j m => by simpa using List.all_eq_true.mp hs' j m
  refine hi t σ H ρ _ _ h q fun t' J items H1 ρ1 e0 sb h1 it q1 D hD => ?_
  obtain ⟨W, w0, turn, done⟩ := q1
  have nD : ¬ Far c t' σ D := h1.far hD
  refine ⟨fun i m H => m = items.length - i ∧ i ≤ items.length ∧ ∃ ρ acc avs t3, t3.hold = t'.hold ∧ Sub t' t3 ∧ Kept t3 acc avs ∧ EnvOk c (t3.add D (.lst avs)) σ H ρ ∧ W i acc ρ,
    ⟨items.length, by simp, Nat.zero_le _, ρ1, [], [], t', rfl, .refl t', ⟨rfl, fun j d v e _ => by simp at e⟩, h1.add hD, w0⟩, ?_⟩
  rintro i m H2 ⟨rfl, hi, ρ2, acc, avs, t3, e3, s3, k3, h2, w2⟩
  have nD3 : ¬ Far c t3 σ D := by rw [Far.hold e3]; exact nD
  obtain ⟨go, yld, stop⟩ := it (t3.add D (.lst avs)) σ H2 ρ2 s3 h2
  by_cases hlt : i < items.length
  · refine .inr ⟨go i hlt, fun H => ∃ ρ acc avs t3, t3.hold = t'.hold ∧ Sub t' t3 ∧ Kept t3 acc avs ∧ EnvOk c (t3.add D (.lst avs)) σ H ρ ∧ W (i + 1) acc ρ, fun H' z => ⟨items.length - (i + 1), by omega, rfl, hlt, z⟩, fun x H3 y => ?_⟩
    obtain ⟨d, e, h3, r3⟩ := yld i x H3 y hlt
    obtain ⟨t4, e4, s4, h4, f4⟩ := h3.pinAll vs hv
    obtain ⟨h5, f5⟩ := h4.wiped vs hv
    have r5 : Rp c.K (Far c t4 (wipe σ vs)) H3 d x := by rw [f5, Far.hold e4]; exact r3
    refine hg t4 (wipe σ vs) H3 (wipeD ρ2 vs) x d _ _ h5 r5 (turn i d acc ρ2 e w2) fun σ6 ρ6 h6 l6 a6 f6 q6 => ?_
    have out : ∀ j, j ∉ vs → σ6[j]? = σ[j]? := fun j hj => ((a6 j fun z => hj (hs j z)).1).trans (wipe_out hj)
    have len6 : σ6.length = σ.length := l6.trans (wipe_length σ vs)
    refine ⟨wipe_eq len6 out, ht t4 σ6 H3 ρ6 _ _ h6 q6 fun b H7 ρ7 h7 q7 => ?_⟩
    -- back to the slots as they were
    have home : ∀ {H8 : Hp} {ρ8 : Env}, EnvOk c t4 σ6 H8 ρ8 → EnvOk c (t3.add D (.lst avs)) σ H8 (backD vs ρ2 ρ8) := fun {H8 ρ8} h8 => by
      obtain ⟨h9, f9⟩ := h8.backed (ρ := ρ2) (σ := σ) vs hv fun v hv' d' e' => f4 t4 σ6 H8 ρ8 (.refl _) h8 v hv' d' e'
      rw [backS_eq len6 out] at h9
      exact h9.sub s4 e4
    cases b with
    | false => exact (if_neg (fun z => by cases z)).mpr ⟨_, acc, avs, t3, e3, s3, k3, home h7, q7⟩
    | true =>
      refine (if_pos rfl).mpr (he t4 σ6 H7 ρ7 _ _ h7 q7 fun y dy H8 ρ8 h8 r8 q8 => ?_)
      have h9 := home h8
      have hD8 : H8 D = some (.lst avs) := (h9.th (D, .lst avs) List.mem_cons_self).1
      have ff : Far c t4 σ6 = Far c (t3.add D (.lst avs)) σ := by rw [f6, f5, Far.hold e4]
      rw [ff] at r8
      refine ⟨avs, hD8, by rw [← k3.1]; exact q8.1, _, acc ++ [dy], avs ++ [y], ⟨(dy, y) :: t3.vals, t3.hold⟩, e3, s3.cons, k3.snoc, ?_, q8.2⟩
      have h10 := EnvOk.pin (t := t3.add D (.lst avs)) h9 r8
      exact EnvOk.chg (t := ⟨(dy, y) :: t3.vals, t3.hold⟩) (p := D) (o := .lst avs) (o' := .lst (avs ++ [y])) h10 nD3
  · have e : i = items.length := by omega
    subst e
    refine .inl ⟨stop, ?_⟩
    have nDt : ¬ Far c t σ D := by rw [← Far.hold e0]; exact nD
    have h8 : EnvOk c (t.add D (.lst avs)) σ H2 ρ2 := EnvOk.sub (t := t.add D (.lst avs)) h2 (fun p hp => s3 p (sb p hp)) (by show (D, HO.lst avs) :: t3.hold = (D, HO.lst avs) :: t.hold; rw [e3, e0])
    have ra : RpL c.K (Far c (t3.add D (.lst avs)) σ) H2 acc avs := k3.rp fun p hp => h2.tv p hp
    refine k D avs acc H2 ρ2 nDt h8 ?_ (done acc ρ2 w2)
    have ff : Far c (t3.add D (.lst avs)) σ = Far c (t.add D (.lst avs)) σ := Far.hold (by show (D, HO.lst avs) :: t3.hold = (D, HO.lst avs) :: t.hold; rw [e3, e0])
    rw [ff] at ra
    exact ra
end
end PD

end
section
set_option Elab.async false
set_option linter.all false
set_option maxRecDepth 100000
namespace PD
open PySem PySem.Spec PyProof.Rows L2 RZ

/-! ### what a def promises over data -/
abbrev FP := List D → (D → Prop) → (Ex → Prop) → Prop
abbrev FB := List D → (D → D → Prop) → (Ex → Prop) → Prop
/-- a def of n parameters that changes nothing -/
def spP (K : PySem.W.Frag) (cl : Ex → Addr) (T : List (Addr × Str)) (n : Nat) (F : FP) : Sp := fun vs H Q E => ∃ (z : Addr → Prop) (args : List D) (P : D → Prop) (W : Ex → Prop), args.length = n ∧ LamX.Tabs T H ∧ (∀ a, z a → ∃ o, H a = some o ∧ Pn o) ∧ RpL K z H args vs ∧ F args P W ∧
  (∀ v d H', Gr T H H' → Rp K z H' d v → P d → Q v H') ∧ ∀ x H', Gr T H H' → W x → E (.ref (cl x)) none H'
/-- .. whose first argument is an object that it changes -/
def spB (K : PySem.W.Frag) (cl : Ex → Addr) (T : List (Addr × Str)) (n : Nat) (F : FB) : Sp := fun vs H Q E => ∃ (z : Addr → Prop) (b : Addr) (bx : D) (args : List D) (ws : List V) (P : D → D → Prop) (W : Ex → Prop), vs = .ref b :: ws ∧ args.length + 1 = n ∧ z b ∧ LamX.Tabs T H ∧ (∀ a, z a → ∃ o, H a = some o ∧ Pn o) ∧
  OwnAt K z H b bx ∧ RpL K z H args ws ∧ F (bx :: args) P W ∧
  (∀ v d bx' H', (∀ a o, H a = some o → Pn o → a ≠ b → H' a = some o) → LamX.Tabs T H' → Rp K z H' d v → OwnAt K z H' b bx' → P d bx' → Q v H') ∧ ∀ x H', (∀ a o, H a = some o → Pn o → a ≠ b → H' a = some o) → LamX.Tabs T H' → W x → E (.ref (cl x)) none H'

section
variable {c : C0} {t : Tm} {σ : L2.St} {H H' : Hp} {ρ : Env}
variable {te ta tb tc : TE} {de da db dc : DE}
/-- behind a call that has changed l, the object of the slot j -/
theorem EnvOk.boxed {j : Nat} {l : Addr} {d d' : D} (h : EnvOk c t σ H ρ) (hj : c.own j = true) (hd : ρ[j]? = some (some d)) (hl : σ[j]? = some (some (.ref l)))
    (fr : ∀ a o, H a = some o → Pn o → a ≠ l → H' a = some o) (tb : LamX.Tabs c.T H') (new : OwnAt c.K (Far c t σ) H' l d') : EnvOk c t σ H' (ρ.set j (some d')) := by
  have fl : Far c t σ l := .inr (.inr ⟨j, hj, hl⟩)
  have keep : ∀ a o', ¬ Far c t σ a → H a = some o' → Pn o' → ¬ Far c t σ a ∧ H' a = some o' := fun a o' na e pn => ⟨na, fr a o' e pn fun z => na (by rw [z]; exact fl)⟩
  have hlen : j < ρ.length := (List.getElem?_eq_some_iff.mp hd).1
  obtain ⟨l', e1, x, bz⟩ := h.ownv j d hd hj
  rw [hl] at e1; cases e1
  refine ⟨by rw [List.length_set]; exact h.len, fun a o' e pn n => ?_, tb, fun a f => ?_, fun i di e n => ?_, fun i di e n => ?_, fun i n e => ?_, h.dist, h.bx, fun p hp => (h.tv p hp).move keep, fun p hp => ?_⟩
  · have hne : a ≠ l := fun z => by
      subst z
      rcases bz with z | z
      · exact n z
      · exact z o' e pn
    exact fr a o' (h.frame a o' e pn n) pn hne
  · by_cases z : a = l
    · subst z; exact new.there
    · obtain ⟨o', e, pn⟩ := h.trk a f
      exact ⟨o', fr a o' e pn z, pn⟩
  · have hij : j ≠ i := fun z => by subst z; rw [hj] at n; cases n
    rw [List.getElem?_set_ne hij] at e
    obtain ⟨v, e1, r⟩ := h.val i di e n
    exact ⟨v, e1, r.move keep⟩
  · by_cases hij : j = i
    · subst hij
      rw [List.getElem?_set_self hlen] at e
      cases e
      exact ⟨l, hl, new, bz⟩
    · rw [List.getElem?_set_ne hij] at e
      obtain ⟨l2, e1, x2, z2⟩ := h.ownv i di e n
      have hne : l2 ≠ l := fun z => by subst z; exact hij (h.dist j i _ hj n hl e1)
      exact ⟨l2, e1, x2.move (fun o' q pn => fr _ _ q pn hne) keep, z2⟩
  · by_cases hij : j = i
    · subst hij
      rw [List.getElem?_set_self hlen] at e; cases e
    · rw [List.getElem?_set_ne hij] at e
      exact h.ownn i n e
  · obtain ⟨a, b, e, pn⟩ := h.th p hp
    have hne : p.1 ≠ l := fun z => b j hj (by rw [z]; exact hl)
    exact ⟨fr _ _ a pn hne, b, e, pn⟩

/-- E takes the errors of W -/
def TakesE (c : C0) (E : L2.XK) (W : Ex → Prop) : Prop := ∀ x H', (∀ a o, c.h0 a = some o → Pn o → c.box ≠ some a → H' a = some o) → LamX.Tabs c.T H' → W x → E (.ref (c.cl x)) none H'
theorem takes_no : TakesE c E0 (fun _ => False) := fun _ _ _ _ w => w.elim
def noX : Ex → Prop := fun _ => False
theorem takes_noX : TakesE c E0 noX := fun _ _ _ _ w => w.elim
def dCall (F : FP) (W : Ex → Prop) (a : DA) : DE := fun ρ P => a ρ fun ds ρ1 => F ds (fun d => P d ρ1) W
theorem sv_call {F : FP} {n : Nat} {E : L2.XK} {W : Ex → Prop} {ta : TA} {da : DA} (he : TakesE c E W) (ha : SA c n ta da) : SV c (tCall (spP c.K c.cl c.T n F) [] E ta) (dCall F W da) := fun t σ H ρ P Q h q k =>
  ha t σ H ρ _ _ h q fun vs ds H1 ρ1 h1 r1 n1 q1 => by
    rw [List.append_nil]
    refine ⟨Far c t σ, ds, _, W, by rw [r1.length]; exact n1, h1.tabs, h1.trk, r1, q1, fun v d H2 g r2 p2 => k v d H2 ρ1 (h1.grow g) r2 p2, fun x H2 g w => he x H2 (fun a o e pn nb => g.1 a o (h1.frame a o e pn nb) pn) (g.2 h1.tabs) w⟩
theorem sv_call0 {F : FP} {E : L2.XK} {W : Ex → Prop} (he : TakesE c E W) : SV c (tCall (spP c.K c.cl c.T 0 F) [] E tNil) (dCall F W dNil) := sv_call he sa_nil
/-- .. with a slot's object -/
def dCallB (F : FB) (W : Ex → Prop) (j : Nat) (a : DA) : DE := fun ρ P => match ρ[j]? with
  | some (some _) => a ρ fun ds ρ1 => match ρ1[j]? with
    | some (some bx) => F (bx :: ds) (fun d bx' => P d (ρ1.set j (some bx'))) W
    | _ => False
  | _ => False
theorem sv_callB {F : FB} {n : Nat} {E : L2.XK} {W : Ex → Prop} {ta : TA} {da : DA} (j : Nat) (hj : c.own j = true) (he : TakesE c E W) (ha : SA c n ta da) : SV c (tCall (spB c.K c.cl c.T (n + 1) F) [] E (tCons (tVar j) ta)) (dCallB F W j da) := fun t σ H ρ P Q h q k => by
  unfold dCallB at q
  split at q
  · rename_i d0 hd0
    obtain ⟨l, e0, x0, bz⟩ := h.ownv j _ hd0 hj
    refine ⟨_, e0, ha t σ H ρ _ _ h q fun vs ds H1 ρ1 h1 r1 n1 q1 => ?_⟩
    show spB c.K c.cl c.T (n + 1) F ((V.ref l :: vs) ++ []) H1 Q E
    rw [List.append_nil]
    have q1 : (match ρ1[j]? with
      | some (some bx) => F (bx :: ds) (fun d bx' => P d (ρ1.set j (some bx'))) W
      | _ => False) := q1
    split at q1
    · rename_i bx hbx
      obtain ⟨l1, e1, x1, bz1⟩ := h1.ownv j _ hbx hj
      rw [e0] at e1; cases e1
      refine ⟨Far c t σ, l, bx, ds, vs, _, W, rfl, by rw [r1.length, n1], .inr (.inr ⟨j, hj, e0⟩), h1.tabs, h1.trk, x1, r1, q1, fun v d bx' H2 fr tb r2 o2 p2 => k v d H2 _ (h1.boxed hj hbx e0 fr tb o2) r2 p2, fun x H2 fr tb w => he x H2 (fun a o e pn nb => ?_) tb w⟩
      refine fr a o (h1.frame a o e pn nb) pn fun z => ?_
      subst z
      rcases bz1 with z | z
      · exact nb z
      · exact z o e pn
    · exact False.elim q1
  · exact False.elim q
end

/-! ### defs -/
def startD (n : Nat) (args : List D) : Env := args.map some ++ List.replicate (n - args.length) none
section
variable {P : Program} {w : World} {K : PySem.W.Frag} {mg : Str → Option Value} {base : Heap} {cl : Ex → Addr} {T : List (Addr × Str)}
variable {x qual : Str} {st : Stmt} {f : Addr} {fd : FuncData} {N ps : List Str} {k : Nat}
theorem start_get {A : Addr → Prop} {H : Hp} {args : List D} {vs : List V} {i : Nat} {d : D} (r : RpL K A H args vs) (e : (startD N.length args)[i]? = some (some d)) : i < args.length ∧ ∃ v, (L2.start N vs)[i]? = some (some v) ∧ Rp K A H d v := by
  unfold startD at e
  by_cases h : i < args.length
  · rw [List.getElem?_append_left (by rw [List.length_map]; exact h), List.getElem?_map] at e
    cases e1 : args[i]? with
    | none => rw [e1] at e; cases e
    | some d1 =>
      rw [e1] at e
      cases e
      obtain ⟨v, e2, r2⟩ := r.got e1
      refine ⟨h, v, ?_, r2⟩
      unfold L2.start
      rw [List.getElem?_append_left (by rw [List.length_map, ← r.length]; exact h), List.getElem?_map, e2]; rfl
  · rw [List.getElem?_append_right (by rw [List.length_map]; omega)] at e
    have := List.eq_of_mem_replicate (List.mem_of_getElem? e)
    cases this
theorem start_len {n : Nat} {args : List D} {vs : List V} (h : args.length = vs.length) : (L2.start N vs).length = (startD N.length args).length := by
  unfold L2.start startD
  rw [List.length_append, List.length_append, List.length_map, List.length_map, List.length_replicate, List.length_replicate, h]
theorem start_none {args : List D} {vs : List V} {i : Nat} (h : args.length = vs.length) (hi : args.length ≤ i) (e : (startD N.length args)[i]? = some none) : (L2.start N vs)[i]? = some none := by
  have hl : i < (startD N.length args).length := (List.getElem?_eq_some_iff.mp e).1
  unfold startD at hl
  rw [List.length_append, List.length_map, List.length_replicate] at hl
  unfold L2.start
  rw [List.getElem?_append_right (by rw [List.length_map, ← h]; exact hi), List.length_map, List.getElem?_replicate, if_pos (by rw [← h]; omega)]
theorem start_some {vs : List V} {i : Nat} {v : V} (e : (L2.start N vs)[i]? = some (some v)) : i < vs.length := by
  unfold L2.start at e
  by_cases h : i < vs.length
  · exact h
  · rw [List.getElem?_append_right (by rw [List.length_map]; omega)] at e
    have := List.eq_of_mem_replicate (List.mem_of_getElem? e)
    cases this
theorem Fun.okN {sp : Sp} (F : Fun K x qual st f fd) (S : FnScope N ps (defScope st)) (len : ∀ vs H Q E, sp vs H Q E → vs.length = ps.length)
    (hbody : ∀ (cdv : Value) (A : Around) (outer : List PySem.Env) (s : Shared) (H : Hp) (vs : List V) (Q : VK) (E : XK), Room k (A.deeper (envOfC qual (defScope st) s.heap.objs.size f cdv)) → sp vs H Q E →
      ∃ t, PSs (cxOf (L2N.CX P w) P w K mg base N qual (defScope st) f cdv A outer s H E) (defBody st) t ∧ t { nx := fun _ H' => Q .non H', rt := Q } (L2.start N vs) H) : FnOk P w K mg base (L2N.CX P w) (k + 1) f fd ps sp := by
  obtain ⟨oc, od, kV, doc, pm, an, cdv, ct, osl, rfl, lk, hcd⟩ := F.ex
  exact fn_of lk hcd S len fun A outer s H vs Q E hr hsp => hbody cdv A outer s H vs Q E hr hsp
/-- what a def gives back -/
def retD (ρ : Env) (d : D) : D := deref ρ d
theorem pure_len {Fs : FP} {n : Nat} {vs : List V} {H : Hp} {Q : VK} {E : L2.XK} (h : spP K cl T n Fs vs H Q E) : vs.length = n := by
  obtain ⟨z, args, P, W, hl, _, hz, r, _⟩ := h
  rw [← r.length]; exact hl
theorem pure_run (own : Nat → Bool) (hown : ∀ i, i < ps.length → own i = false) {Fs : FP} {ds : (Ex → Prop) → DS} {ts : TS} {E : L2.XK} {vs : List V} {H : Hp} {Q : VK}
    (hs : ∀ z h0 dw, TakesE ⟨K, z, none, h0, own, E, dw, cl, T⟩ E dw → SS ⟨K, z, none, h0, own, E, dw, cl, T⟩ ts (ds dw))
    (spec : ∀ args P W, args.length = ps.length → Fs args P W → ds W ⟨fun _ => P .non, fun d ρ => P (retD ρ d), fun _ => False, fun _ => False⟩ (startD N.length args))
    (h : spP K cl T ps.length Fs vs H Q E) : ts { nx := fun _ H' => Q .non H', rt := Q } (L2.start N vs) H := by
    obtain ⟨z, args, P', W, hl, ht, hz, r, hF, hQ, hE⟩ := h
    have nown : ∀ i, i < ps.length → own i = true → False := fun i h e => by rw [hown i h] at e; cases e
    have far0 : ∀ a, Far ⟨K, z, none, H, own, E, W, cl, T⟩ ⟨[], []⟩ (L2.start N vs) a ↔ z a := fun a => by
      constructor
      · rintro (f | ⟨o, f⟩ | ⟨i, hi, e⟩)
        · exact f
        · cases f
        · have := start_some e
          rw [← r.length, hl] at this
          exact (nown i this hi).elim
      · exact .inl
    have farE : Far ⟨K, z, none, H, own, E, W, cl, T⟩ ⟨[], []⟩ (L2.start N vs) = z := funext fun a => propext (far0 a)
    have env : EnvOk ⟨K, z, none, H, own, E, W, cl, T⟩ ⟨[], []⟩ (L2.start N vs) H (startD N.length args) := by
      refine ⟨start_len (n := 0) r.length, fun a o e _ _ => e, ht, fun a f => hz a ((far0 a).mp f), fun i d e hi => ?_, fun i d e hi => ?_, fun i hi e => ?_, fun i j l hi _ e _ => ?_, fun b e => (nomatch e), fun p hp => (nomatch hp), fun p hp => (nomatch hp)⟩
      · rw [farE]
        exact (start_get r e).2
      · have := (start_get r e).1
        rw [hl] at this
        exact (nown i this hi).elim
      · refine start_none r.length (Nat.le_of_not_lt fun h => ?_) e
        rw [hl] at h
        exact (nown i h hi).elim
      · have := start_some e
        rw [← r.length, hl] at this
        exact (nown i this hi).elim
    refine hs z H W (fun x H' g tb w => hE x H' ⟨fun a o e pn => g a o e pn (fun z => nomatch z), fun _ => tb⟩ w) ⟨[], []⟩ _ H _ _ _ env (spec args P' W hl hF) (fun σ' H' ρ' h' p => hQ .non .non H' ⟨fun a o e pn => h'.frame a o e pn (fun z => nomatch z), fun _ => h'.tabs⟩ .non p) (fun v d σ' H' ρ' h' r' p => ?_) (fun _ _ _ _ z => z.elim) (fun _ _ _ _ z => z.elim)
    have g : Gr T H H' := ⟨fun a o e pn => h'.frame a o e pn (fun z => nomatch z), fun _ => h'.tabs⟩
    have toZ : ∀ a o, ¬ Far ⟨K, z, none, H, own, E, W, cl, T⟩ ⟨[], []⟩ σ' a → H' a = some o → Pn o → ¬ z a ∧ H' a = some o := fun a o na e _ => ⟨fun f => na (.inl f), e⟩
    rcases r' with r' | ⟨i, rfl, hi, e⟩
    · have ed : retD ρ' d = d := by
        cases d with
        | own i => cases r'
        | _ => rfl
      have p : P' (retD ρ' d) := p
      rw [ed] at p
      exact hQ v d H' g (r'.move toZ) p
    · cases hd : ρ'[i]? with
      | none =>
        have l1 := List.getElem?_eq_none_iff.mp hd
        have l2 := (List.getElem?_eq_some_iff.mp e).1
        have := h'.len
        omega
      | some o => cases o with
        | none =>
          have := h'.ownn i hi hd
          rw [e] at this; cases this
        | some d =>
          have ed : retD ρ' (.own i) = d := by unfold retD deref; simp only [hd]
          have p : P' (retD ρ' (.own i)) := p
          rw [ed] at p
          obtain ⟨l, e1, ⟨o, ho, x⟩, bz⟩ := h'.ownv i d hd hi
          rw [e] at e1; cases e1
          have h0 : ∀ o, H l = some o → Pn o → False := bz.resolve_left (fun z => nomatch z)
          have nz : ¬ z l := fun f => by
            obtain ⟨o, eo, pn⟩ := hz l f
            exact h0 o eo pn
          cases d with
          | lst xs =>
            obtain ⟨vs', rfl, rs⟩ := x
            exact hQ _ _ H' g (.lst nz ho (rs.move toZ)) p
          | dct ks xs =>
            obtain ⟨vs', rfl, le, rs⟩ := x
            exact hQ _ _ H' g (.dct nz ho le (rs.move toZ)) p
          | _ => exact False.elim x

theorem fn_pure (F : Fun K x qual st f fd) (S : FnScope N ps (defScope st)) (own : Nat → Bool) (hown : ∀ i, i < ps.length → own i = false) {Fs : FP} (ds : (Ex → Prop) → DS)
    (body : ∀ (cdv : Value) (A : Around) (outer : List PySem.Env) (s : Shared) (H : Hp) (E : L2.XK), Room k (A.deeper (envOfC qual (defScope st) s.heap.objs.size f cdv)) →
      ∃ ts, PSs (cxOf (L2N.CX P w) P w K mg base N qual (defScope st) f cdv A outer s H E) (defBody st) ts ∧ ∀ z h0 dw, TakesE ⟨K, z, none, h0, own, E, dw, cl, T⟩ E dw → SS ⟨K, z, none, h0, own, E, dw, cl, T⟩ ts (ds dw))
    (spec : ∀ args P W, args.length = ps.length → Fs args P W → ds W ⟨fun _ => P .non, fun d ρ => P (retD ρ d), fun _ => False, fun _ => False⟩ (startD N.length args)) :
    FnOk P w K mg base (L2N.CX P w) (k + 1) f fd ps (spP K cl T ps.length Fs) := by
  exact Fun.okN F S (fun vs H Q E h => pure_len h) (fun cdv A outer s H vs Q E hr h => by
    obtain ⟨ts, hts, hs⟩ := body cdv A outer s H E hr
    exact ⟨ts, hts, pure_run own hown hs spec h⟩)

/-- .. whose first argument is changed -/
theorem box_len {Fs : FB} {n : Nat} {vs : List V} {H : Hp} {Q : VK} {E : L2.XK} (h : spB K cl T n Fs vs H Q E) : vs.length = n := by
  obtain ⟨z, b, bx, args, ws, P, W, rfl, hl, hz, _, hz2, ob, r, _⟩ := h
  rw [List.length_cons, ← r.length]; exact hl
theorem box_run (own : Nat → Bool) (hown : ∀ i, i < ps.length → own i = (i == 0)) (h0 : 0 < ps.length) {Fs : FB} {ds : (Ex → Prop) → DS} {ts : TS} {E : L2.XK} {vs : List V} {H : Hp} {Q : VK}
    (hs : ∀ z b h0 dw, TakesE ⟨K, z, some b, h0, own, E, dw, cl, T⟩ E dw → SS ⟨K, z, some b, h0, own, E, dw, cl, T⟩ ts (ds dw))
    (spec : ∀ bx args P W, args.length + 1 = ps.length → Fs (bx :: args) P W → ds W ⟨fun ρ => ∃ b, ρ[0]? = some (some b) ∧ P .non b, fun d ρ => ∃ b, ρ[0]? = some (some b) ∧ NotOwn d ∧ P d b, fun _ => False, fun _ => False⟩ (startD N.length (bx :: args)))
    (h : spB K cl T ps.length Fs vs H Q E) : ts { nx := fun _ H' => Q .non H', rt := Q } (L2.start N vs) H := by
    obtain ⟨z, b, bx, args, ws, P', W, rfl, hl, hzb, ht, hz, ob, r, hF, hQ, hE⟩ := h
    have own0 : own 0 = true := hown 0 h0
    have ownS : ∀ i, 0 < i → i < ps.length → own i = false := fun i h1 h2 => by
      rw [hown i h2]
      cases i with
      | zero => exact absurd h1 (Nat.lt_irrefl _)
      | succ i => rfl
    have nownS : ∀ i, 0 < i → i < ps.length → own i = true → False := fun i h1 h2 e => by rw [ownS i h1 h2] at e; cases e
    have hlen : (bx :: args).length = (V.ref b :: ws).length := by rw [List.length_cons, List.length_cons, r.length]
    have s0 : (L2.start N (V.ref b :: ws))[0]? = some (some (.ref b)) := rfl
    have d0 : (startD N.length (bx :: args))[0]? = some (some bx) := rfl
    have own_only : ∀ i v, own i = true → (L2.start N (V.ref b :: ws))[i]? = some (some v) → i = 0 := fun i v hi e => by
      have := start_some e
      rw [← hlen, List.length_cons, hl] at this
      by_cases z : 0 < i
      · rw [ownS i z this] at hi; cases hi
      · omega
    have far0 : ∀ a, Far ⟨K, z, some b, H, own, E, W, cl, T⟩ ⟨[], []⟩ (L2.start N (V.ref b :: ws)) a ↔ z a := fun a => by
      constructor
      · rintro (f | ⟨o, f⟩ | ⟨i, hi, e⟩)
        · exact f
        · cases f
        · have := own_only i _ hi e
          subst this
          rw [s0] at e; cases e
          exact hzb
      · exact .inl
    have farE : Far ⟨K, z, some b, H, own, E, W, cl, T⟩ ⟨[], []⟩ (L2.start N (V.ref b :: ws)) = z := funext fun a => propext (far0 a)
    -- the arguments behind the first
    have argS : ∀ i d, (startD N.length (bx :: args))[i + 1]? = some (some d) → i < args.length ∧ ∃ v, (L2.start N (V.ref b :: ws))[i + 1]? = some (some v) ∧ Rp K z H d v := fun i d e => by
      unfold startD at e
      have e : (args.map some ++ List.replicate (N.length - (bx :: args).length) none)[i]? = some (some d) := e
      by_cases h : i < args.length
      · rw [List.getElem?_append_left (by rw [List.length_map]; exact h), List.getElem?_map] at e
        cases e1 : args[i]? with
        | none => rw [e1] at e; cases e
        | some d1 =>
          rw [e1] at e
          cases e
          obtain ⟨v, e2, r2⟩ := r.got e1
          refine ⟨h, v, ?_, r2⟩
          unfold L2.start
          show (ws.map some ++ List.replicate (N.length - (V.ref b :: ws).length) none)[i]? = some (some v)
          rw [List.getElem?_append_left (by rw [List.length_map, ← r.length]; exact h), List.getElem?_map, e2]; rfl
      · rw [List.getElem?_append_right (by rw [List.length_map]; omega)] at e
        have := List.eq_of_mem_replicate (List.mem_of_getElem? e)
        cases this
    have env : EnvOk ⟨K, z, some b, H, own, E, W, cl, T⟩ ⟨[], []⟩ (L2.start N (V.ref b :: ws)) H (startD N.length (bx :: args)) := by
      refine ⟨start_len (n := 0) hlen, fun a o e _ _ => e, ht, fun a f => hz a ((far0 a).mp f), fun i d e hi => ?_, fun i d e hi => ?_, fun i hi e => ?_, fun i j l hi hj e1 e2 => (own_only i _ hi e1).trans (own_only j _ hj e2).symm, fun b' e => ?_, fun p hp => (nomatch hp), fun p hp => (nomatch hp)⟩
      · rw [farE]
        cases i with
        | zero => exact absurd (own0.symm.trans hi) (by decide)
        | succ i => exact (argS i d e).2
      · rw [farE]
        cases i with
        | zero =>
          rw [d0] at e; cases e
          exact ⟨b, s0, ob, .inl rfl⟩
        | succ i =>
          have := (argS i d e).1
          exact (nownS (i + 1) (Nat.succ_pos _) (by omega) hi).elim
      · cases i with
        | zero => rw [d0] at e; cases e
        | succ i =>
          refine start_none hlen (Nat.le_of_not_lt fun h => ?_) e
          rw [List.length_cons] at h
          exact (nownS (i + 1) (Nat.succ_pos _) (by omega) hi).elim
      · cases e
        exact ⟨own0, s0⟩
    have fin : ∀ (σ' : L2.St) (H' : Hp) (ρ' : Env) (d : D) (v : V) (bx' : D), EnvOk ⟨K, z, some b, H, own, E, W, cl, T⟩ ⟨[], []⟩ σ' H' ρ' → ρ'[0]? = some (some bx') → Rp K z H' d v → P' d bx' → Q v H' := fun σ' H' ρ' d v bx' h' e0 r' p => by
      obtain ⟨l, e1, x1, _⟩ := h'.ownv 0 bx' e0 own0
      obtain ⟨_, e2⟩ := h'.bx b rfl
      rw [e1] at e2; cases e2
      have toZ : ∀ a o, ¬ Far ⟨K, z, some b, H, own, E, W, cl, T⟩ ⟨[], []⟩ σ' a → H' a = some o → Pn o → ¬ z a ∧ H' a = some o := fun a o na e _ => ⟨fun f => na (.inl f), e⟩
      exact hQ v d bx' H' (fun a o e pn n => h'.frame a o e pn fun z => n (Option.some.inj z).symm) h'.tabs r' (x1.move (fun _ q _ => q) toZ) p
    refine hs z b H W (fun x H' g tb w => hE x H' (fun a o e pn n => g a o e pn fun z => n (Option.some.inj z).symm) tb w) ⟨[], []⟩ _ H _ _ _ env (spec bx args P' W hl hF) (fun σ' H' ρ' h' ⟨b', e0, p⟩ => fin σ' H' ρ' .non .non b' h' e0 .non p) (fun v d σ' H' ρ' h' r' p => ?_) (fun _ _ _ _ z => z.elim) (fun _ _ _ _ z => z.elim)
    obtain ⟨b', e0, nd, p⟩ := p
    have r2 := r'.rp nd
    exact fin σ' H' ρ' d v b' h' e0 (r2.move fun a o na e _ => ⟨fun f => na (.inl f), e⟩) p
theorem fn_box (F : Fun K x qual st f fd) (S : FnScope N ps (defScope st)) (own : Nat → Bool) (hown : ∀ i, i < ps.length → own i = (i == 0)) (h0 : 0 < ps.length) {Fs : FB} (ds : (Ex → Prop) → DS)
    (body : ∀ (cdv : Value) (A : Around) (outer : List PySem.Env) (s : Shared) (H : Hp) (E : L2.XK), Room k (A.deeper (envOfC qual (defScope st) s.heap.objs.size f cdv)) →
      ∃ ts, PSs (cxOf (L2N.CX P w) P w K mg base N qual (defScope st) f cdv A outer s H E) (defBody st) ts ∧ ∀ z b h0 dw, TakesE ⟨K, z, some b, h0, own, E, dw, cl, T⟩ E dw → SS ⟨K, z, some b, h0, own, E, dw, cl, T⟩ ts (ds dw))
    (spec : ∀ bx args P W, args.length + 1 = ps.length → Fs (bx :: args) P W → ds W ⟨fun ρ => ∃ b, ρ[0]? = some (some b) ∧ P .non b, fun d ρ => ∃ b, ρ[0]? = some (some b) ∧ NotOwn d ∧ P d b, fun _ => False, fun _ => False⟩ (startD N.length (bx :: args))) :
    FnOk P w K mg base (L2N.CX P w) (k + 1) f fd ps (spB K cl T ps.length Fs) := by
  exact Fun.okN F S (fun vs H Q E h => box_len h) (fun cdv A outer s H vs Q E hr h => by
    obtain ⟨ts, hts, hs⟩ := body cdv A outer s H E hr
    exact ⟨ts, hts, box_run own hown h0 hs spec h⟩)
end
end PD

end
section
set_option Elab.async false
set_option linter.all false
set_option maxRecDepth 100000
namespace PD
open PySem PySem.Spec PyProof.Rows L2 RZ

abbrev subP := i2' fun i j => D.int (i - j)
abbrev mulP := i2 MulOk fun i j => D.int (i * j)
abbrev divP := i2 DivOk fun i j => D.int (i / j)
abbrev divNP := i2 CDivN fun i j => D.int (i.fdiv j)
abbrev modP := i2 (fun _ j => 0 < j) fun i j => D.int (i % j)
abbrev shlP := i2 CPow fun i j => D.int (i * 2 ^ j.toNat)
abbrev powP := i2 CPow fun i j => D.int (i ^ j.toNat)
abbrev negP := u1 fun i => D.int (-i)
abbrev ltP := i2' fun i j => D.bl (decide (i < j))
abbrev leP := i2' fun i j => D.bl (decide (i ≤ j))
abbrev gtP := i2' fun i j => D.bl (decide (j < i))
abbrev geP := i2' fun i j => D.bl (decide (j ≤ i))
theorem units65 {k : Nat} {A : Around} (hr : Room k A) : A.units + 65 < cLine := by
  have := hr.un
  omega

section
variable {c : C0} {t : Tm} {σ : L2.St} {H H' : Hp} {ρ : Env}
variable {te ta tb tc : TE} {de da db dc : DE} {tt tu : TT} {dt du : DT} {ts tv : TS} {ds dv : DS}
theorem se_if (ht : ST c tt dt) (ha : SE c ta da) (hb : SE c tb db) : SE c (tIf tt ta tb) (dIf dt da db) := fun t σ H ρ P Q h q k =>
  ht t σ H ρ _ _ h q fun b H1 ρ1 h1 q1 => by
    cases b with
    | true => exact (if_pos rfl).mpr (ha t σ H1 ρ1 _ _ h1 q1 k)
    | false => exact (if_neg (fun z => by cases z)).mpr (hb t σ H1 ρ1 _ _ h1 q1 k)
/-- raise -/
def dRaise (W : Ex → Prop) (x : Ex) : DS := fun _ _ => W x
theorem ss_raise (x : Ex) {E : L2.XK} {W : Ex → Prop} (he : TakesE c E W) : SS c (fun _ σ H => E (.ref (c.cl x)) none H) (dRaise W x) := fun t σ H ρ De En h q n r b k => he x H h.frame h.tabs q
/-- n.bit_length() -/
def dBits (a : DE) : DE := fun ρ P => a ρ fun d ρ1 => match d with
  | .int i => P (.int (Builtin.Int.intBits i : Nat)) ρ1
  | _ => False
theorem sv_bits (ha : SV c ta da) : SV c (tBits ta) (dBits da) := fun t σ H ρ P Q h q k =>
  ha t σ H ρ _ _ h q fun v d H1 ρ1 h1 r1 q1 => by
    cases d with
    | int i => cases r1; exact ⟨i, rfl, k _ _ H1 ρ1 h1 (.int _) q1⟩
    | _ => exact False.elim q1
/-- is True, is False, of bools -/
def isBP (_ : Env) (x y : D) (k : D → Prop) : Prop := match x, y with
  | .bl a, .bl b => k (.bl (decide (a = b)))
  | _, _ => False
def notBP (_ : Env) (x y : D) (k : D → Prop) : Prop := match x, y with
  | .bl a, .bl b => k (.bl (!decide (a = b)))
  | _, _ => False
theorem sr_isB : SR2 c rIsB isBP := fun t σ H ρ x y dx dy P Q h rx ry q k => by
  cases dx with
  | bl a => cases dy with
    | bl b => exact ⟨a, b, rx.bl, ry.bl, k _ _ H h (.bl _) q⟩
    | _ => exact False.elim q
  | _ => exact False.elim q
theorem sr_notB : SR2 c rNotB notBP := fun t σ H ρ x y dx dy P Q h rx ry q k => by
  cases dx with
  | bl a => cases dy with
    | bl b => exact ⟨a, b, rx.bl, ry.bl, k _ _ H h (.bl _) q⟩
    | _ => exact False.elim q
  | _ => exact False.elim q
/-- in a tuple -/
def inTP (ρ : Env) (x y : D) (k : D → Prop) : Prop := match y with
  | .tup ys => okN 60 (deref ρ x) = true ∧ okNs 59 ys = true ∧ k (.bl (ys.any fun z => eqD z (deref ρ x)))
  | _ => False
def niTP (ρ : Env) (x y : D) (k : D → Prop) : Prop := match y with
  | .tup ys => okN 60 (deref ρ x) = true ∧ okNs 59 ys = true ∧ k (.bl (!ys.any fun z => eqD z (deref ρ x)))
  | _ => False
theorem sr_inT : SR2 c (rInT c.K) inTP := fun t σ H ρ x y dx dy P Q h rx ry q k => by
  cases dy with
  | tup ys =>
    obtain ⟨q1, o, q2⟩ := q
    obtain ⟨a, vs, rfl, _, ha, r⟩ := (ry.rp trivial).seqT
    have o2 : okN 60 (.tup ys) = true := by rw [okN]; exact o
    have e : toPy (.tup ys) = .tuple (toPys ys) := by rw [toPy]
    refine ⟨_, toPys ys, rx.dp h q1, .tup (.of ha) (r.dp o), okN_shaped (by decide) q1, by rw [← e]; exact okN_shaped (by decide) o2, ?_⟩
    rw [any_ds]
    exact k _ _ H h (.bl _) q2
  | _ => exact False.elim q
theorem sr_niT : SR2 c (rNotInT c.K) niTP := fun t σ H ρ x y dx dy P Q h rx ry q k => by
  cases dy with
  | tup ys =>
    obtain ⟨q1, o, q2⟩ := q
    obtain ⟨a, vs, rfl, _, ha, r⟩ := (ry.rp trivial).seqT
    have o2 : okN 60 (.tup ys) = true := by rw [okN]; exact o
    have e : toPy (.tup ys) = .tuple (toPys ys) := by rw [toPy]
    refine ⟨_, toPys ys, rx.dp h q1, .tup (.of ha) (r.dp o), okN_shaped (by decide) q1, by rw [← e]; exact okN_shaped (by decide) o2, ?_⟩
    rw [any_ds]
    exact k _ _ H h (.bl _) q2
  | _ => exact False.elim q

end
end PD
/-! the rules that name the written part, K by name -/
namespace L2
open PySem PySem.Spec PyProof.Rows RZ
section
variable {X : Cx} {K : PySem.W.Frag}
theorem op_add4K (h : X.K = K) : OpR X (binaryOp .Add) (PD.rAdd4 K) := h ▸ PD.op_add4
theorem op_eqDK (h : X.K = K) (hu : X.A.units + 64 < cLine) : OpR X (compareOp .Eq) (rEqD K) := h ▸ op_eqD hu
theorem op_neDK (h : X.K = K) (hu : X.A.units + 64 < cLine) : OpR X (compareOp .NotEq) (rNeD K) := h ▸ op_neD hu
theorem op_inDK (h : X.K = K) (hu : X.A.units + 65 < cLine) : OpR X (compareOp .In) (rInD K) := h ▸ op_inD hu
theorem op_notInDK (h : X.K = K) (hu : X.A.units + 65 < cLine) : OpR X (compareOp .NotIn) (rNotInD K) := h ▸ op_notInD hu
theorem op_inTK (h : X.K = K) (hu : X.A.units + 65 < cLine) : OpR X (compareOp .In) (PD.rInT K) := h ▸ PD.op_inT hu
theorem op_notInTK (h : X.K = K) (hu : X.A.units + 65 < cLine) : OpR X (compareOp .NotIn) (PD.rNotInT K) := h ▸ PD.op_notInT hu
theorem ix_seqK (h : X.K = K) : IxR X (rIx K) := h ▸ ix_seq
def rSl2 (K : PySem.W.Frag) : V → Option Int → Option Int → Hp → VK → Prop := fun x lo hi H Q => rSlA K x lo hi H Q ∨ rSlL K x lo hi H Q
theorem sl_K (h : X.K = K) : SlR X (rSl2 K) := h ▸ SlR.or sl_tupA sl_list
def rLenK (K : PySem.W.Frag) : List V → Hp → VK → Prop := fun xs H Q => ∃ p ys, xs = [.ref p] ∧ (SqL K H p ys ∨ SqT K H p ys) ∧ Q (.int ys.length) H
theorem call_lenK (h : X.K = K) : CallR X (.builtin "len") (rLenK K) := h ▸ call_len_seq
def rListK (K : PySem.W.Frag) : List V → Hp → VK → Prop := fun xs H Q => ∃ p ys, xs = [.ref p] ∧ (SqL K H p ys ∨ SqT K H p ys) ∧ ∀ l, H l = none → Q (.ref l) (upd H l (.lst ys))
theorem call_listK (h : X.K = K) : CallR X (.type "list") (rListK K) := h ▸ call_list_of
theorem cr_sumK (h : X.K = K) (hc : X.calm = true) : CallR X (.builtin "sum") (rSum K) := h ▸ cr_sum hc
theorem cr_allK (h : X.K = K) (hc : X.calm = true) : CallR X (.builtin "all") (rAll K) := h ▸ cr_all hc
theorem cr_anyK (h : X.K = K) (hc : X.calm = true) : CallR X (.builtin "any") (rAny K) := h ▸ cr_any hc
theorem call_isi_K (h : X.K = K) : CallR X (.builtin "isinstance") (rIsi K) := h ▸ call_isi
theorem pe_tupleK {a : Expr} {ta : TE} {p pos : Pos} (h : X.K = K) (hg : Gl X "tuple") (hm : X.mg "tuple" = none) (ha : PE X a ta) (na : starEach [a] X.env = (false, eval a X.env) :: starEach [] X.env := by rfl) :
    PE X (.Call (.Name "tuple" p) [a] [] pos) (tThen ta (kTup K)) := h ▸ pe_tupleOf hg hm ha na
theorem pi_seqK {tg l : Expr} {tl : TE} (h : X.K = K) (hl : PE X l tl) : PI X tg l (iSeq K tl) := h ▸ pi_seq hl
theorem pi_zipK {e e2 : Expr} {ta : TA} {p pos tpos : Pos} {elts : List Expr} {kk : Nat} (h : X.K = K) (hg : Gl X "zip") (hm : X.mg "zip" = none) (ha : PA X [e, e2] ta)
    (hs : starEach [e, e2] X.env = (false, eval e X.env) :: starEach [e2] X.env := by rfl) (hpl : (backTo pos (starEach [e2] X.env)).any (·.1) = false := by rfl) :
    PI X (.Tuple elts kk tpos) (.Call (.Name "zip" p) [e, e2] [] pos) (iZipA K ta) := h ▸ pi_zipA hg hm ha hs hpl
theorem pg_tupK {es : List Expr} {k : Nat} {t : TGs} {n : Nat} {pos : Pos} (h0 : X.K = K) (hc : X.calm = true) (h : PGs X es t)
    (hn : (assignEach es X.env).length = n := by rfl) (hst : (assignEach es X.env).findIdx? (·.1) = none := by rfl) : PG X (.Tuple es k pos) (gTup K n t) := h0 ▸ pg_tup hc h hn hst
theorem pe_appK {o e : Expr} {to te : TE} {apos cpos : Pos} (h : X.K = K) (ho : PE X o to) (he : PE X e te) (hbase : attributeBase o "append" X.env (eval o X.env) = eval o X.env := by rfl)
    (hfew : ((backTo cpos (starEach [e] X.env)).all (fun x => !x.1) && (backToKw cpos (keywordEach [] X.env)).all (fun x => x.1.isSome)
      && decide (([e] : List Expr).length + ([] : List Keyword).length + (if ([] : List Keyword).isEmpty then 0 else 1) < 30)) = true := by rfl)
    (hline : (apos.endLine == cpos.line) = true := by rfl) (hs : starEach [e] X.env = (false, eval e X.env) :: starEach [] X.env := by rfl) (hplain : (backTo cpos (starEach [] X.env)).any (·.1) = false := by rfl) :
    PE X (.Call (.Attribute o "append" apos) [e] [] cpos) (tBM K "list" rAppend to (tCons te tNil)) := by
  subst h
  exact pe_bm PySem.F.plainAttrs_list PySem.F.slot_list_append PySem.F.type_list_append mt_append ho (pa_cons he pa_nil hs) hbase hfew hline hs hplain
end
end L2
namespace PD
open PySem PySem.Spec PyProof.Rows L2 RZ
section
variable {c : C0} {ta : TE} {da : DE}
theorem sr_len : SRL c (rLenK c.K) lenP := sr_len0
theorem sr_list : SRL c (rListK c.K) listP := sr_list0
theorem sv_sl {tl th : TO} {dl dh : DO} (ha : SE c ta da) (hl : SO c tl dl) (hh : SO c th dh) : SV c (tSl (rSl2 c.K) ta tl th) (dSl da dl dh) := sv_sl0 ha hl hh
theorem sf_list (ha : SE c ta da) : SF c (tCB (rListK c.K) (tCons ta tNil)) (dCB listP (dCons da dNil)) := sf_list0 ha
end
end PD
namespace PD
open PySem PySem.Spec PyProof.Rows L2
theorem bt_len : bootBuiltins "len" = some (.builtin "len") := by decide +kernel
theorem bt_abs : bootBuiltins "abs" = some (.builtin "abs") := by decide +kernel
theorem bt_max : bootBuiltins "max" = some (.builtin "max") := by decide +kernel
theorem bt_min : bootBuiltins "min" = some (.builtin "min") := by decide +kernel
theorem bt_sum : bootBuiltins "sum" = some (.builtin "sum") := by decide +kernel
theorem bt_all : bootBuiltins "all" = some (.builtin "all") := by decide +kernel
theorem bt_any : bootBuiltins "any" = some (.builtin "any") := by decide +kernel
theorem bt_isinstance : bootBuiltins "isinstance" = some (.builtin "isinstance") := by decide +kernel
theorem bt_sorted : bootBuiltins "sorted" = some (.builtin "sorted") := by decide +kernel
theorem bt_repr : bootBuiltins "repr" = some (.builtin "repr") := by decide +kernel
theorem bt_int : bootBuiltins "int" = some (.type "int") := by decide +kernel
theorem bt_str : bootBuiltins "str" = some (.type "str") := by decide +kernel
theorem bt_bool : bootBuiltins "bool" = some (.type "bool") := by decide +kernel
theorem bt_list : bootBuiltins "list" = some (.type "list") := by decide +kernel
theorem bt_tuple : bootBuiltins "tuple" = some (.type "tuple") := by decide +kernel
theorem bt_set : bootBuiltins "set" = some (.type "set") := by decide +kernel
theorem bt_range : bootBuiltins "range" = some (.type "range") := by decide +kernel
theorem bt_zip : bootBuiltins "zip" = some (.type "zip") := by decide +kernel
theorem bt_enumerate : bootBuiltins "enumerate" = some (.type "enumerate") := by decide +kernel
end PD

end
section
set_option Elab.async false
set_option linter.all false
set_option maxRecDepth 100000
/-! sorted of a list or a tuple of alike data -/
namespace PD
open PySem PySem.Spec PyProof.Rows L2 RZ PySem.W

theorem each_of_vals {H : Hp} {h : Heap} : ∀ {bs : List (V × PyData)} {its : List Value}, Vals (bs.map (·.1)) its → EachIs (fun v b => RelV b.1 v) its bs
  | [], _, .nil => .nil
  | _ :: _, _, .cons a r => .cons a (each_of_vals (H := H) (h := h) r)
theorem vals_of_each : ∀ {bs : List (V × PyData)} {its : List Value}, EachIs (fun v b => RelV b.1 v) its bs → Vals (bs.map (·.1)) its
  | _, _, .nil => .nil
  | _, _, .cons a r => .cons a (vals_of_each r)
theorem each_reads {X : Cx} {pins : List (Addr × Obj)} {σ : L2.St} {H : Hp} {s : Shared} (I : Inv X pins σ H s) : ∀ {bs : List (V × PyData)} {its : List Value}, (∀ b ∈ bs, Dp X.K H b.1 b.2) → Vals (bs.map (·.1)) its → EachIs (fun v b => ∃ as, Reads s.heap v b.2 as) its bs
  | [], _, _, .nil => .nil
  | b :: bs, _, hd, .cons a r => .cons (Dp.reads I b.2 b.1 _ (hd b List.mem_cons_self) a) (each_reads I (fun c hc => hd c (List.mem_cons_of_mem _ hc)) r)

def rSortX (K : PySem.W.Frag) : List V → Hp → VK → Prop := fun vs H Q => ∃ (a : Addr) (bs : List (V × PyData)), vs = [V.ref a] ∧ (SqL K H a (bs.map (·.1)) ∨ SqT K H a (bs.map (·.1))) ∧ (∀ b ∈ bs, Dp K H b.1 b.2) ∧ AllAlike (bs.map (·.2)) ∧ Sortable (bs.map (·.2)) ∧ (∀ b ∈ bs, b.2.depth ≤ 60) ∧
  ∀ p, H p = none → Q (.ref p) (upd H p (.lst ((bs.mergeSort (dataLe false (·.2))).map (·.1))))
section
variable {X : Cx}
theorem sort_of_collected {pins : List (Addr × Obj)} {σ : L2.St} {H : Hp} {s : Shared} {a : Addr} {bs : List (V × PyData)} {Q : VK} (hu : X.A.units + 65 < cLine) (I : Inv X pins σ H s) (hc : ∀ (Q : List Value → Shared → Prop) (E : Value → Shared → Prop),
    (∀ h' (out : List Value), (∀ b o, s.heap.get? b = some o → h'.get? b = some o) → Vals (bs.map (·.1)) out → Q out { s with heap := h' }) → wpAny (model X.prog X.w) X.A.in1 (collect (.ref a)) Q E s)
    (hd : ∀ b ∈ bs, Dp X.K H b.1 b.2) (hal : AllAlike (bs.map (·.2))) (hk : Sortable (bs.map (·.2))) (hL : bs.length ≤ sizeLine) (hdp : ∀ b ∈ bs, b.2.depth ≤ 60)
    (q : ∀ p, H p = none → Q (.ref p) (upd H p (.lst ((bs.mergeSort (dataLe false (·.2))).map (·.1))))) :
    wpAny (model X.prog X.w) X.A (call (.builtin "sorted") [.ref a]) (EP X pins σ Q) X.xe s := by
  refine Calls.call_function_entry PyProof.Rows.kind_sorted PyProof.Rows.plain_sorted PyProof.Rows.entry_sorted (PyProof.Rows.args_sorted1 _) ?_
  unfold Builtin.«sorted»
  refine wpAny_bind (m := checkCount "sorted" 1 1 _) (wpAny_pure ?_)
  refine wpAny_bind (hc _ _ fun h' its hk' rv => ?_)
  have I1 : Inv X pins σ H { s with heap := h' } := I.kept (t' := s.toks) hk'
  have e : EachIs (fun v (b : V × PyData) => RelV b.1 v) its bs := each_of_vals (H := H) (h := h') rv
  have er := each_reads I1 hd rv
  have hl : its.length = bs.length := by rw [← rv.length, List.length_map]
  refine wpAny_bind (wpAny_newList ?_ (by rw [hl]; exact hL))
  have hoL : (h'.push (seqObj "list" its.toArray 0)).get? h'.objs.size = some (seqObj "list" its.toArray 0) := Heap.get?_push_size _ rfl
  show wpAny _ _ _ _ _ { s with heap := h'.push (seqObj "list" its.toArray 0) }
  have old : ∀ b o, h'.get? b = some o → (sortingHeap (h'.push (seqObj "list" its.toArray 0)) h'.objs.size its).get? b = some o := fun b o q =>
    sortingHeap_old (Nat.ne_of_lt (Heap.lt_size q)) (Heap.get?_push_of_some _ q)
  have er' : EachIs (fun v b => ∃ as, Reads (sortingHeap (h'.push (seqObj "list" its.toArray 0)) h'.objs.size its) v b.2 as) its bs := er.mono fun _ _ ⟨as, r⟩ => ⟨as, PyProof.Rows.Reads.keeps old r⟩
  refine wpAny_bind (wpAny_holding (wpAny_call_entry PyProof.Rows.slot_list_sort ⟨_, hoL, rfl⟩ PyProof.Rows.entry_list_sort
    (list_sort_vals (κ := dataKind (sortingHeap (h'.push (seqObj "list" its.toArray 0)) h'.objs.size its) (bs.map (·.2))) (s := { s with heap := h'.push (seqObj "list" its.toArray 0) }) hoL
      (SortsAt.data (s := { s with heap := sortingHeap (h'.push (seqObj "list" its.toArray 0)) h'.objs.size its }) (each_map (R := fun v d => ∃ as, Reads (sortingHeap (h'.push (seqObj "list" its.toArray 0)) h'.objs.size its) v d as) (fun b : V × PyData => b.2) er') hal hk (fun d hd' => ?_)) (by rw [hl]; exact hL) ⟨_, rfl, ?_⟩)
    (PyProof.Rows.args_list_sort _)))
  · obtain ⟨b, hb, rfl⟩ := List.mem_map.mp hd'
    have := hdp b hb
    have hu' : X.A.in1.in1.units ≤ X.A.units + 2 := Nat.le_refl _
    omega
  · have eo := sortVals_data (enc := fun b : V × PyData => b.2) false e er' hal
    obtain ⟨ep, he'⟩ := PyProof.Rows.sortedHeap_at (vs := its) (out := (sortVals (dataKind (sortingHeap (h'.push (seqObj "list" its.toArray 0)) h'.objs.size its) (bs.map (·.2))) false its its).toArray) hoL
    refine wpAny_pure ⟨_, rfl, .ref h'.objs.size, upd H h'.objs.size (.lst ((bs.mergeSort (dataLe false (·.2))).map (·.1))), I1.laid (t' := s.toks) (fun b u e => ?_) (Nat.le_refl _)
      (show ObjOk X.prog X.w _ _ _ (.lst _) from ⟨by rw [List.length_map, List.length_mergeSort]; exact hL, _, ep, vals_of_each eo, he'⟩), rfl, q _ (I1.hok.fresh (Nat.le_refl _))⟩
    have hb : b < h'.objs.size := Heap.lt_size e
    rw [PyProof.Rows.sortedHeap_old (Nat.ne_of_lt hb) (by rw [size_push']; exact Nat.lt_succ_of_lt hb)]
    exact Heap.get?_push_of_some _ e
theorem cr_sortX (hu : X.A.units + 65 < cLine) : CallR X (.builtin "sorted") (rSortX X.K) := by
  intro pins s σ H vs us Q I r h
  obtain ⟨a, bs, rfl, hs, hd, hal, hk, hdp, q⟩ := h
  rw [Vals.ref1 r]
  rcases hs with hs | hs
  · obtain ⟨its, rv, hl, hz⟩ := I.list hs
    rw [List.length_map] at hz
    obtain ⟨o, n, ho, hc, _, hdt⟩ := hl
    refine sort_of_collected hu I (fun Q E k => ?_) hd hal hk hz hdp q
    refine wpAny_collect_seq a (.inl rfl) ho hc hdt (fun h' hk' => k h' _ hk' (by simpa using rv)) (by rw [List.size_toArray, ← rv.length, List.length_map]; exact hz)
  · obtain ⟨its, rv, hl, hz⟩ := I.tuple hs
    rw [List.length_map] at hz
    obtain ⟨o, ho, hc, n, hdt⟩ := hl
    refine sort_of_collected hu I (fun Q E k => ?_) hd hal hk hz hdp q
    refine wpAny_collect_seq a (.inr rfl) ho hc hdt (fun h' hk' => k h' _ hk' (by simpa using rv)) (by rw [List.size_toArray, ← rv.length, List.length_map]; exact hz)
theorem cr_sortedK {K : PySem.W.Frag} (h : X.K = K) (hu : X.A.units + 65 < cLine) : CallR X (.builtin "sorted") (rSortX K) := h ▸ cr_sortX hu
end

/-! ### over data -/
/-- d stands before e, or is alike in the order -/
def leD (d e : D) : Prop := dataLt (toPy e) (toPy d) = false
def SortOk (xs : List D) : Prop := okNs 59 xs = true ∧ AllAlike (toPys xs) ∧ Sortable (toPys xs)
def sortedP (ρ : Env) (xs : List D) (k : D → Prop) : Prop := match xs with
  | [x] => onS ρ x fun ds => SortOk ds ∧ ∀ es, es.Perm ds → es.Pairwise leD → k (.lst es)
  | _ => False
theorem toPys_map : ∀ ds : List D, toPys ds = ds.map toPy
  | [] => by rw [toPys]; rfl
  | d :: ds => by rw [toPys, toPys_map ds]; rfl
theorem rp_zip {K : PySem.W.Frag} {A : Addr → Prop} {H : Hp} : ∀ {ds : List D} {vs : List V}, RpL K A H ds vs → (vs.zip ds).map (·.1) = vs ∧ (vs.zip ds).map (·.2) = ds ∧ ∀ b ∈ vs.zip ds, Rp K A H b.2 b.1
  | [], [], .nil => ⟨rfl, rfl, fun b hb => by cases hb⟩
  | d :: ds, v :: vs, .cons a r => by
    obtain ⟨h1, h2, h3⟩ := rp_zip r
    refine ⟨by simp [h1], by simp [h2], fun b hb => ?_⟩
    rcases List.mem_cons.mp hb with e | hb
    · rw [e]; exact a
    · exact h3 b hb
theorem rpL_of {K : PySem.W.Frag} {A : Addr → Prop} {H : Hp} : ∀ {bs : List (V × D)}, (∀ b ∈ bs, Rp K A H b.2 b.1) → RpL K A H (bs.map (·.2)) (bs.map (·.1))
  | [], _ => .nil
  | b :: bs, h => .cons (h b List.mem_cons_self) (rpL_of fun c hc => h c (List.mem_cons_of_mem _ hc))
theorem okNs_mem {n : Nat} : ∀ {ds : List D} {d : D}, okNs n ds = true → d ∈ ds → okN n d = true
  | [], _, _, h => by cases h
  | x :: xs, d, o, h => by
    rw [okNs, Bool.and_eq_true] at o
    rcases List.mem_cons.mp h with rfl | h
    · exact o.1
    · exact okNs_mem o.2 h
theorem leD_sorted (bs : List (V × D)) : ((bs.mergeSort (dataLe false fun b => toPy b.2)).map (·.2)).Pairwise leD := by
  refine List.pairwise_map.mpr ?_
  refine (List.pairwise_mergeSort (le := dataLe false fun b : V × D => toPy b.2) (fun a b c h1 h2 => ?_) (fun a b => ?_) bs).imp fun {a b} h => ?_
  · have h1 : dataLt (toPy b.2) (toPy a.2) = false := by
      have : (!dataLt (toPy b.2) (toPy a.2)) = true := h1
      simpa using this
    have h2 : dataLt (toPy c.2) (toPy b.2) = false := by
      have : (!dataLt (toPy c.2) (toPy b.2)) = true := h2
      simpa using this
    have := KeyOrd.kle_trans (O := listOrd itemOrd) h1 h2
    show (!dataLt (toPy c.2) (toPy a.2)) = true
    rw [show dataLt (toPy c.2) (toPy a.2) = false from this]; rfl
  · show ((!dataLt (toPy b.2) (toPy a.2)) || (!dataLt (toPy a.2) (toPy b.2))) = true
    cases h : dataLt (toPy b.2) (toPy a.2) with
    | false => rfl
    | true =>
      have := KeyOrd.klt_asymm (O := listOrd itemOrd) h
      rw [show dataLt (toPy a.2) (toPy b.2) = false from this]; rfl
  · have : (!dataLt (toPy b.2) (toPy a.2)) = true := h
    show dataLt (toPy b.2) (toPy a.2) = false
    simpa using this
section
variable {c : C0} {t : Tm} {σ : L2.St} {H H' : Hp} {ρ : Env}
theorem mergeSort_map_snd {le : PyData → PyData → Bool} : ∀ bs : List (V × D), (((bs.map fun b => (b.1, toPy b.2)).mergeSort fun a b => le a.2 b.2).map (·.1)) = ((bs.mergeSort fun a b => le (toPy a.2) (toPy b.2)).map (·.1)) := fun bs => by
  rw [← List.map_mergeSort (r := fun a b => le (toPy a.2) (toPy b.2)) (fun a _ b _ => rfl), List.map_map]
  rfl
theorem sr_sorted0 : SRL c (rSortX c.K) sortedP := fun t σ H ρ xs ds P Q h r q k => by
  cases r with
  | nil => exact False.elim q
  | cons rx rr => cases rr with
    | cons _ _ => exact False.elim q
    | nil =>
      obtain ⟨ds, a, vs, rfl, hs, rs, ⟨o, hal, hso⟩, q⟩ := onS_ok h rx q
      obtain ⟨z1, z2, z3⟩ := rp_zip rs
      have e1 : ((vs.zip ds).map fun b => (b.1, toPy b.2)).map (·.1) = vs := by rw [List.map_map]; exact z1
      have e2 : ((vs.zip ds).map fun b => (b.1, toPy b.2)).map (·.2) = toPys ds := by
        rw [toPys_map, ← z2, List.map_map, List.map_map]; simp only [z2]; rfl
      refine ⟨a, (vs.zip ds).map fun b => (b.1, toPy b.2), rfl, by rw [e1]; exact hs, fun b hb => ?_, by rw [e2]; exact hal, by rw [e2]; exact hso, fun b hb => ?_, fun p hp => ?_⟩
      · obtain ⟨b, hc, rfl⟩ := List.mem_map.mp hb
        have hm : b.2 ∈ ds := by rw [← z2]; exact List.mem_map.mpr ⟨b, hc, rfl⟩
        exact (z3 b hc).dp (okNs_mem o hm)
      · obtain ⟨b, hc, rfl⟩ := List.mem_map.mp hb
        have hm : b.2 ∈ ds := by rw [← z2]; exact List.mem_map.mpr ⟨b, hc, rfl⟩
        exact Nat.le_succ_of_le (okN_shape (okNs_mem o hm)).2
      · have em := mergeSort_map_snd (le := dataLe false id) (vs.zip ds)
        have e3 : (((vs.zip ds).map fun b => (b.1, toPy b.2)).mergeSort (dataLe false (·.2))).map (·.1) = ((vs.zip ds).mergeSort (dataLe false fun b => toPy b.2)).map (·.1) := em
        rw [e3]
        have pm := List.mergeSort_perm (vs.zip ds) (dataLe false fun b : V × D => toPy b.2)
        have rl : RpL c.K (Far c t σ) H (((vs.zip ds).mergeSort (dataLe false fun b => toPy b.2)).map (·.2)) (((vs.zip ds).mergeSort (dataLe false fun b => toPy b.2)).map (·.1)) := rpL_of fun b hb => z3 b (pm.mem_iff.mp hb)
        refine k _ (.lst (((vs.zip ds).mergeSort (dataLe false fun b => toPy b.2)).map (·.2))) _ (h.new hp) (.lst (h.far hp) upd_same (rl.grow (upd_grow hp))) (q _ ?_ (leD_sorted _))
        have := pm.map (·.2)
        rw [z2] at this
        exact this
theorem sr_sortedX : SRL c (rSortX c.K) sortedP := sr_sorted0
end
end PD

end
section
set_option Elab.async false
set_option linter.all false
set_option maxRecDepth 100000
/-! tuple * int from 1 on; a tuple read backwards -/
namespace PD
open PySem PySem.Spec PyProof.Rows L2 RZ HT

theorem tuple_mul1 (l : Addr) (items : Array Value) (n : Nat) (sl : Array (Option Value)) (u : Tok) (dd : Option Addr) :
    Meets (Builtin.«tuple.__mul__» ⟨[.ref l, .int 1 u], []⟩) (fun _ R s => s.heap.get? l = some { cls := .type "tuple", dict := dd, data := .seq items n, slots := sl } ∧ R (.ok (.ret (Value.ref l))) s) :=
  .of_wp fun prog w A R s h => by
    obtain ⟨hp, g, d, tk, os⟩ := s
    obtain ⟨hl, h⟩ := h
    have f1 := AutoSeq1.idx_int
    wp_walk using wpAny_loadPart' hl
    repeat (first
      | (refine wpAny_ite_false (by decide) ?_; wp_walk using wpAny_loadPart' hl)
      | (refine wpAny_ite_true (by simp) ?_; wp_walk using wpAny_loadPart' hl))
    exact ⟨_, rfl, h⟩
/-- t * k, k from 1 on -/
def rRep1 (K : PySem.W.Frag) : R2 := fun x y H Q => ∃ l k xs, x = .ref l ∧ y = .int k ∧ SqT K H l xs ∧ xs ≠ [] ∧ 1 ≤ k ∧ k ≤ 1000 ∧ xs.length ≤ 1000 ∧ (k = 1 → Q (.ref l) H) ∧ (k ≠ 1 → ∀ p, H p = none → Q (.ref p) (upd H p (.tup (List.replicate k.toNat xs).flatten)))
section
variable {X : Cx}
theorem op_rep1 : OpR X (binaryOp .Mult) (rRep1 X.K) := by
  intro pins s σ H x y v u Q I rx ry h
  obtain ⟨l, k, xs, rfl, rfl, hT, hne, h1, h2, hz, q1, q2⟩ := h
  by_cases hk : k = 1
  · subst hk
    cases rx
    obtain ⟨t, rfl⟩ := ry
    obtain ⟨its, r, ⟨⟨cls, dd, data, sl⟩, ho, hc, n, hd⟩, hs⟩ := I.tuple hT
    simp only at hc hd
    subst hc hd
    refine wpAny_binaryOp_repeat_ref (T := "tuple") (U := "int") (by decide) ⟨_, ho, rfl⟩ (fun s' => typeIs_int s' 1 t) noFill_tuple_mul F.fills_int_mul F.slot_int_rmul repeat_tuple F.slot_int_index.lookup
      (call_meets F.slot_int_rmul (typeIs_int s 1 t) F.entry_int_rmul (F.args_int_rmul_2 _ _) (int_rmul_tuple 1 t l its.toArray n dd sl)
        ⟨ho, rfl, ⟨_, ho, rfl⟩, call_meets F.slot_tuple_mul ⟨_, ho, rfl⟩ F.entry_tuple_mul (F.args_tuple_mul_2 _ _) (tuple_mul1 l its.toArray n sl t dd) ⟨ho, ?_⟩⟩)
    exact ⟨.ref l, H, I, rfl, q1 rfl⟩
  · exact op_repT pins s σ H _ _ v u Q I rx ry ⟨l, k, xs, rfl, rfl, hT, hne, by omega, h2, hz, q2 hk⟩
end
/-! ### t[::-1] -/
section
variable {prog : Program} {w : World} {A : Around} {E : Value → Shared → Prop} {s : Shared}
theorem sliceApplied_rev {sl : Addr} {vl vu vs : Value} {n : Nat} {Q : Int × Int × Nat → Shared → Prop} (hs : s.heap.IsSliceOf sl vl vu vs) (pl : IsPart vl none) (pu : IsPart vu none) (ps : IsPart vs (some (-1)))
    (h : Q ((n : Int) - 1, -1, n) s) : wpAny (model prog w) A (Builtin.Slice.sliceApplied (.ref sl) (pure (n : Int))) Q E s := by
  obtain ⟨os, hos, hcs, hds⟩ := id hs
  unfold Builtin.Slice.sliceApplied Builtin.Slice.sliceFields
  refine wpAny_bind (wpAny_bind (wpAny_field hos hds (x := vl) rfl (wpAny_bind (wpAny_field hos hds (x := vu) rfl (wpAny_bind (wpAny_field hos hds (x := vs) rfl (wpAny_pure ?_)))))))
  refine wpAny_bind (slicePart_ ps ?_)
  show wpAny _ _ (if ((-1 : Int) == 0) = true then _ else _) _ _ s
  rw [if_neg (by decide)]
  refine wpAny_bind (slicePart_ pl (wpAny_bind (slicePart_ pu (wpAny_bind (wpAny_pure ?_)))))
  show wpAny _ _ (pure ((n : Int) - 1, (-1 : Int), Builtin.Slice.slicePlaces ((n : Int) - 1) (-1) (-1))) _ _ s
  have e : Builtin.Slice.slicePlaces ((n : Int) - 1) (-1) (-1) = n := by
    unfold Builtin.Slice.slicePlaces
    rw [if_neg (by decide)]
    by_cases h0 : (n : Int) - 1 > -1
    · rw [if_pos h0, show (-(-1 : Int)) = 1 by decide, Int.ediv_one]; omega
    · rw [if_neg h0]; omega
  rw [e]
  exact wpAny_pure h
theorem pick_rev (xs : Array Value) : ((List.range xs.size).filterMap fun (k : Nat) => xs[((xs.size : Int) - 1 + (k : Int) * (-1)).toNat]?).toArray = xs.toList.reverse.toArray := by
  have e : (fun (k : Nat) => xs[((xs.size : Int) - 1 + (k : Int) * (-1)).toNat]?) = (fun k => xs[k]?) ∘ fun (k : Nat) => ((xs.size : Int) - 1 + (k : Int) * (-1)).toNat := rfl
  have e2 : (List.range xs.size).map (fun (k : Nat) => ((xs.size : Int) - 1 + (k : Int) * (-1)).toNat) = (List.range xs.size).map fun k => xs.size - 1 - k := by
    refine List.map_congr_left fun k hk => ?_
    have := List.mem_range.mp hk
    omega
  rw [e, ← List.filterMap_map, e2, PySem.W.krv_range, List.filterMap_reverse, PySem.W.krv_all]
theorem getItem_tuple_rev {t sl : Addr} {items : Array Value} {vl vu vs : Value} {Q : Value → Shared → Prop} (ht : IsTup s.heap t items) (hs : s.heap.IsSliceOf sl vl vu vs) (pl : IsPart vl none) (pu : IsPart vu none) (ps : IsPart vs (some (-1)))
    (h : Q (.ref s.heap.objs.size) { s with heap := s.heap.push { cls := .type "tuple", data := .seq items.toList.reverse.toArray } })
    (hsz : items.size ≤ sizeLine) : wpAny (model prog w) A (getItem (.ref t) (.ref sl)) Q E s := by
  have htake : sizeOk (.seq items.toList.reverse.toArray) := by
    show items.toList.reverse.toArray.size ≤ sizeLine
    rw [List.size_toArray, List.length_reverse, Array.length_toList]
    exact hsz
  obtain ⟨os, hos, hcs, hds⟩ := id hs
  have hTs : s.TypeIs (.ref sl) "slice" := ⟨os, hos, hcs⟩
  unfold getItem
  try with_reducible refine wpAny_holding ?_
  first | refine wpAny_bind (wpAny_pure ?_) | skip
  refine wpAny_bind (wpAny_sequenceKey ht.typeIs (by decide) ?_)
  refine wpAny_bind (wpAny_callSpecial?_slot (name := Str.ofString "__getitem__") ht.typeIs PyProof.Rows.slot_tuple_getitem
    (wpAny_call_entry PyProof.Rows.slot_tuple_getitem ht.typeIs entry_tuple_getitem ?_ (args_tuple_getitem _ _)))
  show wpAny _ _ (Builtin.Tuple.tupleItemsOf (.ref t) >>= _) _ _ s
  refine wpAny_bind (tupleItemsOf_ ht ?_)
  refine wpAny_bind (wpAny_typeOf hTs ?_)
  rw [if_pos (by decide)]
  refine wpAny_bind (sliceApplied_rev hs pl pu ps ?_)
  have hno : ¬ ((((items.size : Int) - 1) == 0 && (-1 : Int) == 1 && items.size == items.size) = true) := by
    intro q
    rw [Bool.and_eq_true, Bool.and_eq_true] at q
    exact absurd q.1.2 (by decide)
  show wpAny _ _ (if (((items.size : Int) - 1) == 0 && (-1 : Int) == 1 && items.size == items.size) = true then _ else _) _ _ s
  rw [if_neg hno, pick_rev]
  first
    | exact wpAny_bind (m := Builtin.Tuple.tupleExact _) (wpAny_newObj_type (wpAny_pure ⟨_, rfl, wpAny_pure h⟩) htake)
    | exact wpAny_bind (m := Builtin.Tuple.tupleExact _) (wpAny_newObj_type (wpAny_bind (wpAny_pure (wpAny_pure ⟨_, rfl, wpAny_pure h⟩))) htake)
    | exact wpAny_bind (wpAny_bind (m := Builtin.Tuple.tupleExact _) (wpAny_newObj_type (wpAny_pure (wpAny_pure ⟨_, rfl, wpAny_pure h⟩)) htake))
    | exact wpAny_bind (wpAny_bind (m := Builtin.Tuple.tupleExact _) (wpAny_newObj_type (wpAny_pure ⟨_, rfl, wpAny_pure h⟩) htake))
end
def tRevT (K : PySem.W.Frag) (te : TE) : TE := fun σ H Q => te σ H fun x H1 => ∃ a xs, x = .ref a ∧ SqT K H1 a xs ∧ ∀ p, H1 p = none → Q (.ref p) (upd H1 p (.tup xs.reverse))
section
variable {X : Cx}
theorem pe_revT {e : Expr} {te : TE} {k : Nat} {p1 p2 p3 pos : Pos} (he : PE X e te) : PE X (.Subscript e (.Slice none none (some (.UnaryOp .USub (.Constant (.int 1) k p1) p2)) p3) pos) (tRevT X.K te) := by
  refine ⟨fun pins s σ H Q I h => ?_⟩
  refine Subscript_ (thn (he.run pins s σ H _ I h) fun v s1 ⟨x, H1, I1, r1, q1⟩ => ?_)
  obtain ⟨a, xs, ex, hx, q⟩ := q1
  subst ex
  cases r1
  have hst : PO X (some (.UnaryOp .USub (.Constant (.int 1) k p1) p2)) (tPart (tUn (rU fun i => .int (-i)) (tC (.int 1)))) := po_some (pe_un un_neg pe_int)
  refine wpAny_Slice (thn (po_none.run pins s1 σ H1 (fun o H2 => o = none ∧ H2 = H1) I1 ⟨rfl, rfl⟩) fun vl s2 ⟨l, H2, I2, pl, el, e2⟩ => ?_)
  subst el e2
  refine thn (po_none.run pins s2 σ H2 (fun o H3 => o = none ∧ H3 = H2) I2 ⟨rfl, rfl⟩) fun vu s3 ⟨u, H3, I3, pu, eu, e3⟩ => ?_
  subst eu e3
  refine thn (hst.run pins s3 σ H3 (fun o H4 => o = some (-1) ∧ H4 = H3) I3 ⟨1, rfl, -1, rfl, rfl, rfl⟩) fun vs s4 ⟨o, H4, I4, ps, eo, e4⟩ => ?_
  subst eo e4
  have I5 : Inv X pins σ H4 { s4 with heap := s4.heap.push { cls := .type "slice", data := .fields #[vl, vu, vs] } } := I4.kept (t' := s4.toks) fun b ob q => Heap.get?_push_of_some _ q
  obtain ⟨its, r, ht, hz⟩ := I5.tuple hx
  have hlen := r.length
  show wpAny (model X.prog X.w) X.A (subscriptTail e (.Slice none none (some (.UnaryOp .USub (.Constant (.int 1) k p1) p2)) p3) (.ref a) (.ref s4.heap.objs.size)) (EP X pins σ Q) X.xe { s4 with heap := s4.heap.push { cls := .type "slice", data := .fields #[vl, vu, vs] } }
  refine tail_any (ops := [.ref a, .ref s4.heap.objs.size]) ht.typeIs (PyProof.Rows.slot_tuple_getitem.lookup) ?_ (by with_unfolding_all rfl)
  refine getItem_tuple_rev ht (Heap.IsSliceOf.new _ vl vu vs) pl pu ps ?_ (by rw [List.size_toArray]; omega)
  refine ⟨.ref _, _, I5.laid (t' := s4.toks) (o := .tup xs.reverse) (fun b ob q => Heap.get?_push_of_some _ q) (Nat.le_refl _) ?_, rfl, q _ (I5.hok.fresh (Nat.le_refl _))⟩
  exact ⟨by rw [List.length_reverse]; exact hz, _, r.reverse, IsTup.new _ _⟩
end
section
variable {K : PySem.W.Frag} {X : Cx}
theorem op_rep1K (h : X.K = K) : OpR X (binaryOp .Mult) (rRep1 K) := h ▸ op_rep1
theorem pe_revTK (h : X.K = K) {e : Expr} {te : TE} {k : Nat} {p1 p2 p3 pos : Pos} (he : PE X e te) : PE X (.Subscript e (.Slice none none (some (.UnaryOp .USub (.Constant (.int 1) k p1) p2)) p3) pos) (tRevT K te) := h ▸ pe_revT he
end
/-! over data -/
def repP (ρ : Env) (x y : D) (k : D → Prop) : Prop := match x, y with
  | .tup xs, .int n => xs ≠ [] ∧ 1 ≤ n ∧ n ≤ 1000 ∧ xs.length ≤ 1000 ∧ k (.tup (List.replicate n.toNat xs).flatten)
  | _, _ => False
def dRev (a : DE) : DE := fun ρ P => a ρ fun d ρ1 => match d with
  | .tup xs => P (.tup xs.reverse) ρ1
  | _ => False
section
variable {c : C0} {te : TE} {de : DE}
theorem sr_rep1 : SR2 c (rRep1 c.K) repP := fun t σ H ρ x y dx dy P Q h rx ry q k => by
  cases dx with
  | tup xs => cases dy with
    | int n =>
      obtain ⟨h1, h2, h3, h4, q⟩ := q
      have rx' : Rp c.K (Far c t σ) H (.tup xs) x := rx.rp trivial
      obtain ⟨a, vs, rfl, na, ha, rs⟩ := rx'.seqT
      refine ⟨a, n, vs, rfl, ry.int, .of ha, fun e => h1 ?_, h2, h3, by rw [← rs.length]; exact h4, fun e => ?_, fun _ p hp => ?_⟩
      · subst e; cases rs; rfl
      · subst e
        have e1 : (List.replicate (1 : Int).toNat xs).flatten = xs := by simp
        rw [e1] at q
        exact k _ _ H h (.tup na ha rs) q
      · exact k _ _ _ (h.new hp) (.tup (h.far hp) upd_same ((rs.rep _).grow (upd_grow hp))) q
    | _ => exact False.elim q
  | _ => exact False.elim q
theorem sv_rev (he : SE c te de) : SV c (tRevT c.K te) (dRev de) := fun t σ H ρ P Q h q k =>
  he t σ H ρ _ _ h q fun v d H1 ρ1 h1 r1 q1 => by
    cases d with
    | tup xs =>
      obtain ⟨a, vs, rfl, na, ha, rs⟩ := (r1.rp trivial).seqT
      exact ⟨a, vs, rfl, .of ha, fun p hp => k _ _ _ ρ1 (h1.new hp) (.tup (h1.far hp) upd_same (rs.reverse.grow (upd_grow hp))) q1⟩
    | _ => exact False.elim q1
end
end PD

end
section
set_option Elab.async false
set_option linter.all false
set_option maxRecDepth 100000
set_option maxHeartbeats 1000000
/-! walking a list, unpacking a pair, a list comprehension: where an exception is handled -/
namespace PD
open PySem PySem.Spec PyProof.Rows L2 RZ HotX

section
variable {prog : Program} {w : World} {A : Around} {E : Value → Shared → Prop} {s : Shared}
theorem HotAt.ext {x1 : Addr} {h h' : Heap} (t : HotAt A x1 h) (k : ∀ o, h.get? x1 = some o → h'.get? x1 = some o) : HotAt A x1 h' := by
  obtain ⟨a, o, vs, b, c, d⟩ := t
  exact ⟨a, o, vs, k o b, c, d⟩
theorem next_tuple_end_hot {it t x1 : Addr} {i : Nat} {items} {Q : Option Value → Shared → Prop} (hot : HotAt A x1 s.heap) (hx1 : x1 ≠ it)
    (hit : IsTupIter s.heap it t i) (ht : IsTup s.heap t items) (hx : items[i]? = none)
    (hQ : ∀ h', Heap.ExtBut it s.heap h' → Q none { s with heap := h' }) : wpAny (model prog w) A (pyNext (.ref it)) Q E s := by
  obtain ⟨o, ho, hc, hd⟩ := id hit
  obtain ⟨ol, hol, _, nl, hdl⟩ := ht
  obtain ⟨hh, o1, vs1, h1, d1, c1⟩ := hot
  unfold pyNext
  refine wpAny_bind (wpAny_attempt (wpAny_callSpecial?_slot (name := Str.ofString "__next__") hit.typeIs slot_tupleiter_next
    (wpAny_call_entry slot_tupleiter_next hit.typeIs entry_tupleiter_next ?_ (args_tupleiter_next _))))
  show wpAny _ _ (field (.ref it) 0 >>= _) _ _ s
  refine wpAny_bind (wpAny_field ho hd (x := .ref t) rfl ?_)
  show wpAny _ _ (if (Value.ref t == Value.none) = true then _ else _) _ _ s
  rw [if_neg (show ¬ ((Value.ref t == Value.none) = true) from Bool.false_ne_true)]
  show wpAny _ _ (field (.ref it) 1 >>= _) _ _ s
  refine wpAny_bind (wpAny_field ho hd (x := .int i 0) rfl ?_)
  show wpAny _ _ (seqItems? (.ref t) >>= _) _ _ s
  refine wpAny_bind (wpAny_seqItems hol hdl ?_)
  simp only [Int.toNat_natCast, hx]
  refine wpAny_bind (wpAny_rule (wpAny_bind (wpAny_setField ho hd (by simp) ?_)))
  show wpAny _ _ (newExc (.type "StopIteration") [] >>= _) _ _ _
  refine wpAny_bind ?_
  simp only [newExc, newTuple]
  refine wpAny_bind (wpAny_newObj_type ?_ (by size_fits))
  refine wpAny_bind (m := firstArgMember _ _) (wpAny_of_eq (a := Value.none) (by first | rfl | (simp only [firstArgMember]; rfl)) ?_)
  refine wpAny_newObj_type ?_ (by size_fits)
  have h2 := (Heap.get?_update_other s.heap (Obj.mapFields (·.setIfInBounds 0 Value.none)) (Ne.symm hx1)).trans h1
  refine raiseNew_hot ⟨hh, o1, vs1, Heap.get?_push_of_some _ (Heap.get?_push_of_some _ h2), d1, c1⟩ (Nat.ne_of_lt (Heap.lt_size (Heap.get?_push_of_some _ h2))) (Heap.get?_push_size _ rfl) rfl (by first | (simp; done) | (simp; omega) | (simp only [Array.size_append]; simp; omega)) ?_
  refine wpAny_bind (wpAny_isInstance (T := "StopIteration") (b := true) ⟨_, Heap.get?_update_self _ (Heap.get?_push_size _ rfl) rfl, rfl⟩ isSubtype_stop ?_)
  refine wpAny_pure (hQ _ fun b o hb e => ?_)
  have e' := (Heap.get?_update_other s.heap (Obj.mapFields (·.setIfInBounds 0 Value.none)) (Ne.symm hb)).trans e
  rw [Heap.get?_update_other _ _ (Nat.ne_of_gt (Heap.lt_size (Heap.get?_push_of_some _ e')))]
  exact Heap.get?_push_of_some _ (Heap.get?_push_of_some _ e')
theorem next_list_end_hot {it l x1 : Addr} {i : Nat} {items} {Q : Option Value → Shared → Prop} (hot : HotAt A x1 s.heap) (hx1 : x1 ≠ it)
    (hit : s.heap.IsListIter it l i) (hl : s.heap.IsList l items) (hx : items[i]? = none)
    (hQ : ∀ h', Heap.ExtBut it s.heap h' → Q none { s with heap := h' }) : wpAny (model prog w) A (pyNext (.ref it)) Q E s := by
  obtain ⟨o, ho, hc, hd⟩ := id hit
  obtain ⟨ol, hol, _, nl, hdl⟩ := hl
  obtain ⟨hh, o1, vs1, h1, d1, c1⟩ := hot
  unfold pyNext
  refine wpAny_bind (wpAny_attempt (wpAny_callSpecial?_slot (name := Str.ofString "__next__") hit.typeIs slot_listiter_next
    (wpAny_call_entry slot_listiter_next hit.typeIs entry_listiter_next ?_ (args_listiter_next _))))
  show wpAny _ _ (field (.ref it) 0 >>= _) _ _ s
  refine wpAny_bind (wpAny_field ho hd (x := .ref l) rfl ?_)
  show wpAny _ _ (if (Value.ref l == Value.none) = true then _ else _) _ _ s
  rw [if_neg (show ¬ ((Value.ref l == Value.none) = true) from Bool.false_ne_true)]
  show wpAny _ _ (field (.ref it) 1 >>= _) _ _ s
  refine wpAny_bind (wpAny_field ho hd (x := .int i 0) rfl ?_)
  show wpAny _ _ (seqItems? (.ref l) >>= _) _ _ s
  refine wpAny_bind (wpAny_seqItems hol hdl ?_)
  simp only [Int.toNat_natCast, hx]
  refine wpAny_bind (wpAny_rule (wpAny_bind (wpAny_setField ho hd (by simp) ?_)))
  show wpAny _ _ (newExc (.type "StopIteration") [] >>= _) _ _ _
  refine wpAny_bind ?_
  simp only [newExc, newTuple]
  refine wpAny_bind (wpAny_newObj_type ?_ (by size_fits))
  refine wpAny_bind (m := firstArgMember _ _) (wpAny_of_eq (a := Value.none) (by first | rfl | (simp only [firstArgMember]; rfl)) ?_)
  refine wpAny_newObj_type ?_ (by size_fits)
  have h2 := (Heap.get?_update_other s.heap (Obj.mapFields (·.setIfInBounds 0 Value.none)) (Ne.symm hx1)).trans h1
  refine raiseNew_hot ⟨hh, o1, vs1, Heap.get?_push_of_some _ (Heap.get?_push_of_some _ h2), d1, c1⟩ (Nat.ne_of_lt (Heap.lt_size (Heap.get?_push_of_some _ h2))) (Heap.get?_push_size _ rfl) rfl (by first | (simp; done) | (simp; omega) | (simp only [Array.size_append]; simp; omega)) ?_
  refine wpAny_bind (wpAny_isInstance (T := "StopIteration") (b := true) ⟨_, Heap.get?_update_self _ (Heap.get?_push_size _ rfl) rfl, rfl⟩ isSubtype_stop ?_)
  refine wpAny_pure (hQ _ fun b o hb e => ?_)
  have e' := (Heap.get?_update_other s.heap (Obj.mapFields (·.setIfInBounds 0 Value.none)) (Ne.symm hb)).trans e
  rw [Heap.get?_update_other _ _ (Nat.ne_of_gt (Heap.lt_size (Heap.get?_push_of_some _ e')))]
  exact Heap.get?_push_of_some _ (Heap.get?_push_of_some _ e')
theorem unpackItems_hot {t x1 : Addr} {items : Array Value} {Q : List Value → Shared → Prop} (hot : HotAt A x1 s.heap) (ht : IsTup s.heap t items)
    (hQ : ∀ h', Heap.ExtBut s.heap.objs.size s.heap h' → Q items.toList { s with heap := h' }) : wpAny (model prog w) A (unpackItems (.ref t) items.size none) Q E s := by
  have hlt : t ≠ s.heap.objs.size := by obtain ⟨o, ho, _⟩ := ht; exact Nat.ne_of_lt (Heap.lt_size ho)
  have hx1 : x1 ≠ s.heap.objs.size := by obtain ⟨_, o, vs, ho, _⟩ := hot; exact Nat.ne_of_lt (Heap.lt_size ho)
  unfold unpackItems
  refine wpAny_bind ?_
  · unfold notIterableAtAll
    refine wpAny_bind (wpAny_specialOf ht.typeIs slot_tuple_iter.lookup ?_)
    refine wpAny_pure ?_
    simp only [Bool.false_eq_true, if_false]
    refine wpAny_bind (wpAny_holding (iter_tuple ht ?_))
    refine wpAny_bind (wpAny_holding (draw_tuple hlt items.size 0 _ _ ⟨_, Heap.get?_push_size _ rfl, rfl, rfl⟩ (ht.push _) (by omega) fun h₁ hit₁ hs₁ => ?_))
    have hall : List.take items.size (List.drop 0 items.toList) = items.toList := by
      rw [List.drop_zero]; exact List.take_of_length_le (by simp)
    rw [hall]
    rw [if_neg (by simp)]
    have ht₁ : IsTup h₁ t items := (ht.push _).extBut hs₁.extBut hlt
    have hot₁ : HotAt A x1 h₁ := HotAt.ext hot fun o e => hs₁.extBut x1 o hx1 (Heap.get?_push_of_some _ e)
    refine wpAny_bind (wpAny_holding (next_tuple_end_hot (s := { s with heap := h₁ }) hot₁ hx1 hit₁ ht₁ (by simp) fun h₂ he₂ => ?_))
    simp only [Option.isSome_none, Bool.false_eq_true, if_false]
    refine wpAny_pure (hQ h₂ fun b o hb e => he₂ b o hb (hs₁.extBut b o hb (Heap.get?_push_of_some _ e)))
theorem unpack_hot {t x1 : Addr} {items : Array Value} {targets : List (Bool × (Value → Sem Unit))} {Q : Unit → Shared → Prop} (hot : HotAt A x1 s.heap) (ht : IsTup s.heap t items)
    (hn : targets.length = items.size) (hstar : targets.findIdx? (·.1) = none)
    (h : ∀ h', Heap.ExtBut s.heap.objs.size s.heap h' → wpAny (model prog w) A (assignInOrder (targets.map (·.2)) items.toList) Q E { s with heap := h' }) :
    wpAny (model prog w) A (unpack (.ref t) targets) Q E s := by
  unfold unpack
  rw [hn, hstar]
  exact wpAny_bind (wpAny_holding (unpackItems_hot hot ht h))
end
/-- the context bears a handled error whose context is None -/
def HotX (X : Cx) : Prop := ∀ (pins : List (Addr × Obj)) (σ : L2.St) (H : Hp) (s : Shared), Inv X pins σ H s → ∃ x1, HotAt X.A x1 s.heap
theorem pg_tupH {X : Cx} {es : List Expr} {k : Nat} {t : TGs} {n : Nat} {pos : Pos} (hc : HotX X) (h : PGs X es t)
    (hn : (assignEach es X.env).length = n := by rfl) (hst : (assignEach es X.env).findIdx? (·.1) = none := by rfl) : PG X (.Tuple es k pos) (gTup X.K n t) := by
  refine ⟨fun pins s σ H v u Q I r hw => ?_⟩
  obtain ⟨a, xs, e1, hq, hl, hw⟩ := hw
  subst e1
  cases r
  obtain ⟨its, rv, ht, hz⟩ := I.tuple hq
  obtain ⟨x1, hot⟩ := hc pins σ H s I
  rw [assign_Tuple]
  refine wpAny_bind (wpAny_standAt (unpack_hot hot ht (by simp [hn, ← hl, rv.length]) hst fun h' hx => ?_))
  have I1 : Inv X pins σ H { s with heap := h' } := I.kept (t' := s.toks) fun b o e => hx b o (Nat.ne_of_lt (Heap.lt_size e)) e
  exact h.run pins _ σ H xs _ Q I1 (by simpa using rv) hw
/-- a suite's context -/
theorem hot_suite {X : Cx} {a : Addr} {oe : Obj} {cls : Value} {d : Option Addr} {pn : List (Addr × Obj)} (hz : L2N.Zn cls d oe) (hd : ∃ vs, oe.data = .fields vs) : L2H.HotC (X.suite a ((a, oe) :: pn)) := by
  obtain ⟨vs, hd⟩ := hd
  exact ⟨(a, oe), ⟨rfl, vs, hd, hz.2.2 vs hd⟩, List.mem_cons_self⟩
/-- a block's context within it -/
theorem hot_blk {X : Cx} {pins : List (Addr × Obj)} {σ : L2.St} {H : Hp} {s : Shared} {scope : Scope} {cenv : PySem.Env} {fp : List Addr} (hc : L2H.HotC X) (I : Inv X pins σ H s) (hf : ∀ b ∈ fp, FpOk X pins H b) : HotX (X.blk s H scope cenv fp) := by
  obtain ⟨p, ⟨hh, v1, e1, c1⟩, hp⟩ := hc
  obtain ⟨g1, g2, g3, g4, _⟩ := I.pin p (List.mem_append_left _ hp)
  intro pins' σ' H' s' I'
  have nfp : p.1 ∉ fp := fun z => (hf p.1 z).2.2.2.2.2 p (List.mem_append_left _ hp) rfl
  have nst : p.1 ∉ frs X.stack := fun z => by
    rcases List.mem_cons.mp (I.stkSub _ z) with e | e
    · exact g3 e
    · exact g4 e
  exact ⟨p.1, hh, p.2, v1, I'.base.keep p.1 p.2 g1 g2 nst nfp, e1, c1⟩
/-- a list comprehension over a list -/
theorem lc_hot {X : Cx} {pins : List (Addr × Obj)} {s : Shared} {σ : L2.St} {H : Hp} {Q : VK} {elt tg iter : Expr} {ifs : List Expr} {scope : Scope} {own : List (Str × Nat)} {pos pos' : Pos} {tl : TE} {g : TG} {tt : TT} {te : TE} {use : Option (Value → Sem Unit)} {Qf : Value → Shared → Prop}
    (hc : L2H.HotC X) (hN : X.N.Nodup) (I : Inv X pins σ H s) (hi : PE X iter tl) (ok : BlkOk X.N X.env.scope scope own)
    (hg : ∀ (s : Shared) (H : Hp) (C : Addr) (cl : List (Str × Addr)) (fp : List Addr), HotX (X.blk s H scope (compEnvC scope cl C X.env) fp) → PG (X.blk s H scope (compEnvC scope cl C X.env) fp) tg g) (ht : ∀ (s : Shared) (H : Hp) (C : Addr) (cl : List (Str × Addr)) (fp : List Addr), PTs (X.blk s H scope (compEnvC scope cl C X.env) fp) ifs tt)
    (he : ∀ (s : Shared) (H : Hp) (C : Addr) (cl : List (Str × Addr)) (fp : List Addr), PE (X.blk s H scope (compEnvC scope cl C X.env) fp) elt te) (hs : ∀ x, foldedSetIterable iter X.env x = pure x)
    (h : tLc (iList X.K tl) g tt te (own.map (·.2)) σ H Q)
    (hRR : ∀ D C s' m H', Inv X pins σ H' s' → Q (.ref D) H' → s'.heap.Ns C m → FpOk X pins H' C → compPost (model X.prog X.w) X.A X.xe use Qf (.ref D) C (.ok .next) s') :
    wpAny (model X.prog X.w) X.A (comprehension (.ListComp elt [⟨tg, iter, ifs, 0⟩] scope pos) scope X.env pos' (newList []) false (eval iter X.env) use) Qf X.xe s := by
  have hfree : ∀ y ∈ scope.names, y.2 = .free → ∃ c, X.env.cells.lookup y.1 = some c := fun y hy e => by
    rcases ok.free y hy e with k | k
    · exact I.ok.has _ (.inl k)
    · exact I.ok.has _ (.inr k)
  refine wpAny_comprehension_free (use := use) rfl hs (closure_ok hfree) ok.kind (fun y hy e => by rw [ok.uniq y hy, e])
    (thn (hi.run pins s σ H _ I h) fun xv s1 hx => ?_)
  obtain ⟨xv', H2, I1, rx, a, exv, ⟨xs, hsq⟩, q⟩ := hx
  subst exv
  cases rx
  obtain ⟨its, rv, p, hzL⟩ := I1.list hsq
  refine wpAny_pyIter_list p.isList ?_
  generalize hit0 : s1.heap.objs.size = it
  generalize hs2 : ({ s1 with heap := s1.heap.push { cls := .type "list_iterator", data := .fields #[.ref a, .int 0 0] } } : Shared) = s2
  have I2 : Inv X pins σ H2 s2 := by
    rw [← hs2]
    exact I1.kept (t' := s1.toks) fun b o e => Heap.get?_push_of_some _ e
  have st2 : s2.heap.IsListIter it a 0 := by
    rw [← hs2, ← hit0]
    exact ⟨_, Heap.get?_push_size _ rfl, rfl, rfl⟩
  have f2 : ∀ b ∈ [it], FpOk X pins H2 b := fun b hb => by
    have e : b = s1.heap.objs.size := by rw [hit0]; simpa using hb
    subst e
    exact I1.fpOk (Nat.le_refl _) (I1.hok.fresh (Nat.le_refl _))
  generalize hfp : [it] = fp at f2
  have T : Turn X.prog X.w X.K tg (Itl X.K a) fp it (fun i h => h.IsListIter it a i) := hfp ▸ turn_list a it
  generalize htn : (fun (i : Nat) (h : Heap) => h.IsListIter it a i) = tn at T
  have st2 : tn 0 s2.heap := by rw [← htn]; exact st2
  have Tn : ∀ i h, tn i h → h.IsListIter it a i := fun i h z => by rw [← htn] at z; exact z
  refine wpAny_newObj_type (newEnv_comp ?_) (by show 0 ≤ sizeLine; decide)
  generalize hD : s2.heap.objs.size = D
  have hDn : H2 D = none := I2.hok.fresh (Nat.le_of_eq hD)
  obtain ⟨W, ⟨m0, w0⟩, turn⟩ := q D hDn
  -- the new list
  generalize hs3 : ({ s2 with heap := s2.heap.push { cls := .type "list", data := .seq ([] : List Value).toArray } } : Shared) = s3
  have I3 : Inv X pins σ (upd H2 D (.lst [])) s3 := by
    rw [← hs3]
    refine I2.laid (t' := s2.toks) (fun b o e => Heap.get?_push_of_some _ e) (Nat.le_of_eq hD) ⟨Nat.zero_le _, [], 0, .nil, ?_⟩
    rw [← hD]
    exact Heap.get?_push_size _ rfl
  have h3 : s3.heap = s2.heap.push { cls := .type "list", data := .seq ([] : List Value).toArray } := by rw [← hs3]
  have sz : ∀ b ∈ fp, b < s2.heap.objs.size := fun b hb => by
    obtain ⟨o, e, _⟩ := T.obj _ _ st2 b hb
    exact Heap.lt_size e
  have f3 : ∀ b ∈ fp, FpOk X pins (upd H2 D (.lst [])) b ∧ b < s3.heap.objs.size := fun b hb => by
    have hlt := sz b hb
    refine ⟨⟨?_, (f2 b hb).2⟩, by rw [h3, Heap.size_push]; exact Nat.lt_succ_of_lt hlt⟩
    rw [upd_ne (by rw [← hD]; exact Nat.ne_of_lt hlt)]
    exact (f2 b hb).1
  have st3 : tn 0 s3.heap := T.keep _ _ _ st2 fun b _ o e => by rw [h3]; exact Heap.get?_push_of_some _ e
  have I4 := block_start I3 ok hN f3
  have hx0 := hot_blk (scope := scope) (cenv := compEnvC scope (cellsFrom (s3.heap.objs.size + 1) scope.names (cloFrom X.env.cells scope.names [])) s3.heap.objs.size X.env) hc I3 (fun b hb => (f3 b hb).1)
  have pg := hg s3 (upd H2 D (.lst [])) s3.heap.objs.size (cellsFrom (s3.heap.objs.size + 1) scope.names (cloFrom X.env.cells scope.names [])) fp hx0
  have pt := ht s3 (upd H2 D (.lst [])) s3.heap.objs.size (cellsFrom (s3.heap.objs.size + 1) scope.names (cloFrom X.env.cells scope.names [])) fp
  have pe := he s3 (upd H2 D (.lst [])) s3.heap.objs.size (cellsFrom (s3.heap.objs.size + 1) scope.names (cloFrom X.env.cells scope.names [])) fp
  show codeAny _ _ (.compStart (.ListComp elt [⟨tg, iter, ifs, 0⟩] scope pos) 0 (.ref it) (.ref D) (compEnvC scope (cellsFrom (s3.heap.objs.size + 1) scope.names (cloFrom X.env.cells scope.names [])) s3.heap.objs.size X.env)) (compPost (model X.prog X.w) X.A X.xe use Qf (.ref D) s3.heap.objs.size) { s3 with heap := pushCells (s3.heap.push { cls := .type "dict", data := .dict #[] }) scope.names }
  have nfp : ∀ b ∈ fp, (upd H2 D (.lst [])) b = none := fun b hb => (f3 b hb).1.1
  generalize hce : compEnvC scope (cellsFrom (s3.heap.objs.size + 1) scope.names (cloFrom X.env.cells scope.names [])) s3.heap.objs.size X.env = ce at I4 pg pt pe hx0 ⊢
  have cL : ce.locals = s3.heap.objs.size := by subst hce; rfl
  generalize hH3 : upd H2 D (.lst []) = H3 at I3 I4 pg pt pe w0 nfp f3 hx0
  generalize hs4 : ({ s3 with heap := pushCells (s3.heap.push { cls := .type "dict", data := .dict #[] }) scope.names } : Shared) = s4 at I4 ⊢
  have st4 : tn 0 s4.heap := T.keep _ _ _ st3 fun b _ o e => by rw [← hs4]; exact pushCells_keeps _ _ _ _ (Heap.get?_push_of_some _ e)
  have stat : ∀ {σ' : L2.St} {H' : Hp} {s' : Shared}, Inv (X.blk s3 H3 scope ce fp) [] σ' H' s' → (∀ b ∈ fp, H' b = none) → ∀ b ∈ fp, FpOk (X.blk s3 H3 scope ce fp) [] H' b := fun {σ' H' s'} I' hn b hb =>
    ⟨hn b hb, (I'.ok.exf b hb).1, I'.ok.exfs b hb, .inl hb, fun x c e => (I'.ok.exf b hb).2 x c e, fun p hp => absurd (show p ∈ ([] : List (Addr × Obj)) ++ [] from hp) (by simp)⟩
  have loop : codeAny (model X.prog X.w) X.A (.compLoop (.ListComp elt [⟨tg, iter, ifs, 0⟩] scope pos) 0 (.ref it) (.ref D) ce) (compPost (model X.prog X.w) X.A X.xe use Qf (.ref D) s3.heap.objs.size) s4 := by
    refine compLoop_any (fun n s' => ∃ i H', Inv (X.blk s3 H3 scope ce fp) [] (wipe σ (own.map (·.2))) H' s' ∧ tn i s'.heap ∧ (∀ b ∈ fp, H' b = none) ∧ W i n H') ?_ m0 ⟨0, H3, I4, st4, nfp, w0⟩
    rintro n s5 ⟨i, H5, I5, st5, n5, w5⟩
    rcases turn i n H5 w5 with ⟨stop, qq⟩ | ⟨go, Nx, hNx, step⟩
    · obtain ⟨xs5, hq5, hle⟩ := stop
      obtain ⟨its5, rv5, p5, _⟩ := I5.list hq5
      have hl5 := rv5.length
      obtain ⟨x1, hot5⟩ := hx0 [] _ H5 s5 I5
      have itm : it ∈ fp := T.mem
      obtain ⟨f0, f1, f2', f3', f4, f5⟩ := stat I5 n5 it itm
      have hx1 : x1 ≠ it := fun z => by
        obtain ⟨_, o, vs, e1, e2, e3⟩ := hot5
        obtain ⟨oi, e4, _, e5⟩ := Tn _ _ st5
        rw [z, e4] at e1
        cases e1
        rw [e5] at e2
        cases e2
        simp at e3
      refine next_list_end_hot hot5 hx1 (Tn _ _ st5) p5.isList (by simp; omega) fun h6 eb => ?_
      have I6 : Inv (X.blk s3 H3 scope ce fp) [] (wipe σ (own.map (·.2))) H5 { s5 with heap := h6 } := I5.turned (t' := s5.toks) (fun b o hb e => eb b o hb e) f0 f1 f3' f4 f5
      generalize ({ s5 with heap := h6 } : Shared) = s6 at I6
      -- back in the def's context
      have I7 : Inv X pins σ H5 s6 := I3.call' (ch := fp) I6.os I6.base I6.hok I6.bare fun b hb => ⟨(f3 b hb).1.2.2.2.1, (f3 b hb).1.2.1, (f3 b hb).1.2.2.2.2.1, (f3 b hb).1.2.2.2.2.2⟩
      have nC : H5 s3.heap.objs.size = none := by
        have z : H5 ce.locals = none := I6.free
        rw [cL] at z
        exact z
      obtain ⟨m, hn, _⟩ := I6.loc
      have hn : s6.heap.Ns ce.locals m := hn
      rw [cL] at hn
      exact hRR D s3.heap.objs.size s6 m H5 I7 qq hn (I3.fpOk (Nat.le_refl _) nC)
    · have ti : wpAny (model X.prog X.w) X.A (pyNext (.ref it)) (fun r s1 => ∃ u, r = some u ∧ wpAny (model X.prog X.w) X.A (letOwnedTupleGo tg (.ref it) u) (fun _ s2 => ∃ x H', Inv (X.blk s3 H3 scope ce fp) [] (wipe σ (own.map (·.2))) H' s2 ∧ RelV x u ∧ (Itl X.K a).yld i H5 x H' ∧ tn (i + 1) s2.heap ∧ ∀ b ∈ fp, H' b = none) (fun _ _ => False) s1) (fun _ _ => False) s5 := by
        obtain ⟨xs5, x5, hq5, hx5⟩ := go
        obtain ⟨its5, rv5, p5, hz5⟩ := I5.list hq5
        obtain ⟨u5, hu5, ru5⟩ := rv5.get hx5
        obtain ⟨f0, f1, f2', f3', f4, f5⟩ := stat I5 n5 it T.mem
        refine wpAny_pyNext_list_item (Tn _ _ st5) p5.isList (x := u5) (by simpa using hu5) fun h' st' sb => ?_
        have I6 : Inv (X.blk s3 H3 scope ce fp) [] (wipe σ (own.map (·.2))) H5 { s5 with heap := h' } := I5.turned (t' := s5.toks) (fun b o hb e => (sb.2 b hb).trans e) f0 f1 f3' f4 f5
        obtain ⟨o, e, c, d⟩ := id st'
        exact ⟨u5, rfl, go_of (s := { s5 with heap := h' }) e c d (by decide) ⟨x5, H5, I6, ru5, ⟨rfl, fun ys hy => by rw [I5.list_inj hy hq5]; exact hx5⟩, by rw [← htn]; exact st', n5⟩⟩
      refine thnF ti fun r s6 ⟨u, hr, h6⟩ => ?_
      subst hr
      refine thnF h6 fun _ s7 ⟨x, H7, I7, r7, y7, st7, n7⟩ => ?_
      have I7' := I7.pinned (stat I7 n7) (T.obj _ _ st7)
      refine thnF (pg.run _ s7 _ H7 x u _ I7' r7 (step x H7 y7)) fun _ s8 ⟨σ8, H8, I8, hw8, q8⟩ => ?_
      refine thnF (pt.run _ s8 σ8 H8 _ I8 q8) fun b s9 ⟨H9, I9, q9⟩ => ?_
      -- the turn's end
      have fin : ∀ {s' : Shared} {H' : Hp}, Inv (X.blk s3 H3 scope ce fp) ([] ++ pinsAt fp s7.heap) σ8 H' s' → Nx H' → ∃ m, m < n ∧ ∃ i H', Inv (X.blk s3 H3 scope ce fp) [] (wipe σ (own.map (·.2))) H' s' ∧ tn i s'.heap ∧ (∀ b ∈ fp, H' b = none) ∧ W i m H' := fun {s' H'} I' nx => by
        obtain ⟨m', hm, w'⟩ := hNx H' nx
        have pin' : ∀ b ∈ fp, ∀ o, s7.heap.get? b = some o → s'.heap.get? b = some o ∧ H' b = none := fun b hb o e =>
          let z := I'.pin (b, o) (List.mem_append_right _ (List.mem_append_right _ (mem_pinsAt hb e)))
          ⟨z.1, z.2.1⟩
        have hl : (wipe σ (own.map (·.2))).length = σ8.length := by rw [← hw8, wipe_length]
        refine ⟨m', hm, i + 1, H', (I'.unpinned (pins := [])).weak hl (fun j v e => ?_), T.keep _ _ _ st7 fun b hb o e => (pin' b hb o e).1, fun b hb => ?_, w'⟩
        · rw [← hw8] at e
          exact (wipe_some e).1
        · obtain ⟨o, e, _⟩ := T.obj _ _ st7 b hb
          exact (pin' b hb o e).2
      cases b with
      | false =>
        simp only [Bool.false_eq_true, if_false] at q9 ⊢
        exact fin I9 q9
      | true =>
        simp only [if_true] at q9 ⊢
        refine thnF (pe.run _ s9 σ8 H9 _ I9 q9) fun z s10 ⟨yv, H10, I10, r10, acc, hD10, hz10, nx⟩ => ?_
        exact app_ok (X := X.blk s3 H3 scope ce fp) I10 hD10 hz10 r10 fun s11 I11 => fin I11 nx
  exact codeAny_compStart_list loop (T.self X.A 0 _ _ _ st4 loop)
/-- name = [..] on one line, the name a local -/
theorem ps_setLcH {X : Cx} {i : Nat} {y : Str} {py : Pos} {elt tg iter : Expr} {ifs : List Expr} {scope : Scope} {own : List (Str × Nat)} {pos spos : Pos} {tl : TE} {g : TG} {tt : TT} {te : TE} (hc : L2H.HotC X) (hN : X.N.Nodup) (hy : X.N[i]? = some y) (hyl : X.env.scope.names.lookup y = some .local)
    (hsw : swapsWith (.ListComp elt [⟨tg, iter, ifs, 0⟩] scope pos) (some (.Name y py)) spos.line X.env = pure true) (hi : PE X iter tl) (ok : BlkOk X.N X.env.scope scope own)
    (hg : ∀ (s : Shared) (H : Hp) (C : Addr) (cl : List (Str × Addr)) (fp : List Addr), HotX (X.blk s H scope (compEnvC scope cl C X.env) fp) → PG (X.blk s H scope (compEnvC scope cl C X.env) fp) tg g) (ht : ∀ (s : Shared) (H : Hp) (C : Addr) (cl : List (Str × Addr)) (fp : List Addr), PTs (X.blk s H scope (compEnvC scope cl C X.env) fp) ifs tt)
    (he : ∀ (s : Shared) (H : Hp) (C : Addr) (cl : List (Str × Addr)) (fp : List Addr), PE (X.blk s H scope (compEnvC scope cl C X.env) fp) elt te) (hs : ∀ x, foldedSetIterable iter X.env x = pure x := by intro _; rfl) :
    PS X (.Assign [.Name y py] (.ListComp elt [⟨tg, iter, ifs, 0⟩] scope pos) spos) (tAsg (tLc (iList X.K tl) g tt te (own.map (·.2))) (gName i)) := by
  refine ⟨fun pins s σ H D I h => ?_⟩
  rw [exec_Assign_Name_used _ _ _ _ hsw]
  refine wpAny_bind (wpAny_standAt (wpAny_bind ?_))
  show wpAny _ X.A (do let _ ← comprehension (.ListComp elt [⟨tg, iter, ifs, 0⟩] scope pos) scope X.env (firstIterPos [⟨tg, iter, ifs, 0⟩] pos) (newList []) false (eval iter X.env) (some (assign (.Name y py) X.env))) _ _ s
  have h : tLc (iList X.K tl) g tt te (own.map (·.2)) σ H (fun x H1 => gName i x σ H1 D.nx) := h
  refine wpAny_bind (thn (lc_hot (Qf := fun _ s' => SP X pins D .next s') hc hN I hi ok hg ht he hs h fun L C s' m H' I' q hn f => ?_) fun _ s' hq => wpAny_pure (wpAny_pure hq))
  show wpAny _ _ (assign (.Name y py) X.env (.ref L)) _ _ _
  refine wpAny_assign_Name (store_ok2 (v := V.ref L) I' hN hy (.inl hyl) rfl (fun s2 I2 ⟨a, sb, ha⟩ => ?_) (.inr hyl))
  obtain ⟨f0, f1, f2, f3, f4, f5⟩ := f
  have haC : C ≠ a := by
    rcases ha with z | z
    · rw [z]; exact f1
    · exact fun e => f4 y a z e.symm
  refine ⟨m, hn.sameBut sb haC, fun h3 sb3 => ?_⟩
  exact ⟨_, H', I2.turned (t' := s2.toks) (fun b o hb e => (sb3.2 b hb).trans e) f0 f1 f3 f4 f5, q⟩
end PD

end
section
set_option Elab.async false
set_option linter.all false
set_option maxRecDepth 100000
set_option maxHeartbeats 1000000
/-! a lambda without parameters handed to a def that catches: errors whose context is None -/
namespace PD
open PySem PySem.Spec PyProof.Rows L2 RZ LamX

/-- the context of the lambda's body -/
def lamCxN (X : Cx) (A : Around) (outer : List PySem.Env) (s : Shared) (H : Hp) (E : L2.XK) (scope : Scope) (f c' : Addr) : Cx :=
  (lamCx X A outer s H E scope f c').wish fun e s' => wpAny (model X.prog X.w) (A.deeper (lamEnv X scope s.heap.objs.size f c')) (leaving (lamEnv X scope s.heap.objs.size f c') e) (fun _ s'' => L2N.CX X.prog X.w outer H s E e s'') (fun e' s'' => L2N.CX X.prog X.w outer H s E e' s'') s'
section
variable {X : Cx} {pins : List (Addr × Obj)} {σ : L2.St} {H : Hp} {s : Shared}
theorem pe_actN {CXg : CXT} {Eg : L2.XK} {Ng : List Str} {qg : Str} {sg : Scope} {g f c' : Addr} {cdg pm ctv : Value} {params : Arguments} {body : Expr} {scope : Scope} {k i : Nat} {a : Str} {pn : List (Addr × Obj)} {xe : Value → Shared → Prop} {W : WX} {tb : L2.XK → TE} {p1 p2 : Pos}
    (I : Inv X pins σ H s) (L : LamS X.env.scope scope) (hf : s.heap.get? f = some (PySem.W.kla_obj "<lambda>" (X.env.qual ++ "<lambda>") params body scope (cloFrom X.env.cells scope.names []) pm c' ctv)) (hfn : H f = none) (hfr : f ∉ frs X.stack)
    (hbind : bindArgs (PySem.W.kla_fn "<lambda>" (X.env.qual ++ "<lambda>") params body scope (cloFrom X.env.cells scope.names []) pm (.ref c') ctv) ⟨[], []⟩ = pure [])
    (tk : L2N.Takes ((cxOf CXg X.prog X.w X.K X.mg X.base Ng qg sg g cdg X.A X.stack s H Eg).tr pn xe) W) (hr : Room (k + 1) (X.A.deeper (envOfC qg sg s.heap.objs.size g cdg)))
    (hbody : ∀ (A : Around) (outer : List PySem.Env) (s : Shared) (H : Hp) (E : L2.XK), Room k (A.deeper (lamEnv X scope s.heap.objs.size f c')) → PE (lamCxN X A outer s H E scope f c') body (tb E))
    (hN : Ng[i]? = some a) (hv : Vis sg a) (hd : (a == ("__debug__" : Str)) = false := by decide) (hcd : (a == ("__classdict__" : Str)) = false := by decide) :
    PE ((cxOf CXg X.prog X.w X.K X.mg X.base Ng qg sg g cdg X.A X.stack s H Eg).tr pn xe) (.Call (.Name a p1) [] [] p2)
      (fun σZ HZ Q => ∃ E : L2.XK, σZ[i]? = some (some (.ref f)) ∧ HZ c' = some (CodeO c' (X.env.qual ++ "<lambda>")) ∧ (∀ cls d H', E cls d H' → W cls d σZ H') ∧ tb E σ HZ Q) := by
  refine ⟨fun pinsZ sZ σZ HZ Q IZ h => ?_⟩
  obtain ⟨E, hs, hc, hW, ht⟩ := h
  refine wpAny_Call_Name_kw (thn ((pe_var (pos := p1) (i := i) hN hv hd hcd).run pinsZ sZ σZ HZ (fun v H1 => v = .ref f ∧ H1 = HZ) IZ ⟨.ref f, hs, rfl, rfl⟩) fun u s1 ⟨v, H1, I1, r1, q1⟩ => ?_)
  obtain ⟨ev, eH⟩ := q1
  subst ev
  rw [eH] at I1
  obtain rfl : u = Value.ref f := r1
  have of1 : s1.heap.get? f = some (PySem.W.kla_obj "<lambda>" (X.env.qual ++ "<lambda>") params body scope (cloFrom X.env.cells scope.names []) pm c' ctv) := I1.base.keep f _ hf hfn hfr (fun z => nomatch (show f ∈ ([] : List Addr) from z))
  refine PySem.W.callWith_F0 ⟨_, _, _, _, of1⟩ ?_
  have un : Un (frs X.stack) [] H HZ s.heap s1.heap := I1.base
  obtain ⟨⟨oc, vs, t, hoc, hdc, hvc⟩, _, _⟩ := I1.hok c' _ hc
  have rc : codeAny (model X.prog X.w) (X.A.deeper (envOfC qg sg s.heap.objs.size g cdg)) (.call (.ref f) ⟨[], []⟩) (CR (L2N.CX X.prog X.w) (envOfC qg sg s.heap.objs.size g cdg :: X.stack) X.prog X.w HZ s1 Q E) s1 := by
    refine PySem.W.kla_callFunE hr.depth of1 rfl L.co L.gen rfl ⟨c', oc, vs, t, rfl, hoc, hdc, hvc⟩ ?_
    rw [hbind]
    refine wpAny_pure (wpAny_newFunctionEnv (fun y hy => (L.own y hy).2) (fun y hy => absurd hy (by simp)) (fun h₁ hns hsb => ⟨I1.nolimit.fresh _ hsb, ?_⟩) L.kind)
    show codeAny _ _ (.expr body (lamEnv X scope s1.heap.objs.size f c')) _ _
    have kp : ∀ b o, s1.heap.get? b = some o → h₁.get? b = some o := fun b o e => hsb.extBut b o (Nat.ne_of_lt (Heap.lt_size e)) (Heap.get?_push_of_some _ e)
    have J0 : Inv (lamCx X (X.A.deeper (envOfC qg sg s.heap.objs.size g cdg)) (envOfC qg sg s.heap.objs.size g cdg :: X.stack) s1 HZ E scope f c') [] σ HZ { s1 with heap := h₁, toks := s1.toks + ([] : List (Str × Value)).length } :=
      lam_start2 I L I1.env0 hr.hd un hns kp
    have J : Inv (lamCxN X (X.A.deeper (envOfC qg sg s.heap.objs.size g cdg)) (envOfC qg sg s.heap.objs.size g cdg :: X.stack) s1 HZ E scope f c') [] σ HZ { s1 with heap := h₁, toks := s1.toks + ([] : List (Str × Value)).length } := J0.wish _
    refine PySem.W.kla_codeExpr (wpAny_mono ((hbody _ _ s1 HZ E (hr.deeper _)).run [] _ _ HZ Q J ht) (fun v s' hq => ?_) fun e s' hq => hq)
    obtain ⟨w', H', J', rv, q⟩ := hq
    exact ⟨w', H', J'.os, J'.bare, J'.base, J'.hok, rv, q⟩
  refine wpAny_call (codeAny_mono rc fun r s' hq => ?_)
  cases r with
  | error e => exact tk e s' (L2N.XE.of_call I1 (fun cls d H' h => hW cls d H' h) hq)
  | ok fl =>
    cases fl with
    | ret u => exact I1.after hq
    | next => exact False.elim hq
    | brk => exact False.elim hq
    | cont => exact False.elim hq
end
/-- the def that calls what it got: a calls it; TT: what it makes of the lambda's reading -/
def GivesToN (P : Program) (w : World) (K : PySem.W.Frag) (mg : Str → Option Value) (base : Heap) (A : Around) (st : List PySem.Env) (Ng : List Str) (x : Str) (sg : Scope) (g : Addr) (cdg : Value) (bg : List Stmt) (a : Str) (k : Nat) (q : Str) (TT : (L2.XK → Hp → VK → Prop) → Hp → VK → Prop) : Prop :=
  ∀ (f c' : Addr) (s : Shared) (H : Hp) (Q : VK) (tl : L2.XK → Hp → VK → Prop), Room k (A.deeper (envOfC x sg s.heap.objs.size g cdg)) →
    (∀ (W : WX) (pn : List (Addr × Obj)) (xe : Value → Shared → Prop) (p1 p2 : Pos), L2N.Takes ((cxOf C8.CX0 P w K mg base Ng x sg g cdg A st s H C8.E0).tr pn xe) W →
      PE ((cxOf C8.CX0 P w K mg base Ng x sg g cdg A st s H C8.E0).tr pn xe) (.Call (.Name a p1) [] [] p2) (fun σZ HZ Q => ∃ E : L2.XK, σZ[0]? = some (some (.ref f)) ∧ HZ c' = some (CodeO c' q) ∧ (∀ cls d H', E cls d H' → W cls d σZ H') ∧ tl E HZ Q)) →
    H c' = some (CodeO c' q) → TT tl H Q →
    ∃ t, PSs (cxOf C8.CX0 P w K mg base Ng x sg g cdg A st s H C8.E0).nox bg t ∧ t { nx := fun _ H' => Q .non H', rt := Q } (L2.start Ng [.ref f]) H
section
variable {X : Cx}
/-- x(lambda: body) -/
theorem pe_lamcallN {T : List (Addr × Str)} {TT : (L2.XK → Hp → VK → Prop) → Hp → VK → Prop} {x a : Str} {g c P : Addr} {k : Nat} {pg : Arguments} {bg : List Stmt} {sg : Scope} {dV kV doc pm cdv ct oc : Value} {an od : Option Addr} {osl : Array (Option Value)} {Ng : List Str}
    {params : Arguments} {body : Expr} {scope : Scope} {t : L2.XK → TE} {p lpos pos : Pos} (hg : Gl X x) (hm : X.mg x = some (.ref g)) (hk : PySem.W.keepIn X.K (.ref g) = true)
    (lk : X.K.lookup g = some ⟨oc, od, .func (PySem.W.fnOf x x pg bg sg dV kV doc pm an cdv ct), osl⟩) (hcg : PySem.W.codeIn X.K cdv x = true) (hb : L2.Binds X.K (PySem.W.fnOf x x pg bg sg dV kV doc pm an cdv ct) [a] []) (Sg : FnScope Ng [a] sg) (hNg : Ng[0]? = some a) (hva : Vis sg a)
    (hG : GivesToN X.prog X.w X.K X.mg X.base X.A X.stack Ng x sg g cdv bg a (k + 1) (X.env.qual ++ "<lambda>") TT)
    (TB : TabB X.base X.mg c P) (hcode : X.env.code = .ref c) (hmT : (P, X.env.qual ++ "<lambda>") ∈ T) (hu : ∀ p ∈ T, p.1 = P → p.2 = X.env.qual ++ "<lambda>") (hr : Room (k + 2) X.A) (L : LamS X.env.scope scope) (hdef : defaultsOf params X.env = ([], []))
    (hbind : ∀ (q : Str) (cl : List (Str × Addr)) (pm cv ctv : Value), bindArgs (PySem.W.kla_fn "<lambda>" q params body scope cl pm cv ctv) ⟨[], []⟩ = pure [])
    (hbody : ∀ (A : Around) (outer : List PySem.Env) (s : Shared) (H : Hp) (E : L2.XK) (f c' : Addr), Room k (A.deeper (lamEnv X scope s.heap.objs.size f c')) → PE (lamCxN X A outer s H E scope f c') body (t E))
    (hdb : (x == ("__debug__" : Str)) = false := by decide) (hd : (a == ("__debug__" : Str)) = false := by decide) (hcd : (a == ("__classdict__" : Str)) = false := by decide) :
    PE X (.Call (.Name x p) [.Lambda params body scope lpos] [] pos) (tLam T TT t) := by
  refine ⟨fun pins s σ H Q I h => ?_⟩
  obtain ⟨hT, h⟩ := h
  refine wpAny_Call_Name_kw (ld_glob I hg hm ?_ hdb)
  refine PySem.W.callWith_K (h₀ := X.base) I.ok.mod.kin hk ?_ (by rfl) (by rfl)
  show wpAny _ _ (spliced ((false, eval (.Lambda params body scope lpos) X.env) :: backTo pos (starEach [] X.env))) _ _ s
  refine Calls.spliced_cons (lam_make2 I TB hcode hmT hu hT hdef (L.has I.ok) fun f c' pm' ctv H1 s' I1 eN T1 hf hfn hfr hco => ?_)
  refine Calls.spliced_nil ⟨I1.kIn, ?_⟩
  have rc : codeAny (model X.prog X.w) X.A (.call (.ref g) ⟨[.ref f], []⟩) (CR C8.CX0 X.stack X.prog X.w H1 s' Q C8.E0) s' := by
    refine run_ofS (N := Ng) (ps := [a]) (us := [.ref f]) (vs := [.ref f]) lk hcg Sg hr I1.env0 (hb s' [.ref f] I1.kIn rfl) (.cons rfl .nil) rfl fun hr' => ?_
    obtain ⟨t', ht', hq'⟩ := hG f c' s' H1 Q (fun E H' Q' => t E σ H' Q') hr' (fun W pn xe p1 p2 tk => pe_actN (i := 0) I1 L hf hfn hfr (hbind _ _ _ _ _) tk hr' (fun A outer s H E hr2 => hbody A outer s H E f c' hr2) hNg hva hd hcd) hco (h H1 eN T1)
    exact ⟨t', ht'.nox, hq'⟩
  refine wpAny_call (codeAny_mono rc fun r s2 hq => ?_)
  cases r with
  | error e => exact (show False from hq).elim
  | ok fl =>
    cases fl with
    | ret u => exact I1.after hq
    | next => exact False.elim hq
    | brk => exact False.elim hq
    | cont => exact False.elim hq
end
end PD

end
section
set_option Elab.async false
set_option linter.all false
set_option maxRecDepth 100000
/-! is True, is False of anything; the signs of a text; join -/
namespace PD
open PySem PySem.Spec PyProof.Rows L2 RZ

/-- no built-in -/
def PlV : V → Prop
  | .non => True
  | .bl _ => True
  | .int _ => True
  | .str _ => True
  | .ref _ => True
  | _ => False
def rIsB2 : R2 := fun x y H Q => ∃ b : Bool, y = .bl b ∧ PlV x ∧ Q (.bl (decide (x = .bl b))) H
def rNotB2 : R2 := fun x y H Q => ∃ b : Bool, y = .bl b ∧ PlV x ∧ Q (.bl (!decide (x = .bl b))) H
theorem plain_bool {x : V} {v : Value} (b : Bool) (p : PlV x) (r : RelV x v) : plainIs v (.bool b) = true := by
  cases x <;> first
    | exact False.elim p
    | (cases (show v = _ from r); rfl)
    | (obtain ⟨t, rfl⟩ := (show ∃ t, v = _ from r); rfl)
section
variable {X : Cx}
theorem is_bool {x : V} {v : Value} {b : Bool} (pl : PlV x) (r : RelV x v) : (v = .bool b) ↔ x = .bl b := by
  cases x <;> first
    | exact False.elim pl
    | (cases (show v = _ from r); simp; done)
    | (obtain ⟨t, rfl⟩ := (show ∃ t, v = _ from r); simp; done)
theorem op_isB2 : OpR X (compareOp .Is) rIsB2 := by
  intro pins s σ H x y v u Q I rx ry h
  obtain ⟨b, rfl, pl, q⟩ := h
  cases (show u = Value.bool b from ry)
  by_cases e : x = .bl b
  · subst e
    cases (show v = Value.bool b from rx)
    exact wpAny_is_self rfl ⟨.bl true, H, I, rfl, by simpa using q⟩
  · exact wpAny_is_other (plain_bool _ pl rx) (fun z => e ((is_bool pl rx).mp z)) ⟨.bl false, H, I, rfl, by simpa [e] using q⟩
theorem op_notB2 : OpR X (compareOp .IsNot) rNotB2 := by
  intro pins s σ H x y v u Q I rx ry h
  obtain ⟨b, rfl, pl, q⟩ := h
  cases (show u = Value.bool b from ry)
  by_cases e : x = .bl b
  · subst e
    cases (show v = Value.bool b from rx)
    exact wpAny_isNot_self rfl ⟨.bl false, H, I, rfl, by simpa using q⟩
  · exact wpAny_isNot_other (plain_bool _ pl rx) (fun z => e ((is_bool pl rx).mp z)) ⟨.bl true, H, I, rfl, by simpa [e] using q⟩
end
def isB (b : Bool) : D → Bool
  | .bl a => a == b
  | _ => false
def isB2P (_ : Env) (x y : D) (k : D → Prop) : Prop := match y with
  | .bl b => k (.bl (isB b x))
  | _ => False
def notB2P (_ : Env) (x y : D) (k : D → Prop) : Prop := match y with
  | .bl b => k (.bl (!isB b x))
  | _ => False
section
variable {c : C0} {t : Tm} {σ : L2.St} {H H' : Hp} {ρ : Env}
theorem RpO.isB {d : D} {v : V} {b : Bool} (r : RpO c t σ H d v) (h : EnvOk c t σ H ρ) : decide (v = .bl b) = isB b d := by
  rcases r with r | ⟨i, rfl, hi, e⟩
  · cases r <;> first
      | rfl
      | exact decide_eq_false (fun z => by cases z)
      | (rename_i a; cases a <;> cases b <;> rfl)
  · cases hd : ρ[i]? with
    | none =>
      have l1 := List.getElem?_eq_none_iff.mp hd
      have l2 := (List.getElem?_eq_some_iff.mp e).1
      have := h.len
      omega
    | some o =>
      cases o with
      | none =>
        have := h.ownn i hi hd
        rw [e] at this; cases this
      | some d =>
        obtain ⟨l, e1, _⟩ := h.ownv i d hd hi
        rw [e] at e1; cases e1
        exact decide_eq_false (fun z => by cases z)
theorem RpO.plv {d : D} {v : V} (r : RpO c t σ H d v) (h : EnvOk c t σ H ρ) : PlV v := by
  rcases r with r | ⟨i, rfl, hi, e⟩
  · cases r <;> trivial
  · cases hd : ρ[i]? with
    | none =>
      have l1 := List.getElem?_eq_none_iff.mp hd
      have l2 := (List.getElem?_eq_some_iff.mp e).1
      have := h.len
      omega
    | some o =>
      cases o with
      | none =>
        have := h.ownn i hi hd
        rw [e] at this; cases this
      | some d =>
        obtain ⟨l, e1, _⟩ := h.ownv i d hd hi
        rw [e] at e1; cases e1
        trivial
theorem sr_isB2 : SR2 c rIsB2 isB2P := fun t σ H ρ x y dx dy P Q h rx ry q k => by
  cases dy with
  | bl b =>
    refine ⟨b, ry.bl, rx.plv h, ?_⟩
    rw [rx.isB h]
    exact k _ _ H h (.bl _) q
  | _ => exact False.elim q
theorem sr_notB2 : SR2 c rNotB2 notB2P := fun t σ H ρ x y dx dy P Q h rx ry q k => by
  cases dy with
  | bl b =>
    refine ⟨b, ry.bl, rx.plv h, ?_⟩
    rw [rx.isB h]
    exact k _ _ H h (.bl _) q
  | _ => exact False.elim q
/-! the signs of a text -/
def signs (x : Str) : List D := x.cps.toList.map fun c => .str ⟨#[c]⟩
def dStrI (a : DE) : DI := fun ρ P => a ρ fun d ρ1 => match d with
  | .str x => P (signs x) ρ1
  | _ => False
theorem si_str {ta : TE} {da : DE} (ha : SV c ta da) : SI c (iStr ta) (dStrI da) := fun t σ H ρ P R h q k =>
  ha t σ H ρ _ _ h q fun v d H1 ρ1 h1 r1 q1 => by
    cases d with
    | str x =>
      cases r1
      refine ⟨x, rfl, k t _ _ H1 ρ1 rfl (.refl t) h1 (fun t2 σ H ρ s h => ?_) q1⟩
      have el : (signs x).length = x.cps.size := by unfold signs; rw [List.length_map, Array.length_toList]
      rw [el]
      refine ⟨fun i hi => hi, fun i y H' z hi => ?_, Nat.le_refl _⟩
      obtain ⟨rfl, c', hc, rfl⟩ := z
      refine ⟨_, ?_, h, .str _⟩
      unfold signs
      rw [List.getElem?_map, Array.getElem?_toList, hc]; rfl
    | _ => exact False.elim q1
/-- x.join(ys) -/
def rJoin (K : PySem.W.Frag) : V → List V → Hp → VK → Prop := fun x xs H Q => ∃ a p, ∃ ys : List Str, x = .str a ∧ xs = [.ref p] ∧ (SqL K H p (ys.map V.str) ∨ SqT K H p (ys.map V.str)) ∧
      (ys.map (·.length)).sum + ys.length * a.length ≤ 16777216 ∧ Q (.str (Txt.join a ys)) H
theorem pe_joinK {K : PySem.W.Frag} {X : Cx} {o e : Expr} {to te : TE} {apos pos : Pos} (h : X.K = K) (ho : PE X o to) (he : PE X e te) (hs : starEach [e] X.env = [(false, eval e X.env)] := by rfl) (hbase : attributeBase o "join" X.env (eval o X.env) = eval o X.env := by rfl) (hline : (apos.endLine == pos.line) = true := by rfl) :
    PE X (.Call (.Attribute o "join" apos) [e] [] pos) (tM1 (rJoin K) to te) := h ▸ pe_join ho he hs hbase hline
theorem RpL.strs {K : PySem.W.Frag} {A : Addr → Prop} {H : Hp} : ∀ {ns : List Str} {vs : List V}, RpL K A H (ns.map D.str) vs → vs = ns.map V.str
  | [], _, .nil => rfl
  | _ :: _, _, .cons (.str _) b => congrArg (_ :: ·) (RpL.strs b)
def dJoin (a b : DE) : DE := fun ρ P => a ρ fun x ρ1 => match x with
  | .str s => b ρ1 fun y ρ2 => ∃ ys : List Str, (match y with
    | .lst l => l = ys.map D.str
    | _ => False) ∧ (ys.map (·.length)).sum + ys.length * s.length ≤ 16777216 ∧ P (.str (Txt.join s ys)) ρ2
  | _ => False
theorem sv_join {ta tb : TE} {da db : DE} (ha : SV c ta da) (hb : SV c tb db) : SV c (tM1 (rJoin c.K) ta tb) (dJoin da db) := fun t σ H ρ P Q h q k => by
  refine ha t σ H ρ _ _ h q fun v d H1 ρ1 h1 r1 q1 => ?_
  cases d with
  | str s =>
    cases r1
    refine ⟨⟨s, rfl⟩, hb t σ H1 ρ1 _ _ h1 q1 fun u e H2 ρ2 h2 r2 q2 => ?_⟩
    obtain ⟨ys, hy, hz, q2⟩ := q2
    cases e with
    | lst l =>
      have hy : l = ys.map D.str := hy
      subst hy
      obtain ⟨a, vs, rfl, _, ha2, rs⟩ := r2.seqL
      obtain rfl := rs.strs
      exact ⟨s, a, ys, rfl, rfl, .inl (.of ha2), hz, k _ _ H2 ρ2 h2 (.str _) q2⟩
    | _ => exact False.elim hy
  | _ => exact False.elim q1
end
theorem join_single : ∀ l : List Nat, Str.join (Str.ofString "") (l.map fun c => (⟨#[c]⟩ : Str)) = ⟨l.toArray⟩
  | [] => by
    show Str.empty = _
    rfl
  | [c] => rfl
  | c :: d :: l => by
    have ih := join_single (d :: l)
    show (⟨#[c]⟩ : Str) ++ Str.ofString "" ++ Str.join (Str.ofString "") ((d :: l).map fun c => (⟨#[c]⟩ : Str)) = _
    rw [ih]
    show (⟨(#[c] ++ (Str.ofString "").cps) ++ (d :: l).toArray⟩ : Str) = _
    have e : (Str.ofString "").cps = #[] := by decide +kernel
    rw [e]
    simp
/-- the signs of a text joined -/
theorem signs_join (x : Str) : ∃ ys : List Str, signs x = ys.map D.str ∧ Txt.join (Str.ofString "") ys = x ∧ (ys.map (·.length)).sum + ys.length * (Str.ofString "").length = x.length := by
  refine ⟨x.cps.toList.map fun c => ⟨#[c]⟩, ?_, ?_, ?_⟩
  · unfold signs; rw [List.map_map]; rfl
  · rw [TL.join_eq, join_single]
  · have e : (Str.ofString "").length = 0 := by decide +kernel
    rw [e, Nat.mul_zero, Nat.add_zero, List.map_map]
    have e2 : ((fun s : Str => s.length) ∘ fun c => (⟨#[c]⟩ : Str)) = fun _ : Nat => 1 := by funext c; rfl
    rw [e2]
    show _ = x.cps.size
    rw [← Array.length_toList]
    generalize x.cps.toList = l
    induction l with
    | nil => rfl
    | cons a l ih => rw [List.map_cons, List.sum_cons, ih, List.length_cons]; omega
end PD

end
section
set_option Elab.async false
set_option linter.all false
set_option maxRecDepth 100000
/-! what is told of a lambda: its value read, or the error's name -/
namespace PD
open PySem PySem.Spec PyProof.Rows L2 RZ LamX

theorem Pn.nt {o : HO} (h : Pn o) : ∀ ps, o ≠ .tbl ps := fun ps e => by subst e; exact h
def exNm : Ex → Str
  | .form => "form"
  | .range => "range"
/-- told: (0, what is read), or (1, the error's name) -/
def TTold (K : PySem.W.Frag) (cl : Ex → Addr) (T : List (Addr × Str)) (Fr : FP) : (L2.XK → Hp → VK → Prop) → Hp → VK → Prop := fun tl H Q => ∀ (E' : L2.XK) (Q' : VK),
  (∀ x H', LamX.Tabs T H' → (∀ H'' p, Gr T H' H'' → (∀ o, H' p = some o → Pn o → False) → H'' p = some (.tup [.int 1, .str (exNm x)]) → Q (.ref p) H'') → E' (.ref (cl x)) none H') →
  (∀ v H', spP K cl T 1 Fr [v] H' (fun w H'' => ∀ p, H'' p = none → Q (.ref p) (upd H'' p (.tup [.int 0, w]))) E0 → Q' v H') → tl E' H Q'
def wipeO (own : Nat → Bool) (ρ : Env) : Env := ρ.mapIdx fun i x => if own i then none else x
theorem wipeO_len (own : Nat → Bool) (ρ : Env) : (wipeO own ρ).length = ρ.length := by unfold wipeO; rw [List.length_mapIdx]
theorem wipeO_get {own : Nat → Bool} {ρ : Env} {i : Nat} {d : D} (h : (wipeO own ρ)[i]? = some (some d)) : own i = false ∧ ρ[i]? = some (some d) := by
  unfold wipeO at h
  rw [List.getElem?_mapIdx] at h
  cases e : ρ[i]? with
  | none => rw [e] at h; cases h
  | some x =>
    rw [e] at h
    have h : (if own i then none else x) = some d := Option.some.inj h
    cases ho : own i with
    | true => rw [ho] at h; cases h
    | false => rw [ho] at h; exact ⟨rfl, congrArg some h⟩
def dTold (Fr : FP) (own : Nat → Bool) (db : (Ex → Prop) → DE) : DE := fun ρ P => db (fun x => P (.tup [.int 1, .str (exNm x)]) ρ) (wipeO own ρ) fun d _ => Fr [d] (fun e => P (.tup [.int 0, e]) ρ) noX
section
variable {K : PySem.W.Frag} {z : Addr → Prop} {bx : Option Addr} {h0 : Hp} {own : Nat → Bool} {ew : L2.XK} {dw : Ex → Prop} {cl : Ex → Addr} {T : List (Addr × Str)} {Fr : FP}
theorem sv_told {tb : L2.XK → TE} {db : (Ex → Prop) → DE} (hb : ∀ z h0 E W, TakesE ⟨K, z, none, h0, fun _ => false, E, W, cl, T⟩ E W → SV ⟨K, z, none, h0, fun _ => false, E, W, cl, T⟩ (tb E) (db W)) :
    SV ⟨K, z, bx, h0, own, ew, dw, cl, T⟩ (tLam T (TTold K cl T Fr) tb) (dTold Fr own db) := fun t σ H ρ P Q h q k => by
  refine ⟨h.tabs, fun H1 eN t1 E' Q' hE hQ => ?_⟩
  have h1 : EnvOk ⟨K, z, bx, h0, own, ew, dw, cl, T⟩ t σ H1 ρ := h.grow ⟨fun a o e pn => eN a o e pn.nt, fun _ => t1⟩
  generalize hc : (⟨K, z, bx, h0, own, ew, dw, cl, T⟩ : C0) = c at h h1 k
  have ecK : c.K = K := by rw [← hc]
  have ecT : c.T = T := by rw [← hc]
  have eco : c.own = own := by rw [← hc]
  have far : ∀ a, Far ⟨K, Far c t σ, none, H1, fun _ => false, E', fun x => P (.tup [.int 1, .str (exNm x)]) ρ, cl, T⟩ ⟨[], []⟩ σ a ↔ Far c t σ a := fun a => by
    constructor
    · rintro (f | ⟨o, f⟩ | ⟨i, hi, _⟩)
      · exact f
      · cases f
      · cases hi
    · exact .inl
  have farE : Far ⟨K, Far c t σ, none, H1, fun _ => false, E', fun x => P (.tup [.int 1, .str (exNm x)]) ρ, cl, T⟩ ⟨[], []⟩ σ = Far c t σ := funext fun a => propext (far a)
  have hl : EnvOk ⟨K, Far c t σ, none, H1, fun _ => false, E', fun x => P (.tup [.int 1, .str (exNm x)]) ρ, cl, T⟩ ⟨[], []⟩ σ H1 (wipeO own ρ) := by
    refine ⟨by rw [wipeO_len]; exact h1.len, fun a o e _ _ => e, t1, fun a f => h1.trk a ((far a).mp f), fun i d e _ => ?_, fun i d e hi => (nomatch hi), fun i hi => (nomatch hi), fun i j l hi => (nomatch hi), fun b e => (nomatch e), fun p hp => (nomatch hp), fun p hp => (nomatch hp)⟩
    obtain ⟨ho, e⟩ := wipeO_get e
    rw [farE]
    obtain ⟨v, e1, r⟩ := h1.val i d e (by rw [eco]; exact ho)
    exact ⟨v, e1, by rw [← ecK]; exact r⟩
  refine hb (Far c t σ) H1 E' (fun x => P (.tup [.int 1, .str (exNm x)]) ρ) (fun x H' fr tb w => hE x H' tb fun H'' p g fresh ep => ?_) ⟨[], []⟩ σ H1 (wipeO own ρ) _ Q' hl q (fun v d H2 ρ2 h2 r2 q2 => hQ v H2 ?_)
  · have g1 : Gr T H1 H'' := ⟨fun a o e pn => g.1 a o (fr a o e pn (fun z => nomatch z)) pn, fun _ => g.2 tb⟩
    have h3 : EnvOk c t σ H'' ρ := h1.grow (by rw [ecT]; exact g1)
    have np : ¬ Far c t σ p := fun f => by
      obtain ⟨o, eo, pn⟩ := h1.trk p f
      exact fresh o (fr p o eo pn (fun z => nomatch z)) pn
    exact k _ (.tup [.int 1, .str (exNm x)]) H'' ρ h3 (.tup np ep (.cons (.int 1) (.cons (.str _) .nil))) w
  · rw [farE] at r2
    have g2 : Gr T H1 H2 := ⟨fun a o e pn => h2.frame a o e pn (fun z => nomatch z), fun _ => h2.tabs⟩
    have h2' : EnvOk c t σ H2 ρ := h1.grow (by rw [ecT]; exact g2)
    refine ⟨Far c t σ, [d], _, noX, rfl, h2.tabs, h2'.trk, .cons r2 .nil, q2, fun w e H3 g3 r3 p3 p hp => ?_, fun _ _ _ w => w.elim⟩
    have h3 : EnvOk c t σ H3 ρ := h2'.grow (by rw [ecT]; exact g3)
    exact k _ (.tup [.int 0, e]) _ ρ (h3.new hp) (.tup (h3.far hp) upd_same (.cons (.int 0) (.cons (by rw [ecK]; exact r3.grow (upd_grow hp)) .nil))) p3
end

/-! ### the suite that tells the error's name -/
section
variable {c : C0} {ta : TE} {da : DE}
/-- the items of a list -/
def dLstI (a : DE) : DI := fun ρ P => a ρ fun d ρ1 => match d with
  | .lst xs => P xs ρ1
  | _ => False
theorem si_lst (ha : SV c ta da) : SI c (iList c.K ta) (dLstI da) := fun t σ H ρ P R h q k =>
  ha t σ H ρ _ _ h q fun v d H1 ρ1 h1 r1 q1 => by
    have un : Sub t ⟨(d, v) :: t.vals, t.hold⟩ := (Sub.refl t).cons
    cases d with
    | lst xs =>
      obtain ⟨a, vs, rfl, _, hs, _⟩ := r1.seqL
      refine ⟨a, rfl, ⟨vs, .of hs⟩, k ⟨(_, _) :: t.vals, t.hold⟩ _ xs H1 ρ1 rfl un (h1.pin r1) (itl_ok fun t2 σ H ρ s h => ?_) q1⟩
      obtain ⟨a', vs, e, _, hs, rs⟩ := (h.tv _ (s _ List.mem_cons_self)).seqL
      cases e
      exact ⟨vs, .of hs, rs⟩
    | _ => exact False.elim q1
/-- isinstance(e, c) -/
def isEP (K : PySem.W.Frag) (C a : Addr) (_ : Env) (xs : List D) (k : D → Prop) : Prop := ∃ (cc : Addr) (b : Bool), xs = [.fn a, .fn cc] ∧ PySem.W.kitOne K (.ref C) (.ref cc) = some b ∧ k (.bl b)
theorem sr_isE {C a : Addr} : SRL c (rIsE c.K C a) (isEP c.K C a) := fun t σ H ρ xs ds P Q h r q k => by
  obtain ⟨cc, b, rfl, e, q⟩ := q
  cases r with
  | cons r1 r2 => cases r2 with
    | cons r2 r3 =>
      cases r3
      have e1 := r1.rp trivial
      have e2 := r2.rp trivial
      cases e1
      cases e2
      exact ⟨_, .ref cc, b, rfl, fun u hu => hu, e, k _ _ H h (.bl b) q⟩
end
def exEq : Ex → Ex → Bool
  | .form, .form => true
  | .range, .range => true
  | _, _ => false
/-- the facts of an own error's class -/
structure ExF (K : PySem.W.Frag) (cl : Ex → Addr) (pe : Addr) (x : Ex) : Prop where
  c : L2.ExcC K (cl x)
  m : PySem.W.exmOne K (.ref (cl x)) (.ref pe) = some true
  k : ∀ y, PySem.W.kitOne K (.ref (cl x)) (.ref (cl y)) = some (exEq x y)
theorem pss_ex {X : Cx} {α : Type} {p : α → Prop} {ts : α → TS} {sts : List Stmt} (h : ∀ x, p x → PSs X sts (ts x)) : PSs X sts (fun D σ H => ∃ x, p x ∧ ts x D σ H) := ⟨fun pins s σ H D I q => by
  obtain ⟨x, hp, q⟩ := q
  exact (h x hp).run pins s σ H D I q⟩
/-- words = [word for word, is_so in [("form", isinstance(e, form)), ("range", isinstance(e, range))] if is_so]; return (1, words[0] if len(words) == 1 else "wrong") -/
def tSuite (K : PySem.W.Frag) (cl : Ex → Addr) (C a : Addr) : TS :=
  tSeq (tAsg (tLc (iList K (tLst (tCons (tTup (tCons (tC (.str "form")) (tCons (tCB (rIsE K C a) (tCons (tVar 1) (tCons (tC (.ref (cl .form))) tNil))) tNil))) (tCons (tTup (tCons (tC (.str "range")) (tCons (tCB (rIsE K C a) (tCons (tVar 1) (tCons (tC (.ref (cl .range))) tNil))) tNil))) tNil))))
      (gTup K 2 (gCons (gName 3) (gCons (gName 4) gNil))) (tTest (tVar 4)) (tVar 3) [3, 4]) (gName 2))
    (tRet (tTup (tCons (tC (.int 1)) (tCons (tIf (tTest (tOp (rEqD K) (tCB (rLenK K) (tCons (tVar 2) tNil)) (tC (.int 1)))) (tOp (rIx K) (tVar 2) (tC (.int 0))) (tC (.str "wrong"))) tNil))))
def dSuite (K : PySem.W.Frag) (cl : Ex → Addr) (C a : Addr) : DS :=
  dSeq (dSet 2 (dLc (dLstI (dLst (dCons (dTup (dCons (dC (.str "form")) (dCons (dCB (isEP K C a) (dCons (dVar 1) (dCons (dC (.fn (cl .form))) dNil))) dNil))) (dCons (dTup (dCons (dC (.str "range")) (dCons (dCB (isEP K C a) (dCons (dVar 1) (dCons (dC (.fn (cl .range))) dNil))) dNil))) dNil))))
      (dgTup 2 (dgCons (dgName 3) (dgCons (dgName 4) dgNil))) (dTest (dVar 4)) (dVar 3) [3, 4]))
    (dRet (dTup (dCons (dC (.int 1)) (dCons (dIf (dTest (dOp eqP (dCB lenP (dCons (dVar 2) dNil)) (dC (.int 1)))) (dOp ixP (dVar 2) (dC (.int 0))) (dC (.str "wrong"))) dNil))))
section
variable {K : PySem.W.Frag} {z : Addr → Prop} {bx : Option Addr} {h0 : Hp} {ew : L2.XK} {dw : Ex → Prop} {cl : Ex → Addr} {T : List (Addr × Str)}
theorem ss_suite {C a : Addr} : SS ⟨K, z, bx, h0, fun _ => false, ew, dw, cl, T⟩ (tSuite K cl C a) (dSuite K cl C a) :=
  ss_seq (ss_set 2 rfl (SFL.v (sfl_lc (vs := [3, 4]) (si_lst (sv_lst (sa_cons (sv_tup (sa_cons sv_str (sa_cons (sv_cb sr_isE (sao_cons (SV.se (sv_var 1 rfl)) (sao_cons (SV.se sv_fn) sao_nil))) sa_nil))) (sa_cons (sv_tup (sa_cons sv_str (sa_cons (sv_cb sr_isE (sao_cons (SV.se (sv_var 1 rfl)) (sao_cons (SV.se sv_fn) sao_nil))) sa_nil))) sa_nil))))
      (sg_tup (sgs_cons (sg_name 3 rfl) (sgs_cons (sg_name 4 rfl) sgs_nil))) (st_test (sv_var 4 rfl)) (sv_var 3 rfl) rfl rfl)))
    (ss_ret (SV.se (sv_tup (sa_cons sv_int (sa_cons (sv_if (st_testO (sv_op sr_eq (SV.se (sv_cb sr_len (sao_cons (SV.se (sv_var 2 rfl)) sao_nil))) (SV.se sv_int))) (sv_op sr_ix (SV.se (sv_var 2 rfl)) (SV.se sv_int)) sv_str) sa_nil)))))
end
def suiteAcc (x : Ex) : Nat → List D
  | 0 => []
  | 1 => if exEq x .form then [.str "form"] else []
  | _ => [.str (exNm x)]
theorem suite_ok {K : PySem.W.Frag} {cl : Ex → Addr} {pe f a : Addr} {x : Ex} (F : ExF K cl pe x) {De : DEnds} (h : ∀ ρ, De.rt (.tup [.int 1, .str (exNm x)]) ρ) :
    dSuite K cl (cl x) a De [some (.fn f), some (.fn a), none, none, none] := by
  have hk := F.k
  simp only [dSuite, dSeq, dSet, dLc, dLstI, dLst, dCons, dTup, dC, dCB, isEP, dVar, dNil, List.getElem?_cons_zero, List.getElem?_cons_succ]
  refine ⟨_, _, rfl, hk .form, _, _, rfl, hk .range, ?_⟩
  have hz : (0 : Nat) < sizeLine := by decide
  refine ⟨fun i acc ρ => ρ = [some (.fn f), some (.fn a), none, none, none] ∧ acc = suiteAcc x i, ⟨rfl, rfl⟩, ?_, ?_⟩
  · rintro i d acc ρ2 e ⟨rfl, w⟩
    subst w
    match i, e with
    | 0, e =>
      cases e
      cases x <;> simp [dgTup, dgCons, dgNil, dgName, wipeD, backD, dTest, dVar, sel, suiteAcc, exEq, exNm, hz]
    | 1, e =>
      cases e
      cases x <;> simp [dgTup, dgCons, dgNil, dgName, wipeD, backD, dTest, dVar, sel, suiteAcc, exEq, exNm, hz]
    | i + 2, e => simp at e
  · rintro acc ρ2 ⟨rfl, w⟩
    subst w
    simp [dRet, dIf, dTest, dOp, eqP, lenP, ixP, onS, onL, deref, okN, okNs, eqD_int, sel, dC, dTup, dCons, dNil, dCB, dVar, suiteAcc]
    exact h _
end PD

end
section
set_option Elab.async false
set_option linter.all false
set_option maxRecDepth 100000
/-! told(lambda: body) in a def whose code object and table are known -/
namespace PD
open PySem PySem.Spec PyProof.Rows L2 RZ LamX

/-- a def whose code object stands at c -/
structure FunC (K : PySem.W.Frag) (x qual : Str) (st : Stmt) (f c : Addr) (fd : FuncData) : Prop where
  ex : ∃ (oc : Value) (od : Option Addr) (kV doc pm : Value) (an : Option Addr) (ct : Value) (osl : Array (Option Value)),
    fd = PySem.W.fnOf x qual (defArgs st) (defBody st) (defScope st) .none kV doc pm an (.ref c) ct ∧ K.lookup f = some ⟨oc, od, .func fd, osl⟩ ∧ PySem.W.codeIn K (.ref c) qual = true
  kp : PySem.W.keepIn K (.ref f) = true
theorem FunC.fn {K : PySem.W.Frag} {x qual : Str} {st : Stmt} {f c : Addr} {fd : FuncData} (F : FunC K x qual st f c fd) : Fun K x qual st f fd := by
  obtain ⟨oc, od, kV, doc, pm, an, ct, osl, h⟩ := F.ex
  exact ⟨⟨oc, od, kV, doc, pm, an, .ref c, ct, osl, h⟩, F.kp⟩
section
variable {P : Program} {w : World} {K : PySem.W.Frag} {mg : Str → Option Value} {base : Heap} {cl : Ex → Addr} {T : List (Addr × Str)}
variable {x qual : Str} {st : Stmt} {f c : Addr} {fd : FuncData} {N ps : List Str} {k : Nat}
theorem FunC.okN {sp : Sp} (F : FunC K x qual st f c fd) (S : FnScope N ps (defScope st)) (len : ∀ vs H Q E, sp vs H Q E → vs.length = ps.length)
    (hbody : ∀ (A : Around) (outer : List PySem.Env) (s : Shared) (H : Hp) (vs : List V) (Q : VK) (E : L2.XK), Room k (A.deeper (envOfC qual (defScope st) s.heap.objs.size f (.ref c))) → sp vs H Q E →
      ∃ t, PSs (cxOf (L2N.CX P w) P w K mg base N qual (defScope st) f (.ref c) A outer s H E) (defBody st) t ∧ t { nx := fun _ H' => Q .non H', rt := Q } (L2.start N vs) H) : FnOk P w K mg base (L2N.CX P w) (k + 1) f fd ps sp := by
  obtain ⟨oc, od, kV, doc, pm, an, ct, osl, rfl, lk, hcd⟩ := F.ex
  exact fn_of lk hcd S len fun A outer s H vs Q E hr hsp => hbody A outer s H vs Q E hr hsp
/-- fn_pure, the code object known -/
theorem fn_pureC (F : FunC K x qual st f c fd) (S : FnScope N ps (defScope st)) (own : Nat → Bool) (hown : ∀ i, i < ps.length → own i = false) {Fs : FP} (ds : (Ex → Prop) → DS)
    (body : ∀ (A : Around) (outer : List PySem.Env) (s : Shared) (H : Hp) (E : L2.XK), Room k (A.deeper (envOfC qual (defScope st) s.heap.objs.size f (.ref c))) →
      ∃ ts, PSs (cxOf (L2N.CX P w) P w K mg base N qual (defScope st) f (.ref c) A outer s H E) (defBody st) ts ∧ ∀ z h0 dw, TakesE ⟨K, z, none, h0, own, E, dw, cl, T⟩ E dw → SS ⟨K, z, none, h0, own, E, dw, cl, T⟩ ts (ds dw))
    (spec : ∀ args P W, args.length = ps.length → Fs args P W → ds W ⟨fun _ => P .non, fun d ρ => P (retD ρ d), fun _ => False, fun _ => False⟩ (startD N.length args)) :
    FnOk P w K mg base (L2N.CX P w) (k + 1) f fd ps (spP K cl T ps.length Fs) := by
  exact FunC.okN F S (fun vs H Q E h => pure_len h) (fun A outer s H vs Q E hr h => by
    obtain ⟨ts, hts, hs⟩ := body A outer s H E hr
    exact ⟨ts, hts, pure_run own hown hs spec h⟩)
/-- fn_box, the code object known -/
theorem fn_boxC (F : FunC K x qual st f c fd) (S : FnScope N ps (defScope st)) (own : Nat → Bool) (hown : ∀ i, i < ps.length → own i = (i == 0)) (h0 : 0 < ps.length) {Fs : FB} (ds : (Ex → Prop) → DS)
    (body : ∀ (A : Around) (outer : List PySem.Env) (s : Shared) (H : Hp) (E : L2.XK), Room k (A.deeper (envOfC qual (defScope st) s.heap.objs.size f (.ref c))) →
      ∃ ts, PSs (cxOf (L2N.CX P w) P w K mg base N qual (defScope st) f (.ref c) A outer s H E) (defBody st) ts ∧ ∀ z b h0 dw, TakesE ⟨K, z, some b, h0, own, E, dw, cl, T⟩ E dw → SS ⟨K, z, some b, h0, own, E, dw, cl, T⟩ ts (ds dw))
    (spec : ∀ bx args P W, args.length + 1 = ps.length → Fs (bx :: args) P W → ds W ⟨fun ρ => ∃ b, ρ[0]? = some (some b) ∧ P .non b, fun d ρ => ∃ b, ρ[0]? = some (some b) ∧ NotOwn d ∧ P d b, fun _ => False, fun _ => False⟩ (startD N.length (bx :: args))) :
    FnOk P w K mg base (L2N.CX P w) (k + 1) f fd ps (spB K cl T ps.length Fs) := by
  exact FunC.okN F S (fun vs H Q E h => box_len h) (fun A outer s H vs Q E hr h => by
    obtain ⟨ts, hts, hs⟩ := body A outer s H E hr
    exact ⟨ts, hts, box_run own hown h0 hs spec h⟩)
end
section
variable {X : Cx}
theorem pe_told {T : List (Addr × Str)} {TT : (L2.XK → Hp → VK → Prop) → Hp → VK → Prop} {x a : Str} {st : Stmt} {g c Pt : Addr} {fd : FuncData} {k : Nat} {Ng : List Str} {params : Arguments} {body : Expr} {scope : Scope} {t : L2.XK → TE} {p lpos pos : Pos}
    (F : Fun X.K x x st g fd) (hb : L2.Binds X.K fd [a] []) (Sg : FnScope Ng [a] (defScope st)) (hG : ∀ cdv, GivesToN X.prog X.w X.K X.mg X.base X.A X.stack Ng x (defScope st) g cdv (defBody st) a (k + 1) (X.env.qual ++ "<lambda>") TT)
    (hbody : ∀ (A : Around) (outer : List PySem.Env) (s : Shared) (H : Hp) (E : L2.XK) (f c' : Addr), Room k (A.deeper (lamEnv X scope s.heap.objs.size f c')) → PE (lamCxN X A outer s H E scope f c') body (t E))
    (hg : Gl X x) (hm : X.mg x = some (.ref g)) (hr : Room (k + 2) X.A)
    (TB : TabB X.base X.mg c Pt) (hcode : X.env.code = .ref c) (hmT : (Pt, X.env.qual ++ "<lambda>") ∈ T) (hu : ∀ p ∈ T, p.1 = Pt → p.2 = X.env.qual ++ "<lambda>")
    (hNg : Ng[0]? = some a) (hva : Vis (defScope st) a) (L : LamS X.env.scope scope) (hdef : defaultsOf params X.env = ([], []))
    (hbind : ∀ (q : Str) (cl : List (Str × Addr)) (pm cv ctv : Value), bindArgs (PySem.W.kla_fn "<lambda>" q params body scope cl pm cv ctv) ⟨[], []⟩ = pure [])
    (hdb : (x == ("__debug__" : Str)) = false := by decide) (hd : (a == ("__debug__" : Str)) = false := by decide) (hcd : (a == ("__classdict__" : Str)) = false := by decide) :
    PE X (.Call (.Name x p) [.Lambda params body scope lpos] [] pos) (tLam T TT t) := by
  obtain ⟨oc, od, kV, doc, pm, an, cdv, ct, osl, rfl, lk, hcg⟩ := F.ex
  exact pe_lamcallN hg hm F.kp lk hcg hb Sg hNg hva (hG cdv) TB hcode hmT hu hr L hdef hbind hbody hdb hd hcd
end
end PD

end
section
set_option Elab.async false
set_option linter.all false
set_option maxRecDepth 100000
/-! a def that gives a new list -/
namespace PD
open PySem PySem.Spec PyProof.Rows L2 RZ LamX

def spN (K : PySem.W.Frag) (cl : Ex → Addr) (T : List (Addr × Str)) (n : Nat) (F : FP) : Sp := fun vs H Q E => ∃ (z : Addr → Prop) (args : List D) (P : D → Prop), args.length = n ∧ LamX.Tabs T H ∧ (∀ a, z a → ∃ o, H a = some o ∧ Pn o) ∧ RpL K z H args vs ∧ F args P noX ∧
  ∀ p o d H', Gr T H H' → (∀ o, H p = some o → Pn o → False) → H' p = some o → OwnC K (fun a => a = p ∨ z a) H' o d → P d → Q (.ref p) H'
section
variable {c : C0} {t : Tm} {σ : L2.St} {H H' : Hp} {ρ : Env} {ta : TA} {da : DA}
theorem EnvOk.addLate {p : Addr} {o : HO} (h : EnvOk c t σ H ρ) (g : Gr c.T H H') (hp : ∀ o, H p = some o → Pn o → False) (e : H' p = some o) (pn : Pn o) : EnvOk c (t.add p o) σ H' ρ := by
  have keep : ∀ a o', ¬ Far c t σ a → H a = some o' → Pn o' → ¬ Far c (t.add p o) σ a ∧ H' a = some o' := fun a o' na e2 q => by
    have hne : a ≠ p := fun z => hp o' (by rw [← z]; exact e2) q
    exact ⟨fun f => (far_add.mp f).elim hne na, g.1 _ _ e2 q⟩
  have np : ¬ Far c t σ p := fun f => by
    obtain ⟨o', e', q⟩ := h.trk p f
    exact hp o' e' q
  have h1 := h.grow g
  refine ⟨h.len, h1.frame, h1.tabs, fun a f => ?_, fun i d e n => ?_, fun i d e n => ?_, h.ownn, h.dist, h.bx, fun q hq => (h.tv q hq).move keep, fun q hq => ?_⟩
  · rcases far_add.mp f with rfl | f
    · exact ⟨o, e, pn⟩
    · exact h1.trk a f
  · obtain ⟨v, e1, r⟩ := h.val i d e n
    exact ⟨v, e1, r.move keep⟩
  · obtain ⟨l, e1, x, z⟩ := h.ownv i d e n
    exact ⟨l, e1, x.move (fun o q pn => g.1 _ _ q pn) keep, z⟩
  · rcases List.mem_cons.mp hq with e' | hq
    · subst e'
      refine ⟨e, fun i hi e => np (.inr (.inr ⟨i, hi, e⟩)), fun o' e' q => ?_, pn⟩
      by_cases hb : c.box = some p
      · obtain ⟨a, b⟩ := h.bx p hb
        exact np (.inr (.inr ⟨0, a, b⟩))
      · exact hp o' (h.frame p o' e' q hb) q
    · exact h1.th q hq
theorem sf_callN {F : FP} {n : Nat} {E : L2.XK} (ha : SA c n ta da) : SF c (tCall (spN c.K c.cl c.T n F) [] E ta) (dCall F noX da) := fun t σ H ρ P Q h q k =>
  ha t σ H ρ _ _ h q fun vs ds H1 ρ1 h1 r1 n1 q1 => by
    rw [List.append_nil]
    refine ⟨Far c t σ, ds, _, by rw [r1.length]; exact n1, h1.tabs, h1.trk, r1, q1, fun p o d H2 g fresh e x p2 => k p o d H2 ρ1 (fun f => ?_) (h1.addLate g fresh e x.pn) (x.move fun a u na ea _ => ⟨fun f => na ((far_add.mp f).elim .inl .inr), ea⟩) p2⟩
    obtain ⟨o', e', q⟩ := h1.trk p f
    exact fresh o' e' q
end
section
variable {P : Program} {w : World} {K : PySem.W.Frag} {mg : Str → Option Value} {base : Heap} {cl : Ex → Addr} {T : List (Addr × Str)}
variable {x qual : Str} {st : Stmt} {f : Addr} {fd : FuncData} {N ps : List Str} {k : Nat}
theorem fn_new (F : Fun K x qual st f fd) (S : FnScope N ps (defScope st)) {Fs : FP} {de : DE}
    (body : ∀ (cdv : Value) (A : Around) (outer : List PySem.Env) (s : Shared) (H : Hp) (E : L2.XK), Room k (A.deeper (envOfC qual (defScope st) s.heap.objs.size f cdv)) →
      ∃ te, PSs (cxOf (L2N.CX P w) P w K mg base N qual (defScope st) f cdv A outer s H E) (defBody st) (tRet te) ∧ ∀ z h0, SF ⟨K, z, none, h0, fun _ => false, E, noX, cl, T⟩ te de)
    (spec : ∀ args P, args.length = ps.length → Fs args P noX → de (startD N.length args) fun d _ => P d) :
    FnOk P w K mg base (L2N.CX P w) (k + 1) f fd ps (spN K cl T ps.length Fs) := by
  refine Fun.okN F S (fun vs H Q E h => ?_) (fun cdv A outer s H vs Q E hr h => ?_)
  · obtain ⟨z, args, P, hl, _, hz, r, _⟩ := h
    rw [← r.length]; exact hl
  obtain ⟨te, hte, hs⟩ := body cdv A outer s H E hr
  refine ⟨_, hte, ?_⟩
  obtain ⟨z, args, P', hl, ht, hz, r, hF, hQ⟩ := h
  have far0 : ∀ a, Far ⟨K, z, none, H, fun _ => false, E, noX, cl, T⟩ ⟨[], []⟩ (L2.start N vs) a ↔ z a := fun a => by
    constructor
    · rintro (f | ⟨o, f⟩ | ⟨i, hi, e⟩)
      · exact f
      · cases f
      · cases hi
    · exact .inl
  have farE : Far ⟨K, z, none, H, fun _ => false, E, noX, cl, T⟩ ⟨[], []⟩ (L2.start N vs) = z := funext fun a => propext (far0 a)
  have env : EnvOk ⟨K, z, none, H, fun _ => false, E, noX, cl, T⟩ ⟨[], []⟩ (L2.start N vs) H (startD N.length args) := by
    refine ⟨start_len (n := 0) r.length, fun a o e _ _ => e, ht, fun a f => hz a ((far0 a).mp f), fun i d e hi => ?_, fun i d e hi => (nomatch hi), fun i hi => (nomatch hi), fun i j l hi => (nomatch hi), fun b e => (nomatch e), fun p hp => (nomatch hp), fun p hp => (nomatch hp)⟩
    rw [farE]
    exact (start_get r e).2
  refine hs z H ⟨[], []⟩ _ H _ _ _ env (spec args P' hl hF) fun p o d H' ρ' np h' x p1 => ?_
  obtain ⟨e1, _, e3, pn⟩ := h'.th (p, o) List.mem_cons_self
  refine hQ p o d H' ⟨fun a o e pn => h'.frame a o e pn (fun z => nomatch z), fun _ => h'.tabs⟩ e3 e1 (x.move fun a u na ea _ => ⟨?_, ea⟩) p1
  rintro (z1 | z1)
  · exact na (far_add.mpr (.inl z1))
  · exact na (far_add.mpr (.inr ((far0 a).mpr z1)))
/-- a def that is never called -/
theorem fn_none {F : FP} (hF : ∀ args P W, ¬ F args P W) {n : Nat} (hn : ps.length = n) : FnOk P w K mg base (L2N.CX P w) k f fd ps (spP K cl T n F) :=
  ⟨fun vs H Q E h => by rw [hn]; exact pure_len h, fun A outer s H args us vs Q E _ _ _ _ h => by
    obtain ⟨z, args, P, W, hl, _, hz, r, hF', _⟩ := h
    exact (hF _ _ _ hF').elim⟩
theorem takes_lam {X : Cx} {A : Around} {outer : List PySem.Env} {s : Shared} {H : Hp} {E : L2.XK} {scope : Scope} {f c' : Addr} : L2N.Takes (lamCxN X A outer s H E scope f c') (fun cls d _ H => E cls d H) := L2N.takes_of rfl rfl rfl rfl
end
end PD
namespace PD
open PySem PySem.Spec PyProof.Rows L2 RZ LamX
def toldTs (K : PySem.W.Frag) (cl : Ex → Addr) : Addr → Value → Option Addr → TS := fun a cls d D σ H => ∃ x : Ex, (cls = .ref (cl x) ∧ d = none) ∧ tSuite K cl (cl x) a D σ H
def toldTb (K : PySem.W.Frag) (cl : Ex → Addr) (T : List (Addr × Str)) (Fr : FP) (f c' : Addr) (q : Str) (tl : L2.XK → Hp → VK → Prop) : WX → TS := fun W =>
  tRet (tTup (tCons (tC (.int 0)) (tCons (tCall (spP K cl T 1 Fr) [] E0 (tCons (fun σZ HZ Q => ∃ E : L2.XK, σZ[0]? = some (some (.ref f)) ∧ HZ c' = some (CodeO c' q) ∧ (∀ cls d H', E cls d H' → W cls d σZ H') ∧ tl E HZ Q) tNil)) tNil)))
theorem told_end {K : PySem.W.Frag} {cl : Ex → Addr} {T : List (Addr × Str)} {pe : Addr} {Fr : FP} (FF : ∀ x, ExF K cl pe x) {tl : L2.XK → Hp → VK → Prop} {f c' : Addr} {q : Str} {H : Hp} {Q : VK} (hc : H c' = some (CodeO c' q)) (h : TTold K cl T Fr tl H Q) :
    toldTb K cl T Fr f c' q tl (wAs K (.ref pe) 1 (toldTs K cl) (fun _ _ _ _ => False) { nx := fun _ H' => Q .non H', rt := Q }) { nx := fun _ H' => Q .non H', rt := Q } [some (.ref f), none, none, none, none] H := by
  show ∃ E : L2.XK, _ ∧ _ ∧ _ ∧ _
  refine ⟨fun cls d H' => wAs K (.ref pe) 1 (toldTs K cl) (fun _ _ _ _ => False) { nx := fun _ H' => Q .non H', rt := Q } cls d [some (.ref f), none, none, none, none] H', rfl, hc, fun _ _ _ h => h, ?_⟩
  refine h _ _ (fun x H' tb hQ => ?_) (fun v H' hv => ?_)
  · refine ⟨true, (FF x).m, fun _ a na => ⟨x, ⟨rfl, rfl⟩, ?_⟩, fun z => by cases z⟩
    have far : ∀ b, Far ⟨K, fun a => ∃ o, H' a = some o ∧ Pn o, none, H', fun _ => false, E0, noX, cl, T⟩ ⟨[], []⟩ [some (.ref f), some (.ref a), none, none, none] b ↔ ∃ o, H' b = some o ∧ Pn o := fun b => by
      constructor
      · rintro (f | ⟨o, f⟩ | ⟨i, hi, _⟩)
        · exact f
        · cases f
        · cases hi
      · exact .inl
    have env : EnvOk ⟨K, fun a => ∃ o, H' a = some o ∧ Pn o, none, H', fun _ => false, E0, noX, cl, T⟩ ⟨[], []⟩ [some (.ref f), some (.ref a), none, none, none] H' [some (.fn f), some (.fn a), none, none, none] := by
      refine ⟨rfl, fun a o e _ _ => e, tb, fun b hb => (far b).mp hb, fun i d e _ => ?_, fun i d e hi => (nomatch hi), fun i hi => (nomatch hi), fun i j l hi => (nomatch hi), fun b e => (nomatch e), fun p hp => (nomatch hp), fun p hp => (nomatch hp)⟩
      match i, e with
      | 0, e => cases e; exact ⟨_, rfl, .fn f⟩
      | 1, e => cases e; exact ⟨_, rfl, .fn a⟩
      | 2, e => cases e
      | 3, e => cases e
      | 4, e => cases e
      | i + 5, e => cases e
    refine ss_suite ⟨[], []⟩ _ H' _ ⟨fun _ => False, fun d _ => d = .tup [.int 1, .str (exNm x)], fun _ => False, fun _ => False⟩ _ env (suite_ok (FF x) fun _ => rfl) (fun _ _ _ _ z => z.elim) (fun v d σ' H'' ρ' h' r p => ?_) (fun _ _ _ _ z => z.elim) (fun _ _ _ _ z => z.elim)
    have p : d = .tup [.int 1, .str (exNm x)] := p
    subst p
    obtain ⟨b, vs, rfl, nb, hb, rs⟩ := (r.rp trivial).seqT
    cases rs with
    | cons r1 rs => cases rs with
      | cons r2 rs =>
        cases rs
        cases r1
        cases r2
        refine hQ H'' b ⟨fun a o e pn => h'.frame a o e pn (fun z => nomatch z), fun _ => h'.tabs⟩ (fun o e pn => nb (.inl ⟨o, e, pn⟩)) hb
  · show spP K cl T 1 Fr ([v] ++ []) H' _ _
    rw [List.append_nil]
    obtain ⟨z, args, P, W, h1, h2, h3, h4, h5, h6, h7⟩ := hv
    exact ⟨z, args, P, W, h1, h2, h3, h4, h5, fun v d H' g r p => ⟨show 2 ≤ sizeLine by rw [sizeLine_eq]; omega, h6 v d H' g r p⟩, h7⟩
theorem passN {X : Cx} {P : Program} {w : World} : Passes (L2N.CX P w) X E0 := fun _ _ _ _ _ _ _ c => by
  obtain ⟨_, _, _, _, _, _, _, _, _, _, _, _, z⟩ := c
  exact z.elim
theorem Rp.notOwn {K : PySem.W.Frag} {A : Addr → Prop} {H : Hp} {d : D} {v : V} (r : Rp K A H d v) : NotOwn d := by
  cases r <;> trivial
/-- a, b, c = x, y, [] : the third a slot's own -/
def dPar_vvo (i j l : Nat) (a b : DE) : DS := fun De ρ => a ρ fun d ρ1 => b ρ1 fun e ρ2 => l < ρ2.length ∧ De.nx (((ρ2.set i (some d)).set j (some e)).set l (some (.lst [])))
theorem ss_par_vvo {c : C0} {ta tb : TE} {da db : DE} (i j l : Nat) (hi : c.own i = false) (hj : c.own j = false) (hl : c.own l = true) (hb0 : c.box = none ∨ l ≠ 0) (ha : SV c ta da) (hb : SV c tb db) :
    SS c (tPar3 i j l (tCons ta (tCons tb (tCons (tLst tNil) tNil)))) (dPar_vvo i j l da db) := fun t σ H ρ De E h q n r b k => by
  refine ha t σ H ρ _ _ h q fun v d H1 ρ1 h1 r1 q1 => ?_
  obtain ⟨t', e, h1', back⟩ := h1.push (.inl r1)
  refine hb t' σ H1 ρ1 _ _ h1' q1 fun v2 d2 H2 ρ2 h2 r2 q2 => ?_
  obtain ⟨h3, r3⟩ := back H2 ρ2 h2
  have r3 := r3.rp r1.notOwn
  rw [Far.hold e] at r2
  refine ⟨Nat.zero_le _, fun p hp => ⟨_, _, _, rfl, n _ _ _ ?_ q2.2⟩⟩
  have h4 := h3.put (x := some _) (y := some _) hi fun d' e => ⟨_, rfl, by cases e; exact r3⟩
  have h5 := h4.put (x := some _) (y := some _) hj fun d' e => ⟨_, rfl, by cases e; rw [show Far c t (σ.set i _) = Far c t σ from funext fun a => propext (far_set hi)]; exact r2⟩
  exact h5.putNew hl hb0 (by rw [List.length_set, List.length_set]; exact q2.1) hp ⟨[], rfl, .nil⟩
theorem FunC.mk1 {K : PySem.W.Frag} {x qual : Str} {st : Stmt} {f c : Addr} {oc : Value} {od an : Option Addr} {osl : Array (Option Value)} {kV doc pm ct : Value} (l : K.lookup f = some ⟨oc, od, .func (PySem.W.fnOf x qual (defArgs st) (defBody st) (defScope st) .none kV doc pm an (.ref c) ct), osl⟩)
    (cc : PySem.W.codeIn K (.ref c) qual = true) (k : PySem.W.keepIn K (.ref f) = true) : ∃ fd, FunC K x qual st f c fd := ⟨_, ⟨⟨oc, od, kV, doc, pm, an, ct, osl, rfl, l, cc⟩, k⟩⟩
/-- the script as data -/
theorem rp_script {K : PySem.W.Frag} {H : Hp} {a : Addr} {ns : List Int} (h : SqL K H a (ns.map V.int)) : Rp K (fun _ => False) H (.scr ns) (.ref a) := by
  rcases h with (h | ⟨o, h⟩) | h
  · exact .slst ns id h
  · exact .frz ns id h
  · exact .klst ns h
/-- the law's promise, asked of the script -/
theorem law_asked {K : PySem.W.Frag} {cl : Ex → Addr} {T : List (Addr × Str)} {F : FP} {H : Hp} {a : Addr} {ns : List Int} (hT : LamX.Tabs T H) (h : SqL K H a (ns.map V.int)) (hF : ∀ P W, P (.bl true) → F [.scr ns] P W) : spP K cl T 1 F [.ref a] H (fun v _ => v = .bl true) fun _ _ _ => False :=
  ⟨fun _ => False, [.scr ns], fun d => d = .bl true, noX, rfl, hT, fun _ z => z.elim, .cons (rp_script h) .nil, hF _ _ rfl, fun v d H' _ r e => by subst e; cases r; rfl, fun _ _ _ w => w.elim⟩
theorem no_errorN {P : Program} {w : World} {H : Hp} {s s' : Shared} {e : Value} (c : L2N.CX P w [] H s (fun _ _ _ => False) e s') : False := by
  obtain ⟨a, B, H', cls, d, _, _, _, _, _, _, _, z⟩ := c
  exact z
end PD

end
section
set_option Elab.async false
set_option linter.all false
set_option maxRecDepth 100000
/-! readings over data, evaluated -/
namespace PD
open PySem PySem.Spec PyProof.Rows L2 RZ
section
variable {ρ : Env} {P : D → Env → Prop} {De : DEnds} {d : D} {a b e : DE}
@[simp] theorem dC_e : dC d ρ P = P d ρ := rfl
@[simp] theorem dVar_e {i : Nat} : dVar i ρ P = match ρ[i]? with | some (some d) => P d ρ | _ => False := rfl
@[simp] theorem dOwn_e {i : Nat} : dOwn i ρ P = match ρ[i]? with | some (some _) => P (.own i) ρ | _ => False := rfl
@[simp] theorem dOp_e {f : Env → D → D → (D → Prop) → Prop} : dOp f a b ρ P = a ρ fun x ρ1 => b ρ1 fun y ρ2 => f ρ2 x y fun z => P z ρ2 := rfl
@[simp] theorem dUn_e {f : Env → D → (D → Prop) → Prop} : dUn f a ρ P = a ρ fun x ρ1 => f ρ1 x fun z => P z ρ1 := rfl
@[simp] theorem dNil_e {Q : List D → Env → Prop} : dNil ρ Q = Q [] ρ := rfl
@[simp] theorem dCons_e {r : DA} {Q : List D → Env → Prop} : dCons a r ρ Q = a ρ fun d ρ1 => r ρ1 fun ds ρ2 => Q (d :: ds) ρ2 := rfl
@[simp] theorem dTup_e {r : DA} : dTup r ρ P = r ρ fun ds ρ1 => P (.tup ds) ρ1 := rfl
@[simp] theorem dLst_e {r : DA} : dLst r ρ P = r ρ fun ds ρ1 => P (.lst ds) ρ1 := rfl
@[simp] theorem dCB_e {f : Env → List D → (D → Prop) → Prop} {r : DA} : dCB f r ρ P = r ρ fun ds ρ1 => f ρ1 ds fun z => P z ρ1 := rfl
@[simp] theorem dCall_e {F : FP} {W : Ex → Prop} {r : DA} : dCall F W r ρ P = r ρ fun ds ρ1 => F ds (fun d => P d ρ1) W := rfl
@[simp] theorem dCallB_e {F : FB} {W : Ex → Prop} {j : Nat} {r : DA} : dCallB F W j r ρ P = match ρ[j]? with
  | some (some _) => r ρ fun ds ρ1 => match ρ1[j]? with
    | some (some bx) => F (bx :: ds) (fun d bx' => P d (ρ1.set j (some bx'))) W
    | _ => False
  | _ => False := rfl
@[simp] theorem dSeq_e {s t : DS} : dSeq s t De ρ = s { De with nx := fun ρ1 => t De ρ1 } ρ := rfl
@[simp] theorem dNext_e : dNext De ρ = De.nx ρ := rfl
@[simp] theorem dBreak_e : dBreak De ρ = De.bk ρ := rfl
@[simp] theorem dCont_e : dCont De ρ = De.ct ρ := rfl
@[simp] theorem dDrop_e : dDrop a De ρ = a ρ fun _ ρ1 => De.nx ρ1 := rfl
@[simp] theorem dRet_e : dRet a De ρ = a ρ De.rt := rfl
@[simp] theorem dRetN_e : dRetN De ρ = De.rt .non ρ := rfl
@[simp] theorem dIfS_e {t : DT} {s u : DS} : dIfS t s u De ρ = t ρ fun k ρ1 => sel k (s De ρ1) (u De ρ1) := rfl
@[simp] theorem dSet_e {i : Nat} : dSet i a De ρ = a ρ fun d ρ1 => De.nx (ρ1.set i (some d)) := rfl
@[simp] theorem dSetO_e {i : Nat} : dSetO i a De ρ = a ρ fun d ρ1 => i < ρ1.length ∧ De.nx (ρ1.set i (some d)) := rfl
@[simp] theorem dAug_e {i : Nat} {f : Int → Int → Int} : dAug i f a De ρ = match ρ[i]? with
  | some (some (.int x)) => a ρ fun d ρ1 => match d with
    | .int y => De.nx (ρ1.set i (some (.int (f x y))))
    | _ => False
  | _ => False := rfl
@[simp] theorem dRaise_e {W : Ex → Prop} {x : Ex} : dRaise W x De ρ = W x := rfl
@[simp] theorem dAsg_e {g : DG} : dAsg a g De ρ = a ρ fun d ρ1 => g d ρ1 De.nx := rfl
@[simp] theorem dPar_e {i j : Nat} {r : DA} : dPar i j r De ρ = r ρ fun ds ρ1 => match ds with
  | [d, e] => De.nx ((ρ1.set i (some d)).set j (some e))
  | _ => False := rfl
@[simp] theorem dPar3_e {i j l : Nat} {r : DA} : dPar3 i j l r De ρ = r ρ fun ds ρ1 => match ds with
  | [d, e, f] => De.nx (((ρ1.set i (some d)).set j (some e)).set l (some f))
  | _ => False := rfl
@[simp] theorem dPar_vvo_e {i j l : Nat} : dPar_vvo i j l a b De ρ = a ρ fun d ρ1 => b ρ1 fun e ρ2 => l < ρ2.length ∧ De.nx (((ρ2.set i (some d)).set j (some e)).set l (some (.lst []))) := rfl
@[simp] theorem dgName_e {i : Nat} {Q : Env → Prop} : dgName i d ρ Q = Q (ρ.set i (some d)) := rfl
@[simp] theorem dgTup_e {n : Nat} {g : DGs} {xs : List D} {Q : Env → Prop} : dgTup n g (.tup xs) ρ Q = (xs.length = n ∧ g xs ρ Q) := rfl
@[simp] theorem dgCons_e {g : DG} {r : DGs} {x : D} {xs : List D} {Q : Env → Prop} : dgCons g r (x :: xs) ρ Q = g x ρ fun ρ1 => r xs ρ1 Q := rfl
@[simp] theorem dgNil_e {Q : Env → Prop} : dgNil [] ρ Q = Q ρ := rfl
@[simp] theorem dTest_e {Q : Bool → Env → Prop} : dTest a ρ Q = a ρ fun d ρ1 => match d with | .bl b => Q b ρ1 | _ => False := rfl
@[simp] theorem dAnd_e {t u : DT} {Q : Bool → Env → Prop} : dAnd t u ρ Q = t ρ fun k ρ1 => sel k (u ρ1 Q) (Q false ρ1) := rfl
@[simp] theorem dOr_e {t u : DT} {Q : Bool → Env → Prop} : dOr t u ρ Q = t ρ fun k ρ1 => sel k (Q true ρ1) (u ρ1 Q) := rfl
@[simp] theorem dNot_e {t : DT} {Q : Bool → Env → Prop} : dNot t ρ Q = t ρ fun k ρ1 => Q (!k) ρ1 := rfl
@[simp] theorem dYes_e {Q : Bool → Env → Prop} : dYes ρ Q = Q true ρ := rfl
@[simp] theorem dIf_e {t : DT} : dIf t a b ρ P = t ρ fun k ρ1 => sel k (a ρ1 P) (b ρ1 P) := rfl
@[simp] theorem dAndV_e : dAndV a b ρ P = a ρ fun d ρ1 => match d with | .bl k => sel k (b ρ1 P) (P (.bl false) ρ1) | _ => False := rfl
@[simp] theorem dOrV_e : dOrV a b ρ P = a ρ fun d ρ1 => match d with | .bl k => sel k (P (.bl true) ρ1) (b ρ1 P) | _ => False := rfl
@[simp] theorem dNotV_e : dNotV a ρ P = a ρ fun d ρ1 => match d with | .bl k => P (.bl (!k)) ρ1 | _ => False := rfl
@[simp] theorem dIsi_e {p : D → Bool} : dIsi p a ρ P = a ρ fun d ρ1 => (tyD d).isSome = true ∧ P (.bl (p d)) ρ1 := rfl
@[simp] theorem dBits_e : dBits a ρ P = a ρ fun d ρ1 => match d with | .int i => P (.int (Builtin.Int.intBits i : Nat)) ρ1 | _ => False := rfl
@[simp] theorem dTuple_e : dTuple a ρ P = a ρ fun d ρ1 => tupleP ρ1 d fun z => P z ρ1 := rfl
@[simp] theorem dSeqI_e {Q : List D → Env → Prop} : dSeqI a ρ Q = a ρ fun d ρ1 => match d with
  | .lst xs => Q xs ρ1
  | .tup xs => Q xs ρ1
  | .scr ns => Q (ns.map D.int) ρ1
  | _ => False := rfl
@[simp] theorem sel_t {p q : Prop} : sel true p q = p := rfl
@[simp] theorem sel_f {p q : Prop} : sel false p q = q := rfl
@[simp] theorem i2_e {C : Int → Int → Prop} {g : Int → Int → D} {i j : Int} {k : D → Prop} : i2 C g ρ (.int i) (.int j) k = (C i j ∧ k (g i j)) := rfl
@[simp] theorem i2'_e {g : Int → Int → D} {i j : Int} {k : D → Prop} : i2' g ρ (.int i) (.int j) k = k (g i j) := rfl
@[simp] theorem u1_e {g : Int → D} {i : Int} {k : D → Prop} : u1 g ρ (.int i) k = k (g i) := rfl
@[simp] theorem eqP_int {i j : Int} {k : D → Prop} : eqP ρ (.int i) (.int j) k = k (.bl (decide (i = j))) := by
  unfold eqP deref
  simp only [okN, true_and, eqD_int]
@[simp] theorem neP_int {i j : Int} {k : D → Prop} : neP ρ (.int i) (.int j) k = k (.bl (!decide (i = j))) := by
  unfold neP deref
  simp only [okN, true_and, eqD_int]
end
end PD
namespace PD
open PySem PySem.Spec PyProof.Rows L2 RZ
section
variable {ρ : Env} {k : D → Prop} {P : D → Env → Prop} {a b e : DE}
@[simp] theorem addP_int {i j : Int} : addP ρ (.int i) (.int j) k = k (.int (i + j)) := rfl
@[simp] theorem addP_tup {i j : List D} : addP ρ (.tup i) (.tup j) k = (i.length + j.length ≤ sizeLine ∧ k (.tup (i ++ j))) := rfl
@[simp] theorem addP_lst {i j : List D} : addP ρ (.lst i) (.lst j) k = (i.length + j.length ≤ sizeLine ∧ k (.lst (i ++ j))) := rfl
@[simp] theorem dChain_e {f f' : Env → D → D → (D → Prop) → Prop} : dChain f f' a b e ρ P = a ρ fun x ρ1 => b ρ1 fun y ρ2 => f ρ2 x y fun z => match z with
  | .bl k => sel k (e ρ2 fun w ρ3 => f' ρ3 y w fun z => P z ρ3) (P (.bl false) ρ2)
  | _ => False := rfl
@[simp] theorem lenP_lst {xs : List D} : lenP ρ [.lst xs] k = k (.int xs.length) := rfl
@[simp] theorem lenP_tup {xs : List D} : lenP ρ [.tup xs] k = k (.int xs.length) := rfl
@[simp] theorem lenP_scr {ns : List Int} : lenP ρ [.scr ns] k = k (.int (ns.map D.int).length) := rfl
@[simp] theorem absP_int {i : Int} : absP ρ [.int i] k = k (.int i.natAbs) := rfl
@[simp] theorem intP_int {i : Int} : intP ρ [.int i] k = k (.int i) := rfl
@[simp] theorem isN_P {x : D} : isNP false ρ x .non k = k (.bl (isN x)) := rfl
@[simp] theorem notN_P {x : D} : isNP true ρ x .non k = k (.bl (!isN x)) := rfl
@[simp] theorem isB2_P {x : D} {b : Bool} : isB2P ρ x (.bl b) k = k (.bl (isB b x)) := rfl
@[simp] theorem tuple_lst {xs : List D} : tupleP ρ (.lst xs) k = k (.tup xs) := rfl
@[simp] theorem retD_int {i : Int} : retD ρ (.int i) = .int i := rfl
@[simp] theorem retD_bl {i : Bool} : retD ρ (.bl i) = .bl i := rfl
@[simp] theorem retD_non : retD ρ .non = .non := rfl
@[simp] theorem retD_str {i : Str} : retD ρ (.str i) = .str i := rfl
@[simp] theorem retD_tup {i : List D} : retD ρ (.tup i) = .tup i := rfl
@[simp] theorem retD_lst {i : List D} : retD ρ (.lst i) = .lst i := rfl
theorem sel_imp {c : Bool} {p q : Prop} (h1 : c = true → p) (h2 : c = false → q) : sel c p q := sel_of h1 h2
end
/-- how much of what is passed is there -/
theorem args1 {args : List D} (h : args.length = 1) : ∃ a, args = [a] := by
  match args, h with
  | [a], _ => exact ⟨a, rfl⟩
end PD
namespace PD
open PySem L2
section
variable {ρ : Env} {k : D → Prop}
theorem atI_nat {α : Type} {xs : List α} {j : Nat} {z : α} (h : xs[j]? = some z) : atI xs (j : Int) = some z := by
  have hl := (List.getElem?_eq_some_iff.mp h).1
  unfold atI ixN
  simp [hl]
  exact (List.getElem?_eq_some_iff.mp h).2
theorem ixP_tup {xs : List D} {j : Nat} {z : D} (h : xs[j]? = some z) : ixP ρ (.tup xs) (.int (j : Int)) k = k z := by
  unfold ixP onS
  simp only [atI_nat h]
theorem ixP_lst {xs : List D} {j : Nat} {z : D} (h : xs[j]? = some z) : ixP ρ (.lst xs) (.int (j : Int)) k = k z := by
  unfold ixP onS
  simp only [atI_nat h]
theorem ixP_scr {ns : List Int} {j : Nat} {z : Int} (h : ns[j]? = some z) : ixP ρ (.scr ns) (.int (j : Int)) k = k (.int z) := by
  unfold ixP onS
  simp only [atI_nat (show (ns.map D.int)[j]? = some (.int z) by rw [List.getElem?_map, h]; rfl)]
@[simp] theorem ixP_t0 {x : D} {xs : List D} : ixP ρ (.tup (x :: xs)) (.int 0) k = k x := ixP_tup (j := 0) rfl
@[simp] theorem ixP_t1 {x y : D} {xs : List D} : ixP ρ (.tup (x :: y :: xs)) (.int 1) k = k y := ixP_tup (j := 1) rfl
@[simp] theorem ixP_l0 {x : D} {xs : List D} : ixP ρ (.lst (x :: xs)) (.int 0) k = k x := ixP_lst (j := 0) rfl
@[simp] theorem ixP_l1 {x y : D} {xs : List D} : ixP ρ (.lst (x :: y :: xs)) (.int 1) k = k y := ixP_lst (j := 1) rfl
end
end PD
namespace PD
open PySem L2
section
variable {ρ : Env} {De : DEnds} {a : DE}
@[simp] theorem dApp_e {i : Nat} : dApp i a De ρ = match ρ[i]? with
  | some (some (.lst xs)) => a ρ fun d ρ1 => match ρ1[i]? with
    | some (some (.lst xs)) => xs.length < sizeLine ∧ De.nx (ρ1.set i (some (.lst (xs ++ [d]))))
    | _ => False
  | _ => False := rfl
end
end PD
namespace PD
open PySem L2
theorem sel_y {b : Bool} {p q : Prop} (h : b = true) (hp : p) : sel b p q := by subst h; exact hp
theorem sel_n {b : Bool} {p q : Prop} (h : b = false) (hq : q) : sel b p q := by subst h; exact hq
theorem okNs_ints {n : Nat} : ∀ ns : List Int, okNs n (ns.map D.int) = true
  | [] => by rw [List.map_nil, okNs]
  | x :: ns => by rw [List.map_cons, okNs, okN, okNs_ints ns]; rfl
theorem toPys_ints (ns : List Int) : toPys (ns.map D.int) = ns.map PyData.int := by
  rw [toPys_map, List.map_map]
  refine List.map_congr_left fun x _ => ?_
  show toPy (.int x) = _
  rw [toPy]
theorem leD_int {a b : Int} : leD (.int a) (.int b) ↔ a ≤ b := by
  unfold leD
  rw [toPy, toPy, PySem.W.dataLt_int]
  simp
theorem sortOk_ints (ns : List Int) : SortOk (ns.map D.int) := by
  refine ⟨okNs_ints ns, ?_, ?_⟩
  · rw [toPys_ints]
    intro d hd e he
    obtain ⟨x, _, rfl⟩ := List.mem_map.mp hd
    obtain ⟨y, _, rfl⟩ := List.mem_map.mp he
    simp [PySem.W.alike]
  · rw [toPys_ints]
    refine .inr fun d hd => ?_
    obtain ⟨x, _, rfl⟩ := List.mem_map.mp hd
    exact ⟨(fun z => nomatch z), fun xs z => nomatch z⟩
theorem perm_ints {es : List D} {ns : List Int} (h : es.Perm (ns.map D.int)) : ∃ ns' : List Int, es = ns'.map D.int ∧ ns'.Perm ns := by
  let g : D → Int := fun d => match d with | .int i => i | _ => 0
  refine ⟨es.map g, ?_, ?_⟩
  · rw [List.map_map]
    have e : ∀ d ∈ es, (D.int ∘ g) d = d := fun d hd => by
      obtain ⟨x, _, rfl⟩ := List.mem_map.mp (h.mem_iff.mp hd)
      rfl
    rw [List.map_congr_left e, List.map_id']
  · have := h.map g
    rw [List.map_map] at this
    have e : g ∘ D.int = id := rfl
    rw [e, List.map_id] at this
    exact this
theorem sorted_ints {ρ : Env} {d : D} {ns : List Int} {k : D → Prop} (hd : d = .lst (ns.map D.int) ∨ d = .tup (ns.map D.int)) (h : ∀ ns' : List Int, ns'.Perm ns → ns'.Pairwise (· ≤ ·) → k (.lst (ns'.map D.int))) : sortedP ρ [d] k := by
  have key : SortOk (ns.map D.int) ∧ ∀ es : List D, es.Perm (ns.map D.int) → es.Pairwise leD → k (.lst es) := by
    refine ⟨sortOk_ints ns, fun es hp hs => ?_⟩
    obtain ⟨ns', rfl, hp'⟩ := perm_ints hp
    exact h ns' hp' ((List.pairwise_map.mp hs).imp fun {a b} z => leD_int.mp z)
  rcases hd with rfl | rfl
  · exact key
  · exact key
end PD
namespace PD
open PySem L2
section
variable {ρ : Env} {k : D → Prop}
@[simp] theorem ixP_own0 {x : D} {xs : List D} : ixP (some (.lst (x :: xs)) :: ρ) (.own 0) (.int 0) k = k x := by
  show (match atI (x :: xs) ((0 : Nat) : Int) with | some z => k z | none => False) = _
  rw [atI_nat (z := x) rfl]
@[simp] theorem ixP_own1 {x y : D} {xs : List D} : ixP (some (.lst (x :: y :: xs)) :: ρ) (.own 0) (.int 1) k = k y := by
  show (match atI (x :: y :: xs) ((1 : Nat) : Int) with | some z => k z | none => False) = _
  rw [atI_nat (z := y) rfl]
end
theorem bits_le {x y : Nat} (h : x ≤ y) : Builtin.Int.intBits (x : Int) ≤ Builtin.Int.intBits (y : Int) := by
  unfold Builtin.Int.intBits
  by_cases h0 : x = 0
  · subst h0; simp
  · have h1 : y ≠ 0 := by omega
    have e1 : ((x : Int) == 0) = false := by simpa using h0
    have e2 : ((y : Int) == 0) = false := by simpa using h1
    rw [e1, e2]
    show x.log2 + 1 ≤ y.log2 + 1
    have : x.log2 < y.log2 + 1 := (Nat.log2_lt h0).mpr (Nat.lt_of_le_of_lt h Nat.lt_log2_self)
    omega
theorem bits_abs (i : Int) : Builtin.Int.intBits (i.natAbs : Int) = Builtin.Int.intBits i := by
  unfold Builtin.Int.intBits
  by_cases h0 : i = 0
  · subst h0; rfl
  · have e1 : (i == 0) = false := by simpa using h0
    have e2 : ((i.natAbs : Int) == 0) = false := by simp [h0]
    rw [e1, e2]
    rfl
end PD

end
section
set_option Elab.async false
set_option linter.all false
set_option maxRecDepth 100000
/-! plain numbers: primes, sums of two and three squares -/
namespace NT

def Pr (p : Nat) : Prop := 2 ≤ p ∧ ∀ d, d ∣ p → d = 1 ∨ d = p
theorem Pr.two_le {p : Nat} (h : Pr p) : 2 ≤ p := h.1
theorem Pr.pos {p : Nat} (h : Pr p) : 0 < p := Nat.lt_of_lt_of_le (by decide) h.1
theorem Pr.cop {p a : Nat} (h : Pr p) (n : ¬ p ∣ a) : Nat.Coprime p a := by
  rcases h.2 (Nat.gcd p a) (Nat.gcd_dvd_left p a) with e | e
  · exact e
  · exact absurd (e ▸ Nat.gcd_dvd_right p a) n
theorem Pr.euclid {p a b : Nat} (h : Pr p) (d : p ∣ a * b) : p ∣ a ∨ p ∣ b := by
  by_cases ha : p ∣ a
  · exact .inl ha
  · exact .inr ((h.cop ha).dvd_of_dvd_mul_left d)
theorem Pr.dvd_pow {p a : Nat} (h : Pr p) : ∀ {n : Nat}, p ∣ a ^ n → p ∣ a
  | 0, d => by
    rw [Nat.pow_zero] at d
    have := Nat.le_of_dvd (by decide) d
    have := h.1
    omega
  | n + 1, d => by
    rw [Nat.pow_succ] at d
    rcases h.euclid d with d | d
    · exact h.dvd_pow d
    · exact d
/-- every number from 2 on has a prime divisor -/
theorem has_prime : ∀ n : Nat, 2 ≤ n → ∃ p, Pr p ∧ p ∣ n := by
  intro n
  induction n using Nat.strongRecOn with
  | ind n ih =>
    intro h
    by_cases hp : Pr n
    · exact ⟨n, hp, Nat.dvd_refl n⟩
    · have : ∃ d, d ∣ n ∧ d ≠ 1 ∧ d ≠ n := by
        refine Classical.byContradiction fun hn => hp ⟨h, fun d hd => ?_⟩
        by_cases h1 : d = 1
        · exact .inl h1
        · by_cases h2 : d = n
          · exact .inr h2
          · exact absurd ⟨d, hd, h1, h2⟩ hn
      obtain ⟨d, hd, h1, h2⟩ := this
      have hle := Nat.le_of_dvd (by omega) hd
      have h0 : d ≠ 0 := fun e => by
        subst e
        have := Nat.eq_zero_of_zero_dvd hd
        omega
      obtain ⟨p, pp, pd⟩ := ih d (by omega) (by omega)
      exact ⟨p, pp, Nat.dvd_trans pd hd⟩
theorem Pr.eq_of_dvd {p q : Nat} (hp : Pr p) (hq : Pr q) (d : p ∣ q) : p = q := by
  rcases hq.2 p d with e | e
  · have := hp.1; omega
  · exact e
/-- no divisor below q, q * q beyond it: a prime, or 1 -/
theorem prime_of {n q : Nat} (h1 : 1 < n) (hq : n < q * q) (h : ∀ d, 2 ≤ d → d < q → ¬ d ∣ n) : Pr n := by
  refine ⟨h1, fun d hd => ?_⟩
  obtain ⟨k, rfl⟩ := hd
  have d0 : d ≠ 0 := fun e => by rw [e, Nat.zero_mul] at h1; omega
  have k0 : k ≠ 0 := fun e => by rw [e, Nat.mul_zero] at h1; omega
  by_cases hd1 : d = 1
  · exact .inl hd1
  · by_cases hk1 : k = 1
    · right; rw [hk1, Nat.mul_one]
    · exfalso
      by_cases hlt : d < q
      · exact h d (by omega) hlt (Nat.dvd_mul_right d k)
      · have : k < q := by
          refine Nat.lt_of_not_le fun hle => ?_
          have := Nat.mul_le_mul (Nat.le_of_not_lt hlt) hle
          omega
        exact h k (by omega) this (Nat.dvd_mul_left k d)

/-! ### the exact power -/
def Ex (p n e : Nat) : Prop := p ^ e ∣ n ∧ ¬ p ^ (e + 1) ∣ n
theorem Ex.uniq {p n e f : Nat} (h : Ex p n e) (g : Ex p n f) : e = f := by
  refine Nat.le_antisymm (Nat.le_of_not_lt fun hl => ?_) (Nat.le_of_not_lt fun hl => ?_)
  · exact g.2 (Nat.dvd_trans (Nat.pow_dvd_pow p hl) h.1)
  · exact h.2 (Nat.dvd_trans (Nat.pow_dvd_pow p hl) g.1)
/-- p to an odd power in n -/
def OddV (p n : Nat) : Prop := ∃ e, e % 2 = 1 ∧ Ex p n e
/-- the least prime = 3 mod 4 to an odd power -/
def BarR (n : Nat) : Option Nat → Prop
  | none => ∀ p, Pr p → p % 4 = 3 → ¬ OddV p n
  | some p => Pr p ∧ p % 4 = 3 ∧ OddV p n ∧ ∀ q, q < p → Pr q → q % 4 = 3 → ¬ OddV q n
theorem BarR.uniq {n : Nat} {r s : Option Nat} (h : BarR n r) (g : BarR n s) : r = s := by
  cases r with
  | none => cases s with
    | none => rfl
    | some q => exact absurd g.2.2.1 (h q g.1 g.2.1)
  | some p => cases s with
    | none => exact absurd h.2.2.1 (g p h.1 h.2.1)
    | some q =>
      by_cases h1 : p < q
      · exact absurd h.2.2.1 (g.2.2.2 p h1 h.1 h.2.1)
      · by_cases h2 : q < p
        · exact absurd g.2.2.1 (h.2.2.2 q h2 g.1 g.2.1)
        · congr; omega

/-! ### a prime = 3 mod 4 that divides a^2 + b^2 -/
theorem sq_mod4 (a : Nat) : a * a % 4 = 0 ∧ a % 2 = 0 ∨ a * a % 4 = 1 ∧ a % 2 = 1 := by
  have : a % 4 = 0 ∨ a % 4 = 1 ∨ a % 4 = 2 ∨ a % 4 = 3 := by omega
  rcases this with h | h | h | h <;> simp [Nat.mul_mod, h] <;> omega
/-- a residue of small size -/
theorem small_res {p : Nat} (hp : 0 < p) (a : Nat) : ∃ b : Nat, 2 * b ≤ p ∧ ∀ c, p ∣ a * a + c ↔ p ∣ b * b + c := by
  have e := Nat.div_add_mod a p
  have hlt := Nat.mod_lt a hp
  generalize a / p = k at e
  generalize a % p = r at e hlt
  by_cases h : 2 * r ≤ p
  · refine ⟨r, h, fun c => ?_⟩
    have h2 : a * a + c = p * (p * k * k + 2 * k * r) + (r * r + c) := by rw [← e]; grind
    rw [h2]
    exact Nat.dvd_add_right (Nat.dvd_mul_right p _)
  · refine ⟨p - r, by omega, fun c => ?_⟩
    obtain ⟨s, hs⟩ : ∃ s, p = r + s := ⟨p - r, by omega⟩
    have h3 : p - r = s := by omega
    rw [h3]
    have h4 : a * a + c + p * (2 * s * (k + 1)) = p * (p * (k + 1) * (k + 1)) + (s * s + c) := by
      have : a + s = p * (k + 1) := by rw [← e, Nat.mul_add]; omega
      have h5 : (a + s) * (a + s) = (p * (k + 1)) * (p * (k + 1)) := by rw [this]
      have h6 : p * (2 * s * (k + 1)) = 2 * s * (a + s) := by rw [this]; grind
      rw [h6]
      grind
    constructor
    · intro d
      have := Nat.dvd_add d (Nat.dvd_mul_right p (2 * s * (k + 1)))
      rw [h4] at this
      exact (Nat.dvd_add_right (Nat.dvd_mul_right p _)).mp this
    · intro d
      have := Nat.dvd_add (Nat.dvd_mul_right p (p * (k + 1) * (k + 1))) d
      rw [← h4] at this
      exact (Nat.dvd_add_left (Nat.dvd_mul_right p _)).mp this
/-- a number = 3 mod 4 has a prime = 3 mod 4 -/
theorem prime3 : ∀ k : Nat, k % 4 = 3 → ∃ q, Pr q ∧ q ∣ k ∧ q % 4 = 3 := by
  intro k
  induction k using Nat.strongRecOn with
  | ind k ih =>
    intro h
    obtain ⟨q, pq, m, rfl⟩ := has_prime k (by omega)
    have h2 := pq.1
    by_cases h3 : q % 4 = 3
    · exact ⟨q, pq, Nat.dvd_mul_right q m, h3⟩
    · have hq : q % 4 = 0 ∨ q % 4 = 1 ∨ q % 4 = 2 := by omega
      have hm : m % 4 = 0 ∨ m % 4 = 1 ∨ m % 4 = 2 ∨ m % 4 = 3 := by omega
      have e : (q % 4) * (m % 4) % 4 = 3 := by rw [← Nat.mul_mod]; exact h
      have hm3 : m % 4 = 3 := by
        rcases hq with hq | hq | hq <;> rcases hm with hm | hm | hm | hm <;> rw [hq, hm] at e <;> omega
      have hlt : m < q * m := by
        have : 2 * m ≤ q * m := Nat.mul_le_mul_right m h2
        omega
      obtain ⟨r, pr, dr, e3⟩ := ih m hlt hm3
      exact ⟨r, pr, Nat.dvd_trans dr (Nat.dvd_mul_left m q), e3⟩
/-- a prime = 3 mod 4 that divides a sum of two squares divides both -/
theorem two_sq_dvd : ∀ p : Nat, Pr p → p % 4 = 3 → ∀ a b, p ∣ a * a + b * b → p ∣ a := by
  intro p
  induction p using Nat.strongRecOn with
  | ind p ih =>
    intro hp h3 a b hd
    refine Classical.byContradiction fun na => ?_
    obtain ⟨a', ha', ea⟩ := small_res hp.pos a
    obtain ⟨b', hb', eb⟩ := small_res hp.pos b
    have hd2 : p ∣ a' * a' + b' * b' := by
      have h1 := (ea (b * b)).mp hd
      rw [Nat.add_comm] at h1
      have h2 := (eb (a' * a')).mp h1
      rw [Nat.add_comm]; exact h2
    have na' : ¬ p ∣ a' := fun d => na (by
      have h1 : p ∣ a' * a' + 0 := Nat.dvd_trans d (Nat.dvd_mul_right a' a')
      have h2 := (ea 0).mpr h1
      rcases hp.euclid h2 with d | d <;> exact d)
    have a0 : 0 < a' := Nat.pos_of_ne_zero fun e => na' (by rw [e]; exact Nat.dvd_zero p)
    have g0 : 0 < Nat.gcd a' b' := Nat.gcd_pos_of_pos_left b' a0
    obtain ⟨x, hx⟩ := Nat.gcd_dvd_left a' b'
    obtain ⟨y, hy⟩ := Nat.gcd_dvd_right a' b'
    have cop : Nat.Coprime x y := by
      have h1 : Nat.gcd (Nat.gcd a' b' * x) (Nat.gcd a' b' * y) = Nat.gcd a' b' * Nat.gcd x y := Nat.gcd_mul_left _ _ _
      rw [← hx, ← hy] at h1
      have h2 : Nat.gcd a' b' * Nat.gcd x y = Nat.gcd a' b' * 1 := by rw [← h1, Nat.mul_one]
      exact Nat.eq_of_mul_eq_mul_left g0 h2
    generalize Nat.gcd a' b' = g at *
    have ng : ¬ p ∣ g := fun d => na' (by rw [hx]; exact Nat.dvd_trans d (Nat.dvd_mul_right g x))
    have hd3 : p ∣ x * x + y * y := by
      have e : a' * a' + b' * b' = (g * g) * (x * x + y * y) := by rw [hx, hy]; grind
      rw [e] at hd2
      rcases hp.euclid hd2 with d | d
      · rcases hp.euclid d with d | d <;> exact absurd d ng
      · exact d
    have x1 : x ≤ a' := by rw [hx]; exact Nat.le_mul_of_pos_left x g0
    have y1 : y ≤ b' := by rw [hy]; exact Nat.le_mul_of_pos_left y g0
    have x0 : 0 < x := Nat.pos_of_ne_zero fun e => by rw [e, Nat.mul_zero] at hx; omega
    obtain ⟨k, hk⟩ := hd3
    have k0 : 0 < k := Nat.pos_of_ne_zero fun e => by
      rw [e, Nat.mul_zero] at hk
      have := Nat.mul_pos x0 x0
      omega
    have kp : k < p := by
      refine Nat.lt_of_not_le fun hle => ?_
      have h1 : p * p ≤ p * k := Nat.mul_le_mul_left p hle
      have h2 : (2 * x) * (2 * x) ≤ p * p := Nat.mul_le_mul (by omega) (by omega)
      have h3 : (2 * y) * (2 * y) ≤ p * p := Nat.mul_le_mul (by omega) (by omega)
      have h4 : (2 * x) * (2 * x) = 4 * (x * x) := by grind
      have h5 : (2 * y) * (2 * y) = 4 * (y * y) := by grind
      have h6 : 0 < p * p := Nat.mul_pos hp.pos hp.pos
      omega
    have fin : ∀ q, Pr q → q ∣ k → q % 4 = 3 → False := fun q pq dq q3 => by
      have hq : q < p := Nat.lt_of_le_of_lt (Nat.le_of_dvd k0 dq) kp
      have d1 : q ∣ x * x + y * y := by rw [hk]; exact Nat.dvd_trans dq (Nat.dvd_mul_left k p)
      have dx := ih q hq pq q3 x y d1
      have dy := ih q hq pq q3 y x (by rw [Nat.add_comm]; exact d1)
      have := Nat.dvd_gcd dx dy
      rw [show Nat.gcd x y = 1 from cop] at this
      have := Nat.le_of_dvd (by decide) this
      have := pq.1
      omega
    have ek : (p % 4) * (k % 4) % 4 = (x * x + y * y) % 4 := by rw [← Nat.mul_mod, hk]
    rw [h3] at ek
    rcases sq_mod4 x with ⟨sx, px⟩ | ⟨sx, px⟩ <;> rcases sq_mod4 y with ⟨sy, py⟩ | ⟨sy, py⟩
    · have d2 := Nat.dvd_gcd (Nat.dvd_of_mod_eq_zero px) (Nat.dvd_of_mod_eq_zero py)
      rw [show Nat.gcd x y = 1 from cop] at d2
      have := Nat.le_of_dvd (by decide) d2
      omega
    · obtain ⟨q, pq, dq, q3⟩ := prime3 k (by omega)
      exact fin q pq dq q3
    · obtain ⟨q, pq, dq, q3⟩ := prime3 k (by omega)
      exact fin q pq dq q3
    · have k2 : k % 4 = 2 := by omega
      obtain ⟨j, rfl⟩ : ∃ j, k = 2 * j := ⟨k / 2, by omega⟩
      obtain ⟨u, rfl⟩ : ∃ u, x = 2 * u + 1 := ⟨x / 2, by omega⟩
      obtain ⟨v, rfl⟩ : ∃ v, y = 2 * v + 1 := ⟨y / 2, by omega⟩
      have e1 : p * j = 2 * (u * u + u) + 2 * (v * v + v) + 1 := by grind
      have hu : (u * u + u) % 2 = 0 := by
        have : u % 2 = 0 ∨ u % 2 = 1 := by omega
        rcases this with h | h <;> simp [Nat.add_mod, Nat.mul_mod, h]
      have hv : (v * v + v) % 2 = 0 := by
        have : v % 2 = 0 ∨ v % 2 = 1 := by omega
        rcases this with h | h <;> simp [Nat.add_mod, Nat.mul_mod, h]
      have e2 : (p % 4) * (j % 4) % 4 = 1 := by rw [← Nat.mul_mod, e1]; omega
      rw [h3] at e2
      obtain ⟨q, pq, dq, q3⟩ := prime3 j (by omega)
      exact fin q pq (Nat.dvd_trans dq (Nat.dvd_mul_left j 2)) q3
end NT

end
section
set_option Elab.async false
set_option linter.all false
set_option maxRecDepth 100000
/-! sums of two squares: exactly where no prime = 3 mod 4 stands to an odd power -/
namespace NT
theorem lt_two_pow' (p : Nat) (h : 2 ≤ p) : ∀ n : Nat, n < p ^ n
  | 0 => by simp
  | n + 1 => by
    have ih := lt_two_pow' p h n
    rw [Nat.pow_succ]
    have : p ^ n * 2 ≤ p ^ n * p := Nat.mul_le_mul_left _ h
    omega
theorem ex_exists {p n : Nat} (h : 2 ≤ p) (hn : 0 < n) : ∃ e, Ex p n e := by
  have key : ∀ k, ¬ p ^ k ∣ n → ∃ e, Ex p n e := by
    intro k
    induction k with
    | zero => intro h0; exact absurd (by rw [Nat.pow_zero]; exact Nat.one_dvd n) h0
    | succ k ih =>
      intro h1
      by_cases h2 : p ^ k ∣ n
      · exact ⟨k, h2, h1⟩
      · exact ih h2
  refine key n fun d => ?_
  have := Nat.le_of_dvd hn d
  have := lt_two_pow' p h n
  omega
theorem ex_zero {p n : Nat} (h : ¬ p ∣ n) : Ex p n 0 := ⟨by rw [Nat.pow_zero]; exact Nat.one_dvd n, by rw [Nat.zero_add, Nat.pow_one]; exact h⟩
theorem ex_mul_self {p m e : Nat} (hp : 0 < p) (h : Ex p m e) : Ex p (p * m) (e + 1) := by
  constructor
  · rw [Nat.pow_succ, Nat.mul_comm]; exact Nat.mul_dvd_mul_left p h.1
  · intro d
    refine h.2 ?_
    rw [Nat.pow_succ, Nat.mul_comm (p ^ (e + 1)) p] at d
    exact Nat.dvd_of_mul_dvd_mul_left hp d
theorem Pr.cop_pow {p q : Nat} (hp : Pr p) (hq : Pr q) (h : p ≠ q) (e : Nat) : Nat.Coprime (p ^ e) q := by
  refine Nat.Coprime.pow_left e (hp.cop fun d => h (hp.eq_of_dvd hq d))
theorem ex_mul_other {p q m e : Nat} (hp : Pr p) (hq : Pr q) (hne : p ≠ q) : Ex p m e ↔ Ex p (q * m) e := by
  have a1 : ∀ f, p ^ f ∣ q * m ↔ p ^ f ∣ m := fun f =>
    ⟨fun d => (hp.cop_pow hq hne f).dvd_of_dvd_mul_left d, fun d => Nat.dvd_trans d (Nat.dvd_mul_left m q)⟩
  unfold Ex
  rw [a1, a1]
def Good (n : Nat) : Prop := ∀ p, Pr p → p % 4 = 3 → ¬ OddV p n
theorem good_iff {n : Nat} : BarR n none ↔ Good n := Iff.rfl
/-- a sum of two squares is good -/
theorem good_of_sq : ∀ n : Nat, 0 < n → ∀ x y, x * x + y * y = n → Good n := by
  intro n
  induction n using Nat.strongRecOn with
  | ind n ih =>
    intro h0 x y e p hp h3 ⟨f, hf, hx⟩
    by_cases d : p ∣ n
    · have dx := two_sq_dvd p hp h3 x y (by rw [e]; exact d)
      have dy := two_sq_dvd p hp h3 y x (by rw [Nat.add_comm, e]; exact d)
      obtain ⟨u, rfl⟩ := dx
      obtain ⟨v, rfl⟩ := dy
      have en : n = p * (p * (u * u + v * v)) := by rw [← e]; grind
      have m0 : 0 < u * u + v * v := Nat.pos_of_ne_zero fun z => by rw [z] at en; simp at en; omega
      have hlt : u * u + v * v < n := by
        have h2 := hp.1
        have a1 : 2 * (u * u + v * v) ≤ p * (u * u + v * v) := Nat.mul_le_mul_right _ h2
        have a2 : 1 * (p * (u * u + v * v)) ≤ p * (p * (u * u + v * v)) := Nat.mul_le_mul_right _ hp.pos
        omega
      obtain ⟨g, hg⟩ := ex_exists (n := u * u + v * v) hp.1 m0
      have h2 := ex_mul_self hp.pos (ex_mul_self hp.pos hg)
      rw [← en] at h2
      have := hx.uniq h2
      exact ih _ hlt m0 u v rfl p hp h3 ⟨g, by omega, hg⟩
    · have := hx.uniq (ex_zero d)
      omega
def Two (n : Nat) : Prop := ∃ x y, x * x + y * y = n
theorem Two.mul {m n : Nat} (h : Two m) (g : Two n) : Two (m * n) := by
  obtain ⟨a, b, rfl⟩ := h
  obtain ⟨c, d, rfl⟩ := g
  by_cases hl : b * c ≤ a * d
  · obtain ⟨k, hk⟩ := Nat.exists_eq_add_of_le hl
    refine ⟨a * c + b * d, k, ?_⟩
    have : k * k + 2 * (b * c) * k + (b * c) * (b * c) = (a * d) * (a * d) := by rw [hk]; grind
    have h2 : 2 * (b * c) * k + 2 * ((b * c) * (b * c)) = 2 * ((b * c) * (a * d)) := by rw [hk]; grind
    grind
  · obtain ⟨k, hk⟩ := Nat.exists_eq_add_of_le (Nat.le_of_not_le hl)
    refine ⟨a * c + b * d, k, ?_⟩
    have : k * k + 2 * (a * d) * k + (a * d) * (a * d) = (b * c) * (b * c) := by rw [hk]; grind
    have h2 : 2 * (a * d) * k + 2 * ((a * d) * (a * d)) = 2 * ((a * d) * (b * c)) := by rw [hk]; grind
    grind
/-- a good number is a sum of two squares, where the primes that it asks are -/
theorem two_of_good {N : Nat} (hN : ∀ p, Pr p → p ≤ N → p % 4 ≠ 3 → Two p) : ∀ n : Nat, 0 < n → n ≤ N → Good n → Two n := by
  intro n
  induction n using Nat.strongRecOn with
  | ind n ih =>
    intro h0 hle hg
    by_cases h1 : n = 1
    · exact ⟨0, 1, by rw [h1]⟩
    · obtain ⟨q, pq, m, rfl⟩ := has_prime n (by omega)
      have m0 : 0 < m := Nat.pos_of_ne_zero fun z => by rw [z] at h0; simp at h0
      have hm : m < q * m := by
        have := Nat.mul_le_mul_right m pq.1
        omega
      have hqle : q ≤ q * m := Nat.le_mul_of_pos_right q m0
      by_cases h3 : q % 4 = 3
      · obtain ⟨e, he⟩ := ex_exists (n := q * m) pq.1 h0
        have e0 : e ≠ 0 := fun z => by
          subst z
          exact he.2 (by rw [Nat.zero_add, Nat.pow_one]; exact Nat.dvd_mul_right q m)
        have e1 : e ≠ 1 := fun z => by
          subst z
          exact hg q pq h3 ⟨1, rfl, he⟩
        have d2 : q * q ∣ q * m := by
          have : q ^ 2 ∣ q * m := Nat.dvd_trans (Nat.pow_dvd_pow q (by omega)) he.1
          rwa [Nat.pow_two] at this
        obtain ⟨j, rfl⟩ := Nat.dvd_of_mul_dvd_mul_left pq.pos d2
        have j0 : 0 < j := Nat.pos_of_ne_zero fun z => by rw [z] at m0; simp at m0
        have hj : j ≤ q * j := Nat.le_mul_of_pos_left j pq.pos
        obtain ⟨c, d, hcd⟩ := ih j (by omega) j0 (by omega) (fun p hp p3 ⟨f, hf, hx⟩ => by
          by_cases hpq : p = q
          · subst hpq
            exact hg p hp p3 ⟨f + 2, by omega, ex_mul_self hp.pos (ex_mul_self hp.pos hx)⟩
          · exact hg p hp p3 ⟨f, hf, (ex_mul_other hp pq hpq).mp ((ex_mul_other hp pq hpq).mp hx)⟩)
        exact ⟨q * c, q * d, by rw [← hcd]; grind⟩
      · refine Two.mul (hN q pq (by omega) h3) (ih m hm m0 (by omega) fun p hp p3 ⟨f, hf, hx⟩ => hg p hp p3 ⟨f, hf, ?_⟩)
        exact (ex_mul_other hp pq (fun z => by subst z; exact h3 p3)).mp hx
end NT

end
section
set_option Elab.async false
set_option linter.all false
set_option maxRecDepth 100000
/-! sums of two and three squares up to a million: bits -/
namespace NT
/-- the bits k * k below a bound, shifted over b: n = m + x * x, m a bit of b -/
def over (b : Nat) : Nat → Nat
  | 0 => b
  | k + 1 => (b <<< ((k + 1) * (k + 1))) ||| over b k
theorem over_bit {b : Nat} : ∀ {k n : Nat}, (over b k).testBit n = true → ∃ x m, m + x * x = n ∧ b.testBit m = true
  | 0, n, h => ⟨0, n, by simp, h⟩
  | k + 1, n, h => by
    rw [over, Nat.testBit_or, Nat.testBit_shiftLeft, Bool.or_eq_true, Bool.and_eq_true, decide_eq_true_eq] at h
    rcases h with ⟨h1, h2⟩ | h
    · exact ⟨k + 1, n - (k + 1) * (k + 1), Nat.sub_add_cancel h1, h2⟩
    · exact over_bit h
/-- bits 0, d, 2 d, .. (2 ^ k of them) -/
def rep (d : Nat) : Nat → Nat
  | 0 => 1
  | k + 1 => (rep d k <<< (d * 2 ^ k)) ||| rep d k
theorem rep_bit {d : Nat} : ∀ {k n : Nat}, (rep d k).testBit n = true → d ∣ n
  | 0, n, h => by
    rw [rep] at h
    have : n = 0 := by
      rw [show (1 : Nat) = 2 ^ 0 by rfl, Nat.testBit_two_pow] at h
      exact (of_decide_eq_true h).symm
    rw [this]; exact Nat.dvd_zero d
  | k + 1, n, h => by
    rw [rep, Nat.testBit_or, Nat.testBit_shiftLeft, Bool.or_eq_true, Bool.and_eq_true, decide_eq_true_eq] at h
    rcases h with ⟨h1, h2⟩ | h
    · have := rep_bit h2
      have h3 : n = d * 2 ^ k + (n - d * 2 ^ k) := by omega
      rw [h3]
      exact Nat.dvd_add (Nat.dvd_mul_right d _) this
    · exact rep_bit h
theorem rep_shift {d k s n : Nat} (h : (rep d k <<< s).testBit n = true) : ∃ j, n = s + d * j := by
  rw [Nat.testBit_shiftLeft, Bool.and_eq_true, decide_eq_true_eq] at h
  obtain ⟨j, hj⟩ := rep_bit h.2
  exact ⟨j, by have := h.1; omega⟩
def B1 : Nat := over 1 1000
def B2 : Nat := over B1 1000
def B3 : Nat := over B2 1000
theorem B1_bit {n : Nat} (h : B1.testBit n = true) : ∃ x, x * x = n := by
  obtain ⟨x, m, e, hm⟩ := over_bit h
  have : m = 0 := by
    rw [show (1 : Nat) = 2 ^ 0 by rfl, Nat.testBit_two_pow] at hm
    exact (of_decide_eq_true hm).symm
  exact ⟨x, by omega⟩
theorem B2_bit {n : Nat} (h : B2.testBit n = true) : Two n := by
  obtain ⟨x, m, e, hm⟩ := over_bit h
  obtain ⟨y, hy⟩ := B1_bit hm
  exact ⟨y, x, by omega⟩
theorem B3_bit {n : Nat} (h : B3.testBit n = true) : ∃ x m, m + x * x = n ∧ Two m := by
  obtain ⟨x, m, e, hm⟩ := over_bit h
  exact ⟨x, m, e, B2_bit hm⟩
/-- 4 ^ a * (8 * j + 7) -/
def Sev (n : Nat) : Prop := ∃ a j, n = 4 ^ a * (8 * j + 7)
def m7 : Nat → Nat
  | 0 => rep 8 17 <<< 7
  | a + 1 => (rep (8 * 4 ^ (a + 1)) (17 - 2 * (a + 1)) <<< (7 * 4 ^ (a + 1))) ||| m7 a
theorem m7_bit : ∀ {a n : Nat}, (m7 a).testBit n = true → Sev n
  | 0, n, h => by
    obtain ⟨j, hj⟩ := rep_shift h
    exact ⟨0, j, by rw [hj]; omega⟩
  | a + 1, n, h => by
    rw [m7, Nat.testBit_or, Bool.or_eq_true] at h
    rcases h with h | h
    · obtain ⟨j, hj⟩ := rep_shift h
      exact ⟨a + 1, j, by rw [hj]; grind⟩
    · exact m7_bit h
/-- multiples from 2 d on -/
def comp : List Nat → Nat
  | [] => 0
  | d :: ds => (rep d (20 - d.log2) <<< (2 * d)) ||| comp ds
theorem comp_bit : ∀ {ds : List Nat} {n : Nat}, (∀ d ∈ ds, 2 ≤ d) → (comp ds).testBit n = true → ¬ Pr n
  | [], n, _, h => by rw [comp, Nat.zero_testBit] at h; cases h
  | d :: ds, n, hd, h => by
    rw [comp, Nat.testBit_or, Bool.or_eq_true] at h
    rcases h with h | h
    · obtain ⟨j, hj⟩ := rep_shift h
      intro hp
      have h2 := hd d List.mem_cons_self
      have e : n = d * (j + 2) := by rw [hj]; grind
      rcases hp.2 d ⟨_, e⟩ with h1 | h1
      · omega
      · have h5 : d * 2 ≤ d * (j + 2) := Nat.mul_le_mul_left _ (by omega)
        omega
    · exact comp_bit (fun x hx => hd x (List.mem_cons_of_mem _ hx)) h
def smallP : List Nat := [2, 3, 5, 7, 11, 13, 17, 19, 23, 29, 31, 37, 41, 43, 47, 53, 59, 61, 67, 71, 73, 79, 83, 89, 97, 101, 103, 107, 109, 113, 127, 131, 137, 139, 149, 151, 157, 163, 167, 173, 179, 181, 191, 193, 197, 199, 211, 223, 227, 229, 233, 239, 241, 251, 257, 263, 269, 271, 277, 281, 283, 293, 307, 311, 313, 317, 331, 337, 347, 349, 353, 359, 367, 373, 379, 383, 389, 397, 401, 409, 419, 421, 431, 433, 439, 443, 449, 457, 461, 463, 467, 479, 487, 491, 499, 503, 509, 521, 523, 541, 547, 557, 563, 569, 571, 577, 587, 593, 599, 601, 607, 613, 617, 619, 631, 641, 643, 647, 653, 659, 661, 673, 677, 683, 691, 701, 709, 719, 727, 733, 739, 743, 751, 757, 761, 769, 773, 787, 797, 809, 811, 821, 823, 827, 829, 839, 853, 857, 859, 863, 877, 881, 883, 887, 907, 911, 919, 929, 937, 941, 947, 953, 967, 971, 977, 983, 991, 997]
def full : Nat := 2 ^ 1000001 - 1
theorem all_bits {m n : Nat} (h : (m &&& full == full) = true) (hn : n ≤ 1000000) : m.testBit n = true := by
  have e : m &&& full = full := by simpa using h
  have h1 : (m &&& full).testBit n = full.testBit n := by rw [e]
  have h2 : full.testBit n = true := by
    unfold full
    rw [Nat.testBit_two_pow_sub_one]
    exact decide_eq_true (by omega)
  rw [Nat.testBit_and, h2, Bool.and_true] at h1
  exact h1
set_option exponentiation.threshold 2000000 in
theorem check3 : (((B3 ||| m7 8) &&& full) == full) = true := by decide +kernel

def m023 : Nat := rep 4 18 ||| (rep 4 18 <<< 2) ||| (rep 4 18 <<< 3)
set_option exponentiation.threshold 2000000 in
theorem check2 : (((B2 ||| comp smallP ||| m023) &&& full) == full) = true := by decide +kernel
theorem prime_two {p : Nat} (hp : Pr p) (hle : p ≤ 1000000) (h3 : p % 4 ≠ 3) : Two p := by
  by_cases h2 : p = 2
  · exact ⟨1, 1, by omega⟩
  · have h1 : p % 4 = 1 := by
      have : p % 4 = 0 ∨ p % 4 = 1 ∨ p % 4 = 2 := by omega
      rcases this with h | h | h
      · rcases hp.2 2 (Nat.dvd_of_mod_eq_zero (by omega)) with h | h <;> omega
      · exact h
      · rcases hp.2 2 (Nat.dvd_of_mod_eq_zero (by omega)) with h | h <;> omega
    have h := all_bits check2 hle
    rw [Nat.testBit_or, Nat.testBit_or, Bool.or_eq_true, Bool.or_eq_true] at h
    rcases h with (h | h) | h
    · exact B2_bit h
    · exact absurd hp (comp_bit (by decide +kernel) h)
    · exfalso
      unfold m023 at h
      rw [Nat.testBit_or, Nat.testBit_or, Bool.or_eq_true, Bool.or_eq_true] at h
      rcases h with (h | h) | h
      · have := Nat.mod_eq_zero_of_dvd (rep_bit h); omega
      · obtain ⟨j, hj⟩ := rep_shift h; omega
      · obtain ⟨j, hj⟩ := rep_shift h; omega
theorem good_zero : Good 0 := fun p _ _ ⟨e, _, _, h⟩ => h (Nat.dvd_zero _)
theorem good_two {n : Nat} (h : Two n) : Good n := by
  obtain ⟨x, y, e⟩ := h
  by_cases h0 : n = 0
  · rw [h0]; exact good_zero
  · exact good_of_sq n (Nat.pos_of_ne_zero h0) x y e
theorem two_good {n : Nat} (hn : n ≤ 1000000) (h : Good n) : Two n := by
  by_cases h0 : n = 0
  · exact ⟨0, 0, by rw [h0]⟩
  · exact two_of_good (fun p hp hle h3 => prime_two hp hle h3) n (Nat.pos_of_ne_zero h0) hn h
theorem three_good {n : Nat} (hn : n ≤ 1000000) (h : ¬ Sev n) : ∃ x, x * x ≤ n ∧ Good (n - x * x) := by
  have hb := all_bits check3 hn
  rw [Nat.testBit_or, Bool.or_eq_true] at hb
  rcases hb with hb | hb
  · obtain ⟨x, m, e, hm⟩ := B3_bit hb
    exact ⟨x, by omega, by rw [show n - x * x = m by omega]; exact good_two hm⟩
  · exact absurd (m7_bit hb) h
/-- n or n - 4 ^ a is a sum of three squares -/
theorem four_sev {n : Nat} : ∃ x, x * x ≤ n ∧ ¬ Sev (n - x * x) := by
  by_cases h : Sev n
  · obtain ⟨a, j, rfl⟩ := h
    refine ⟨2 ^ a, ?_, ?_⟩
    · have : 2 ^ a * 2 ^ a = 4 ^ a := by rw [← Nat.mul_pow]
      rw [this]
      exact Nat.le_mul_of_pos_right _ (by omega)
    · have : 2 ^ a * 2 ^ a = 4 ^ a := by rw [← Nat.mul_pow]
      rw [this]
      have e : 4 ^ a * (8 * j + 7) - 4 ^ a = 4 ^ a * (8 * j + 6) := by
        have : 4 ^ a * (8 * j + 7) = 4 ^ a * (8 * j + 6) + 4 ^ a := by grind
        omega
      rw [e]
      rintro ⟨b, i, h⟩
      have key : ∀ (a b i j : Nat), 4 ^ a * (8 * j + 6) = 4 ^ b * (8 * i + 7) → False := by
        intro a
        induction a with
        | zero =>
          intro b i j h
          cases b with
          | zero => omega
          | succ b =>
            rw [Nat.pow_succ] at h
            have : 4 ^ b * 4 * (8 * i + 7) = 4 * (4 ^ b * (8 * i + 7)) := by grind
            omega
        | succ a ih =>
          intro b i j h
          cases b with
          | zero =>
            rw [Nat.pow_succ] at h
            have : 4 ^ a * 4 * (8 * j + 6) = 4 * (4 ^ a * (8 * j + 6)) := by grind
            omega
          | succ b =>
            refine ih b i j ?_
            rw [Nat.pow_succ, Nat.pow_succ] at h
            have h1 : 4 ^ a * 4 * (8 * j + 6) = 4 * (4 ^ a * (8 * j + 6)) := by grind
            have h2 : 4 ^ b * 4 * (8 * i + 7) = 4 * (4 ^ b * (8 * i + 7)) := by grind
            omega
      exact key a b i j h
  · exact ⟨0, by omega, by simpa using h⟩
end NT

end
section
set_option Elab.async false
set_option linter.all false
set_option maxRecDepth 100000
/-! k07: what the defs promise -/
namespace K07
open PySem PySem.Spec PyProof.Rows L2 RZ PD NT

/-- an integer within bounds -/
def numIn (d : D) (lo hi : Int) : Bool := match d with
  | .int i => decide (lo ≤ i ∧ i ≤ hi)
  | _ => false
/-- what may be asked: no truth value, nothing unknown -/
def Plain (d : D) : Prop := (tyD d).isSome = true ∧ isBool d = false
def F_is_number : FP := fun args P _ => ∃ d lo hi, args = [d, .int lo, .int hi] ∧ Plain d ∧ P (.bl (numIn d lo hi))
def okKM (k m : D) : Bool := numIn k 1 4 && numIn m 0 1000000
def F_check_numbers : FP := fun args P W => ∃ k m, args = [k, m] ∧ Plain k ∧ Plain m ∧ (okKM k m = true → P .non) ∧ (okKM k m = false → W .range)
def F_root : FP := fun args P _ => ∃ n : Nat, args = [.int n] ∧ n ≤ 1000000 ∧ ∀ r : Nat, r * r ≤ n → n < (r + 1) * (r + 1) → P (.int r)
/-- the primes of n, ascending, with how often -/
def PF (n : Nat) (l : List (Nat × Nat)) : Prop := (∀ x ∈ l, Pr x.1 ∧ 1 ≤ x.2 ∧ Ex x.1 n x.2) ∧ l.Pairwise (fun x y => x.1 < y.1) ∧ ∀ p, Pr p → p ∣ n → ∃ x ∈ l, x.1 = p
def pairD (x : Nat × Nat) : D := .tup [.int x.1, .int x.2]
def F_primes_of : FP := fun args P _ => ∃ n : Nat, args = [.int n] ∧ 1 ≤ n ∧ n ≤ 1000000 ∧ ∀ l, PF n l → P (.lst (l.map pairD))
def optD : Option Nat → D
  | none => .non
  | some p => .int p
def F_barred : FP := fun args P _ => ∃ n : Nat, args = [.int n] ∧ n ≤ 1000000 ∧ ∀ r, BarR n r → P (optD r)
/-- m = 4 ^ a * b, 4 divides b no more -/
def Four (m a b : Nat) : Prop := m = 4 ^ a * b ∧ b % 4 ≠ 0
def F_fours : FP := fun args P _ => ∃ n : Nat, args = [.int n] ∧ 1 ≤ n ∧ n ≤ 1000000 ∧ ∀ a b, Four n a b → P (.tup [.int a, .int b])
open Classical in
noncomputable def sevB (n : Nat) : Bool := decide (Sev n)
open Classical in
theorem sevB_yes {n : Nat} (h : Sev n) : sevB n = true := by unfold sevB; exact decide_eq_true h
open Classical in
theorem sevB_no {n : Nat} (h : ¬ Sev n) : sevB n = false := by unfold sevB; exact decide_eq_false h
def F_is_three : FP := fun args P _ => ∃ n : Nat, args = [.int n] ∧ n ≤ 1000000 ∧ P (.bl (!sevB n))
def ndl (l : List Nat) : D := .lst (l.map fun x : Nat => .int x)
def sqSum (l : List Nat) : Nat := (l.map fun x => x * x).sum
def F_two : FP := fun args P _ => ∃ n : Nat, args = [.int n] ∧ n ≤ 1000000 ∧ Good n ∧ ∀ l : List Nat, l.length = 2 → sqSum l = n → P (ndl l)
def F_three : FP := fun args P _ => ∃ n : Nat, args = [.int n] ∧ n ≤ 1000000 ∧ ¬ Sev n ∧ ∀ l : List Nat, l.length = 3 → sqSum l = n → P (ndl l)
def F_four : FP := fun args P _ => ∃ n : Nat, args = [.int n] ∧ n ≤ 1000000 ∧ ∀ l : List Nat, l.length = 4 → sqSum l = n → P (ndl l)
/-- what is no sum of k squares, and why -/
inductive Forb : Nat → Nat → D → Prop
  | root {m r : Nat} : r * r < m → m < (r + 1) * (r + 1) → Forb 1 m (.tup [.str "root", .int r])
  | prime {m p : Nat} : BarR m (some p) → Forb 2 m (.tup [.str "prime", .int p])
  | seven {m a b : Nat} : Four m a b → b % 8 = 7 → Forb 3 m (.tup [.str "seven", .tup [.int a, .int (b / 8 : Nat)]])
/-- an ascending tuple of k numbers whose squares make m -/
def AscS (k m : Nat) (l : List Nat) : Prop := l.length = k ∧ l.Pairwise (· ≤ ·) ∧ sqSum l = m
def ntl (l : List Nat) : D := .tup (l.map fun x : Nat => .int x)
def F_squares : FP := fun args P W => ∃ k m, args = [k, m] ∧ Plain k ∧ Plain m ∧ (okKM k m = false → W .range) ∧
  ∀ kk mm : Nat, k = .int kk → m = .int mm → okKM k m = true → (∀ d, Forb kk mm d → P d) ∧ ((∀ d, ¬ Forb kk mm d) → ∀ l, AscS kk mm l → P (.tup [.str "squares", ntl l]))
/-- whether told is such a tuple -/
def ints? : List D → Option (List Int)
  | [] => some []
  | .int i :: r => (ints? r).map (i :: ·)
  | _ :: _ => none
def isSq (k m : Int) (d : D) : Bool := match d with
  | .tup xs => match ints? xs with
    | some l => decide (l.length = k) && l.all (fun i => decide (0 ≤ i)) && decide (l.Pairwise (· ≤ ·)) && decide ((l.map fun i => i * i).sum = m)
    | none => false
  | _ => false
/-- what the tries are: no truth value in them, small numbers -/
def TryOk (d : D) : Prop := Plain d ∧ ∀ xs, d = .tup xs → xs.length ≤ 10 ∧ ∀ x ∈ xs, Plain x ∧ okN 5 x = true ∧ ∀ i, x = .int i → i.natAbs < 2 ^ 60
def F_is_squares : FP := fun args P W => ∃ k m d, args = [k, m, d] ∧ Plain k ∧ Plain m ∧ TryOk d ∧ (okKM k m = false → W .range) ∧ ∀ kk mm : Int, k = .int kk → m = .int mm → okKM k m = true → P (.bl (isSq kk mm d))
/-! what is read is as it was -/
mutual
def rdN : Nat → D → Bool
  | _, .non => true
  | _, .bl _ => true
  | _, .int _ => true
  | _, .str s => decide (s.length ≤ 1000)
  | 0, .tup _ => false
  | n + 1, .tup xs => decide (xs.length ≤ 100000) && rdNs n xs
  | 0, .lst _ => false
  | n + 1, .lst xs => decide (xs.length ≤ 100000) && rdNs n xs
  | _, .fn _ => false
  | _, .own _ => false
  | _, .dct _ _ => false
  | _, .scr _ => false
def rdNs : Nat → List D → Bool
  | _, [] => true
  | n, x :: xs => rdN n x && rdNs n xs
end
def readN (n : Nat) : FP := fun args P _ => ∃ d, args = [d] ∧ rdN n d = true ∧ P d
def F__law_read : FP := readN 4
def ScrOk (ns : List Int) : Prop := ns.length ≤ 63 ∧ ∀ z ∈ ns, Builtin.Int.intBits z ≤ 1048576
def F__law_cell : FP := fun args P _ => ∃ ns : List Int, ∃ k : Nat, args = [.scr ns, .int k] ∧ ScrOk ns ∧ ∀ i : Int, Builtin.Int.intBits i ≤ 1048576 → P (.int i)
/-- the law's box: what is left, and the mixed number -/
def BoxOk (d : D) : Prop := ∃ a b : Nat, d = .lst [.int a, .int b] ∧ Builtin.Int.intBits a ≤ 1048576 ∧ b < 2 ^ 31
def F__law_stream : FP := fun args P _ => ∃ ns : List Int, ∃ k : Nat, args = [.scr ns, .int k] ∧ ScrOk ns ∧ ∀ d, BoxOk d → P d
def F__law_draw : FB := fun args P _ => ∃ bx, ∃ many : Nat, args = [bx, .int many] ∧ BoxOk bx ∧ 1 ≤ many ∧ many ≤ 2 ^ 30 ∧ ∀ (i : Nat) bx', BoxOk bx' → i < many → P (.int i) bx'
def F__law_primes : FP := fun args P _ => ∃ n : Nat, args = [.int n] ∧ 1 ≤ n ∧ n ≤ 1000000 ∧ ∀ l : List Nat, l.Pairwise (· < ·) → (∀ p, p ∈ l ↔ Pr p ∧ p ∣ n) → P (ndl l)
def F__law_is_squares : FP := fun args P _ => ∃ k m : Int, ∃ d, args = [.int k, .int m, d] ∧ TryOk d ∧ P (.bl (isSq k m d))
def F__law_forbids : FP := fun args P _ => ∃ k m : Nat, args = [.int k, .int m] ∧ 1 ≤ k ∧ k ≤ 4 ∧ m ≤ 1000000 ∧ (∀ d, Forb k m d → P d) ∧ ((∀ d, ¬ Forb k m d) → P .non)
def F__law_number : FB := fun args P _ => ∃ bx, args = [bx] ∧ BoxOk bx ∧ ∀ (i : Nat) bx', BoxOk bx' → i ≤ 1000000 → P (.int i) bx'
def F_law : FP := fun args P _ => ∃ ns : List Int, args = [.scr ns] ∧ ns.length ≤ 63 ∧ (∀ z ∈ ns, Builtin.Int.intBits z ≤ 1048576) ∧ P (.bl true)
end K07

end
section
set_option Elab.async false
set_option maxHeartbeats 400000
set_option linter.all false
set_option maxRecDepth 100000
namespace K07
open PySem PySem.Spec PyProof.Rows L2 RZ PD

/-- is_number: slots told least most -/
def d_is_number (W : Ex → Prop) : DS :=
  (dRet (dAndV (dIsi isInt (dVar 0)) (dChain leP leP (dVar 1) (dVar 0) (dVar 2))))
/-- primes_of: slots number rest told prime often -/
def d_primes_of (W : Ex → Prop) : DS :=
  (dSeq (dSet 1 (dCB absP (dCons (dVar 0) dNil)))
  (dSeq (dSetO 2 (dLst dNil))
  (dSeq (dSet 3 (dC (.int 2)))
  (dSeq (dWhile (dTest (dOp leP (dOp mulP (dVar 3) (dVar 3)) (dVar 1)))
  (dSeq (dSet 4 (dC (.int 0)))
  (dSeq (dWhile (dTest (dOp eqP (dOp modP (dVar 1) (dVar 3)) (dC (.int 0))))
  (dPar 1 4 (dCons (dOp divP (dVar 1) (dVar 3)) (dCons (dOp addP (dVar 4) (dC (.int 1))) dNil))))
  (dSeq (dIfS (dTest (dOp gtP (dVar 4) (dC (.int 0))))
  (dApp 2 (dTup (dCons (dVar 3) (dCons (dVar 4) dNil))))
  dNext)
  (dAug 3 (fun i j => i + j) (dIf (dTest (dOp eqP (dVar 3) (dC (.int 2)))) (dC (.int 1)) (dC (.int 2))))))))
  (dRet (dIf (dTest (dOp gtP (dVar 1) (dC (.int 1)))) (dOp addP (dOwn 2) (dLst (dCons (dTup (dCons (dVar 1) (dCons (dC (.int 1)) dNil))) dNil))) (dOwn 2)))))))
/-- root: slots number told -/
def d_root (W : Ex → Prop) : DS :=
  (dSeq (dIfS (dTest (dOp eqP (dVar 0) (dC (.int 0))))
  (dRet (dC (.int 0)))
  dNext)
  (dSeq (dSet 1 (dOp shlP (dC (.int 1)) (dOp divP (dOp addP (dBits (dVar 0)) (dC (.int 1))) (dC (.int 2)))))
  (dSeq (dWhile (dTest (dOp gtP (dOp mulP (dVar 1) (dVar 1)) (dVar 0)))
  (dSet 1 (dOp divP (dOp addP (dVar 1) (dOp divP (dVar 0) (dVar 1))) (dC (.int 2)))))
  (dRet (dVar 1)))))
/-- check_numbers: slots k m -/
def d_check_numbers (W : Ex → Prop) : DS :=
  (dIfS (dOr (dNot (dTest (dCall F_is_number W (dCons (dVar 0) (dCons (dC (.int 1)) (dCons (dC (.int 4)) dNil)))))) (dNot (dTest (dCall F_is_number W (dCons (dVar 1) (dCons (dC (.int 0)) (dCons (dC (.int (1000000))) dNil)))))))
  (dRaise W .range)
  dNext)
/-- barred: slots m prime often -/
def d_barred (W : Ex → Prop) : DS :=
  (dSeq (dFor (dSeqI (dIf (dTest (dOp gtP (dVar 0) (dC (.int 0)))) (dCall F_primes_of W (dCons (dVar 0) dNil)) (dLst dNil))) (dgTup 2 (dgCons (dgName 1) (dgCons (dgName 2) dgNil)))
  (dIfS (dAnd (dTest (dOp eqP (dOp modP (dVar 1) (dC (.int 4))) (dC (.int 3)))) (dTest (dOp eqP (dOp modP (dVar 2) (dC (.int 2))) (dC (.int 1)))))
  (dRet (dVar 1))
  dNext))
  (dRet (dC .non)))
/-- fours: slots m often -/
def d_fours (W : Ex → Prop) : DS :=
  (dSeq (dSet 1 (dC (.int 0)))
  (dSeq (dWhile (dTest (dOp eqP (dOp modP (dVar 0) (dC (.int 4))) (dC (.int 0))))
  (dPar 0 1 (dCons (dOp divP (dVar 0) (dC (.int 4))) (dCons (dOp addP (dVar 1) (dC (.int 1))) dNil))))
  (dRet (dTup (dCons (dVar 1) (dCons (dVar 0) dNil))))))
/-- is_three: slots m -/
def d_is_three (W : Ex → Prop) : DS :=
  (dRet (dOrV (dOp eqP (dVar 0) (dC (.int 0))) (dOp neP (dOp modP (dOp ixP (dCall F_fours W (dCons (dVar 0) dNil)) (dC (.int 1))) (dC (.int 8))) (dC (.int 7)))))
/-- two: slots m x -/
def d_two (W : Ex → Prop) : DS :=
  (dSeq (dSet 1 (dCall F_root W (dCons (dVar 0) dNil)))
  (dSeq (dWhile (dTest (dOp neP (dOp mulP (dCall F_root W (dCons (dOp subP (dVar 0) (dOp mulP (dVar 1) (dVar 1))) dNil)) (dCall F_root W (dCons (dOp subP (dVar 0) (dOp mulP (dVar 1) (dVar 1))) dNil))) (dOp subP (dVar 0) (dOp mulP (dVar 1) (dVar 1)))))
  (dAug 1 (fun i j => i - j) (dC (.int 1))))
  (dRet (dLst (dCons (dVar 1) (dCons (dCall F_root W (dCons (dOp subP (dVar 0) (dOp mulP (dVar 1) (dVar 1))) dNil)) dNil))))))
/-- three: slots m x -/
def d_three (W : Ex → Prop) : DS :=
  (dSeq (dSet 1 (dCall F_root W (dCons (dVar 0) dNil)))
  (dSeq (dWhile (dTest (dOp (isNP true) (dCall F_barred W (dCons (dOp subP (dVar 0) (dOp mulP (dVar 1) (dVar 1))) dNil)) (dC .non)))
  (dAug 1 (fun i j => i - j) (dC (.int 1))))
  (dRet (dOp addP (dLst (dCons (dVar 1) dNil)) (dCall F_two W (dCons (dOp subP (dVar 0) (dOp mulP (dVar 1) (dVar 1))) dNil))))))
/-- four: slots m x -/
def d_four (W : Ex → Prop) : DS :=
  (dSeq (dSet 1 (dCall F_root W (dCons (dVar 0) dNil)))
  (dSeq (dWhile (dNot (dTest (dCall F_is_three W (dCons (dOp subP (dVar 0) (dOp mulP (dVar 1) (dVar 1))) dNil))))
  (dAug 1 (fun i j => i - j) (dC (.int 1))))
  (dRet (dOp addP (dLst (dCons (dVar 1) dNil)) (dCall F_three W (dCons (dOp subP (dVar 0) (dOp mulP (dVar 1) (dVar 1))) dNil))))))
/-- squares: slots k m often rest told -/
def d_squares (W : Ex → Prop) : DS :=
  (dSeq (dDrop (dCall F_check_numbers W (dCons (dVar 0) (dCons (dVar 1) dNil))))
  (dSeq (dIfS (dTest (dOp eqP (dVar 0) (dC (.int 1))))
  (dRet (dIf (dTest (dOp eqP (dOp mulP (dCall F_root W (dCons (dVar 1) dNil)) (dCall F_root W (dCons (dVar 1) dNil))) (dVar 1))) (dTup (dCons (dC (.str "squares")) (dCons (dTup (dCons (dCall F_root W (dCons (dVar 1) dNil)) dNil)) dNil))) (dTup (dCons (dC (.str "root")) (dCons (dCall F_root W (dCons (dVar 1) dNil)) dNil)))))
  dNext)
  (dSeq (dIfS (dAnd (dTest (dOp eqP (dVar 0) (dC (.int 2)))) (dTest (dOp (isNP true) (dCall F_barred W (dCons (dVar 1) dNil)) (dC .non))))
  (dRet (dTup (dCons (dC (.str "prime")) (dCons (dCall F_barred W (dCons (dVar 1) dNil)) dNil))))
  dNext)
  (dSeq (dIfS (dAnd (dTest (dOp eqP (dVar 0) (dC (.int 3)))) (dNot (dTest (dCall F_is_three W (dCons (dVar 1) dNil)))))
  (dSeq (dAsg (dCall F_fours W (dCons (dVar 1) dNil)) (dgTup 2 (dgCons (dgName 2) (dgCons (dgName 3) dgNil))))
  (dRet (dTup (dCons (dC (.str "seven")) (dCons (dTup (dCons (dVar 2) (dCons (dOp divP (dVar 3) (dC (.int 8))) dNil))) dNil)))))
  dNext)
  (dSeq (dSet 4 (dIf (dTest (dOp eqP (dVar 0) (dC (.int 2)))) (dCall F_two W (dCons (dVar 1) dNil)) (dIf (dTest (dOp eqP (dVar 0) (dC (.int 3)))) (dCall F_three W (dCons (dVar 1) dNil)) (dCall F_four W (dCons (dVar 1) dNil)))))
  (dRet (dTup (dCons (dC (.str "squares")) (dCons (dTuple (dCB sortedP (dCons (dVar 4) dNil))) dNil)))))))))
/-- is_squares: slots k m told item at -/
def d_is_squares (W : Ex → Prop) : DS :=
  (dSeq (dDrop (dCall F_check_numbers W (dCons (dVar 0) (dCons (dVar 1) dNil))))
  (dSeq (dIfS (dOr (dNot (dTest (dIsi isTup (dVar 2)))) (dOr (dTest (dOp neP (dCB lenP (dCons (dVar 2) dNil)) (dVar 0))) (dNot (dTest (dCB allP (dCons (dLc (dSeqI (dVar 2)) (dgName 3) dYes (dAndV (dIsi isInt (dVar 3)) (dOp geP (dVar 3) (dC (.int 0)))) [3]) dNil))))))
  (dRet (dC (.bl false)))
  dNext)
  (dSeq (dIfS (dTest (dCB anyP (dCons (dLc (dRange1 (dOp subP (dVar 0) (dC (.int 1)))) (dgName 4) dYes (dOp gtP (dOp ixP (dVar 2) (dVar 4)) (dOp ixP (dVar 2) (dOp addP (dVar 4) (dC (.int 1))))) [4]) dNil)))
  (dRet (dC (.bl false)))
  dNext)
  (dRet (dOp eqP (dCB sumP (dCons (dLc (dSeqI (dVar 2)) (dgName 3) dYes (dOp mulP (dVar 3) (dVar 3)) [3]) dNil)) (dVar 1))))))
/-- _law_read: slots told sign part -/
def d__law_read (Fi : FP) (W : Ex → Prop) : DS :=
  (dSeq (dIfS (dOr (dTest (dOp (isNP false) (dVar 0) (dC .non))) (dOr (dTest (dOp isB2P (dVar 0) (dC (.bl true)))) (dTest (dOp isB2P (dVar 0) (dC (.bl false))))))
  (dRet (dVar 0))
  dNext)
  (dSeq (dIfS (dTest (dIsi isInt (dVar 0)))
  (dRet (dCB intP (dCons (dVar 0) dNil)))
  dNext)
  (dSeq (dIfS (dTest (dIsi isStr (dVar 0)))
  (dRet (dJoin (dC (.str "")) (dLc (dStrI (dVar 0)) (dgName 1) dYes (dVar 1) [1])))
  dNext)
  (dSeq (dIfS (dTest (dIsi isTup (dVar 0)))
  (dRet (dTuple (dLc (dSeqI (dVar 0)) (dgName 2) dYes (dCall Fi noX (dCons (dVar 2) dNil)) [2])))
  dNext)
  (dRet (dIf (dTest (dIsi isLst (dVar 0))) (dLc (dSeqI (dVar 0)) (dgName 2) dYes (dCall Fi noX (dCons (dVar 2) dNil)) [2]) (dC (.str "something else"))))))))
/-- _law_cell: slots script k -/
def d__law_cell (W : Ex → Prop) : DS :=
  (dRet (dIf (dTest (dOp ltP (dVar 1) (dCB lenP (dCons (dVar 0) dNil)))) (dCB intP (dCons (dOp ixP (dVar 0) (dVar 1)) dNil)) (dC (.int 0))))
/-- _law_stream: slots script k -/
def d__law_stream : DE :=
  (dLst (dCons (dCB absP (dCons (dCall F__law_cell noX (dCons (dVar 0) (dCons (dVar 1) dNil))) dNil)) (dCons (dOp addP (dOp modP (dCB absP (dCons (dCall F__law_cell noX (dCons (dVar 0) (dCons (dVar 1) dNil))) dNil)) (dC (.int 1000003))) (dC (.int 7))) dNil)))
/-- _law_draw: slots box many told -/
def d__law_draw (W : Ex → Prop) : DS :=
  (dSeq (dIfS (dTest (dOp gtP (dOp ixP (dOwn 0) (dC (.int 0))) (dC (.int 0))))
  (dSeq (dSet 2 (dOp modP (dOp ixP (dOwn 0) (dC (.int 0))) (dVar 1)))
  (dSeq (dSetIx 0 (dOp divP (dOp ixP (dOwn 0) (dC (.int 0))) (dVar 1)) (dC (.int 0)))
  (dRet (dCB intP (dCons (dVar 2) dNil)))))
  dNext)
  (dSeq (dSetIx 0 (dOp modP (dCB intP (dCons (dOp addP (dOp mulP (dOp ixP (dOwn 0) (dC (.int 1))) (dC (.int 48271))) (dC (.int 12345))) dNil)) (dC (.int 2147483647))) (dC (.int 1)))
  (dRet (dOp modP (dCB intP (dCons (dOp divP (dOp ixP (dOwn 0) (dC (.int 1))) (dC (.int 64))) dNil)) (dVar 1)))))
/-- _law_primes: slots number p found -/
def d__law_primes (W : Ex → Prop) : DS :=
  (dSeq (dPar_vvo 0 1 2 (dCB absP (dCons (dVar 0) dNil)) (dC (.int 2)))
  (dSeq (dWhile (dTest (dOp leP (dOp mulP (dVar 1) (dVar 1)) (dVar 0)))
  (dSeq (dIfS (dTest (dOp eqP (dOp modP (dVar 0) (dVar 1)) (dC (.int 0))))
  (dSeq (dApp 2 (dVar 1))
  (dWhile (dTest (dOp eqP (dOp modP (dVar 0) (dVar 1)) (dC (.int 0))))
  (dSet 0 (dOp divP (dVar 0) (dVar 1)))))
  dNext)
  (dSet 1 (dOp addP (dVar 1) (dC (.int 1))))))
  (dRet (dIf (dTest (dOp gtP (dVar 0) (dC (.int 1)))) (dOp addP (dOwn 2) (dLst (dCons (dVar 0) dNil))) (dOwn 2)))))
/-- _law_is_squares: slots k m told a -/
def d__law_is_squares (W : Ex → Prop) : DS :=
  (dSeq (dIfS (dOr (dNot (dTest (dIsi isTup (dVar 2)))) (dOr (dTest (dOp neP (dCB lenP (dCons (dVar 2) dNil)) (dVar 0))) (dTest (dOp gtP (dCB lenP (dCons (dLc (dSeqI (dVar 2)) (dgName 3) (dOr (dNot (dTest (dIsi isInt (dVar 3)))) (dTest (dOp ltP (dVar 3) (dC (.int 0))))) (dVar 3) [3]) dNil)) (dC (.int 0))))))
  (dRet (dC (.bl false)))
  dNext)
  (dRet (dAndV (dOp eqP (dCB sortedP (dCons (dVar 2) dNil)) (dCB listP (dCons (dVar 2) dNil))) (dOp eqP (dCB sumP (dCons (dLc (dSeqI (dVar 2)) (dgName 3) dYes (dOp mulP (dVar 3) (dVar 3)) [3]) dNil)) (dVar 1)))))
/-- _law_forbids: slots k m r p often rest a b -/
def d__law_forbids (W : Ex → Prop) : DS :=
  (dSeq (dIfS (dTest (dOp eqP (dVar 0) (dC (.int 1))))
  (dSeq (dSet 2 (dC (.int 0)))
  (dSeq (dWhile (dTest (dOp leP (dOp mulP (dOp addP (dVar 2) (dC (.int 1))) (dOp addP (dVar 2) (dC (.int 1)))) (dVar 1)))
  (dSet 2 (dOp addP (dVar 2) (dC (.int 1)))))
  (dRet (dIf (dTest (dOp eqP (dOp mulP (dVar 2) (dVar 2)) (dVar 1))) (dC .non) (dTup (dCons (dC (.str "root")) (dCons (dVar 2) dNil)))))))
  dNext)
  (dSeq (dIfS (dTest (dOp eqP (dVar 0) (dC (.int 2))))
  (dSeq (dFor (dSeqI (dIf (dTest (dOp gtP (dVar 1) (dC (.int 0)))) (dCall F__law_primes W (dCons (dVar 1) dNil)) (dLst dNil))) (dgName 3)
  (dSeq (dPar 4 5 (dCons (dC (.int 0)) (dCons (dVar 1) dNil)))
  (dSeq (dWhile (dTest (dOp eqP (dOp modP (dVar 5) (dVar 3)) (dC (.int 0))))
  (dPar 5 4 (dCons (dOp divP (dVar 5) (dVar 3)) (dCons (dOp addP (dVar 4) (dC (.int 1))) dNil))))
  (dIfS (dAnd (dTest (dOp eqP (dOp modP (dVar 3) (dC (.int 4))) (dC (.int 3)))) (dTest (dOp eqP (dOp modP (dVar 4) (dC (.int 2))) (dC (.int 1)))))
  (dRet (dTup (dCons (dC (.str "prime")) (dCons (dVar 3) dNil))))
  dNext))))
  (dRet (dC .non)))
  dNext)
  (dSeq (dPar 6 7 (dCons (dC (.int 0)) (dCons (dVar 1) dNil)))
  (dSeq (dWhile (dAnd (dTest (dOp gtP (dVar 7) (dC (.int 0)))) (dTest (dOp eqP (dOp modP (dVar 7) (dC (.int 4))) (dC (.int 0)))))
  (dPar 6 7 (dCons (dOp addP (dVar 6) (dC (.int 1))) (dCons (dOp divP (dVar 7) (dC (.int 4))) dNil))))
  (dRet (dIf (dAnd (dTest (dOp eqP (dVar 0) (dC (.int 3)))) (dTest (dOp eqP (dOp modP (dVar 7) (dC (.int 8))) (dC (.int 7))))) (dTup (dCons (dC (.str "seven")) (dCons (dTup (dCons (dVar 6) (dCons (dOp divP (dVar 7) (dC (.int 8))) dNil))) dNil))) (dC .non)))))))
/-- _law_number: slots box pick x y z -/
def d__law_number (W : Ex → Prop) : DS :=
  (dSeq (dSet 1 (dCallB F__law_draw W 0 (dCons (dC (.int 5)) dNil)))
  (dSeq (dIfS (dTest (dOp eqP (dVar 1) (dC (.int 0))))
  (dRet (dCallB F__law_draw W 0 (dCons (dC (.int 100)) dNil)))
  dNext)
  (dSeq (dIfS (dTest (dOp eqP (dVar 1) (dC (.int 1))))
  (dRet (dCallB F__law_draw W 0 (dCons (dC (.int 1000001)) dNil)))
  dNext)
  (dSeq (dIfS (dTest (dOp eqP (dVar 1) (dC (.int 2))))
  (dRet (dOp mulP (dOp addP (dOp mulP (dC (.int 8)) (dCallB F__law_draw W 0 (dCons (dC (.int 400)) dNil))) (dC (.int 7))) (dOp ixP (dLst (dCons (dC (.int 1)) (dCons (dC (.int 4)) (dCons (dC (.int 16)) (dCons (dC (.int 64)) (dCons (dC (.int 256)) dNil)))))) (dCallB F__law_draw W 0 (dCons (dC (.int 5)) dNil)))))
  dNext)
  (dSeq (dPar3 2 3 4 (dCons (dCallB F__law_draw W 0 (dCons (dC (.int 500)) dNil)) (dCons (dCallB F__law_draw W 0 (dCons (dC (.int 500)) dNil)) (dCons (dCallB F__law_draw W 0 (dCons (dC (.int 500)) dNil)) dNil))))
  (dRet (dIf (dTest (dOp eqP (dVar 1) (dC (.int 3)))) (dOp addP (dOp addP (dOp mulP (dVar 2) (dVar 2)) (dOp mulP (dVar 3) (dVar 3))) (dOp ixP (dLst (dCons (dC (.int 0)) (dCons (dOp mulP (dVar 4) (dVar 4)) dNil))) (dCallB F__law_draw W 0 (dCons (dC (.int 2)) dNil)))) (dOp mulP (dVar 2) (dVar 2)))))))))
/-- law: slots script turn box m k due told one at tries a some -/
def d_law (W : Ex → Prop) : DS :=
  (dSeq (dFor (dRange1 (dC (.int 3))) (dgName 1)
  (dSeq (dSetO 2 (dCall F__law_stream noX (dCons (dVar 0) (dCons (dVar 1) dNil))))
  (dSeq (dFor (dSeqI (dLst (dCons (dCallB F__law_number W 2 dNil) (dCons (dCallB F__law_number W 2 dNil) (dCons (dCallB F__law_draw W 2 (dCons (dC (.int 300)) dNil)) (dCons (dOp subP (dC (.int 1000000)) (dCallB F__law_draw W 2 (dCons (dC (.int 1000)) dNil))) dNil)))))) (dgName 3)
  (dFor (dRange2 (dC (.int 1)) (dC (.int 5))) (dgName 4)
  (dSeq (dPar 5 6 (dCons (dCall F__law_forbids W (dCons (dVar 4) (dCons (dVar 3) dNil))) (dCons (dTold F__law_read (fun i => i == 2) (fun W => (dCall F_squares W (dCons (dVar 4) (dCons (dVar 3) dNil))))) dNil)))
  (dSeq (dIfS (dTest (dOp (isNP true) (dVar 5) (dC .non)))
  (dIfS (dTest (dOp neP (dVar 6) (dTup (dCons (dC (.int 0)) (dCons (dVar 5) dNil)))))
  (dRet (dC (.bl false)))
  dNext)
  (dIfS (dOr (dTest (dOp neP (dOp ixP (dVar 6) (dC (.int 0))) (dC (.int 0)))) (dOr (dNot (dTest (dIsi isTup (dOp ixP (dVar 6) (dC (.int 1)))))) (dOr (dTest (dOp neP (dCB lenP (dCons (dOp ixP (dVar 6) (dC (.int 1))) dNil)) (dC (.int 2)))) (dTest (dOp neP (dOp ixP (dOp ixP (dVar 6) (dC (.int 1))) (dC (.int 0))) (dC (.str "squares")))))))
  (dRet (dC (.bl false)))
  (dIfS (dNot (dTest (dCall F__law_is_squares W (dCons (dVar 4) (dCons (dVar 3) (dCons (dOp ixP (dOp ixP (dVar 6) (dC (.int 1))) (dC (.int 1))) dNil))))))
  (dRet (dC (.bl false)))
  dNext)))
  (dSeq (dSet 7 (dIf (dTest (dOp (isNP false) (dVar 5) (dC .non))) (dOp ixP (dOp ixP (dVar 6) (dC (.int 1))) (dC (.int 1))) (dOp repP (dTup (dCons (dC (.int 1)) dNil)) (dVar 4))))
  (dSeq (dSet 8 (dCallB F__law_draw W 2 (dCons (dVar 4) dNil)))
  (dSeq (dSet 9 (dLst (dCons (dVar 7) (dCons (dRev (dVar 7)) (dCons (dTuple (dLc (dSeqI (dVar 7)) (dgName 10) dYes (dUn negP (dVar 10)) [10])) (dCons (dSl (dVar 7) (dPart (dC (.int 1))) dNoPart) (dCons (dOp addP (dVar 7) (dTup (dCons (dC (.int 0)) dNil))) dNil)))))))
  (dSeq (dSet 9 (dOp addP (dVar 9) (dLst (dCons (dOp addP (dTup (dCons (dC (.int 0)) dNil)) (dVar 7)) (dCons (dOp addP (dOp addP (dSl (dVar 7) dNoPart (dPart (dVar 8))) (dTup (dCons (dOp addP (dOp ixP (dVar 7) (dVar 8)) (dC (.int 1))) dNil))) (dSl (dVar 7) (dPart (dOp addP (dVar 8) (dC (.int 1)))) dNoPart)) (dCons (dC (.int 3)) (dCons (dC (.str "squares")) (dCons (dTup (dCons (dVar 7) dNil)) (dCons (dOp addP (dOp addP (dSl (dVar 7) dNoPart (dPart (dVar 8))) (dTup (dCons (dC (.str "0")) dNil))) (dSl (dVar 7) (dPart (dOp addP (dVar 8) (dC (.int 1)))) dNoPart)) dNil)))))))))
  (dFor (dSeqI (dVar 9)) (dgName 11)
  (dIfS (dTest (dOp neP (dTold F__law_read (fun i => i == 2) (fun W => (dCall F_is_squares W (dCons (dVar 4) (dCons (dVar 3) (dCons (dVar 11) dNil)))))) (dTup (dCons (dC (.int 0)) (dCons (dCall F__law_is_squares W (dCons (dVar 4) (dCons (dVar 3) (dCons (dVar 11) dNil)))) dNil)))))
  (dRet (dC (.bl false)))
  dNext))))))))))
  (dFor (dSeqI (dLst (dCons (dTup (dCons (dC (.int 0)) (dCons (dC (.int 1)) dNil))) (dCons (dTup (dCons (dC (.int 5)) (dCons (dC (.int 1)) dNil))) (dCons (dTup (dCons (dC (.str "2")) (dCons (dC (.int 1)) dNil))) (dCons (dTup (dCons (dC (.int 2)) (dCons (dUn negP (dC (.int 1))) dNil))) (dCons (dTup (dCons (dC (.int 2)) (dCons (dC (.int 1000001)) dNil))) (dCons (dTup (dCons (dC (.int 2)) (dCons (dC (.str "1")) dNil))) (dCons (dTup (dCons (dTup (dCons (dC (.int 1)) dNil)) (dCons (dC (.int 1)) dNil))) (dCons (dTup (dCons (dC (.int 3)) (dCons (dTup (dCons (dC (.int 1)) dNil)) dNil))) dNil)))))))))) (dgTup 2 (dgCons (dgName 4) (dgCons (dgName 3) dgNil)))
  (dSeq (dIfS (dTest (dOp neP (dTold F__law_read (fun i => i == 2) (fun W => (dCall F_squares W (dCons (dVar 4) (dCons (dVar 3) dNil))))) (dTup (dCons (dC (.int 1)) (dCons (dC (.str "range")) dNil)))))
  (dRet (dC (.bl false)))
  dNext)
  (dIfS (dTest (dOp neP (dTold F__law_read (fun i => i == 2) (fun W => (dCall F_is_squares W (dCons (dVar 4) (dCons (dVar 3) (dCons (dTup dNil) dNil)))))) (dTup (dCons (dC (.int 1)) (dCons (dC (.str "range")) dNil)))))
  (dRet (dC (.bl false)))
  dNext))))))
  (dRet (dC (.bl true))))
end K07

end
section
set_option Elab.async false
set_option linter.all false
set_option maxRecDepth 100000
/-! k07: the readings keep the promises -/
namespace K07
open PySem L2 PD NT

theorem sp_is_number : ∀ args P W, args.length = 3 → F_is_number args P W → d_is_number W ⟨fun _ => P .non, fun d ρ => P (retD ρ d), fun _ => False, fun _ => False⟩ (startD 3 args) := by
  rintro args P W _ ⟨d, lo, hi, rfl, ⟨h1, h2⟩, hP⟩
  cases d <;> simp_all [d_is_number, startD, isInt, numIn, isBool]
  rename_i i
  by_cases h : lo ≤ i
  · simp_all
  · have e : decide (lo ≤ i) = false := decide_eq_false h
    have e2 : decide (lo ≤ i ∧ i ≤ hi) = false := decide_eq_false fun z => h z.1
    rw [e]
    simp only [h, false_and, decide_false] at hP
    exact hP
theorem sp_check_numbers : ∀ args P W, args.length = 2 → F_check_numbers args P W → d_check_numbers W ⟨fun _ => P .non, fun d ρ => P (retD ρ d), fun _ => False, fun _ => False⟩ (startD 2 args) := by
  rintro args P W _ ⟨k, m, rfl, pk, pm, h1, h2⟩
  simp only [dC_e, dVar_e, dOwn_e, dOp_e, dUn_e, dNil_e, dCons_e, dTup_e, dLst_e, dCB_e, dCall_e, dCallB_e, dSeq_e, dNext_e, dBreak_e, dCont_e, dDrop_e, dRet_e, dRetN_e, dIfS_e, dSet_e, dSetO_e, dAug_e, dRaise_e, dApp_e, dAsg_e, dPar_e, dPar3_e, dPar_vvo_e, dgName_e, dgTup_e, dgCons_e, dgNil_e, dTest_e, dAnd_e, dOr_e, dNot_e, dYes_e, dIf_e, dAndV_e, dOrV_e, dNotV_e, dIsi_e, dBits_e, dTuple_e, dSeqI_e, dChain_e, i2_e, i2'_e, u1_e, eqP_int, neP_int, addP_int, addP_tup, addP_lst, lenP_lst, lenP_tup, lenP_scr, absP_int, intP_int, isN_P, notN_P, isB2_P, tuple_lst, sel_t, sel_f, ixP_t0, ixP_t1, ixP_l0, ixP_l1, ixP_own0, ixP_own1, startD, List.map_cons, List.map_nil, List.length_cons, List.length_nil, List.cons_append, List.nil_append, List.getElem?_cons_zero, List.getElem?_cons_succ, List.set_cons_zero, List.set_cons_succ, Nat.reduceAdd, Nat.reduceSub, List.replicate_succ, List.replicate_zero, Option.some.injEq, d_check_numbers]
  refine ⟨k, 1, 4, rfl, pk, ?_⟩
  unfold okKM at h1 h2
  cases e : numIn k 1 4 with
  | false =>
    rw [e] at h2
    exact h2 rfl
  | true =>
    rw [e] at h1 h2
    refine ⟨m, 0, 1000000, rfl, pm, ?_⟩
    cases e2 : numIn m 0 1000000 with
    | false => rw [e2] at h2; exact h2 rfl
    | true => rw [e2] at h1; exact h1 rfl
/-! ### the root -/
theorem log_small {n : Nat} (h : n < 2 ^ 100) : n.log2 < 100 := by
  by_cases h0 : n = 0
  · rw [h0]; decide
  · exact (Nat.log2_lt h0).mpr h
theorem mulOk {i j : Int} (h1 : i.natAbs < 2 ^ 100) (h2 : j.natAbs < 2 ^ 100) : PD.MulOk i j := by
  have := log_small h1
  have := log_small h2
  unfold PD.MulOk; omega
theorem divOk {i j : Int} (h1 : 0 < j) (h2 : j.natAbs < 2 ^ 100) : PD.DivOk i j := ⟨h1, by have := log_small h2; omega⟩
theorem sp_root : ∀ args P W, args.length = 1 → F_root args P W → d_root W ⟨fun _ => P .non, fun d ρ => P (retD ρ d), fun _ => False, fun _ => False⟩ (startD 2 args) := by
  rintro args P W _ ⟨n, rfl, hn, hP⟩
  simp only [dC_e, dVar_e, dOwn_e, dOp_e, dUn_e, dNil_e, dCons_e, dTup_e, dLst_e, dCB_e, dCall_e, dCallB_e, dSeq_e, dNext_e, dBreak_e, dCont_e, dDrop_e, dRet_e, dRetN_e, dIfS_e, dSet_e, dSetO_e, dAug_e, dRaise_e, dApp_e, dAsg_e, dPar_e, dPar3_e, dPar_vvo_e, dgName_e, dgTup_e, dgCons_e, dgNil_e, dTest_e, dAnd_e, dOr_e, dNot_e, dYes_e, dIf_e, dAndV_e, dOrV_e, dNotV_e, dIsi_e, dBits_e, dTuple_e, dSeqI_e, dChain_e, i2_e, i2'_e, u1_e, eqP_int, neP_int, addP_int, addP_tup, addP_lst, lenP_lst, lenP_tup, lenP_scr, absP_int, intP_int, isN_P, notN_P, isB2_P, tuple_lst, sel_t, sel_f, ixP_t0, ixP_t1, ixP_l0, ixP_l1, ixP_own0, ixP_own1, startD, List.map_cons, List.map_nil, List.length_cons, List.length_nil, List.cons_append, List.nil_append, List.getElem?_cons_zero, List.getElem?_cons_succ, List.set_cons_zero, List.set_cons_succ, Nat.reduceAdd, Nat.reduceSub, List.replicate_succ, List.replicate_zero, Option.some.injEq, d_root]
  refine sel_of (fun h => ?_) (fun h => ?_)
  · have h0 : n = 0 := by have := of_decide_eq_true h; omega
    subst h0
    exact hP 0 (by decide) (by decide)
  · have h0 : n ≠ 0 := by have := of_decide_eq_false h; omega
    have e1 : (Builtin.Int.intBits (n : Int) : Nat) = n.log2 + 1 := by
      unfold Builtin.Int.intBits
      rw [if_neg (by simpa using h0)]
      rfl
    rw [e1]
    have hl : n.log2 < 100 := log_small (by omega)
    have e2 : (((n.log2 + 1 : Nat) : Int) + 1) / 2 = ((n.log2 + 2) / 2 : Nat) := by omega
    rw [e2]
    refine ⟨divOk (by decide) (by decide), ⟨by omega, by omega, by decide⟩, ?_⟩
    have e3 : (1 : Int) * 2 ^ (((n.log2 + 2) / 2 : Nat) : Int).toNat = ((2 ^ ((n.log2 + 2) / 2) : Nat) : Int) := by
      rw [Int.toNat_natCast, Int.one_mul]; simp
    rw [e3]
    generalize hs : 2 ^ ((n.log2 + 2) / 2) = s
    have s1 : n < (s + 1) * (s + 1) := by
      have h1 : n < 2 ^ (n.log2 + 1) := Nat.lt_log2_self
      have h2 : 2 ^ (n.log2 + 1) ≤ s * s := by
        rw [← hs, ← Nat.pow_add]
        exact Nat.pow_le_pow_right (by decide) (by omega)
      have h3 : s * s ≤ (s + 1) * (s + 1) := Nat.mul_le_mul (by omega) (by omega)
      omega
    have s2 : s ≤ 2 ^ 60 := by
      rw [← hs]
      have : n.log2 < 20 := (Nat.log2_lt h0).mpr (by omega)
      exact Nat.pow_le_pow_right (by decide) (by omega)
    have s0 : 1 ≤ s := by rw [← hs]; exact Nat.one_le_two_pow
    refine ⟨fun m ρ => ∃ t : Nat, m = t ∧ 1 ≤ t ∧ t ≤ 2 ^ 60 ∧ n < (t + 1) * (t + 1) ∧ ρ = [some (.int n), some (.int t)], ⟨s, s, rfl, s0, s2, s1, rfl⟩, ?_⟩
    rintro m ρ1 ⟨t, rfl, t0, t2, t1, rfl⟩
    simp only [dC_e, dVar_e, dOwn_e, dOp_e, dUn_e, dNil_e, dCons_e, dTup_e, dLst_e, dCB_e, dCall_e, dCallB_e, dSeq_e, dNext_e, dBreak_e, dCont_e, dDrop_e, dRet_e, dRetN_e, dIfS_e, dSet_e, dSetO_e, dAug_e, dRaise_e, dApp_e, dAsg_e, dPar_e, dPar3_e, dPar_vvo_e, dgName_e, dgTup_e, dgCons_e, dgNil_e, dTest_e, dAnd_e, dOr_e, dNot_e, dYes_e, dIf_e, dAndV_e, dOrV_e, dNotV_e, dIsi_e, dBits_e, dTuple_e, dSeqI_e, dChain_e, i2_e, i2'_e, u1_e, eqP_int, neP_int, addP_int, addP_tup, addP_lst, lenP_lst, lenP_tup, lenP_scr, absP_int, intP_int, isN_P, notN_P, isB2_P, tuple_lst, sel_t, sel_f, ixP_t0, ixP_t1, ixP_l0, ixP_l1, ixP_own0, ixP_own1, startD, List.map_cons, List.map_nil, List.length_cons, List.length_nil, List.cons_append, List.nil_append, List.getElem?_cons_zero, List.getElem?_cons_succ, List.set_cons_zero, List.set_cons_succ, Nat.reduceAdd, Nat.reduceSub, List.replicate_succ, List.replicate_zero, Option.some.injEq]
    refine ⟨mulOk (by omega) (by omega), sel_of (fun h => ?_) (fun h => ?_)⟩
    · have h1 : n < m * m := by
        have := of_decide_eq_true h
        exact_mod_cast this
      have m0 : 0 < m := t0
      refine ⟨divOk (by omega) (by omega), divOk (by decide) (by decide), ?_⟩
      have ed : ((m : Int) + (n : Int) / (m : Int)) / 2 = (((m + n / m) / 2 : Nat) : Int) := by simp
      have hdm := Nat.div_add_mod n m
      have hr := Nat.mod_lt n m0
      have hq : n / m < m := (Nat.div_lt_iff_lt_mul m0).mpr h1
      generalize n / m = q at *
      generalize n % m = r at *
      refine ⟨(m + q) / 2, by omega, (m + q) / 2, rfl, ?_, by omega, ?_, by rw [ed]⟩
      · have : m ≠ 1 := fun z => by subst z; omega
        omega
      · generalize hu : (m + q) / 2 = u
        have h2 : m + q ≤ 2 * u + 1 := by omega
        have h3 : n < m * (q + 1) := by rw [Nat.mul_add]; omega
        have h4 : 4 * (m * (q + 1)) ≤ (m + (q + 1)) * (m + (q + 1)) := by
          have : (q + 1) ≤ m := hq
          obtain ⟨d, rfl⟩ := Nat.exists_eq_add_of_le this
          grind
        have h5 : (m + (q + 1)) * (m + (q + 1)) ≤ (2 * (u + 1)) * (2 * (u + 1)) := Nat.mul_le_mul (by omega) (by omega)
        have h6 : (2 * (u + 1)) * (2 * (u + 1)) = 4 * ((u + 1) * (u + 1)) := by grind
        omega
    · have h1 : m * m ≤ n := by
        have := of_decide_eq_false h
        have h2 : ¬ (n < m * m) := fun z => this (by exact_mod_cast z)
        omega
      exact hP m h1 t1
/-! ### fours -/
theorem sp_fours : ∀ args P W, args.length = 1 → F_fours args P W → d_fours W ⟨fun _ => P .non, fun d ρ => P (retD ρ d), fun _ => False, fun _ => False⟩ (startD 2 args) := by
  rintro args P W _ ⟨n, rfl, h1, hn, hP⟩
  simp only [dC_e, dVar_e, dOwn_e, dOp_e, dUn_e, dNil_e, dCons_e, dTup_e, dLst_e, dCB_e, dCall_e, dCallB_e, dSeq_e, dNext_e, dBreak_e, dCont_e, dDrop_e, dRet_e, dRetN_e, dIfS_e, dSet_e, dSetO_e, dAug_e, dRaise_e, dApp_e, dAsg_e, dPar_e, dPar3_e, dPar_vvo_e, dgName_e, dgTup_e, dgCons_e, dgNil_e, dTest_e, dAnd_e, dOr_e, dNot_e, dYes_e, dIf_e, dAndV_e, dOrV_e, dNotV_e, dIsi_e, dBits_e, dTuple_e, dSeqI_e, dChain_e, i2_e, i2'_e, u1_e, eqP_int, neP_int, addP_int, addP_tup, addP_lst, lenP_lst, lenP_tup, lenP_scr, absP_int, intP_int, isN_P, notN_P, isB2_P, tuple_lst, sel_t, sel_f, ixP_t0, ixP_t1, ixP_l0, ixP_l1, ixP_own0, ixP_own1, startD, List.map_cons, List.map_nil, List.length_cons, List.length_nil, List.cons_append, List.nil_append, List.getElem?_cons_zero, List.getElem?_cons_succ, List.set_cons_zero, List.set_cons_succ, Nat.reduceAdd, Nat.reduceSub, List.replicate_succ, List.replicate_zero, Option.some.injEq, d_fours]
  refine ⟨fun m ρ => ∃ a b : Nat, m = b ∧ 1 ≤ b ∧ b ≤ n ∧ n = 4 ^ a * b ∧ ρ = [some (.int b), some (.int a)], ⟨n, 0, n, rfl, h1, Nat.le_refl _, by simp, rfl⟩, ?_⟩
  rintro m ρ1 ⟨a, b, rfl, b1, bn, e, rfl⟩
  simp only [dC_e, dVar_e, dOwn_e, dOp_e, dUn_e, dNil_e, dCons_e, dTup_e, dLst_e, dCB_e, dCall_e, dCallB_e, dSeq_e, dNext_e, dBreak_e, dCont_e, dDrop_e, dRet_e, dRetN_e, dIfS_e, dSet_e, dSetO_e, dAug_e, dRaise_e, dApp_e, dAsg_e, dPar_e, dPar3_e, dPar_vvo_e, dgName_e, dgTup_e, dgCons_e, dgNil_e, dTest_e, dAnd_e, dOr_e, dNot_e, dYes_e, dIf_e, dAndV_e, dOrV_e, dNotV_e, dIsi_e, dBits_e, dTuple_e, dSeqI_e, dChain_e, i2_e, i2'_e, u1_e, eqP_int, neP_int, addP_int, addP_tup, addP_lst, lenP_lst, lenP_tup, lenP_scr, absP_int, intP_int, isN_P, notN_P, isB2_P, tuple_lst, sel_t, sel_f, ixP_t0, ixP_t1, ixP_l0, ixP_l1, ixP_own0, ixP_own1, startD, List.map_cons, List.map_nil, List.length_cons, List.length_nil, List.cons_append, List.nil_append, List.getElem?_cons_zero, List.getElem?_cons_succ, List.set_cons_zero, List.set_cons_succ, Nat.reduceAdd, Nat.reduceSub, List.replicate_succ, List.replicate_zero, Option.some.injEq]
  refine ⟨by decide, sel_of (fun h => ?_) (fun h => ?_)⟩
  · have h2 : m % 4 = 0 := by have := of_decide_eq_true h; omega
    obtain ⟨c, rfl⟩ := Nat.dvd_of_mod_eq_zero h2
    refine ⟨divOk (by decide) (by decide), c, by omega, a + 1, c, rfl, by omega, by omega, by rw [e]; grind, ?_⟩
    have : ((4 * c : Nat) : Int) / 4 = (c : Nat) := by omega
    rw [this]; rfl
  · have h2 : m % 4 ≠ 0 := by have := of_decide_eq_false h; omega
    exact hP a m ⟨e, h2⟩
theorem four_sev_iff {n a b : Nat} (h : Four n a b) : Sev n ↔ b % 8 = 7 := by
  obtain ⟨rfl, hb⟩ := h
  constructor
  · rintro ⟨c, j, e⟩
    have key : ∀ (a c b : Nat), b % 4 ≠ 0 → 4 ^ a * b = 4 ^ c * (8 * j + 7) → b % 8 = 7 := by
      intro a
      induction a with
      | zero =>
        intro c b hb e
        cases c with
        | zero => omega
        | succ c =>
          rw [Nat.pow_succ] at e
          have : 4 ^ c * 4 * (8 * j + 7) = 4 * (4 ^ c * (8 * j + 7)) := by grind
          omega
      | succ a ih =>
        intro c b hb e
        cases c with
        | zero =>
          rw [Nat.pow_succ] at e
          have : 4 ^ a * 4 * b = 4 * (4 ^ a * b) := by grind
          omega
        | succ c =>
          refine ih c b hb ?_
          rw [Nat.pow_succ, Nat.pow_succ] at e
          have h1 : 4 ^ a * 4 * b = 4 * (4 ^ a * b) := by grind
          have h2 : 4 ^ c * 4 * (8 * j + 7) = 4 * (4 ^ c * (8 * j + 7)) := by grind
          omega
    exact key a c b hb e
  · intro h
    exact ⟨a, b / 8, by rw [show 8 * (b / 8) + 7 = b by omega]⟩
theorem sev_zero : ¬ Sev 0 := by
  rintro ⟨a, j, e⟩
  have := Nat.pow_pos (n := a) (show 0 < 4 by decide)
  have : 0 < 4 ^ a * (8 * j + 7) := Nat.mul_pos this (by omega)
  omega
theorem sp_is_three : ∀ args P W, args.length = 1 → F_is_three args P W → d_is_three W ⟨fun _ => P .non, fun d ρ => P (retD ρ d), fun _ => False, fun _ => False⟩ (startD 1 args) := by
  rintro args P W _ ⟨n, rfl, hn, hP⟩
  simp only [dC_e, dVar_e, dOwn_e, dOp_e, dUn_e, dNil_e, dCons_e, dTup_e, dLst_e, dCB_e, dCall_e, dCallB_e, dSeq_e, dNext_e, dBreak_e, dCont_e, dDrop_e, dRet_e, dRetN_e, dIfS_e, dSet_e, dSetO_e, dAug_e, dRaise_e, dApp_e, dAsg_e, dPar_e, dPar3_e, dPar_vvo_e, dgName_e, dgTup_e, dgCons_e, dgNil_e, dTest_e, dAnd_e, dOr_e, dNot_e, dYes_e, dIf_e, dAndV_e, dOrV_e, dNotV_e, dIsi_e, dBits_e, dTuple_e, dSeqI_e, dChain_e, i2_e, i2'_e, u1_e, eqP_int, neP_int, addP_int, addP_tup, addP_lst, lenP_lst, lenP_tup, lenP_scr, absP_int, intP_int, isN_P, notN_P, isB2_P, tuple_lst, sel_t, sel_f, ixP_t0, ixP_t1, ixP_l0, ixP_l1, ixP_own0, ixP_own1, startD, List.map_cons, List.map_nil, List.length_cons, List.length_nil, List.cons_append, List.nil_append, List.getElem?_cons_zero, List.getElem?_cons_succ, List.set_cons_zero, List.set_cons_succ, Nat.reduceAdd, Nat.reduceSub, List.replicate_succ, List.replicate_zero, Option.some.injEq, d_is_three]
  refine sel_of (fun h => ?_) (fun h => ?_)
  · have h0 : n = 0 := by have := of_decide_eq_true h; omega
    subst h0
    have : sevB 0 = false := sevB_no sev_zero
    rw [this] at hP
    exact hP
  · have h0 : n ≠ 0 := by have := of_decide_eq_false h; omega
    refine ⟨n, rfl, by omega, hn, fun a b hf => ?_⟩
    have hs := four_sev_iff hf
    simp only [dC_e, dVar_e, dOwn_e, dOp_e, dUn_e, dNil_e, dCons_e, dTup_e, dLst_e, dCB_e, dCall_e, dCallB_e, dSeq_e, dNext_e, dBreak_e, dCont_e, dDrop_e, dRet_e, dRetN_e, dIfS_e, dSet_e, dSetO_e, dAug_e, dRaise_e, dApp_e, dAsg_e, dPar_e, dPar3_e, dPar_vvo_e, dgName_e, dgTup_e, dgCons_e, dgNil_e, dTest_e, dAnd_e, dOr_e, dNot_e, dYes_e, dIf_e, dAndV_e, dOrV_e, dNotV_e, dIsi_e, dBits_e, dTuple_e, dSeqI_e, dChain_e, i2_e, i2'_e, u1_e, eqP_int, neP_int, addP_int, addP_tup, addP_lst, lenP_lst, lenP_tup, lenP_scr, absP_int, intP_int, isN_P, notN_P, isB2_P, tuple_lst, sel_t, sel_f, ixP_t0, ixP_t1, ixP_l0, ixP_l1, ixP_own0, ixP_own1, startD, List.map_cons, List.map_nil, List.length_cons, List.length_nil, List.cons_append, List.nil_append, List.getElem?_cons_zero, List.getElem?_cons_succ, List.set_cons_zero, List.set_cons_succ, Nat.reduceAdd, Nat.reduceSub, List.replicate_succ, List.replicate_zero, Option.some.injEq]
    refine ⟨by decide, ?_⟩
    have e : sevB n = decide ((b : Int) % 8 = 7) := by
      by_cases h7 : b % 8 = 7
      · rw [sevB_yes (hs.mpr h7), decide_eq_true (by omega)]
      · rw [sevB_no (fun z => h7 (hs.mp z)), decide_eq_false (by omega)]
    rw [e] at hP
    exact hP
/-! ### the primes -/
theorem asc_len : ∀ {l : List (Nat × Nat)} {lo q : Nat}, l.Pairwise (fun x y => x.1 < y.1) → (∀ x ∈ l, lo ≤ x.1 ∧ x.1 < q) → l.length ≤ q - lo
  | [], _, _, _, _ => Nat.zero_le _
  | x :: l, lo, q, hp, hb => by
    obtain ⟨h1, h2⟩ := List.pairwise_cons.mp hp
    have hx := hb x List.mem_cons_self
    have := asc_len (lo := x.1 + 1) (q := q) h2 fun y hy => ⟨h1 y hy, (hb y (List.mem_cons_of_mem _ hy)).2⟩
    rw [List.length_cons]
    omega
theorem big_size : 2000000 < sizeLine := by decide
/-- what stands at the turn of q -/
structure PInv (n rest q M : Nat) (l : List (Nat × Nat)) : Prop where
  q2 : 2 ≤ q
  odd : q = 2 ∨ q % 2 = 1
  r1 : 1 ≤ rest
  eq : n = rest * M
  low : ∀ d, 2 ≤ d → d < q → ¬ d ∣ rest
  mul : ∀ p, Pr p → q ≤ p → ¬ p ∣ M
  ent : ∀ x ∈ l, Pr x.1 ∧ 1 ≤ x.2 ∧ Ex x.1 n x.2 ∧ x.1 < q
  asc : l.Pairwise fun x y => x.1 < y.1
  all : ∀ p, Pr p → p ∣ n → p < q → ∃ x ∈ l, x.1 = p
theorem PInv.qle {n rest q M : Nat} {l : List (Nat × Nat)} (h : PInv n rest q M l) : ∀ x ∈ l, 0 ≤ x.1 ∧ x.1 < q := fun x hx => ⟨Nat.zero_le _, (h.ent x hx).2.2.2⟩
theorem PInv.len {n rest q M : Nat} {l : List (Nat × Nat)} (h : PInv n rest q M l) : l.length ≤ q := asc_len h.asc h.qle
/-- q is taken out -/
theorem PInv.step {n rest q M r e : Nat} {l : List (Nat × Nat)} (h : PInv n rest q M l) (he : rest = r * q ^ e) (hq : ¬ q ∣ r) : PInv n r (if q = 2 then q + 1 else q + 2) (M * q ^ e) (if 0 < e then l ++ [(q, e)] else l) := by
  have q2 := h.q2
  have hr : r ∣ rest := ⟨_, he⟩
  have r1 : 1 ≤ r := Nat.pos_of_ne_zero fun z => hq (by rw [z]; exact Nat.dvd_zero q)
  have nq : 0 < e → Pr q := fun e0 => ⟨q2, fun d hd => by
    have dq : d ∣ rest := Nat.dvd_trans hd (by rw [he]; exact Nat.dvd_trans (Nat.dvd_trans (by rw [Nat.pow_one]; exact Nat.dvd_refl q) (Nat.pow_dvd_pow q e0)) (Nat.dvd_mul_left _ r))
    have dle := Nat.le_of_dvd (by omega) hd
    have d0 : d ≠ 0 := fun z => by subst z; have := Nat.eq_zero_of_zero_dvd hd; omega
    by_cases h1 : d = 1
    · exact .inl h1
    · by_cases h2 : d = q
      · exact .inr h2
      · exact absurd dq (h.low d (by omega) (by omega))⟩
  have odd3 : q ≠ 2 → ¬ 2 ∣ r := fun h2 d => h.low 2 (Nat.le_refl _) (by omega) (Nat.dvd_trans d hr)
  have qn : q < (if q = 2 then q + 1 else q + 2) := by split <;> omega
  refine ⟨by split <;> omega, ?_, r1, by rw [h.eq, he]; grind, fun d d2 hd dd => ?_, fun p hp hle dd => ?_, ?_, ?_, fun p hp hd hlt => ?_⟩
  · have := h.odd
    split
    · right; omega
    · right; omega
  · by_cases h1 : d < q
    · exact h.low d d2 h1 (Nat.dvd_trans dd hr)
    · by_cases h2 : d = q
      · subst h2; exact hq dd
      · by_cases h3 : q = 2
        · rw [if_pos h3] at hd; omega
        · rw [if_neg h3] at hd
          have h4 : d = q + 1 := by omega
          have h5 := h.odd
          refine odd3 h3 (Nat.dvd_trans (Nat.dvd_of_mod_eq_zero (by omega)) dd)
  · rcases hp.euclid dd with d1 | d1
    · exact h.mul p hp (by omega) d1
    · have e0 : 0 < e := Nat.pos_of_ne_zero fun z => by
        subst z
        rw [Nat.pow_zero] at d1
        have := Nat.le_of_dvd (by decide) d1
        have := hp.1
        omega
      have := hp.eq_of_dvd (nq e0) (hp.dvd_pow d1)
      omega
  · intro x hx
    have old : x ∈ l → Pr x.1 ∧ 1 ≤ x.2 ∧ Ex x.1 n x.2 ∧ x.1 < (if q = 2 then q + 1 else q + 2) := fun hx => by
      obtain ⟨a, b, c, d⟩ := h.ent x hx
      exact ⟨a, b, c, by omega⟩
    by_cases e0 : 0 < e
    · rw [if_pos e0] at hx
      rcases List.mem_append.mp hx with hx | hx
      · exact old hx
      · have ex : x = (q, e) := by simpa using hx
        subst ex
        have pq := nq e0
        refine ⟨pq, e0, ⟨⟨r * M, by rw [h.eq, he]; grind⟩, fun d => ?_⟩, qn⟩
        have e3 : n = q ^ e * (r * M) := by rw [h.eq, he]; grind
        rw [e3, Nat.pow_succ] at d
        have := Nat.dvd_of_mul_dvd_mul_left (Nat.pow_pos (by omega)) d
        rcases pq.euclid this with d | d
        · exact hq d
        · exact h.mul q pq (Nat.le_refl _) d
    · rw [if_neg e0] at hx
      exact old hx
  · by_cases e0 : 0 < e
    · rw [if_pos e0]
      refine List.pairwise_append.mpr ⟨h.asc, by simp, fun x hx y hy => ?_⟩
      have : y = (q, e) := by simpa using hy
      subst this
      exact (h.ent x hx).2.2.2
    · rw [if_neg e0]; exact h.asc
  · by_cases h1 : p < q
    · obtain ⟨x, hx, ex⟩ := h.all p hp hd h1
      refine ⟨x, ?_, ex⟩
      by_cases e0 : 0 < e
      · rw [if_pos e0]; exact List.mem_append_left _ hx
      · rw [if_neg e0]; exact hx
    · by_cases h2 : p = q
      · subst h2
        rw [h.eq] at hd
        rcases hp.euclid hd with d | d
        · have e0 : 0 < e := Nat.pos_of_ne_zero fun z => by
            subst z
            rw [Nat.pow_zero, Nat.mul_one] at he
            exact hq (he ▸ d)
          rw [if_pos e0]
          exact ⟨(p, e), by simp, rfl⟩
        · exact absurd d (h.mul p hp (Nat.le_refl _))
      · exfalso
        have h5 := h.odd
        by_cases h3 : q = 2
        · rw [if_pos h3] at hlt; omega
        · rw [if_neg h3] at hlt
          have h4 : p = q + 1 := by omega
          rcases hp.2 2 (Nat.dvd_of_mod_eq_zero (by omega)) with z | z <;> omega
/-- the end -/
theorem PInv.done {n rest q M : Nat} {l : List (Nat × Nat)} (h : PInv n rest q M l) (hq : rest < q * q) : PF n (if 1 < rest then l ++ [(rest, 1)] else l) := by
  by_cases h1 : 1 < rest
  · have pr := prime_of h1 hq h.low
    have hle : q ≤ rest := Nat.le_of_not_lt fun hl => h.low rest h1 hl (Nat.dvd_refl rest)
    rw [if_pos h1]
    refine ⟨fun x hx => ?_, List.pairwise_append.mpr ⟨h.asc, by simp, fun x hx y hy => ?_⟩, fun p hp hd => ?_⟩
    · rcases List.mem_append.mp hx with hx | hx
      · obtain ⟨a, b, c, d⟩ := h.ent x hx
        exact ⟨a, b, c⟩
      · have ex : x = (rest, 1) := by simpa using hx
        subst ex
        refine ⟨pr, Nat.le_refl _, ⟨M, by rw [Nat.pow_one]; exact h.eq⟩, fun d => ?_⟩
        have d : rest ^ (1 + 1) ∣ n := d
        rw [h.eq, Nat.pow_succ, Nat.pow_one] at d
        exact h.mul rest pr hle (Nat.dvd_of_mul_dvd_mul_left (by omega) d)
    · have : y = (rest, 1) := by simpa using hy
      subst this
      have := (h.ent x hx).2.2.2
      show x.1 < rest
      omega
    · rw [h.eq] at hd
      rcases hp.euclid hd with d | d
      · have := hp.eq_of_dvd pr d
        exact ⟨(rest, 1), by simp, this.symm⟩
      · by_cases hlt : p < q
        · obtain ⟨x, hx, ex⟩ := h.all p hp (by rw [h.eq]; exact hd) hlt
          exact ⟨x, List.mem_append_left _ hx, ex⟩
        · exact absurd d (h.mul p hp (by omega))
  · rw [if_neg h1]
    have r1 : rest = 1 := by have := h.r1; omega
    refine ⟨fun x hx => ?_, h.asc, fun p hp hd => ?_⟩
    · obtain ⟨a, b, c, d⟩ := h.ent x hx
      exact ⟨a, b, c⟩
    · refine h.all p hp hd (Nat.lt_of_not_le fun hle => h.mul p hp hle ?_)
      rw [h.eq, r1, Nat.one_mul] at hd
      exact hd
theorem sp_primes_of : ∀ args P W, args.length = 1 → F_primes_of args P W → d_primes_of W ⟨fun _ => P .non, fun d ρ => P (retD ρ d), fun _ => False, fun _ => False⟩ (startD 5 args) := by
  rintro args P W _ ⟨n, rfl, h1, hn, hP⟩
  simp only [dC_e, dVar_e, dOwn_e, dOp_e, dUn_e, dNil_e, dCons_e, dTup_e, dLst_e, dCB_e, dCall_e, dCallB_e, dSeq_e, dNext_e, dBreak_e, dCont_e, dDrop_e, dRet_e, dRetN_e, dIfS_e, dSet_e, dSetO_e, dAug_e, dRaise_e, dApp_e, dAsg_e, dPar_e, dPar3_e, dPar_vvo_e, dgName_e, dgTup_e, dgCons_e, dgNil_e, dTest_e, dAnd_e, dOr_e, dNot_e, dYes_e, dIf_e, dAndV_e, dOrV_e, dNotV_e, dIsi_e, dBits_e, dTuple_e, dSeqI_e, dChain_e, i2_e, i2'_e, u1_e, eqP_int, neP_int, addP_int, addP_tup, addP_lst, lenP_lst, lenP_tup, lenP_scr, absP_int, intP_int, isN_P, notN_P, isB2_P, tuple_lst, sel_t, sel_f, ixP_t0, ixP_t1, ixP_l0, ixP_l1, ixP_own0, ixP_own1, startD, List.map_cons, List.map_nil, List.length_cons, List.length_nil, List.cons_append, List.nil_append, List.getElem?_cons_zero, List.getElem?_cons_succ, List.set_cons_zero, List.set_cons_succ, Nat.reduceAdd, Nat.reduceSub, List.replicate_succ, List.replicate_zero, Option.some.injEq, d_primes_of]
  refine ⟨by decide, fun m ρ => ∃ rest q M l o, m = n + 2 - q ∧ q ≤ n + 2 ∧ PInv n rest q M l ∧ ρ = [some (.int n), some (.int rest), some (.lst (l.map pairD)), some (.int q), o], ⟨n + 2 - 2, n, 2, 1, [], none, rfl, by omega, ?_, ?_⟩, ?_⟩
  · refine ⟨by decide, .inl rfl, h1, by simp, (fun d a b => by omega), fun p hp _ d => ?_, (fun x hx => by cases hx), List.Pairwise.nil, (fun p hp _ hl => by have := hp.1; omega)⟩
    have := Nat.le_of_dvd (by decide) d
    have := hp.1
    omega
  · simp
  rintro m ρ1 ⟨rest, q, M, l, o, rfl, qn, I, rfl⟩
  have rn : rest ≤ n := Nat.le_of_dvd h1 ⟨M, I.eq⟩
  have q2 := I.q2
  have ln := I.len
  have bs := big_size
  simp only [dC_e, dVar_e, dOwn_e, dOp_e, dUn_e, dNil_e, dCons_e, dTup_e, dLst_e, dCB_e, dCall_e, dCallB_e, dSeq_e, dNext_e, dBreak_e, dCont_e, dDrop_e, dRet_e, dRetN_e, dIfS_e, dSet_e, dSetO_e, dAug_e, dRaise_e, dApp_e, dAsg_e, dPar_e, dPar3_e, dPar_vvo_e, dgName_e, dgTup_e, dgCons_e, dgNil_e, dTest_e, dAnd_e, dOr_e, dNot_e, dYes_e, dIf_e, dAndV_e, dOrV_e, dNotV_e, dIsi_e, dBits_e, dTuple_e, dSeqI_e, dChain_e, i2_e, i2'_e, u1_e, eqP_int, neP_int, addP_int, addP_tup, addP_lst, lenP_lst, lenP_tup, lenP_scr, absP_int, intP_int, isN_P, notN_P, isB2_P, tuple_lst, sel_t, sel_f, ixP_t0, ixP_t1, ixP_l0, ixP_l1, ixP_own0, ixP_own1, startD, List.map_cons, List.map_nil, List.length_cons, List.length_nil, List.cons_append, List.nil_append, List.getElem?_cons_zero, List.getElem?_cons_succ, List.set_cons_zero, List.set_cons_succ, Nat.reduceAdd, Nat.reduceSub, List.replicate_succ, List.replicate_zero, Option.some.injEq]
  refine ⟨mulOk (by omega) (by omega), sel_of (fun h => ?_) (fun h => ?_)⟩
  · have hq : q * q ≤ rest := by
      have := of_decide_eq_true h
      exact_mod_cast this
    have hq2 : 2 * q ≤ q * q := Nat.mul_le_mul_right q q2
    refine ⟨fun m ρ => ∃ r e : Nat, m = r ∧ 1 ≤ r ∧ r ≤ rest ∧ rest = r * q ^ e ∧ ρ = [some (.int n), some (.int r), some (.lst (l.map pairD)), some (.int q), some (.int e)], ⟨rest, rest, 0, rfl, I.r1, Nat.le_refl _, by simp, rfl⟩, ?_⟩
    rintro m ρ2 ⟨r, e, rfl, r1, rle, er, rfl⟩
    simp only [dC_e, dVar_e, dOwn_e, dOp_e, dUn_e, dNil_e, dCons_e, dTup_e, dLst_e, dCB_e, dCall_e, dCallB_e, dSeq_e, dNext_e, dBreak_e, dCont_e, dDrop_e, dRet_e, dRetN_e, dIfS_e, dSet_e, dSetO_e, dAug_e, dRaise_e, dApp_e, dAsg_e, dPar_e, dPar3_e, dPar_vvo_e, dgName_e, dgTup_e, dgCons_e, dgNil_e, dTest_e, dAnd_e, dOr_e, dNot_e, dYes_e, dIf_e, dAndV_e, dOrV_e, dNotV_e, dIsi_e, dBits_e, dTuple_e, dSeqI_e, dChain_e, i2_e, i2'_e, u1_e, eqP_int, neP_int, addP_int, addP_tup, addP_lst, lenP_lst, lenP_tup, lenP_scr, absP_int, intP_int, isN_P, notN_P, isB2_P, tuple_lst, sel_t, sel_f, ixP_t0, ixP_t1, ixP_l0, ixP_l1, ixP_own0, ixP_own1, startD, List.map_cons, List.map_nil, List.length_cons, List.length_nil, List.cons_append, List.nil_append, List.getElem?_cons_zero, List.getElem?_cons_succ, List.set_cons_zero, List.set_cons_succ, Nat.reduceAdd, Nat.reduceSub, List.replicate_succ, List.replicate_zero, Option.some.injEq]
    refine ⟨by omega, sel_of (fun h2 => ?_) (fun h2 => ?_)⟩
    · have h3 : m % q = 0 := by
        have := of_decide_eq_true h2
        exact_mod_cast this
      obtain ⟨c, rfl⟩ := Nat.dvd_of_mod_eq_zero h3
      have c1 : 1 ≤ c := Nat.pos_of_ne_zero fun z => by subst z; simp at r1
      have c2 : 2 * c ≤ q * c := Nat.mul_le_mul_right c q2
      refine ⟨divOk (by omega) (by omega), c, by omega, c, e + 1, rfl, c1, by omega, by rw [er]; grind, ?_⟩
      have e1 : ((q * c : Nat) : Int) / (q : Int) = (c : Nat) := by
        rw [← Int.natCast_ediv, Nat.mul_div_cancel_left c (by omega)]
      rw [e1]; rfl
    · have h3 : ¬ q ∣ m := fun d => by
        have := of_decide_eq_false h2
        have h4 := Nat.mod_eq_zero_of_dvd d
        exact this (by exact_mod_cast h4)
      have st := I.step er h3
      refine sel_of (fun h4 => ?_) (fun h4 => ?_)
      · have e0 : 0 < e := by have := of_decide_eq_true h4; omega
        rw [if_pos e0] at st
        refine ⟨by rw [List.length_map]; omega, sel_of (fun h5 => ?_) (fun h5 => ?_)⟩
        · have h6 : q = 2 := by have := of_decide_eq_true h5; omega
          rw [if_pos h6] at st
          exact ⟨n + 2 - (q + 1), by omega, m, q + 1, _, _, some (.int e), rfl, by omega, st, by simp [pairD]⟩
        · have h6 : q ≠ 2 := by have := of_decide_eq_false h5; omega
          rw [if_neg h6] at st
          exact ⟨n + 2 - (q + 2), by omega, m, q + 2, _, _, some (.int e), rfl, by omega, st, by simp [pairD]⟩
      · have e0 : ¬ 0 < e := by have := of_decide_eq_false h4; omega
        rw [if_neg e0] at st
        refine sel_of (fun h5 => ?_) (fun h5 => ?_)
        · have h6 : q = 2 := by have := of_decide_eq_true h5; omega
          rw [if_pos h6] at st
          exact ⟨n + 2 - (q + 1), by omega, m, q + 1, _, _, some (.int e), rfl, by omega, st, by simp⟩
        · have h6 : q ≠ 2 := by have := of_decide_eq_false h5; omega
          rw [if_neg h6] at st
          exact ⟨n + 2 - (q + 2), by omega, m, q + 2, _, _, some (.int e), rfl, by omega, st, by simp⟩
  · have hq : rest < q * q := by
      have := of_decide_eq_false h
      have h2 : ¬ (q * q ≤ rest) := fun z => this (by exact_mod_cast z)
      omega
    have dn := I.done hq
    refine sel_of (fun h2 => ?_) (fun h2 => ?_)
    · have h3 : 1 < rest := by have := of_decide_eq_true h2; omega
      rw [if_pos h3] at dn
      refine ⟨by rw [List.length_map]; show l.length + 1 ≤ sizeLine; omega, ?_⟩
      have := hP _ dn
      rw [List.map_append] at this
      exact this
    · have h3 : ¬ 1 < rest := by have := of_decide_eq_false h2; omega
      rw [if_neg h3] at dn
      exact hP _ dn
/-! ### the least prime that bars -/
theorem odd_dvd {p n : Nat} (h : OddV p n) : p ∣ n := by
  obtain ⟨e, he, hx⟩ := h
  have h1 : p ^ 1 ∣ p ^ e := Nat.pow_dvd_pow p (by omega)
  rw [Nat.pow_one] at h1
  exact Nat.dvd_trans h1 hx.1
def badE (x : Nat × Nat) : Prop := x.1 % 4 = 3 ∧ x.2 % 2 = 1
theorem bar_some {n i : Nat} {l : List (Nat × Nat)} {x : Nat × Nat} (h : PF n l) (hi : l[i]? = some x) (hb : badE x) (hn : ∀ j y, j < i → l[j]? = some y → ¬ badE y) : BarR n (some x.1) := by
  obtain ⟨h1, h2, h3⟩ := h
  obtain ⟨px, _, ex⟩ := h1 x (List.mem_of_getElem? hi)
  refine ⟨px, hb.1, ⟨x.2, hb.2, ex⟩, fun q hq pq q3 ho => ?_⟩
  obtain ⟨y, hy, rfl⟩ := h3 q pq (odd_dvd ho)
  obtain ⟨j, hj, ej⟩ := List.getElem_of_mem hy
  obtain ⟨_, _, ey⟩ := h1 y hy
  obtain ⟨e, he, hx⟩ := ho
  have e1 := hx.uniq ey
  obtain ⟨hi', ei⟩ := List.getElem?_eq_some_iff.mp hi
  refine hn j y ?_ (by rw [List.getElem?_eq_getElem hj, ej]) ⟨q3, by omega⟩
  refine Nat.lt_of_not_le fun hle => ?_
  by_cases hij : i = j
  · subst hij
    rw [ei] at ej
    subst ej
    omega
  · have := List.pairwise_iff_getElem.mp h2 i j hi' hj (by omega)
    rw [ei, ej] at this
    omega
theorem bar_none {n : Nat} {l : List (Nat × Nat)} (h : PF n l) (hn : ∀ y ∈ l, ¬ badE y) : BarR n none := by
  obtain ⟨h1, h2, h3⟩ := h
  intro q pq q3 ho
  obtain ⟨y, hy, rfl⟩ := h3 q pq (odd_dvd ho)
  obtain ⟨e, he, hx⟩ := ho
  have e1 := hx.uniq (h1 y hy).2.2
  exact hn y hy ⟨q3, by omega⟩
theorem sp_barred : ∀ args P W, args.length = 1 → F_barred args P W → d_barred W ⟨fun _ => P .non, fun d ρ => P (retD ρ d), fun _ => False, fun _ => False⟩ (startD 3 args) := by
  rintro args P W _ ⟨n, rfl, hn, hP⟩
  simp only [dC_e, dVar_e, dOwn_e, dOp_e, dUn_e, dNil_e, dCons_e, dTup_e, dLst_e, dCB_e, dCall_e, dCallB_e, dSeq_e, dNext_e, dBreak_e, dCont_e, dDrop_e, dRet_e, dRetN_e, dIfS_e, dSet_e, dSetO_e, dAug_e, dRaise_e, dApp_e, dAsg_e, dPar_e, dPar3_e, dPar_vvo_e, dgName_e, dgTup_e, dgCons_e, dgNil_e, dTest_e, dAnd_e, dOr_e, dNot_e, dYes_e, dIf_e, dAndV_e, dOrV_e, dNotV_e, dIsi_e, dBits_e, dTuple_e, dSeqI_e, dChain_e, i2_e, i2'_e, u1_e, eqP_int, neP_int, addP_int, addP_tup, addP_lst, lenP_lst, lenP_tup, lenP_scr, absP_int, intP_int, isN_P, notN_P, isB2_P, tuple_lst, sel_t, sel_f, ixP_t0, ixP_t1, ixP_l0, ixP_l1, ixP_own0, ixP_own1, startD, List.map_cons, List.map_nil, List.length_cons, List.length_nil, List.cons_append, List.nil_append, List.getElem?_cons_zero, List.getElem?_cons_succ, List.set_cons_zero, List.set_cons_succ, Nat.reduceAdd, Nat.reduceSub, List.replicate_succ, List.replicate_zero, Option.some.injEq, d_barred, dFor]
  refine sel_of (fun h => ?_) (fun h => ?_)
  · have n0 : 1 ≤ n := by have := of_decide_eq_true h; omega
    refine ⟨n, rfl, n0, hn, fun l hl => ?_⟩
    refine ⟨fun i ρ => ∃ o1 o2, ρ = [some (.int n), o1, o2] ∧ ∀ j y, j < i → l[j]? = some y → ¬ badE y, ⟨none, none, rfl, fun j y hj => by omega⟩, ?_, ?_⟩
    · rintro i d ρ2 hi ⟨o1, o2, rfl, hb⟩
      rw [List.getElem?_map] at hi
      cases hx : l[i]? with
      | none => rw [hx] at hi; cases hi
      | some x =>
        rw [hx] at hi
        have ed : pairD x = d := Option.some.inj hi
        subst ed
        unfold pairD
        simp only [dC_e, dVar_e, dOwn_e, dOp_e, dUn_e, dNil_e, dCons_e, dTup_e, dLst_e, dCB_e, dCall_e, dCallB_e, dSeq_e, dNext_e, dBreak_e, dCont_e, dDrop_e, dRet_e, dRetN_e, dIfS_e, dSet_e, dSetO_e, dAug_e, dRaise_e, dApp_e, dAsg_e, dPar_e, dPar3_e, dPar_vvo_e, dgName_e, dgTup_e, dgCons_e, dgNil_e, dTest_e, dAnd_e, dOr_e, dNot_e, dYes_e, dIf_e, dAndV_e, dOrV_e, dNotV_e, dIsi_e, dBits_e, dTuple_e, dSeqI_e, dChain_e, i2_e, i2'_e, u1_e, eqP_int, neP_int, addP_int, addP_tup, addP_lst, lenP_lst, lenP_tup, lenP_scr, absP_int, intP_int, isN_P, notN_P, isB2_P, tuple_lst, sel_t, sel_f, ixP_t0, ixP_t1, ixP_l0, ixP_l1, ixP_own0, ixP_own1, startD, List.map_cons, List.map_nil, List.length_cons, List.length_nil, List.cons_append, List.nil_append, List.getElem?_cons_zero, List.getElem?_cons_succ, List.set_cons_zero, List.set_cons_succ, Nat.reduceAdd, Nat.reduceSub, List.replicate_succ, List.replicate_zero, Option.some.injEq]
        refine ⟨trivial, by decide, ?_⟩
        have next : ¬ badE x → ∃ o1 o2, [some (D.int n), some (D.int x.1), some (D.int x.2)] = [some (D.int n), o1, o2] ∧ ∀ j y, j < i + 1 → l[j]? = some y → ¬ badE y := fun nb => ⟨_, _, rfl, fun j y hj hy => by
          by_cases h2 : j = i
          · subst h2
            rw [hx] at hy
            cases hy
            exact nb
          · exact hb j y (by omega) hy⟩
        refine sel_of (fun h1 => ?_) (fun h1 => ?_)
        · have h3 : x.1 % 4 = 3 := by have := of_decide_eq_true h1; omega
          refine ⟨by decide, sel_of (fun h2 => ?_) (fun h2 => ?_)⟩
          · have h4 : x.2 % 2 = 1 := by have := of_decide_eq_true h2; omega
            exact hP _ (bar_some hl hx ⟨h3, h4⟩ hb)
          · have h4 : x.2 % 2 ≠ 1 := by have := of_decide_eq_false h2; omega
            exact next fun z => h4 z.2
        · have h3 : x.1 % 4 ≠ 3 := by have := of_decide_eq_false h1; omega
          exact next fun z => h3 z.1
    · rintro ρ2 ⟨o1, o2, rfl, hb⟩
      refine hP none (bar_none hl fun y hy => ?_)
      obtain ⟨j, hj, ej⟩ := List.getElem_of_mem hy
      exact hb j y (by rw [List.length_map]; exact hj) (by rw [List.getElem?_eq_getElem hj, ej])
  · have n0 : n = 0 := by have := of_decide_eq_false h; omega
    subst n0
    refine ⟨fun i ρ => True, trivial, fun i d ρ2 hi _ => by simp at hi, fun ρ2 _ => hP none good_zero⟩
/-! ### two, three, four squares -/
theorem root_uniq {n r s : Nat} (h1 : r * r ≤ n) (h2 : n < (r + 1) * (r + 1)) (g1 : s * s ≤ n) (g2 : n < (s + 1) * (s + 1)) : r = s := by
  refine Nat.le_antisymm (Nat.le_of_not_lt fun h => ?_) (Nat.le_of_not_lt fun h => ?_)
  · have := Nat.mul_le_mul (show s + 1 ≤ r from h) (show s + 1 ≤ r from h)
    omega
  · have := Nat.mul_le_mul (show r + 1 ≤ s from h) (show r + 1 ≤ s from h)
    omega
theorem root_le {n r x : Nat} (h2 : n < (r + 1) * (r + 1)) (hx : x * x ≤ n) : x ≤ r := by
  refine Nat.le_of_not_lt fun h => ?_
  have := Nat.mul_le_mul (show r + 1 ≤ x from h) (show r + 1 ≤ x from h)
  omega
theorem sub_cast {n x : Nat} (h : x * x ≤ n) : (n : Int) - (x : Int) * (x : Int) = ((n - x * x : Nat) : Int) := by
  rw [Int.natCast_sub h]; simp
theorem root_call {n x : Nat} {P : D → Prop} {W : PD.Ex → Prop} (h : x * x ≤ n) (hn : n ≤ 1000000) (hP : ∀ r : Nat, r * r ≤ n - x * x → n - x * x < (r + 1) * (r + 1) → P (.int r)) : F_root [.int ((n : Int) - (x : Int) * (x : Int))] P W :=
  ⟨n - x * x, by rw [sub_cast h], by omega, hP⟩
theorem sp_two : ∀ args P W, args.length = 1 → F_two args P W → d_two W ⟨fun _ => P .non, fun d ρ => P (retD ρ d), fun _ => False, fun _ => False⟩ (startD 2 args) := by
  rintro args P W _ ⟨n, rfl, hn, hg, hP⟩
  simp only [dC_e, dVar_e, dOwn_e, dOp_e, dUn_e, dNil_e, dCons_e, dTup_e, dLst_e, dCB_e, dCall_e, dCallB_e, dSeq_e, dNext_e, dBreak_e, dCont_e, dDrop_e, dRet_e, dRetN_e, dIfS_e, dSet_e, dSetO_e, dAug_e, dRaise_e, dApp_e, dAsg_e, dPar_e, dPar3_e, dPar_vvo_e, dgName_e, dgTup_e, dgCons_e, dgNil_e, dTest_e, dAnd_e, dOr_e, dNot_e, dYes_e, dIf_e, dAndV_e, dOrV_e, dNotV_e, dIsi_e, dBits_e, dTuple_e, dSeqI_e, dChain_e, i2_e, i2'_e, u1_e, eqP_int, neP_int, addP_int, addP_tup, addP_lst, lenP_lst, lenP_tup, lenP_scr, absP_int, intP_int, isN_P, notN_P, isB2_P, tuple_lst, sel_t, sel_f, ixP_t0, ixP_t1, ixP_l0, ixP_l1, ixP_own0, ixP_own1, startD, List.map_cons, List.map_nil, List.length_cons, List.length_nil, List.cons_append, List.nil_append, List.getElem?_cons_zero, List.getElem?_cons_succ, List.set_cons_zero, List.set_cons_succ, Nat.reduceAdd, Nat.reduceSub, List.replicate_succ, List.replicate_zero, Option.some.injEq, d_two]
  refine ⟨n, rfl, hn, fun r0 ha hb => ?_⟩
  obtain ⟨x0, y0, exy⟩ := two_good hn hg
  refine ⟨fun m ρ => ∃ x : Nat, m = x ∧ x * x ≤ n ∧ x0 ≤ x ∧ ρ = [some (.int n), some (.int x)], ⟨r0, r0, rfl, ha, root_le hb (by omega), rfl⟩, ?_⟩
  rintro m ρ1 ⟨x, rfl, hx, hle, rfl⟩
  have xb : m < 2 ^ 20 := Nat.lt_of_not_le fun h => by
    have := Nat.mul_le_mul h h
    omega
  have mk : PD.MulOk (m : Int) (m : Int) := mulOk (by omega) (by omega)
  simp only [dC_e, dVar_e, dOwn_e, dOp_e, dUn_e, dNil_e, dCons_e, dTup_e, dLst_e, dCB_e, dCall_e, dCallB_e, dSeq_e, dNext_e, dBreak_e, dCont_e, dDrop_e, dRet_e, dRetN_e, dIfS_e, dSet_e, dSetO_e, dAug_e, dRaise_e, dApp_e, dAsg_e, dPar_e, dPar3_e, dPar_vvo_e, dgName_e, dgTup_e, dgCons_e, dgNil_e, dTest_e, dAnd_e, dOr_e, dNot_e, dYes_e, dIf_e, dAndV_e, dOrV_e, dNotV_e, dIsi_e, dBits_e, dTuple_e, dSeqI_e, dChain_e, i2_e, i2'_e, u1_e, eqP_int, neP_int, addP_int, addP_tup, addP_lst, lenP_lst, lenP_tup, lenP_scr, absP_int, intP_int, isN_P, notN_P, isB2_P, tuple_lst, sel_t, sel_f, ixP_t0, ixP_t1, ixP_l0, ixP_l1, ixP_own0, ixP_own1, startD, List.map_cons, List.map_nil, List.length_cons, List.length_nil, List.cons_append, List.nil_append, List.getElem?_cons_zero, List.getElem?_cons_succ, List.set_cons_zero, List.set_cons_succ, Nat.reduceAdd, Nat.reduceSub, List.replicate_succ, List.replicate_zero, Option.some.injEq]
  refine ⟨mk, root_call hx hn fun r1 h1 h2 => ⟨mk, root_call hx hn fun r2 g1 g2 => ?_⟩⟩
  obtain rfl := root_uniq h1 h2 g1 g2
  have rb : r1 < 2 ^ 20 := Nat.lt_of_not_le fun h => by
    have := Nat.mul_le_mul h h
    omega
  simp only [dC_e, dVar_e, dOwn_e, dOp_e, dUn_e, dNil_e, dCons_e, dTup_e, dLst_e, dCB_e, dCall_e, dCallB_e, dSeq_e, dNext_e, dBreak_e, dCont_e, dDrop_e, dRet_e, dRetN_e, dIfS_e, dSet_e, dSetO_e, dAug_e, dRaise_e, dApp_e, dAsg_e, dPar_e, dPar3_e, dPar_vvo_e, dgName_e, dgTup_e, dgCons_e, dgNil_e, dTest_e, dAnd_e, dOr_e, dNot_e, dYes_e, dIf_e, dAndV_e, dOrV_e, dNotV_e, dIsi_e, dBits_e, dTuple_e, dSeqI_e, dChain_e, i2_e, i2'_e, u1_e, eqP_int, neP_int, addP_int, addP_tup, addP_lst, lenP_lst, lenP_tup, lenP_scr, absP_int, intP_int, isN_P, notN_P, isB2_P, tuple_lst, sel_t, sel_f, ixP_t0, ixP_t1, ixP_l0, ixP_l1, ixP_own0, ixP_own1, startD, List.map_cons, List.map_nil, List.length_cons, List.length_nil, List.cons_append, List.nil_append, List.getElem?_cons_zero, List.getElem?_cons_succ, List.set_cons_zero, List.set_cons_succ, Nat.reduceAdd, Nat.reduceSub, List.replicate_succ, List.replicate_zero, Option.some.injEq]
  refine ⟨mulOk (by omega) (by omega), mk, ?_⟩
  rw [sub_cast hx]
  refine sel_of (fun h => ?_) (fun h => ?_)
  · have hne : r1 * r1 ≠ n - m * m := by
      have h3 : decide ((r1 : Int) * (r1 : Int) = ((n - m * m : Nat) : Int)) = false := by simpa using h
      have := of_decide_eq_false h3
      exact fun z => this (by rw [← z]; simp)
    have hlt : x0 < m := by
      refine Nat.lt_of_le_of_ne hle fun z => hne ?_
      subst z
      have e : n - x0 * x0 = y0 * y0 := by omega
      rw [e] at h1 h2 ⊢
      have := root_uniq h1 h2 (Nat.le_refl _) (Nat.mul_lt_mul_of_lt_of_lt (Nat.lt_succ_self _) (Nat.lt_succ_self _))
      rw [this]
    have hm : (m - 1) * (m - 1) ≤ m * m := Nat.mul_le_mul (by omega) (by omega)
    refine ⟨m - 1, by omega, m - 1, rfl, by omega, by omega, ?_⟩
    have : ((m : Int) - 1) = ((m - 1 : Nat) : Int) := by omega
    rw [this]
  · have he : r1 * r1 = n - m * m := by
      have h3 : decide ((r1 : Int) * (r1 : Int) = ((n - m * m : Nat) : Int)) = true := by simpa using h
      have := of_decide_eq_true h3
      exact_mod_cast this
    refine ⟨mk, n - m * m, rfl, by omega, fun r3 g1 g2 => ?_⟩
    obtain rfl := root_uniq h1 h2 g1 g2
    refine hP [m, r1] rfl ?_
    show m * m + (r1 * r1 + 0) = n
    omega
theorem sp_three : ∀ args P W, args.length = 1 → F_three args P W → d_three W ⟨fun _ => P .non, fun d ρ => P (retD ρ d), fun _ => False, fun _ => False⟩ (startD 2 args) := by
  rintro args P W _ ⟨n, rfl, hn, hg, hP⟩
  simp only [dC_e, dVar_e, dOwn_e, dOp_e, dUn_e, dNil_e, dCons_e, dTup_e, dLst_e, dCB_e, dCall_e, dCallB_e, dSeq_e, dNext_e, dBreak_e, dCont_e, dDrop_e, dRet_e, dRetN_e, dIfS_e, dSet_e, dSetO_e, dAug_e, dRaise_e, dApp_e, dAsg_e, dPar_e, dPar3_e, dPar_vvo_e, dgName_e, dgTup_e, dgCons_e, dgNil_e, dTest_e, dAnd_e, dOr_e, dNot_e, dYes_e, dIf_e, dAndV_e, dOrV_e, dNotV_e, dIsi_e, dBits_e, dTuple_e, dSeqI_e, dChain_e, i2_e, i2'_e, u1_e, eqP_int, neP_int, addP_int, addP_tup, addP_lst, lenP_lst, lenP_tup, lenP_scr, absP_int, intP_int, isN_P, notN_P, isB2_P, tuple_lst, sel_t, sel_f, ixP_t0, ixP_t1, ixP_l0, ixP_l1, ixP_own0, ixP_own1, startD, List.map_cons, List.map_nil, List.length_cons, List.length_nil, List.cons_append, List.nil_append, List.getElem?_cons_zero, List.getElem?_cons_succ, List.set_cons_zero, List.set_cons_succ, Nat.reduceAdd, Nat.reduceSub, List.replicate_succ, List.replicate_zero, Option.some.injEq, d_three]
  refine ⟨n, rfl, hn, fun r0 ha hb => ?_⟩
  obtain ⟨x0, hx0, hg0⟩ := three_good hn hg
  refine ⟨fun m ρ => ∃ x : Nat, m = x ∧ x * x ≤ n ∧ x0 ≤ x ∧ ρ = [some (.int n), some (.int x)], ⟨r0, r0, rfl, ha, root_le hb hx0, rfl⟩, ?_⟩
  rintro m ρ1 ⟨x, rfl, hx, hle, rfl⟩
  have xb : m < 2 ^ 20 := Nat.lt_of_not_le fun h => by
    have := Nat.mul_le_mul h h
    omega
  have mk : PD.MulOk (m : Int) (m : Int) := mulOk (by omega) (by omega)
  simp only [dC_e, dVar_e, dOwn_e, dOp_e, dUn_e, dNil_e, dCons_e, dTup_e, dLst_e, dCB_e, dCall_e, dCallB_e, dSeq_e, dNext_e, dBreak_e, dCont_e, dDrop_e, dRet_e, dRetN_e, dIfS_e, dSet_e, dSetO_e, dAug_e, dRaise_e, dApp_e, dAsg_e, dPar_e, dPar3_e, dPar_vvo_e, dgName_e, dgTup_e, dgCons_e, dgNil_e, dTest_e, dAnd_e, dOr_e, dNot_e, dYes_e, dIf_e, dAndV_e, dOrV_e, dNotV_e, dIsi_e, dBits_e, dTuple_e, dSeqI_e, dChain_e, i2_e, i2'_e, u1_e, eqP_int, neP_int, addP_int, addP_tup, addP_lst, lenP_lst, lenP_tup, lenP_scr, absP_int, intP_int, isN_P, notN_P, isB2_P, tuple_lst, sel_t, sel_f, ixP_t0, ixP_t1, ixP_l0, ixP_l1, ixP_own0, ixP_own1, startD, List.map_cons, List.map_nil, List.length_cons, List.length_nil, List.cons_append, List.nil_append, List.getElem?_cons_zero, List.getElem?_cons_succ, List.set_cons_zero, List.set_cons_succ, Nat.reduceAdd, Nat.reduceSub, List.replicate_succ, List.replicate_zero, Option.some.injEq]
  rw [sub_cast hx]
  refine ⟨mk, n - m * m, rfl, by omega, fun r hr => ?_⟩
  cases r with
  | some p =>
    show ∃ m', _
    have hlt : x0 < m := by
      refine Nat.lt_of_le_of_ne hle fun z => ?_
      subst z
      exact hg0 p hr.1 hr.2.1 hr.2.2.1
    have hm : (m - 1) * (m - 1) ≤ m * m := Nat.mul_le_mul (by omega) (by omega)
    refine ⟨m - 1, by omega, m - 1, rfl, by omega, by omega, ?_⟩
    have : ((m : Int) - 1) = ((m - 1 : Nat) : Int) := by omega
    rw [this]
  | none =>
    refine ⟨mk, n - m * m, rfl, by omega, hr, fun l hl hs => ?_⟩
    unfold ndl
    simp only [dC_e, dVar_e, dOwn_e, dOp_e, dUn_e, dNil_e, dCons_e, dTup_e, dLst_e, dCB_e, dCall_e, dCallB_e, dSeq_e, dNext_e, dBreak_e, dCont_e, dDrop_e, dRet_e, dRetN_e, dIfS_e, dSet_e, dSetO_e, dAug_e, dRaise_e, dApp_e, dAsg_e, dPar_e, dPar3_e, dPar_vvo_e, dgName_e, dgTup_e, dgCons_e, dgNil_e, dTest_e, dAnd_e, dOr_e, dNot_e, dYes_e, dIf_e, dAndV_e, dOrV_e, dNotV_e, dIsi_e, dBits_e, dTuple_e, dSeqI_e, dChain_e, i2_e, i2'_e, u1_e, eqP_int, neP_int, addP_int, addP_tup, addP_lst, lenP_lst, lenP_tup, lenP_scr, absP_int, intP_int, isN_P, notN_P, isB2_P, tuple_lst, sel_t, sel_f, ixP_t0, ixP_t1, ixP_l0, ixP_l1, ixP_own0, ixP_own1, startD, List.map_cons, List.map_nil, List.length_cons, List.length_nil, List.cons_append, List.nil_append, List.getElem?_cons_zero, List.getElem?_cons_succ, List.set_cons_zero, List.set_cons_succ, Nat.reduceAdd, Nat.reduceSub, List.replicate_succ, List.replicate_zero, Option.some.injEq]
    refine ⟨by rw [List.length_map, hl]; decide, hP (m :: l) (by rw [List.length_cons, hl]) ?_⟩
    show m * m + sqSum l = n
    omega
theorem sp_four : ∀ args P W, args.length = 1 → F_four args P W → d_four W ⟨fun _ => P .non, fun d ρ => P (retD ρ d), fun _ => False, fun _ => False⟩ (startD 2 args) := by
  rintro args P W _ ⟨n, rfl, hn, hP⟩
  simp only [dC_e, dVar_e, dOwn_e, dOp_e, dUn_e, dNil_e, dCons_e, dTup_e, dLst_e, dCB_e, dCall_e, dCallB_e, dSeq_e, dNext_e, dBreak_e, dCont_e, dDrop_e, dRet_e, dRetN_e, dIfS_e, dSet_e, dSetO_e, dAug_e, dRaise_e, dApp_e, dAsg_e, dPar_e, dPar3_e, dPar_vvo_e, dgName_e, dgTup_e, dgCons_e, dgNil_e, dTest_e, dAnd_e, dOr_e, dNot_e, dYes_e, dIf_e, dAndV_e, dOrV_e, dNotV_e, dIsi_e, dBits_e, dTuple_e, dSeqI_e, dChain_e, i2_e, i2'_e, u1_e, eqP_int, neP_int, addP_int, addP_tup, addP_lst, lenP_lst, lenP_tup, lenP_scr, absP_int, intP_int, isN_P, notN_P, isB2_P, tuple_lst, sel_t, sel_f, ixP_t0, ixP_t1, ixP_l0, ixP_l1, ixP_own0, ixP_own1, startD, List.map_cons, List.map_nil, List.length_cons, List.length_nil, List.cons_append, List.nil_append, List.getElem?_cons_zero, List.getElem?_cons_succ, List.set_cons_zero, List.set_cons_succ, Nat.reduceAdd, Nat.reduceSub, List.replicate_succ, List.replicate_zero, Option.some.injEq, d_four]
  refine ⟨n, rfl, hn, fun r0 ha hb => ?_⟩
  obtain ⟨x0, hx0, hg0⟩ := @four_sev n
  refine ⟨fun m ρ => ∃ x : Nat, m = x ∧ x * x ≤ n ∧ x0 ≤ x ∧ ρ = [some (.int n), some (.int x)], ⟨r0, r0, rfl, ha, root_le hb hx0, rfl⟩, ?_⟩
  rintro m ρ1 ⟨x, rfl, hx, hle, rfl⟩
  have xb : m < 2 ^ 20 := Nat.lt_of_not_le fun h => by
    have := Nat.mul_le_mul h h
    omega
  have mk : PD.MulOk (m : Int) (m : Int) := mulOk (by omega) (by omega)
  simp only [dC_e, dVar_e, dOwn_e, dOp_e, dUn_e, dNil_e, dCons_e, dTup_e, dLst_e, dCB_e, dCall_e, dCallB_e, dSeq_e, dNext_e, dBreak_e, dCont_e, dDrop_e, dRet_e, dRetN_e, dIfS_e, dSet_e, dSetO_e, dAug_e, dRaise_e, dApp_e, dAsg_e, dPar_e, dPar3_e, dPar_vvo_e, dgName_e, dgTup_e, dgCons_e, dgNil_e, dTest_e, dAnd_e, dOr_e, dNot_e, dYes_e, dIf_e, dAndV_e, dOrV_e, dNotV_e, dIsi_e, dBits_e, dTuple_e, dSeqI_e, dChain_e, i2_e, i2'_e, u1_e, eqP_int, neP_int, addP_int, addP_tup, addP_lst, lenP_lst, lenP_tup, lenP_scr, absP_int, intP_int, isN_P, notN_P, isB2_P, tuple_lst, sel_t, sel_f, ixP_t0, ixP_t1, ixP_l0, ixP_l1, ixP_own0, ixP_own1, startD, List.map_cons, List.map_nil, List.length_cons, List.length_nil, List.cons_append, List.nil_append, List.getElem?_cons_zero, List.getElem?_cons_succ, List.set_cons_zero, List.set_cons_succ, Nat.reduceAdd, Nat.reduceSub, List.replicate_succ, List.replicate_zero, Option.some.injEq]
  rw [sub_cast hx]
  refine ⟨mk, n - m * m, rfl, by omega, ?_⟩
  by_cases hs : Sev (n - m * m)
  · rw [sevB_yes hs]
    show ∃ m', _
    have hlt : x0 < m := by
      refine Nat.lt_of_le_of_ne hle fun z => ?_
      subst z
      exact hg0 hs
    have hm : (m - 1) * (m - 1) ≤ m * m := Nat.mul_le_mul (by omega) (by omega)
    refine ⟨m - 1, by omega, m - 1, rfl, by omega, by omega, ?_⟩
    have : ((m : Int) - 1) = ((m - 1 : Nat) : Int) := by omega
    rw [this]
  · rw [sevB_no hs]
    refine ⟨mk, n - m * m, rfl, by omega, hs, fun l hl hs => ?_⟩
    unfold ndl
    simp only [dC_e, dVar_e, dOwn_e, dOp_e, dUn_e, dNil_e, dCons_e, dTup_e, dLst_e, dCB_e, dCall_e, dCallB_e, dSeq_e, dNext_e, dBreak_e, dCont_e, dDrop_e, dRet_e, dRetN_e, dIfS_e, dSet_e, dSetO_e, dAug_e, dRaise_e, dApp_e, dAsg_e, dPar_e, dPar3_e, dPar_vvo_e, dgName_e, dgTup_e, dgCons_e, dgNil_e, dTest_e, dAnd_e, dOr_e, dNot_e, dYes_e, dIf_e, dAndV_e, dOrV_e, dNotV_e, dIsi_e, dBits_e, dTuple_e, dSeqI_e, dChain_e, i2_e, i2'_e, u1_e, eqP_int, neP_int, addP_int, addP_tup, addP_lst, lenP_lst, lenP_tup, lenP_scr, absP_int, intP_int, isN_P, notN_P, isB2_P, tuple_lst, sel_t, sel_f, ixP_t0, ixP_t1, ixP_l0, ixP_l1, ixP_own0, ixP_own1, startD, List.map_cons, List.map_nil, List.length_cons, List.length_nil, List.cons_append, List.nil_append, List.getElem?_cons_zero, List.getElem?_cons_succ, List.set_cons_zero, List.set_cons_succ, Nat.reduceAdd, Nat.reduceSub, List.replicate_succ, List.replicate_zero, Option.some.injEq]
    refine ⟨by rw [List.length_map, hl]; decide, hP (m :: l) (by rw [List.length_cons, hl]) ?_⟩
    show m * m + sqSum l = n
    omega
/-! ### squares -/
theorem sorted_nats {ρ : PD.Env} {l : List Nat} {k : D → Prop} (h : ∀ l' : List Nat, l'.Perm l → l'.Pairwise (· ≤ ·) → k (ndl l')) : sortedP ρ [ndl l] k := by
  have e : ∀ l : List Nat, ndl l = .lst ((l.map fun x : Nat => (x : Int)).map D.int) := fun l => by
    unfold ndl; rw [List.map_map]; rfl
  refine sorted_ints (ns := l.map fun x : Nat => (x : Int)) (.inl (e l)) fun ns' hp hs => ?_
  have hn : ∀ x ∈ ns', ((fun y : Nat => (y : Int)) ∘ Int.toNat) x = x := fun x hx => by
    obtain ⟨y, _, rfl⟩ := List.mem_map.mp (hp.mem_iff.mp hx)
    rfl
  have e1 : (ns'.map Int.toNat).map (fun y : Nat => (y : Int)) = ns' := by
    rw [List.map_map, List.map_congr_left hn, List.map_id']
  have e2 : (ns'.map Int.toNat).Perm l := by
    have := hp.map Int.toNat
    rw [List.map_map] at this
    have e3 : Int.toNat ∘ (fun x : Nat => (x : Int)) = id := by funext x; rfl
    rw [e3, List.map_id] at this
    exact this
  have := h (ns'.map Int.toNat) e2 (List.pairwise_map.mpr (hs.imp fun {a b} z => Int.toNat_le_toNat z))
  rw [e, e1] at this
  exact this
theorem sqSum_perm {l l' : List Nat} (h : l.Perm l') : sqSum l = sqSum l' := (h.map fun x => x * x).sum_nat
theorem sp_squares : ∀ args P W, args.length = 2 → F_squares args P W → d_squares W ⟨fun _ => P .non, fun d ρ => P (retD ρ d), fun _ => False, fun _ => False⟩ (startD 5 args) := by
  rintro args P W _ ⟨k, m, rfl, pk, pm, hW, hP⟩
  simp only [dC_e, dVar_e, dOwn_e, dOp_e, dUn_e, dNil_e, dCons_e, dTup_e, dLst_e, dCB_e, dCall_e, dCallB_e, dSeq_e, dNext_e, dBreak_e, dCont_e, dDrop_e, dRet_e, dRetN_e, dIfS_e, dSet_e, dSetO_e, dAug_e, dRaise_e, dApp_e, dAsg_e, dPar_e, dPar3_e, dPar_vvo_e, dgName_e, dgTup_e, dgCons_e, dgNil_e, dTest_e, dAnd_e, dOr_e, dNot_e, dYes_e, dIf_e, dAndV_e, dOrV_e, dNotV_e, dIsi_e, dBits_e, dTuple_e, dSeqI_e, dChain_e, i2_e, i2'_e, u1_e, eqP_int, neP_int, addP_int, addP_tup, addP_lst, lenP_lst, lenP_tup, lenP_scr, absP_int, intP_int, isN_P, notN_P, isB2_P, tuple_lst, sel_t, sel_f, ixP_t0, ixP_t1, ixP_l0, ixP_l1, ixP_own0, ixP_own1, startD, List.map_cons, List.map_nil, List.length_cons, List.length_nil, List.cons_append, List.nil_append, List.getElem?_cons_zero, List.getElem?_cons_succ, List.set_cons_zero, List.set_cons_succ, Nat.reduceAdd, Nat.reduceSub, List.replicate_succ, List.replicate_zero, Option.some.injEq, d_squares]
  refine ⟨k, m, rfl, pk, pm, fun ok => ?_, hW⟩
  have h1 : numIn k 1 4 = true ∧ numIn m 0 1000000 = true := by
    unfold okKM at ok
    rwa [Bool.and_eq_true] at ok
  obtain ⟨kk, rfl, hk⟩ : ∃ kk : Nat, k = .int kk ∧ 1 ≤ kk ∧ kk ≤ 4 := by
    cases k with
    | int i =>
      have h2 := of_decide_eq_true h1.1
      exact ⟨i.toNat, by rw [Int.toNat_of_nonneg (by omega)], by omega, by omega⟩
    | _ => exact absurd h1.1 (by simp [numIn])
  obtain ⟨mm, rfl, hm⟩ : ∃ mm : Nat, m = .int mm ∧ mm ≤ 1000000 := by
    cases m with
    | int i =>
      have h2 := of_decide_eq_true h1.2
      exact ⟨i.toNat, by rw [Int.toNat_of_nonneg (by omega)], by omega⟩
    | _ => exact absurd h1.2 (by simp [numIn])
  obtain ⟨hF, hS⟩ := hP kk mm rfl rfl ok
  simp only [dC_e, dVar_e, dOwn_e, dOp_e, dUn_e, dNil_e, dCons_e, dTup_e, dLst_e, dCB_e, dCall_e, dCallB_e, dSeq_e, dNext_e, dBreak_e, dCont_e, dDrop_e, dRet_e, dRetN_e, dIfS_e, dSet_e, dSetO_e, dAug_e, dRaise_e, dApp_e, dAsg_e, dPar_e, dPar3_e, dPar_vvo_e, dgName_e, dgTup_e, dgCons_e, dgNil_e, dTest_e, dAnd_e, dOr_e, dNot_e, dYes_e, dIf_e, dAndV_e, dOrV_e, dNotV_e, dIsi_e, dBits_e, dTuple_e, dSeqI_e, dChain_e, i2_e, i2'_e, u1_e, eqP_int, neP_int, addP_int, addP_tup, addP_lst, lenP_lst, lenP_tup, lenP_scr, absP_int, intP_int, isN_P, notN_P, isB2_P, tuple_lst, sel_t, sel_f, ixP_t0, ixP_t1, ixP_l0, ixP_l1, ixP_own0, ixP_own1, startD, List.map_cons, List.map_nil, List.length_cons, List.length_nil, List.cons_append, List.nil_append, List.getElem?_cons_zero, List.getElem?_cons_succ, List.set_cons_zero, List.set_cons_succ, Nat.reduceAdd, Nat.reduceSub, List.replicate_succ, List.replicate_zero, Option.some.injEq]
  have fin : ∀ l : List Nat, l.length = kk → sqSum l = mm → (∀ d, ¬ Forb kk mm d) → ∀ ρ ρ' : PD.Env, sortedP ρ [ndl l] fun z => tupleP ρ z fun z => P (retD ρ' (.tup [.str "squares", z])) := fun l hl hs nf ρ ρ' => by
    refine sorted_nats fun l' hp hs' => ?_
    show P (.tup [.str "squares", ntl l'])
    exact hS nf l' ⟨by rw [hp.length_eq, hl], hs', by rw [sqSum_perm hp, hs]⟩
  have hk4 : kk = 1 ∨ kk = 2 ∨ kk = 3 ∨ kk = 4 := by omega
  rcases hk4 with rfl | rfl | rfl | rfl
  · refine sel_y (by decide) ⟨mm, rfl, hm, fun r a b => ⟨mm, rfl, hm, fun r' a' b' => ?_⟩⟩
    obtain rfl := root_uniq a b a' b'
    have rb : r < 2 ^ 20 := Nat.lt_of_not_le fun h => by
      have := Nat.mul_le_mul h h
      omega
    simp only [dC_e, dVar_e, dOwn_e, dOp_e, dUn_e, dNil_e, dCons_e, dTup_e, dLst_e, dCB_e, dCall_e, dCallB_e, dSeq_e, dNext_e, dBreak_e, dCont_e, dDrop_e, dRet_e, dRetN_e, dIfS_e, dSet_e, dSetO_e, dAug_e, dRaise_e, dApp_e, dAsg_e, dPar_e, dPar3_e, dPar_vvo_e, dgName_e, dgTup_e, dgCons_e, dgNil_e, dTest_e, dAnd_e, dOr_e, dNot_e, dYes_e, dIf_e, dAndV_e, dOrV_e, dNotV_e, dIsi_e, dBits_e, dTuple_e, dSeqI_e, dChain_e, i2_e, i2'_e, u1_e, eqP_int, neP_int, addP_int, addP_tup, addP_lst, lenP_lst, lenP_tup, lenP_scr, absP_int, intP_int, isN_P, notN_P, isB2_P, tuple_lst, sel_t, sel_f, ixP_t0, ixP_t1, ixP_l0, ixP_l1, ixP_own0, ixP_own1, startD, List.map_cons, List.map_nil, List.length_cons, List.length_nil, List.cons_append, List.nil_append, List.getElem?_cons_zero, List.getElem?_cons_succ, List.set_cons_zero, List.set_cons_succ, Nat.reduceAdd, Nat.reduceSub, List.replicate_succ, List.replicate_zero, Option.some.injEq]
    refine ⟨mulOk (by omega) (by omega), sel_of (fun h => ?_) (fun h => ?_)⟩
    · have e : r * r = mm := by
        have := of_decide_eq_true h
        exact_mod_cast this
      refine ⟨mm, rfl, hm, fun r' a' b' => ?_⟩
      obtain rfl := root_uniq a b a' b'
      refine hS (fun d hd => ?_) [r] ⟨rfl, by simp, by show r * r + 0 = mm; omega⟩
      cases hd with
      | root h1 h2 =>
        rename_i r0
        have := root_uniq a b (Nat.le_of_lt h1) h2
        subst this
        omega
    · have e : r * r ≠ mm := fun z => by
        have := of_decide_eq_false h
        exact this (by exact_mod_cast z)
      refine ⟨mm, rfl, hm, fun r' a' b' => ?_⟩
      obtain rfl := root_uniq a b a' b'
      exact hF _ (.root (by omega) b)
  · refine sel_n (by decide) (sel_y (by decide) ⟨mm, rfl, hm, fun r hr => ?_⟩)
    cases r with
    | some p =>
      refine ⟨mm, rfl, hm, fun r' hr' => ?_⟩
      obtain rfl := hr.uniq hr'
      exact hF _ (.prime hr)
    | none =>
      refine sel_n (by decide) (sel_n (by decide) (sel_y (by decide) ⟨mm, rfl, hm, hr, fun l hl hs => fin l hl hs (fun d hd => ?_) _ _⟩))
      cases hd with
      | prime h => cases hr.uniq h
  · refine sel_n (by decide) (sel_n (by decide) (sel_y (by decide) ⟨mm, rfl, hm, ?_⟩))
    by_cases hs : Sev mm
    · rw [sevB_yes hs]
      have m1 : 1 ≤ mm := Nat.pos_of_ne_zero fun z => by subst z; exact sev_zero hs
      refine ⟨mm, rfl, m1, hm, fun a b hf => ?_⟩
      simp only [dC_e, dVar_e, dOwn_e, dOp_e, dUn_e, dNil_e, dCons_e, dTup_e, dLst_e, dCB_e, dCall_e, dCallB_e, dSeq_e, dNext_e, dBreak_e, dCont_e, dDrop_e, dRet_e, dRetN_e, dIfS_e, dSet_e, dSetO_e, dAug_e, dRaise_e, dApp_e, dAsg_e, dPar_e, dPar3_e, dPar_vvo_e, dgName_e, dgTup_e, dgCons_e, dgNil_e, dTest_e, dAnd_e, dOr_e, dNot_e, dYes_e, dIf_e, dAndV_e, dOrV_e, dNotV_e, dIsi_e, dBits_e, dTuple_e, dSeqI_e, dChain_e, i2_e, i2'_e, u1_e, eqP_int, neP_int, addP_int, addP_tup, addP_lst, lenP_lst, lenP_tup, lenP_scr, absP_int, intP_int, isN_P, notN_P, isB2_P, tuple_lst, sel_t, sel_f, ixP_t0, ixP_t1, ixP_l0, ixP_l1, ixP_own0, ixP_own1, startD, List.map_cons, List.map_nil, List.length_cons, List.length_nil, List.cons_append, List.nil_append, List.getElem?_cons_zero, List.getElem?_cons_succ, List.set_cons_zero, List.set_cons_succ, Nat.reduceAdd, Nat.reduceSub, List.replicate_succ, List.replicate_zero, Option.some.injEq]
      refine ⟨trivial, divOk (by decide) (by decide), ?_⟩
      have := hF _ (.seven hf ((four_sev_iff hf).mp hs))
      rw [show ((b : Int) / 8) = ((b / 8 : Nat) : Int) by omega]
      exact this
    · rw [sevB_no hs]
      refine sel_n (by decide) (sel_n (by decide) (sel_y (by decide) ⟨mm, rfl, hm, hs, fun l hl h2 => fin l hl h2 (fun d hd => ?_) _ _⟩))
      cases hd with
      | seven hf h7 => exact hs ((four_sev_iff hf).mpr h7)
  · refine sel_n (by decide) (sel_n (by decide) (sel_n (by decide) (sel_n (by decide) (sel_n (by decide) ⟨mm, rfl, hm, fun l hl h2 => fin l hl h2 (fun d hd => ?_) _ _⟩))))
    cases hd
end K07

end
section
set_option Elab.async false
set_option linter.all false
set_option maxRecDepth 100000
/-! k07: the law's own small defs -/
namespace K07
open PySem L2 PD NT

theorem sp__law_cell : ∀ args P W, args.length = 2 → F__law_cell args P W → d__law_cell W ⟨fun _ => P .non, fun d ρ => P (retD ρ d), fun _ => False, fun _ => False⟩ (startD 2 args) := by
  rintro args P W _ ⟨ns, k, rfl, ⟨hl, hb⟩, hP⟩
  simp only [dC_e, dVar_e, dOwn_e, dOp_e, dUn_e, dNil_e, dCons_e, dTup_e, dLst_e, dCB_e, dCall_e, dCallB_e, dSeq_e, dNext_e, dBreak_e, dCont_e, dDrop_e, dRet_e, dRetN_e, dIfS_e, dSet_e, dSetO_e, dAug_e, dRaise_e, dApp_e, dAsg_e, dPar_e, dPar3_e, dPar_vvo_e, dgName_e, dgTup_e, dgCons_e, dgNil_e, dTest_e, dAnd_e, dOr_e, dNot_e, dYes_e, dIf_e, dAndV_e, dOrV_e, dNotV_e, dIsi_e, dBits_e, dTuple_e, dSeqI_e, dChain_e, i2_e, i2'_e, u1_e, eqP_int, neP_int, addP_int, addP_tup, addP_lst, lenP_lst, lenP_tup, lenP_scr, absP_int, intP_int, isN_P, notN_P, isB2_P, tuple_lst, sel_t, sel_f, ixP_t0, ixP_t1, ixP_l0, ixP_l1, ixP_own0, ixP_own1, startD, List.map_cons, List.map_nil, List.length_cons, List.length_nil, List.cons_append, List.nil_append, List.getElem?_cons_zero, List.getElem?_cons_succ, List.set_cons_zero, List.set_cons_succ, Nat.reduceAdd, Nat.reduceSub, List.replicate_succ, List.replicate_zero, Option.some.injEq, d__law_cell]
  refine sel_of (fun h => ?_) (fun h => ?_)
  · have hk : k < ns.length := by
      have := of_decide_eq_true h
      rw [List.length_map] at this
      omega
    rw [ixP_scr (List.getElem?_eq_getElem hk)]
    exact hP _ (hb _ (List.getElem_mem hk))
  · exact hP 0 (by decide)
theorem sp__law_stream : ∀ args P, args.length = 2 → F__law_stream args P noX → d__law_stream (startD 2 args) fun d _ => P d := by
  rintro args P _ ⟨ns, k, rfl, hs, hP⟩
  simp only [dC_e, dVar_e, dOwn_e, dOp_e, dUn_e, dNil_e, dCons_e, dTup_e, dLst_e, dCB_e, dCall_e, dCallB_e, dSeq_e, dNext_e, dBreak_e, dCont_e, dDrop_e, dRet_e, dRetN_e, dIfS_e, dSet_e, dSetO_e, dAug_e, dRaise_e, dApp_e, dAsg_e, dPar_e, dPar3_e, dPar_vvo_e, dgName_e, dgTup_e, dgCons_e, dgNil_e, dTest_e, dAnd_e, dOr_e, dNot_e, dYes_e, dIf_e, dAndV_e, dOrV_e, dNotV_e, dIsi_e, dBits_e, dTuple_e, dSeqI_e, dChain_e, i2_e, i2'_e, u1_e, eqP_int, neP_int, addP_int, addP_tup, addP_lst, lenP_lst, lenP_tup, lenP_scr, absP_int, intP_int, isN_P, notN_P, isB2_P, tuple_lst, sel_t, sel_f, ixP_t0, ixP_t1, ixP_l0, ixP_l1, ixP_own0, ixP_own1, startD, List.map_cons, List.map_nil, List.length_cons, List.length_nil, List.cons_append, List.nil_append, List.getElem?_cons_zero, List.getElem?_cons_succ, List.set_cons_zero, List.set_cons_succ, Nat.reduceAdd, Nat.reduceSub, List.replicate_succ, List.replicate_zero, Option.some.injEq, d__law_stream]
  refine ⟨ns, k, rfl, hs, fun i hi => ⟨ns, k, rfl, hs, fun j hj => ?_⟩⟩
  simp only [dC_e, dVar_e, dOwn_e, dOp_e, dUn_e, dNil_e, dCons_e, dTup_e, dLst_e, dCB_e, dCall_e, dCallB_e, dSeq_e, dNext_e, dBreak_e, dCont_e, dDrop_e, dRet_e, dRetN_e, dIfS_e, dSet_e, dSetO_e, dAug_e, dRaise_e, dApp_e, dAsg_e, dPar_e, dPar3_e, dPar_vvo_e, dgName_e, dgTup_e, dgCons_e, dgNil_e, dTest_e, dAnd_e, dOr_e, dNot_e, dYes_e, dIf_e, dAndV_e, dOrV_e, dNotV_e, dIsi_e, dBits_e, dTuple_e, dSeqI_e, dChain_e, i2_e, i2'_e, u1_e, eqP_int, neP_int, addP_int, addP_tup, addP_lst, lenP_lst, lenP_tup, lenP_scr, absP_int, intP_int, isN_P, notN_P, isB2_P, tuple_lst, sel_t, sel_f, ixP_t0, ixP_t1, ixP_l0, ixP_l1, ixP_own0, ixP_own1, startD, List.map_cons, List.map_nil, List.length_cons, List.length_nil, List.cons_append, List.nil_append, List.getElem?_cons_zero, List.getElem?_cons_succ, List.set_cons_zero, List.set_cons_succ, Nat.reduceAdd, Nat.reduceSub, List.replicate_succ, List.replicate_zero, Option.some.injEq]
  refine ⟨by decide, hP _ ⟨i.natAbs, j.natAbs % 1000003 + 7, ?_, by rw [bits_abs]; exact hi, by omega⟩⟩
  have : ((j.natAbs : Int) % 1000003 + 7) = ((j.natAbs % 1000003 + 7 : Nat) : Int) := by omega
  rw [this]
theorem sp__law_draw : ∀ bx args P W, args.length + 1 = 2 → F__law_draw (bx :: args) P W → d__law_draw W ⟨fun ρ => ∃ b, ρ[0]? = some (some b) ∧ P .non b, fun d ρ => ∃ b, ρ[0]? = some (some b) ∧ NotOwn d ∧ P d b, fun _ => False, fun _ => False⟩ (startD 3 (bx :: args)) := by
  rintro bx args P W _ ⟨bx', many, e, ⟨a, b, rfl, ha, hb⟩, h1, h2, hP⟩
  cases e
  simp only [dC_e, dVar_e, dOwn_e, dOp_e, dUn_e, dNil_e, dCons_e, dTup_e, dLst_e, dCB_e, dCall_e, dCallB_e, dSeq_e, dNext_e, dBreak_e, dCont_e, dDrop_e, dRet_e, dRetN_e, dIfS_e, dSet_e, dSetO_e, dAug_e, dRaise_e, dApp_e, dAsg_e, dPar_e, dPar3_e, dPar_vvo_e, dgName_e, dgTup_e, dgCons_e, dgNil_e, dTest_e, dAnd_e, dOr_e, dNot_e, dYes_e, dIf_e, dAndV_e, dOrV_e, dNotV_e, dIsi_e, dBits_e, dTuple_e, dSeqI_e, dChain_e, i2_e, i2'_e, u1_e, eqP_int, neP_int, addP_int, addP_tup, addP_lst, lenP_lst, lenP_tup, lenP_scr, absP_int, intP_int, isN_P, notN_P, isB2_P, tuple_lst, sel_t, sel_f, ixP_t0, ixP_t1, ixP_l0, ixP_l1, ixP_own0, ixP_own1, startD, List.map_cons, List.map_nil, List.length_cons, List.length_nil, List.cons_append, List.nil_append, List.getElem?_cons_zero, List.getElem?_cons_succ, List.set_cons_zero, List.set_cons_succ, Nat.reduceAdd, Nat.reduceSub, List.replicate_succ, List.replicate_zero, Option.some.injEq, d__law_draw, dSetIx]
  refine sel_of (fun h => ?_) (fun h => ?_)
  · have e1 : (a : Int) % (many : Int) = ((a % many : Nat) : Int) := by omega
    have e2 : (a : Int) / (many : Int) = ((a / many : Nat) : Int) := by simp
    refine ⟨by omega, divOk (by omega) (by omega), ?_⟩
    rw [e1, e2]
    refine ⟨_, rfl, trivial, hP (a % many) _ ⟨a / many, b, rfl, Nat.le_trans (bits_le (Nat.div_le_self _ _)) ha, hb⟩ (Nat.mod_lt _ h1)⟩
  · refine ⟨mulOk (by omega) (by decide), by decide, ?_⟩
    have e1 : ((b : Int) * 48271 + 12345) % 2147483647 = (((b * 48271 + 12345) % 2147483647 : Nat) : Int) := by omega
    rw [e1]
    have e2 : ((((b * 48271 + 12345) % 2147483647 : Nat) : Int) / 64) % (many : Int) = (((b * 48271 + 12345) % 2147483647 / 64 % many : Nat) : Int) := by simp
    refine ⟨divOk (by decide) (by decide), by omega, ?_⟩
    refine ⟨_, rfl, trivial, ?_⟩
    show P (.int (((((b * 48271 + 12345) % 2147483647 : Nat) : Int) / 64) % (many : Int))) _
    rw [e2]
    exact hP _ _ ⟨a, (b * 48271 + 12345) % 2147483647, rfl, ha, by omega⟩ (Nat.mod_lt _ h1)
theorem sp__law_number : ∀ bx args P W, args.length + 1 = 1 → F__law_number (bx :: args) P W → d__law_number W ⟨fun ρ => ∃ b, ρ[0]? = some (some b) ∧ P .non b, fun d ρ => ∃ b, ρ[0]? = some (some b) ∧ NotOwn d ∧ P d b, fun _ => False, fun _ => False⟩ (startD 5 (bx :: args)) := by
  rintro bx args P W _ ⟨bx', e, hb, hP⟩
  cases e
  simp only [dC_e, dVar_e, dOwn_e, dOp_e, dUn_e, dNil_e, dCons_e, dTup_e, dLst_e, dCB_e, dCall_e, dCallB_e, dSeq_e, dNext_e, dBreak_e, dCont_e, dDrop_e, dRet_e, dRetN_e, dIfS_e, dSet_e, dSetO_e, dAug_e, dRaise_e, dApp_e, dAsg_e, dPar_e, dPar3_e, dPar_vvo_e, dgName_e, dgTup_e, dgCons_e, dgNil_e, dTest_e, dAnd_e, dOr_e, dNot_e, dYes_e, dIf_e, dAndV_e, dOrV_e, dNotV_e, dIsi_e, dBits_e, dTuple_e, dSeqI_e, dChain_e, i2_e, i2'_e, u1_e, eqP_int, neP_int, addP_int, addP_tup, addP_lst, lenP_lst, lenP_tup, lenP_scr, absP_int, intP_int, isN_P, notN_P, isB2_P, tuple_lst, sel_t, sel_f, ixP_t0, ixP_t1, ixP_l0, ixP_l1, ixP_own0, ixP_own1, startD, List.map_cons, List.map_nil, List.length_cons, List.length_nil, List.cons_append, List.nil_append, List.getElem?_cons_zero, List.getElem?_cons_succ, List.set_cons_zero, List.set_cons_succ, Nat.reduceAdd, Nat.reduceSub, List.replicate_succ, List.replicate_zero, Option.some.injEq, d__law_number]
  refine ⟨bx, 5, rfl, hb, by decide, by decide, fun i b1 hb1 hi => ?_⟩
  simp only [dC_e, dVar_e, dOwn_e, dOp_e, dUn_e, dNil_e, dCons_e, dTup_e, dLst_e, dCB_e, dCall_e, dCallB_e, dSeq_e, dNext_e, dBreak_e, dCont_e, dDrop_e, dRet_e, dRetN_e, dIfS_e, dSet_e, dSetO_e, dAug_e, dRaise_e, dApp_e, dAsg_e, dPar_e, dPar3_e, dPar_vvo_e, dgName_e, dgTup_e, dgCons_e, dgNil_e, dTest_e, dAnd_e, dOr_e, dNot_e, dYes_e, dIf_e, dAndV_e, dOrV_e, dNotV_e, dIsi_e, dBits_e, dTuple_e, dSeqI_e, dChain_e, i2_e, i2'_e, u1_e, eqP_int, neP_int, addP_int, addP_tup, addP_lst, lenP_lst, lenP_tup, lenP_scr, absP_int, intP_int, isN_P, notN_P, isB2_P, tuple_lst, sel_t, sel_f, ixP_t0, ixP_t1, ixP_l0, ixP_l1, ixP_own0, ixP_own1, startD, List.map_cons, List.map_nil, List.length_cons, List.length_nil, List.cons_append, List.nil_append, List.getElem?_cons_zero, List.getElem?_cons_succ, List.set_cons_zero, List.set_cons_succ, Nat.reduceAdd, Nat.reduceSub, List.replicate_succ, List.replicate_zero, Option.some.injEq]
  refine sel_of (fun h => ?_) (fun h => ?_)
  · refine ⟨b1, 100, rfl, hb1, by decide, by decide, fun j b2 hb2 hj => ?_⟩
    exact ⟨_, rfl, trivial, hP j b2 hb2 (by omega)⟩
  refine sel_of (fun h => ?_) (fun h => ?_)
  · refine ⟨b1, 1000001, rfl, hb1, by decide, by decide, fun j b2 hb2 hj => ?_⟩
    exact ⟨_, rfl, trivial, hP j b2 hb2 (by omega)⟩
  refine sel_of (fun h => ?_) (fun h => ?_)
  · refine ⟨b1, 400, rfl, hb1, by decide, by decide, fun j b2 hb2 hj => ?_⟩
    simp only [dC_e, dVar_e, dOwn_e, dOp_e, dUn_e, dNil_e, dCons_e, dTup_e, dLst_e, dCB_e, dCall_e, dCallB_e, dSeq_e, dNext_e, dBreak_e, dCont_e, dDrop_e, dRet_e, dRetN_e, dIfS_e, dSet_e, dSetO_e, dAug_e, dRaise_e, dApp_e, dAsg_e, dPar_e, dPar3_e, dPar_vvo_e, dgName_e, dgTup_e, dgCons_e, dgNil_e, dTest_e, dAnd_e, dOr_e, dNot_e, dYes_e, dIf_e, dAndV_e, dOrV_e, dNotV_e, dIsi_e, dBits_e, dTuple_e, dSeqI_e, dChain_e, i2_e, i2'_e, u1_e, eqP_int, neP_int, addP_int, addP_tup, addP_lst, lenP_lst, lenP_tup, lenP_scr, absP_int, intP_int, isN_P, notN_P, isB2_P, tuple_lst, sel_t, sel_f, ixP_t0, ixP_t1, ixP_l0, ixP_l1, ixP_own0, ixP_own1, startD, List.map_cons, List.map_nil, List.length_cons, List.length_nil, List.cons_append, List.nil_append, List.getElem?_cons_zero, List.getElem?_cons_succ, List.set_cons_zero, List.set_cons_succ, Nat.reduceAdd, Nat.reduceSub, List.replicate_succ, List.replicate_zero, Option.some.injEq]
    refine ⟨mulOk (by omega) (by omega), b2, 5, rfl, hb2, by decide, by decide, fun k b3 hb3 hk => ?_⟩
    have hz : ∃ z : Nat, ([.int 1, .int 4, .int 16, .int 64, .int 256] : List D)[k]? = some (.int z) ∧ z ≤ 256 := by
      have : k = 0 ∨ k = 1 ∨ k = 2 ∨ k = 3 ∨ k = 4 := by omega
      rcases this with rfl | rfl | rfl | rfl | rfl
      · exact ⟨1, rfl, by decide⟩
      · exact ⟨4, rfl, by decide⟩
      · exact ⟨16, rfl, by decide⟩
      · exact ⟨64, rfl, by decide⟩
      · exact ⟨256, rfl, by decide⟩
    obtain ⟨z, hz, zb⟩ := hz
    dsimp only
    rw [ixP_lst hz]
    simp only [dC_e, dVar_e, dOwn_e, dOp_e, dUn_e, dNil_e, dCons_e, dTup_e, dLst_e, dCB_e, dCall_e, dCallB_e, dSeq_e, dNext_e, dBreak_e, dCont_e, dDrop_e, dRet_e, dRetN_e, dIfS_e, dSet_e, dSetO_e, dAug_e, dRaise_e, dApp_e, dAsg_e, dPar_e, dPar3_e, dPar_vvo_e, dgName_e, dgTup_e, dgCons_e, dgNil_e, dTest_e, dAnd_e, dOr_e, dNot_e, dYes_e, dIf_e, dAndV_e, dOrV_e, dNotV_e, dIsi_e, dBits_e, dTuple_e, dSeqI_e, dChain_e, i2_e, i2'_e, u1_e, eqP_int, neP_int, addP_int, addP_tup, addP_lst, lenP_lst, lenP_tup, lenP_scr, absP_int, intP_int, isN_P, notN_P, isB2_P, tuple_lst, sel_t, sel_f, ixP_t0, ixP_t1, ixP_l0, ixP_l1, ixP_own0, ixP_own1, startD, List.map_cons, List.map_nil, List.length_cons, List.length_nil, List.cons_append, List.nil_append, List.getElem?_cons_zero, List.getElem?_cons_succ, List.set_cons_zero, List.set_cons_succ, Nat.reduceAdd, Nat.reduceSub, List.replicate_succ, List.replicate_zero, Option.some.injEq]
    refine ⟨mulOk (by omega) (by omega), _, rfl, trivial, ?_⟩
    have e1 : (8 * (j : Int) + 7) * (z : Int) = (((8 * j + 7) * z : Nat) : Int) := by simp
    rw [e1]
    refine hP _ b3 hb3 ?_
    have : (8 * j + 7) * z ≤ 3199 * 256 := Nat.mul_le_mul (by omega) zb
    omega
  · refine ⟨b1, 500, rfl, hb1, by decide, by decide, fun x b2 hb2 hx => ?_⟩
    refine ⟨b2, 500, rfl, hb2, by decide, by decide, fun y b3 hb3 hy => ?_⟩
    refine ⟨b3, 500, rfl, hb3, by decide, by decide, fun u b4 hb4 hu => ?_⟩
    have mk : ∀ x : Nat, x < 500 → PD.MulOk (x : Int) (x : Int) := fun x hx => mulOk (by omega) (by omega)
    have mx : ∀ x : Nat, x < 500 → x * x ≤ 499 * 499 := fun x hx => Nat.mul_le_mul (by omega) (by omega)
    have m1 := mx x hx
    have m2 := mx y hy
    have m3 := mx u hu
    simp only [dC_e, dVar_e, dOwn_e, dOp_e, dUn_e, dNil_e, dCons_e, dTup_e, dLst_e, dCB_e, dCall_e, dCallB_e, dSeq_e, dNext_e, dBreak_e, dCont_e, dDrop_e, dRet_e, dRetN_e, dIfS_e, dSet_e, dSetO_e, dAug_e, dRaise_e, dApp_e, dAsg_e, dPar_e, dPar3_e, dPar_vvo_e, dgName_e, dgTup_e, dgCons_e, dgNil_e, dTest_e, dAnd_e, dOr_e, dNot_e, dYes_e, dIf_e, dAndV_e, dOrV_e, dNotV_e, dIsi_e, dBits_e, dTuple_e, dSeqI_e, dChain_e, i2_e, i2'_e, u1_e, eqP_int, neP_int, addP_int, addP_tup, addP_lst, lenP_lst, lenP_tup, lenP_scr, absP_int, intP_int, isN_P, notN_P, isB2_P, tuple_lst, sel_t, sel_f, ixP_t0, ixP_t1, ixP_l0, ixP_l1, ixP_own0, ixP_own1, startD, List.map_cons, List.map_nil, List.length_cons, List.length_nil, List.cons_append, List.nil_append, List.getElem?_cons_zero, List.getElem?_cons_succ, List.set_cons_zero, List.set_cons_succ, Nat.reduceAdd, Nat.reduceSub, List.replicate_succ, List.replicate_zero, Option.some.injEq]
    refine sel_of (fun h => ?_) (fun h => ?_)
    · refine ⟨mk x hx, mk y hy, mk u hu, b4, 2, rfl, hb4, by decide, by decide, fun k b5 hb5 hk => ?_⟩
      have hz : ∃ z : Nat, ([.int 0, .int ((u : Int) * (u : Int))] : List D)[k]? = some (.int z) ∧ z ≤ 499 * 499 := by
        have : k = 0 ∨ k = 1 := by omega
        rcases this with rfl | rfl
        · exact ⟨0, rfl, by decide⟩
        · exact ⟨u * u, by simp, m3⟩
      obtain ⟨z, hz, zb⟩ := hz
      dsimp only
      rw [ixP_lst hz]
      refine ⟨_, rfl, trivial, ?_⟩
      have e1 : (x : Int) * (x : Int) + (y : Int) * (y : Int) + (z : Int) = ((x * x + y * y + z : Nat) : Int) := by simp
      show P (.int ((x : Int) * (x : Int) + (y : Int) * (y : Int) + (z : Int))) _
      rw [e1]
      exact hP _ b5 hb5 (by omega)
    · refine ⟨mk x hx, _, rfl, trivial, ?_⟩
      have e1 : (x : Int) * (x : Int) = ((x * x : Nat) : Int) := by simp
      rw [e1]
      exact hP _ b4 hb4 (by omega)
/-! ### the law's primes -/
structure QInv (n rest q M : Nat) (l : List Nat) : Prop where
  q2 : 2 ≤ q
  r1 : 1 ≤ rest
  eq : n = rest * M
  low : ∀ d, 2 ≤ d → d < q → ¬ d ∣ rest
  mul : ∀ p, Pr p → q ≤ p → ¬ p ∣ M
  mem : ∀ p, p ∈ l ↔ Pr p ∧ p ∣ n ∧ p < q
  asc : l.Pairwise (· < ·)
theorem nlen : ∀ {l : List Nat} {lo q : Nat}, l.Pairwise (· < ·) → (∀ x ∈ l, lo ≤ x ∧ x < q) → l.length ≤ q - lo
  | [], _, _, _, _ => Nat.zero_le _
  | x :: l, lo, q, hp, hb => by
    obtain ⟨h1, h2⟩ := List.pairwise_cons.mp hp
    have hx := hb x List.mem_cons_self
    have := nlen (lo := x + 1) (q := q) h2 fun y hy => ⟨h1 y hy, (hb y (List.mem_cons_of_mem _ hy)).2⟩
    rw [List.length_cons]
    omega
theorem QInv.len {n rest q M : Nat} {l : List Nat} (h : QInv n rest q M l) : l.length ≤ q := nlen h.asc fun x hx => ⟨Nat.zero_le _, ((h.mem x).mp hx).2.2⟩
theorem QInv.prime {n rest q M : Nat} {l : List Nat} (h : QInv n rest q M l) (hd : q ∣ rest) : Pr q := ⟨h.q2, fun d hd2 => by
  have q2 := h.q2
  have dle := Nat.le_of_dvd (by omega) hd2
  have d0 : d ≠ 0 := fun z => by subst z; have := Nat.eq_zero_of_zero_dvd hd2; omega
  by_cases h1 : d = 1
  · exact .inl h1
  · by_cases h2 : d = q
    · exact .inr h2
    · exact absurd (Nat.dvd_trans hd2 hd) (h.low d (by omega) (by omega))⟩
theorem QInv.skip {n rest q M : Nat} {l : List Nat} (h : QInv n rest q M l) (hd : ¬ q ∣ rest) : QInv n rest (q + 1) M l := by
  refine ⟨by have := h.q2; omega, h.r1, h.eq, fun d d2 hlt dd => ?_, fun p hp hle => h.mul p hp (by omega), fun p => ?_, h.asc⟩
  · by_cases h1 : d = q
    · subst h1; exact hd dd
    · exact h.low d d2 (by omega) dd
  · rw [h.mem p]
    constructor
    · rintro ⟨a, b, c⟩; exact ⟨a, b, by omega⟩
    · rintro ⟨a, b, c⟩
      refine ⟨a, b, ?_⟩
      refine Nat.lt_of_le_of_ne (by omega) fun z => ?_
      subst z
      rw [h.eq] at b
      rcases a.euclid b with d | d
      · exact hd d
      · exact h.mul p a (Nat.le_refl _) d
theorem QInv.take {n rest q M r e : Nat} {l : List Nat} (h : QInv n rest q M l) (hd : q ∣ rest) (he : rest = r * q ^ e) (hq : ¬ q ∣ r) : QInv n r (q + 1) (M * q ^ e) (l ++ [q]) := by
  have pq := h.prime hd
  have hr : r ∣ rest := ⟨_, he⟩
  have q2 := h.q2
  refine ⟨by omega, Nat.pos_of_ne_zero fun z => hq (by rw [z]; exact Nat.dvd_zero q), by rw [h.eq, he]; grind, fun d d2 hlt dd => ?_, fun p hp hle dd => ?_, fun p => ?_, ?_⟩
  · by_cases h1 : d = q
    · subst h1; exact hq dd
    · exact h.low d d2 (by omega) (Nat.dvd_trans dd hr)
  · rcases hp.euclid dd with d | d
    · exact h.mul p hp (by omega) d
    · have := hp.eq_of_dvd pq (hp.dvd_pow d)
      omega
  · rw [List.mem_append, h.mem p, List.mem_singleton]
    constructor
    · rintro (⟨a, b, c⟩ | rfl)
      · exact ⟨a, b, by omega⟩
      · exact ⟨pq, by rw [h.eq]; exact Nat.dvd_trans hd (Nat.dvd_mul_right rest M), by omega⟩
    · rintro ⟨a, b, c⟩
      by_cases h1 : p = q
      · exact .inr h1
      · exact .inl ⟨a, b, by omega⟩
  · refine List.pairwise_append.mpr ⟨h.asc, by simp, fun x hx y hy => ?_⟩
    have := ((h.mem x).mp hx).2.2
    have : y = q := by simpa using hy
    omega
theorem QInv.done {n rest q M : Nat} {l : List Nat} (h : QInv n rest q M l) (hq : rest < q * q) : (if 1 < rest then l ++ [rest] else l).Pairwise (· < ·) ∧ ∀ p, p ∈ (if 1 < rest then l ++ [rest] else l) ↔ Pr p ∧ p ∣ n := by
  by_cases h1 : 1 < rest
  · have pr := prime_of h1 hq h.low
    have hle : q ≤ rest := Nat.le_of_not_lt fun hl => h.low rest h1 hl (Nat.dvd_refl rest)
    rw [if_pos h1]
    refine ⟨List.pairwise_append.mpr ⟨h.asc, by simp, fun x hx y hy => ?_⟩, fun p => ?_⟩
    · have h2 := ((h.mem x).mp hx).2.2
      have : y = rest := by simpa using hy
      omega
    · rw [List.mem_append, h.mem p, List.mem_singleton]
      constructor
      · rintro (⟨a, b, c⟩ | rfl)
        · exact ⟨a, b⟩
        · exact ⟨pr, by rw [h.eq]; exact Nat.dvd_mul_right _ M⟩
      · rintro ⟨a, b⟩
        by_cases h2 : p < q
        · exact .inl ⟨a, b, h2⟩
        · rw [h.eq] at b
          rcases a.euclid b with d | d
          · exact .inr (a.eq_of_dvd pr d)
          · exact absurd d (h.mul p a (by omega))
  · have r1 : rest = 1 := by have := h.r1; omega
    rw [if_neg h1]
    refine ⟨h.asc, fun p => ?_⟩
    rw [h.mem p]
    constructor
    · rintro ⟨a, b, c⟩; exact ⟨a, b⟩
    · rintro ⟨a, b⟩
      refine ⟨a, b, Nat.lt_of_not_le fun hle => h.mul p a hle ?_⟩
      rw [h.eq, r1, Nat.one_mul] at b
      exact b
theorem sp__law_primes : ∀ args P W, args.length = 1 → F__law_primes args P W → d__law_primes W ⟨fun _ => P .non, fun d ρ => P (retD ρ d), fun _ => False, fun _ => False⟩ (startD 3 args) := by
  rintro args P W _ ⟨n, rfl, h1, hn, hP⟩
  simp only [dC_e, dVar_e, dOwn_e, dOp_e, dUn_e, dNil_e, dCons_e, dTup_e, dLst_e, dCB_e, dCall_e, dCallB_e, dSeq_e, dNext_e, dBreak_e, dCont_e, dDrop_e, dRet_e, dRetN_e, dIfS_e, dSet_e, dSetO_e, dAug_e, dRaise_e, dApp_e, dAsg_e, dPar_e, dPar3_e, dPar_vvo_e, dgName_e, dgTup_e, dgCons_e, dgNil_e, dTest_e, dAnd_e, dOr_e, dNot_e, dYes_e, dIf_e, dAndV_e, dOrV_e, dNotV_e, dIsi_e, dBits_e, dTuple_e, dSeqI_e, dChain_e, i2_e, i2'_e, u1_e, eqP_int, neP_int, addP_int, addP_tup, addP_lst, lenP_lst, lenP_tup, lenP_scr, absP_int, intP_int, isN_P, notN_P, isB2_P, tuple_lst, sel_t, sel_f, ixP_t0, ixP_t1, ixP_l0, ixP_l1, ixP_own0, ixP_own1, startD, List.map_cons, List.map_nil, List.length_cons, List.length_nil, List.cons_append, List.nil_append, List.getElem?_cons_zero, List.getElem?_cons_succ, List.set_cons_zero, List.set_cons_succ, Nat.reduceAdd, Nat.reduceSub, List.replicate_succ, List.replicate_zero, Option.some.injEq, d__law_primes]
  rw [Int.natAbs_natCast]
  refine ⟨by decide, fun m ρ => ∃ rest q M l, m = n + 2 - q ∧ q ≤ n + 2 ∧ QInv n rest q M l ∧ ρ = [some (.int rest), some (.int q), some (ndl l)], ⟨n + 2 - 2, n, 2, 1, [], rfl, by omega, ?_, rfl⟩, ?_⟩
  · refine ⟨by decide, h1, by simp, (fun d a b => by omega), fun p hp _ d => ?_, fun p => ?_, List.Pairwise.nil⟩
    · have := Nat.le_of_dvd (by decide) d
      have := hp.1
      omega
    · constructor
      · intro h; cases h
      · rintro ⟨a, b, c⟩
        have := a.1
        omega
  rintro m ρ1 ⟨rest, q, M, l, rfl, qn, I, rfl⟩
  have rn : rest ≤ n := Nat.le_of_dvd h1 ⟨M, I.eq⟩
  have q2 := I.q2
  have ln := I.len
  have bs := big_size
  unfold ndl
  simp only [dC_e, dVar_e, dOwn_e, dOp_e, dUn_e, dNil_e, dCons_e, dTup_e, dLst_e, dCB_e, dCall_e, dCallB_e, dSeq_e, dNext_e, dBreak_e, dCont_e, dDrop_e, dRet_e, dRetN_e, dIfS_e, dSet_e, dSetO_e, dAug_e, dRaise_e, dApp_e, dAsg_e, dPar_e, dPar3_e, dPar_vvo_e, dgName_e, dgTup_e, dgCons_e, dgNil_e, dTest_e, dAnd_e, dOr_e, dNot_e, dYes_e, dIf_e, dAndV_e, dOrV_e, dNotV_e, dIsi_e, dBits_e, dTuple_e, dSeqI_e, dChain_e, i2_e, i2'_e, u1_e, eqP_int, neP_int, addP_int, addP_tup, addP_lst, lenP_lst, lenP_tup, lenP_scr, absP_int, intP_int, isN_P, notN_P, isB2_P, tuple_lst, sel_t, sel_f, ixP_t0, ixP_t1, ixP_l0, ixP_l1, ixP_own0, ixP_own1, startD, List.map_cons, List.map_nil, List.length_cons, List.length_nil, List.cons_append, List.nil_append, List.getElem?_cons_zero, List.getElem?_cons_succ, List.set_cons_zero, List.set_cons_succ, Nat.reduceAdd, Nat.reduceSub, List.replicate_succ, List.replicate_zero, Option.some.injEq]
  refine ⟨mulOk (by omega) (by omega), sel_of (fun h => ?_) (fun h => ?_)⟩
  · have hq : q * q ≤ rest := by
      have := of_decide_eq_true h
      exact_mod_cast this
    have hq2 : 2 * q ≤ q * q := Nat.mul_le_mul_right q q2
    refine ⟨by omega, sel_of (fun h2 => ?_) (fun h2 => ?_)⟩
    · have hd : q ∣ rest := by
        have := of_decide_eq_true h2
        exact Nat.dvd_of_mod_eq_zero (by exact_mod_cast this)
      refine ⟨by rw [List.length_map]; omega, fun m ρ => ∃ r e : Nat, m = r ∧ 1 ≤ r ∧ r ≤ rest ∧ rest = r * q ^ e ∧ ρ = [some (.int r), some (.int q), some (.lst (l.map (fun x : Nat => D.int x) ++ [.int q]))], ⟨rest, rest, 0, rfl, I.r1, Nat.le_refl _, by simp, rfl⟩, ?_⟩
      rintro m ρ2 ⟨r, e, rfl, r1, rle, er, rfl⟩
      simp only [dC_e, dVar_e, dOwn_e, dOp_e, dUn_e, dNil_e, dCons_e, dTup_e, dLst_e, dCB_e, dCall_e, dCallB_e, dSeq_e, dNext_e, dBreak_e, dCont_e, dDrop_e, dRet_e, dRetN_e, dIfS_e, dSet_e, dSetO_e, dAug_e, dRaise_e, dApp_e, dAsg_e, dPar_e, dPar3_e, dPar_vvo_e, dgName_e, dgTup_e, dgCons_e, dgNil_e, dTest_e, dAnd_e, dOr_e, dNot_e, dYes_e, dIf_e, dAndV_e, dOrV_e, dNotV_e, dIsi_e, dBits_e, dTuple_e, dSeqI_e, dChain_e, i2_e, i2'_e, u1_e, eqP_int, neP_int, addP_int, addP_tup, addP_lst, lenP_lst, lenP_tup, lenP_scr, absP_int, intP_int, isN_P, notN_P, isB2_P, tuple_lst, sel_t, sel_f, ixP_t0, ixP_t1, ixP_l0, ixP_l1, ixP_own0, ixP_own1, startD, List.map_cons, List.map_nil, List.length_cons, List.length_nil, List.cons_append, List.nil_append, List.getElem?_cons_zero, List.getElem?_cons_succ, List.set_cons_zero, List.set_cons_succ, Nat.reduceAdd, Nat.reduceSub, List.replicate_succ, List.replicate_zero, Option.some.injEq]
      refine ⟨by omega, sel_of (fun h2 => ?_) (fun h2 => ?_)⟩
      · have h3 : m % q = 0 := by
          have := of_decide_eq_true h2
          exact_mod_cast this
        obtain ⟨c, rfl⟩ := Nat.dvd_of_mod_eq_zero h3
        have c1 : 1 ≤ c := Nat.pos_of_ne_zero fun z => by subst z; simp at r1
        have c2 : 2 * c ≤ q * c := Nat.mul_le_mul_right c q2
        refine ⟨divOk (by omega) (by omega), c, by omega, c, e + 1, rfl, c1, by omega, by rw [er]; grind, ?_⟩
        have e1 : ((q * c : Nat) : Int) / (q : Int) = (c : Nat) := by
          rw [← Int.natCast_ediv, Nat.mul_div_cancel_left c (by omega)]
        rw [e1]
      · have h3 : ¬ q ∣ m := fun d => by
          have := of_decide_eq_false h2
          have h4 := Nat.mod_eq_zero_of_dvd d
          exact this (by exact_mod_cast h4)
        exact ⟨n + 2 - (q + 1), by omega, m, q + 1, _, _, rfl, by omega, I.take hd er h3, by simp⟩
    · have hd : ¬ q ∣ rest := fun d => by
        have := of_decide_eq_false h2
        have h4 := Nat.mod_eq_zero_of_dvd d
        exact this (by exact_mod_cast h4)
      exact ⟨n + 2 - (q + 1), by omega, rest, q + 1, _, _, rfl, by omega, I.skip hd, by simp⟩
  · have hq : rest < q * q := by
      have := of_decide_eq_false h
      have h2 : ¬ (q * q ≤ rest) := fun z => this (by exact_mod_cast z)
      omega
    obtain ⟨d1, d2⟩ := I.done hq
    refine sel_of (fun h2 => ?_) (fun h2 => ?_)
    · have h3 : 1 < rest := by have := of_decide_eq_true h2; omega
      rw [if_pos h3] at d1
      simp only [if_pos h3] at d2
      refine ⟨by rw [List.length_map]; show l.length + 1 ≤ sizeLine; omega, ?_⟩
      have := hP _ d1 d2
      unfold ndl at this
      rw [List.map_append] at this
      exact this
    · have h3 : ¬ 1 < rest := by have := of_decide_eq_false h2; omega
      rw [if_neg h3] at d1
      simp only [if_neg h3] at d2
      exact hP _ d1 d2
/-! ### what the law forbids -/
theorem forb_uniq {k m : Nat} {d e : D} (h : Forb k m d) (g : Forb k m e) : d = e := by
  cases h with
  | root h1 h2 => cases g with
    | root g1 g2 => rw [root_uniq (Nat.le_of_lt h1) h2 (Nat.le_of_lt g1) g2]
  | prime h => cases g with
    | prime g => cases h.uniq g; rfl
  | seven h h7 => cases g with
    | seven g g7 =>
      rename_i a b c d
      have key : ∀ (a c b d : Nat), b % 4 ≠ 0 → d % 4 ≠ 0 → 4 ^ a * b = 4 ^ c * d → a = c ∧ b = d := by
        intro a
        induction a with
        | zero =>
          intro c b d hb hd e
          cases c with
          | zero => exact ⟨rfl, by omega⟩
          | succ c =>
            rw [Nat.pow_succ] at e
            have : 4 ^ c * 4 * d = 4 * (4 ^ c * d) := by grind
            omega
        | succ a ih =>
          intro c b d hb hd e
          cases c with
          | zero =>
            rw [Nat.pow_succ] at e
            have : 4 ^ a * 4 * b = 4 * (4 ^ a * b) := by grind
            omega
          | succ c =>
            rw [Nat.pow_succ, Nat.pow_succ] at e
            have h1 : 4 ^ a * 4 * b = 4 * (4 ^ a * b) := by grind
            have h2 : 4 ^ c * 4 * d = 4 * (4 ^ c * d) := by grind
            obtain ⟨e1, e2⟩ := ih c b d hb hd (by omega)
            exact ⟨by rw [e1], e2⟩
      obtain ⟨e1, e2⟩ := key a c b d h.2 g.2 (h.1.symm.trans g.1)
      rw [e1, e2]
theorem sp__law_forbids : ∀ args P W, args.length = 2 → F__law_forbids args P W → d__law_forbids W ⟨fun _ => P .non, fun d ρ => P (retD ρ d), fun _ => False, fun _ => False⟩ (startD 8 args) := by
  rintro args P W _ ⟨k, m, rfl, k1, k4, hm, hF, hN⟩
  simp only [dC_e, dVar_e, dOwn_e, dOp_e, dUn_e, dNil_e, dCons_e, dTup_e, dLst_e, dCB_e, dCall_e, dCallB_e, dSeq_e, dNext_e, dBreak_e, dCont_e, dDrop_e, dRet_e, dRetN_e, dIfS_e, dSet_e, dSetO_e, dAug_e, dRaise_e, dApp_e, dAsg_e, dPar_e, dPar3_e, dPar_vvo_e, dgName_e, dgTup_e, dgCons_e, dgNil_e, dTest_e, dAnd_e, dOr_e, dNot_e, dYes_e, dIf_e, dAndV_e, dOrV_e, dNotV_e, dIsi_e, dBits_e, dTuple_e, dSeqI_e, dChain_e, i2_e, i2'_e, u1_e, eqP_int, neP_int, addP_int, addP_tup, addP_lst, lenP_lst, lenP_tup, lenP_scr, absP_int, intP_int, isN_P, notN_P, isB2_P, tuple_lst, sel_t, sel_f, ixP_t0, ixP_t1, ixP_l0, ixP_l1, ixP_own0, ixP_own1, startD, List.map_cons, List.map_nil, List.length_cons, List.length_nil, List.cons_append, List.nil_append, List.getElem?_cons_zero, List.getElem?_cons_succ, List.set_cons_zero, List.set_cons_succ, Nat.reduceAdd, Nat.reduceSub, List.replicate_succ, List.replicate_zero, Option.some.injEq, d__law_forbids]
  have hk4 : k = 1 ∨ k = 2 ∨ k = 3 ∨ k = 4 := by omega
  have last : k = 3 ∨ k = 4 → dSeq (dWhile (dAnd (dTest (dOp gtP (dVar 7) (dC (.int 0)))) (dTest (dOp eqP (dOp modP (dVar 7) (dC (.int 4))) (dC (.int 0)))))
      (dPar 6 7 (dCons (dOp addP (dVar 6) (dC (.int 1))) (dCons (dOp divP (dVar 7) (dC (.int 4))) dNil))))
      (dRet (dIf (dAnd (dTest (dOp eqP (dVar 0) (dC (.int 3)))) (dTest (dOp eqP (dOp modP (dVar 7) (dC (.int 8))) (dC (.int 7))))) (dTup (dCons (dC (.str "seven")) (dCons (dTup (dCons (dVar 6) (dCons (dOp divP (dVar 7) (dC (.int 8))) dNil))) dNil))) (dC .non)))
      ⟨fun _ => P .non, fun d ρ => P (retD ρ d), fun _ => False, fun _ => False⟩ [some (.int k), some (.int m), none, none, none, none, some (.int 0), some (.int m)] := fun hk => by
    simp only [dC_e, dVar_e, dOwn_e, dOp_e, dUn_e, dNil_e, dCons_e, dTup_e, dLst_e, dCB_e, dCall_e, dCallB_e, dSeq_e, dNext_e, dBreak_e, dCont_e, dDrop_e, dRet_e, dRetN_e, dIfS_e, dSet_e, dSetO_e, dAug_e, dRaise_e, dApp_e, dAsg_e, dPar_e, dPar3_e, dPar_vvo_e, dgName_e, dgTup_e, dgCons_e, dgNil_e, dTest_e, dAnd_e, dOr_e, dNot_e, dYes_e, dIf_e, dAndV_e, dOrV_e, dNotV_e, dIsi_e, dBits_e, dTuple_e, dSeqI_e, dChain_e, i2_e, i2'_e, u1_e, eqP_int, neP_int, addP_int, addP_tup, addP_lst, lenP_lst, lenP_tup, lenP_scr, absP_int, intP_int, isN_P, notN_P, isB2_P, tuple_lst, sel_t, sel_f, ixP_t0, ixP_t1, ixP_l0, ixP_l1, ixP_own0, ixP_own1, startD, List.map_cons, List.map_nil, List.length_cons, List.length_nil, List.cons_append, List.nil_append, List.getElem?_cons_zero, List.getElem?_cons_succ, List.set_cons_zero, List.set_cons_succ, Nat.reduceAdd, Nat.reduceSub, List.replicate_succ, List.replicate_zero, Option.some.injEq]
    refine ⟨fun j ρ => ∃ a b : Nat, j = b ∧ b ≤ m ∧ m = 4 ^ a * b ∧ ρ = [some (.int k), some (.int m), none, none, none, none, some (.int a), some (.int b)], ⟨m, 0, m, rfl, Nat.le_refl _, by simp, rfl⟩, ?_⟩
    rintro j ρ1 ⟨a, b, rfl, bm, e, rfl⟩
    simp only [dC_e, dVar_e, dOwn_e, dOp_e, dUn_e, dNil_e, dCons_e, dTup_e, dLst_e, dCB_e, dCall_e, dCallB_e, dSeq_e, dNext_e, dBreak_e, dCont_e, dDrop_e, dRet_e, dRetN_e, dIfS_e, dSet_e, dSetO_e, dAug_e, dRaise_e, dApp_e, dAsg_e, dPar_e, dPar3_e, dPar_vvo_e, dgName_e, dgTup_e, dgCons_e, dgNil_e, dTest_e, dAnd_e, dOr_e, dNot_e, dYes_e, dIf_e, dAndV_e, dOrV_e, dNotV_e, dIsi_e, dBits_e, dTuple_e, dSeqI_e, dChain_e, i2_e, i2'_e, u1_e, eqP_int, neP_int, addP_int, addP_tup, addP_lst, lenP_lst, lenP_tup, lenP_scr, absP_int, intP_int, isN_P, notN_P, isB2_P, tuple_lst, sel_t, sel_f, ixP_t0, ixP_t1, ixP_l0, ixP_l1, ixP_own0, ixP_own1, startD, List.map_cons, List.map_nil, List.length_cons, List.length_nil, List.cons_append, List.nil_append, List.getElem?_cons_zero, List.getElem?_cons_succ, List.set_cons_zero, List.set_cons_succ, Nat.reduceAdd, Nat.reduceSub, List.replicate_succ, List.replicate_zero, Option.some.injEq]
    have stop : (0 < j → j % 4 ≠ 0) → sel (decide ((k : Int) = 3)) (0 < (8 : Int) ∧ sel (decide ((j : Int) % 8 = 7)) (PD.DivOk (j : Int) 8 ∧ P (.tup [.str "seven", .tup [.int a, .int ((j : Int) / 8)]])) (P .non)) (P .non) := fun hj => by
      have nof : (k = 3 → j % 8 ≠ 7) → ∀ d, ¬ Forb k m d := fun h8 d hd => by
        cases hd with
        | root _ _ => omega
        | prime _ => omega
        | seven hf h7 =>
          by_cases j0 : j = 0
          · subst j0
            rw [Nat.mul_zero] at e
            subst e
            rcases Nat.mul_eq_zero.mp hf.1.symm with z | z
            · exact absurd z (Nat.ne_of_gt (Nat.pow_pos (by decide)))
            · rw [z] at h7; cases h7
          · have hs : Sev m := (four_sev_iff hf).mpr h7
            have := (four_sev_iff (n := m) (a := a) (b := j) ⟨e, hj (by omega)⟩).mp hs
            exact h8 rfl this
      refine sel_of (fun h3 => ⟨by decide, sel_of (fun h7 => ?_) (fun h7 => ?_)⟩) (fun h3 => ?_)
      · have e3 : k = 3 := by have := of_decide_eq_true h3; omega
        have e7 : j % 8 = 7 := by have := of_decide_eq_true h7; omega
        subst e3
        refine ⟨divOk (by decide) (by decide), ?_⟩
        rw [show ((j : Int) / 8) = ((j / 8 : Nat) : Int) by omega]
        exact hF _ (.seven ⟨e, by omega⟩ e7)
      · have e7 : j % 8 ≠ 7 := by have := of_decide_eq_false h7; omega
        exact hN (nof fun _ => e7)
      · have e3 : k ≠ 3 := by have := of_decide_eq_false h3; omega
        exact hN (nof fun z => absurd z e3)
    refine sel_of (fun h => ⟨by decide, sel_of (fun h2 => ?_) (fun h2 => ?_)⟩) (fun h => ?_)
    · have h3 : j % 4 = 0 := by have := of_decide_eq_true h2; omega
      have h4 : 0 < j := by have := of_decide_eq_true h; omega
      obtain ⟨c, rfl⟩ := Nat.dvd_of_mod_eq_zero h3
      refine ⟨divOk (by decide) (by decide), c, by omega, a + 1, c, rfl, by omega, by rw [e]; grind, ?_⟩
      rw [show ((4 * c : Nat) : Int) / 4 = (c : Nat) by omega]; rfl
    · have h3 : j % 4 ≠ 0 := by have := of_decide_eq_false h2; omega
      exact stop fun _ => h3
    · have h4 : ¬ 0 < j := by have := of_decide_eq_false h; omega
      exact stop fun z => absurd z h4
  rcases hk4 with rfl | rfl | rfl | rfl
  · refine sel_y (by decide) ?_
    refine ⟨fun j ρ => ∃ r : Nat, j = m + 1 - r ∧ r * r ≤ m ∧ ρ = [some (.int (1 : Nat)), some (.int m), some (.int r), none, none, none, none, none], ⟨m + 1, 0, rfl, by omega, rfl⟩, ?_⟩
    rintro j ρ1 ⟨r, rfl, hr, rfl⟩
    have rm : r ≤ m := by
      by_cases h0 : r = 0
      · omega
      · exact Nat.le_trans (Nat.le_mul_of_pos_left r (by omega)) hr
    simp only [dC_e, dVar_e, dOwn_e, dOp_e, dUn_e, dNil_e, dCons_e, dTup_e, dLst_e, dCB_e, dCall_e, dCallB_e, dSeq_e, dNext_e, dBreak_e, dCont_e, dDrop_e, dRet_e, dRetN_e, dIfS_e, dSet_e, dSetO_e, dAug_e, dRaise_e, dApp_e, dAsg_e, dPar_e, dPar3_e, dPar_vvo_e, dgName_e, dgTup_e, dgCons_e, dgNil_e, dTest_e, dAnd_e, dOr_e, dNot_e, dYes_e, dIf_e, dAndV_e, dOrV_e, dNotV_e, dIsi_e, dBits_e, dTuple_e, dSeqI_e, dChain_e, i2_e, i2'_e, u1_e, eqP_int, neP_int, addP_int, addP_tup, addP_lst, lenP_lst, lenP_tup, lenP_scr, absP_int, intP_int, isN_P, notN_P, isB2_P, tuple_lst, sel_t, sel_f, ixP_t0, ixP_t1, ixP_l0, ixP_l1, ixP_own0, ixP_own1, startD, List.map_cons, List.map_nil, List.length_cons, List.length_nil, List.cons_append, List.nil_append, List.getElem?_cons_zero, List.getElem?_cons_succ, List.set_cons_zero, List.set_cons_succ, Nat.reduceAdd, Nat.reduceSub, List.replicate_succ, List.replicate_zero, Option.some.injEq]
    refine ⟨mulOk (by omega) (by omega), sel_of (fun h => ?_) (fun h => ?_)⟩
    · have h2 : (r + 1) * (r + 1) ≤ m := by
        have := of_decide_eq_true h
        exact_mod_cast this
      have h3 : r + 1 ≤ (r + 1) * (r + 1) := Nat.le_mul_of_pos_left _ (by omega)
      exact ⟨m + 1 - (r + 1), by omega, r + 1, rfl, h2, rfl⟩
    · have h2 : m < (r + 1) * (r + 1) := by
        have := of_decide_eq_false h
        have h3 : ¬ ((r + 1) * (r + 1) ≤ m) := fun z => this (by exact_mod_cast z)
        omega
      refine ⟨mulOk (by omega) (by omega), sel_of (fun h4 => ?_) (fun h4 => ?_)⟩
      · have e : r * r = m := by
          have := of_decide_eq_true h4
          exact_mod_cast this
        refine hN fun d hd => ?_
        cases hd with
        | root g1 g2 =>
          have := root_uniq hr h2 (Nat.le_of_lt g1) g2
          subst this
          omega
      · have e : r * r ≠ m := fun z => by
          have := of_decide_eq_false h4
          exact this (by exact_mod_cast z)
        exact hF _ (.root (by omega) h2)
  · refine sel_n (by decide) (sel_y (by decide) ?_)
    simp only [dC_e, dVar_e, dOwn_e, dOp_e, dUn_e, dNil_e, dCons_e, dTup_e, dLst_e, dCB_e, dCall_e, dCallB_e, dSeq_e, dNext_e, dBreak_e, dCont_e, dDrop_e, dRet_e, dRetN_e, dIfS_e, dSet_e, dSetO_e, dAug_e, dRaise_e, dApp_e, dAsg_e, dPar_e, dPar3_e, dPar_vvo_e, dgName_e, dgTup_e, dgCons_e, dgNil_e, dTest_e, dAnd_e, dOr_e, dNot_e, dYes_e, dIf_e, dAndV_e, dOrV_e, dNotV_e, dIsi_e, dBits_e, dTuple_e, dSeqI_e, dChain_e, i2_e, i2'_e, u1_e, eqP_int, neP_int, addP_int, addP_tup, addP_lst, lenP_lst, lenP_tup, lenP_scr, absP_int, intP_int, isN_P, notN_P, isB2_P, tuple_lst, sel_t, sel_f, ixP_t0, ixP_t1, ixP_l0, ixP_l1, ixP_own0, ixP_own1, startD, List.map_cons, List.map_nil, List.length_cons, List.length_nil, List.cons_append, List.nil_append, List.getElem?_cons_zero, List.getElem?_cons_succ, List.set_cons_zero, List.set_cons_succ, Nat.reduceAdd, Nat.reduceSub, List.replicate_succ, List.replicate_zero, Option.some.injEq, dFor]
    refine sel_of (fun h => ?_) (fun h => ?_)
    · have m0 : 1 ≤ m := by have := of_decide_eq_true h; omega
      refine ⟨m, rfl, m0, hm, fun l hl hmem => ?_⟩
      unfold ndl
      simp only [dC_e, dVar_e, dOwn_e, dOp_e, dUn_e, dNil_e, dCons_e, dTup_e, dLst_e, dCB_e, dCall_e, dCallB_e, dSeq_e, dNext_e, dBreak_e, dCont_e, dDrop_e, dRet_e, dRetN_e, dIfS_e, dSet_e, dSetO_e, dAug_e, dRaise_e, dApp_e, dAsg_e, dPar_e, dPar3_e, dPar_vvo_e, dgName_e, dgTup_e, dgCons_e, dgNil_e, dTest_e, dAnd_e, dOr_e, dNot_e, dYes_e, dIf_e, dAndV_e, dOrV_e, dNotV_e, dIsi_e, dBits_e, dTuple_e, dSeqI_e, dChain_e, i2_e, i2'_e, u1_e, eqP_int, neP_int, addP_int, addP_tup, addP_lst, lenP_lst, lenP_tup, lenP_scr, absP_int, intP_int, isN_P, notN_P, isB2_P, tuple_lst, sel_t, sel_f, ixP_t0, ixP_t1, ixP_l0, ixP_l1, ixP_own0, ixP_own1, startD, List.map_cons, List.map_nil, List.length_cons, List.length_nil, List.cons_append, List.nil_append, List.getElem?_cons_zero, List.getElem?_cons_succ, List.set_cons_zero, List.set_cons_succ, Nat.reduceAdd, Nat.reduceSub, List.replicate_succ, List.replicate_zero, Option.some.injEq]
      refine ⟨fun i ρ => ∃ o3 o4 o5, ρ = [some (.int (2 : Nat)), some (.int m), none, o3, o4, o5, none, none] ∧ ∀ j y, j < i → l[j]? = some y → ¬ (y % 4 = 3 ∧ OddV y m), ⟨none, none, none, rfl, fun j y hj => by omega⟩, ?_, ?_⟩
      · rintro i d ρ2 hi ⟨o3, o4, o5, rfl, hb⟩
        rw [List.getElem?_map] at hi
        cases hx : l[i]? with
        | none => rw [hx] at hi; cases hi
        | some x =>
          rw [hx] at hi
          have ed : D.int x = d := Option.some.inj hi
          subst ed
          obtain ⟨px, dx⟩ := (hmem x).mp (List.mem_of_getElem? hx)
          have x2 := px.1
          have xm := Nat.le_of_dvd m0 dx
          simp only [dC_e, dVar_e, dOwn_e, dOp_e, dUn_e, dNil_e, dCons_e, dTup_e, dLst_e, dCB_e, dCall_e, dCallB_e, dSeq_e, dNext_e, dBreak_e, dCont_e, dDrop_e, dRet_e, dRetN_e, dIfS_e, dSet_e, dSetO_e, dAug_e, dRaise_e, dApp_e, dAsg_e, dPar_e, dPar3_e, dPar_vvo_e, dgName_e, dgTup_e, dgCons_e, dgNil_e, dTest_e, dAnd_e, dOr_e, dNot_e, dYes_e, dIf_e, dAndV_e, dOrV_e, dNotV_e, dIsi_e, dBits_e, dTuple_e, dSeqI_e, dChain_e, i2_e, i2'_e, u1_e, eqP_int, neP_int, addP_int, addP_tup, addP_lst, lenP_lst, lenP_tup, lenP_scr, absP_int, intP_int, isN_P, notN_P, isB2_P, tuple_lst, sel_t, sel_f, ixP_t0, ixP_t1, ixP_l0, ixP_l1, ixP_own0, ixP_own1, startD, List.map_cons, List.map_nil, List.length_cons, List.length_nil, List.cons_append, List.nil_append, List.getElem?_cons_zero, List.getElem?_cons_succ, List.set_cons_zero, List.set_cons_succ, Nat.reduceAdd, Nat.reduceSub, List.replicate_succ, List.replicate_zero, Option.some.injEq]
          refine ⟨fun j ρ => ∃ r e : Nat, j = r ∧ 1 ≤ r ∧ r ≤ m ∧ m = r * x ^ e ∧ ρ = [some (.int (2 : Nat)), some (.int m), none, some (.int x), some (.int e), some (.int r), none, none], ⟨m, m, 0, rfl, m0, Nat.le_refl _, by simp, rfl⟩, ?_⟩
          rintro j ρ3 ⟨r, e, rfl, r1, rm, er, rfl⟩
          simp only [dC_e, dVar_e, dOwn_e, dOp_e, dUn_e, dNil_e, dCons_e, dTup_e, dLst_e, dCB_e, dCall_e, dCallB_e, dSeq_e, dNext_e, dBreak_e, dCont_e, dDrop_e, dRet_e, dRetN_e, dIfS_e, dSet_e, dSetO_e, dAug_e, dRaise_e, dApp_e, dAsg_e, dPar_e, dPar3_e, dPar_vvo_e, dgName_e, dgTup_e, dgCons_e, dgNil_e, dTest_e, dAnd_e, dOr_e, dNot_e, dYes_e, dIf_e, dAndV_e, dOrV_e, dNotV_e, dIsi_e, dBits_e, dTuple_e, dSeqI_e, dChain_e, i2_e, i2'_e, u1_e, eqP_int, neP_int, addP_int, addP_tup, addP_lst, lenP_lst, lenP_tup, lenP_scr, absP_int, intP_int, isN_P, notN_P, isB2_P, tuple_lst, sel_t, sel_f, ixP_t0, ixP_t1, ixP_l0, ixP_l1, ixP_own0, ixP_own1, startD, List.map_cons, List.map_nil, List.length_cons, List.length_nil, List.cons_append, List.nil_append, List.getElem?_cons_zero, List.getElem?_cons_succ, List.set_cons_zero, List.set_cons_succ, Nat.reduceAdd, Nat.reduceSub, List.replicate_succ, List.replicate_zero, Option.some.injEq]
          refine ⟨by omega, sel_of (fun h2 => ?_) (fun h2 => ?_)⟩
          · have h3 : j % x = 0 := by
              have := of_decide_eq_true h2
              exact_mod_cast this
            obtain ⟨c, rfl⟩ := Nat.dvd_of_mod_eq_zero h3
            have c1 : 1 ≤ c := Nat.pos_of_ne_zero fun z => by subst z; simp at r1
            have c2 : 2 * c ≤ x * c := Nat.mul_le_mul_right c x2
            refine ⟨divOk (by omega) (by omega), c, by omega, c, e + 1, rfl, c1, by omega, by rw [er]; grind, ?_⟩
            have e1 : ((x * c : Nat) : Int) / (x : Int) = (c : Nat) := by
              rw [← Int.natCast_ediv, Nat.mul_div_cancel_left c (by omega)]
            rw [e1]; rfl
          · have h3 : ¬ x ∣ j := fun d => by
              have := of_decide_eq_false h2
              have h4 := Nat.mod_eq_zero_of_dvd d
              exact this (by exact_mod_cast h4)
            have ex : NT.Ex x m e := ⟨⟨j, by rw [er]; grind⟩, fun d => by
              rw [er, Nat.pow_succ, Nat.mul_comm j] at d
              exact h3 (Nat.dvd_of_mul_dvd_mul_left (Nat.pow_pos (by omega)) d)⟩
            have next : ¬ (x % 4 = 3 ∧ OddV x m) → ∃ o3 o4 o5, [some (D.int (2 : Nat)), some (D.int m), none, some (D.int x), some (D.int e), some (D.int j), none, none] = [some (D.int (2 : Nat)), some (D.int m), none, o3, o4, o5, none, none] ∧ ∀ j y, j < i + 1 → l[j]? = some y → ¬ (y % 4 = 3 ∧ OddV y m) := fun nb => ⟨_, _, _, rfl, fun j y hj hy => by
              by_cases h2 : j = i
              · subst h2
                rw [hx] at hy
                cases hy
                exact nb
              · exact hb j y (by omega) hy⟩
            refine ⟨by decide, sel_of (fun h4 => ⟨by decide, sel_of (fun h5 => ?_) (fun h5 => ?_)⟩) (fun h4 => ?_)⟩
            · have x3 : x % 4 = 3 := by have := of_decide_eq_true h4; omega
              have eo : e % 2 = 1 := by have := of_decide_eq_true h5; omega
              refine hF _ (.prime ⟨px, x3, ⟨e, eo, ex⟩, fun q hq pq q3 ho => ?_⟩)
              obtain ⟨j, hj, ej⟩ := List.getElem_of_mem ((hmem q).mpr ⟨pq, odd_dvd ho⟩)
              obtain ⟨hi', ei⟩ := List.getElem?_eq_some_iff.mp hx
              refine hb j q ?_ (by rw [List.getElem?_eq_getElem hj, ej]) ⟨q3, ho⟩
              refine Nat.lt_of_not_le fun hle => ?_
              by_cases hij : i = j
              · subst hij
                rw [ei] at ej
                omega
              · have := List.pairwise_iff_getElem.mp hl i j hi' hj (by omega)
                rw [ei, ej] at this
                omega
            · have eo : e % 2 ≠ 1 := by have := of_decide_eq_false h5; omega
              refine next fun z => ?_
              obtain ⟨f, hf, hx'⟩ := z.2
              have := hx'.uniq ex
              omega
            · have x3 : x % 4 ≠ 3 := by have := of_decide_eq_false h4; omega
              exact next fun z => x3 z.1
      · rintro ρ2 ⟨o3, o4, o5, rfl, hb⟩
        refine hN fun d hd => ?_
        cases hd with
        | prime h =>
          rename_i p
          obtain ⟨j, hj, ej⟩ := List.getElem_of_mem ((hmem p).mpr ⟨h.1, odd_dvd h.2.2.1⟩)
          exact hb j p (by rw [List.length_map]; exact hj) (by rw [List.getElem?_eq_getElem hj, ej]) ⟨h.2.1, h.2.2.1⟩
    · have m0 : m = 0 := by have := of_decide_eq_false h; omega
      subst m0
      refine ⟨fun i ρ => True, trivial, fun i d ρ2 hi _ => by simp at hi, fun ρ2 _ => hN fun d hd => ?_⟩
      cases hd with
      | prime h => exact good_zero _ h.1 h.2.1 h.2.2.1
  · exact sel_n (by decide) (sel_n (by decide) (last (.inl rfl)))
  · exact sel_n (by decide) (sel_n (by decide) (last (.inr rfl)))
end K07

end
section
set_option Elab.async false
set_option linter.all false
set_option maxRecDepth 100000
/-! k07: what is read is as it was -/
namespace K07
open PySem L2 PD NT

theorem rdNs_get {n : Nat} : ∀ {xs : List D} {i : Nat} {d : D}, rdNs n xs = true → xs[i]? = some d → rdN n d = true
  | [], _, _, _, h => by simp at h
  | x :: xs, 0, d, o, h => by
    rw [rdNs, Bool.and_eq_true] at o
    simp at h
    exact h ▸ o.1
  | x :: xs, i + 1, d, o, h => by
    rw [rdNs, Bool.and_eq_true] at o
    exact rdNs_get o.2 (by simpa using h)
theorem take_snoc {α : Type} {xs : List α} {i : Nat} {d : α} (h : xs[i]? = some d) : xs.take (i + 1) = xs.take i ++ [d] := by
  rw [List.take_add_one, h]; rfl
theorem size_big : 16777215 < sizeLine := by decide
/-- a row that is read, one after another -/
theorem read_row {n : Nat} {xs : List D} {x0 : D} {Q : D → PD.Env → Prop} (hl : xs.length ≤ 100000) (ho : rdNs n xs = true) (hQ : Q (.lst xs) [some x0, none, none]) :
    ∃ W : Nat → List D → PD.Env → Prop, W 0 [] [some x0, none, none] ∧
      (∀ i d acc ρ2, xs[i]? = some d → W i acc ρ2 → dgName 2 d (wipeD ρ2 [2]) fun ρ3 => dYes ρ3 fun k ρ4 =>
        sel k ((dCall (readN n) noX (dCons (dVar 2) dNil)) ρ4 fun y ρ5 => acc.length < sizeLine ∧ W (i + 1) (acc ++ [y]) (backD [2] ρ2 ρ5)) (W (i + 1) acc (backD [2] ρ2 ρ4))) ∧ ∀ acc ρ2, W xs.length acc ρ2 → Q (.lst acc) ρ2 := by
  refine ⟨fun i acc ρ => ρ = [some x0, none, none] ∧ acc = xs.take i, ⟨rfl, rfl⟩, ?_, ?_⟩
  · rintro i d acc ρ2 hi ⟨rfl, rfl⟩
    refine ⟨d, rfl, rdNs_get ho hi, ?_, rfl, (take_snoc hi).symm⟩
    have := size_big
    rw [List.length_take]
    omega
  · rintro acc ρ2 ⟨rfl, rfl⟩
    rw [List.take_length]
    exact hQ
theorem read_step {n : Nat} : ∀ args P W, args.length = 1 → readN (n + 1) args P W → d__law_read (readN n) W ⟨fun _ => P .non, fun d ρ => P (retD ρ d), fun _ => False, fun _ => False⟩ (startD 3 args) := by
  rintro args P W _ ⟨d, rfl, ho, hP⟩
  simp only [dC_e, dVar_e, dOwn_e, dOp_e, dUn_e, dNil_e, dCons_e, dTup_e, dLst_e, dCB_e, dCall_e, dCallB_e, dSeq_e, dNext_e, dBreak_e, dCont_e, dDrop_e, dRet_e, dRetN_e, dIfS_e, dSet_e, dSetO_e, dAug_e, dRaise_e, dApp_e, dAsg_e, dPar_e, dPar3_e, dPar_vvo_e, dgName_e, dgTup_e, dgCons_e, dgNil_e, dTest_e, dAnd_e, dOr_e, dNot_e, dYes_e, dIf_e, dAndV_e, dOrV_e, dNotV_e, dIsi_e, dBits_e, dTuple_e, dSeqI_e, dChain_e, i2_e, i2'_e, u1_e, eqP_int, neP_int, addP_int, addP_tup, addP_lst, lenP_lst, lenP_tup, lenP_scr, absP_int, intP_int, isN_P, notN_P, isB2_P, tuple_lst, sel_t, sel_f, ixP_t0, ixP_t1, ixP_l0, ixP_l1, ixP_own0, ixP_own1, startD, List.map_cons, List.map_nil, List.length_cons, List.length_nil, List.cons_append, List.nil_append, List.getElem?_cons_zero, List.getElem?_cons_succ, List.set_cons_zero, List.set_cons_succ, Nat.reduceAdd, Nat.reduceSub, List.replicate_succ, List.replicate_zero, Option.some.injEq, d__law_read]
  cases d with
  | non => exact hP
  | bl b => cases b <;> exact hP
  | int i => exact ⟨rfl, hP⟩
  | str s =>
    rw [rdN] at ho
    have hs : s.length ≤ 1000 := of_decide_eq_true ho
    refine ⟨rfl, rfl, ?_⟩
    obtain ⟨ys, e1, e2, e3⟩ := signs_join s
    have hb := size_big
    have hl : (signs s).length = s.length := by unfold signs; rw [List.length_map, Array.length_toList]; rfl
    refine ⟨fun i acc ρ => ρ = [some (.str s), none, none] ∧ acc = (signs s).take i, ⟨rfl, rfl⟩, ?_, ?_⟩
    · rintro i d acc ρ2 hi ⟨rfl, rfl⟩
      exact ⟨by rw [List.length_take]; omega, rfl, (take_snoc hi).symm⟩
    · rintro acc ρ2 ⟨rfl, rfl⟩
      rw [List.take_length]
      exact ⟨ys, e1, by omega, by rw [e2]; exact hP⟩
  | tup xs =>
    rw [rdN, Bool.and_eq_true] at ho
    refine ⟨rfl, rfl, rfl, ?_⟩
    exact read_row (Q := fun d ρ1 => tupleP ρ1 d fun z => P (retD ρ1 z)) (of_decide_eq_true ho.1) ho.2 hP
  | lst xs =>
    rw [rdN, Bool.and_eq_true] at ho
    refine ⟨rfl, rfl, rfl, rfl, ?_⟩
    exact read_row (Q := fun d ρ1 => P (retD ρ1 d)) (of_decide_eq_true ho.1) ho.2 hP
  | fn a => rw [rdN] at ho; cases ho
  | own a => rw [rdN] at ho; cases ho
  | dct a b => rw [rdN] at ho; cases ho
  | scr a => rw [rdN] at ho; cases ho
theorem read_zero : ∀ args P W, args.length = 1 → readN 0 args P W → d__law_read (fun _ _ _ => False) W ⟨fun _ => P .non, fun d ρ => P (retD ρ d), fun _ => False, fun _ => False⟩ (startD 3 args) := by
  rintro args P W _ ⟨d, rfl, ho, hP⟩
  simp only [dC_e, dVar_e, dOwn_e, dOp_e, dUn_e, dNil_e, dCons_e, dTup_e, dLst_e, dCB_e, dCall_e, dCallB_e, dSeq_e, dNext_e, dBreak_e, dCont_e, dDrop_e, dRet_e, dRetN_e, dIfS_e, dSet_e, dSetO_e, dAug_e, dRaise_e, dApp_e, dAsg_e, dPar_e, dPar3_e, dPar_vvo_e, dgName_e, dgTup_e, dgCons_e, dgNil_e, dTest_e, dAnd_e, dOr_e, dNot_e, dYes_e, dIf_e, dAndV_e, dOrV_e, dNotV_e, dIsi_e, dBits_e, dTuple_e, dSeqI_e, dChain_e, i2_e, i2'_e, u1_e, eqP_int, neP_int, addP_int, addP_tup, addP_lst, lenP_lst, lenP_tup, lenP_scr, absP_int, intP_int, isN_P, notN_P, isB2_P, tuple_lst, sel_t, sel_f, ixP_t0, ixP_t1, ixP_l0, ixP_l1, ixP_own0, ixP_own1, startD, List.map_cons, List.map_nil, List.length_cons, List.length_nil, List.cons_append, List.nil_append, List.getElem?_cons_zero, List.getElem?_cons_succ, List.set_cons_zero, List.set_cons_succ, Nat.reduceAdd, Nat.reduceSub, List.replicate_succ, List.replicate_zero, Option.some.injEq, d__law_read]
  cases d with
  | non => exact hP
  | bl b => cases b <;> exact hP
  | int i => exact ⟨rfl, hP⟩
  | str s =>
    rw [rdN] at ho
    have hs : s.length ≤ 1000 := of_decide_eq_true ho
    refine ⟨rfl, rfl, ?_⟩
    obtain ⟨ys, e1, e2, e3⟩ := signs_join s
    have hb := size_big
    have hl : (signs s).length = s.length := by unfold signs; rw [List.length_map, Array.length_toList]; rfl
    refine ⟨fun i acc ρ => ρ = [some (.str s), none, none] ∧ acc = (signs s).take i, ⟨rfl, rfl⟩, ?_, ?_⟩
    · rintro i d acc ρ2 hi ⟨rfl, rfl⟩
      exact ⟨by rw [List.length_take]; omega, rfl, (take_snoc hi).symm⟩
    · rintro acc ρ2 ⟨rfl, rfl⟩
      rw [List.take_length]
      exact ⟨ys, e1, by omega, by rw [e2]; exact hP⟩
  | _ => rw [rdN] at ho; cases ho
end K07

end
section
set_option Elab.async false
set_option linter.all false
set_option maxRecDepth 100000
/-! k07: whether what is told is a tuple of squares -/
namespace K07
open PySem L2 PD NT

/-- what is no number from zero on -/
def negD : D → Bool
  | .int i => decide (i < 0)
  | _ => true
theorem ints_of : ∀ {xs : List D} {l : List Int}, ints? xs = some l → xs = l.map D.int
  | [], l, h => by
    rw [ints?] at h
    obtain rfl := Option.some.inj h
    rfl
  | x :: xs, l, h => by
    cases x with
    | int i =>
      rw [ints?] at h
      obtain ⟨r, e, rfl⟩ := Option.map_eq_some_iff.mp h
      rw [ints_of e, List.map_cons]
    | _ => rw [ints?] at h <;> first | cases h | (intro _ z; cases z)
theorem ints_map : ∀ l : List Int, ints? (l.map D.int) = some l
  | [] => rfl
  | x :: l => by rw [List.map_cons, ints?, ints_map l]; rfl
theorem neg_none : ∀ {xs : List D}, xs.filter negD = [] → ∃ l : List Int, xs = l.map D.int ∧ ∀ i ∈ l, 0 ≤ i
  | [], _ => ⟨[], rfl, fun _ h => by cases h⟩
  | x :: xs, h => by
    rw [List.filter_cons] at h
    split at h
    · cases h
    · rename_i hx
      obtain ⟨l, rfl, hl⟩ := neg_none h
      cases x with
      | int i =>
        refine ⟨i :: l, rfl, fun j hj => ?_⟩
        rcases List.mem_cons.mp hj with rfl | hj
        · unfold negD at hx; simp at hx; exact hx
        · exact hl j hj
      | _ => exact absurd rfl hx
theorem isSq_nt {k m : Int} {d : D} (h : isTup d = false) : isSq k m d = false := by
  cases d with
  | tup xs => cases h
  | _ => rfl
theorem isSq_ints {k m : Int} {l : List Int} : isSq k m (.tup (l.map D.int)) = (decide (l.length = k) && l.all (fun i => decide (0 ≤ i)) && decide (l.Pairwise (· ≤ ·)) && decide ((l.map fun i => i * i).sum = m)) := by
  unfold isSq
  simp only [ints_map]
theorem isSq_len {k m : Int} {xs : List D} (h : (xs.length : Int) ≠ k) : isSq k m (.tup xs) = false := by
  unfold isSq
  simp only
  cases e : ints? xs with
  | none => rfl
  | some l =>
    have := ints_of e
    subst this
    rw [List.length_map] at h
    simp only [decide_eq_false h, Bool.false_and]
theorem isSq_neg {k m : Int} {xs : List D} (h : xs.filter negD ≠ []) : isSq k m (.tup xs) = false := by
  unfold isSq
  simp only
  cases e : ints? xs with
  | none => rfl
  | some l =>
    have := ints_of e
    subst this
    have hn : (l.all fun i => decide (0 ≤ i)) = false := by
      cases e2 : l.all fun i => decide (0 ≤ i) with
      | false => rfl
      | true =>
        exfalso
        apply h
        rw [List.filter_eq_nil_iff]
        intro d hd
        obtain ⟨i, hi, rfl⟩ := List.mem_map.mp hd
        have := of_decide_eq_true (List.all_eq_true.mp e2 i hi)
        unfold negD
        simp
        exact this
    simp only [hn, Bool.and_false, Bool.false_and]
theorem filt_snoc {α : Type} {p : α → Bool} {xs : List α} {i : Nat} {d : α} (h : xs[i]? = some d) : (xs.take (i + 1)).filter p = if p d then (xs.take i).filter p ++ [d] else (xs.take i).filter p := by
  rw [take_snoc h, List.filter_append, List.filter_cons]
  split <;> simp
theorem eqDs_ints : ∀ a b : List Int, eqDs (a.map D.int) (b.map D.int) = decide (a = b)
  | [], [] => rfl
  | [], _ :: _ => by simp [eqDs]
  | _ :: _, [] => by simp [eqDs]
  | x :: a, y :: b => by
    rw [List.map_cons, List.map_cons, eqDs, eqD_int, eqDs_ints a b]
    by_cases h1 : x = y <;> by_cases h2 : a = b <;> simp [h1, h2]
theorem eqP_ints {ρ : PD.Env} {a b : List Int} {k : D → Prop} : eqP ρ (.lst (a.map D.int)) (.lst (b.map D.int)) k = k (.bl (decide (a = b))) := by
  unfold eqP deref
  simp only [okN, okNs_ints, true_and, eqD_lst, eqDs_ints]
theorem listP_tup {ρ : PD.Env} {xs : List D} {k : D → Prop} : listP ρ [.tup xs] k = k (.lst xs) := rfl
theorem sumP_ints {ρ : PD.Env} {l : List Int} {k : D → Prop} (h : k (.int l.sum)) : sumP ρ [.lst (l.map D.int)] k := ⟨l, rfl, h⟩
/-- the squares, one after another -/
theorem sq_row {l : List Int} {x0 x1 : D} {r : PD.Env} {Q : D → PD.Env → Prop} (hl : l.length ≤ 10) (hb : ∀ i ∈ l, i.natAbs < 2 ^ 60) (hQ : Q (.lst ((l.map fun i => i * i).map D.int)) (some x0 :: some x1 :: some (.tup (l.map D.int)) :: none :: r)) :
    dLc (dSeqI (dVar 2)) (dgName 3) dYes (dOp mulP (dVar 3) (dVar 3)) [3] (some x0 :: some x1 :: some (.tup (l.map D.int)) :: none :: r) Q := by
  simp only [dC_e, dVar_e, dOwn_e, dOp_e, dUn_e, dNil_e, dCons_e, dTup_e, dLst_e, dCB_e, dCall_e, dCallB_e, dSeq_e, dNext_e, dBreak_e, dCont_e, dDrop_e, dRet_e, dRetN_e, dIfS_e, dSet_e, dSetO_e, dAug_e, dRaise_e, dApp_e, dAsg_e, dPar_e, dPar3_e, dPar_vvo_e, dgName_e, dgTup_e, dgCons_e, dgNil_e, dTest_e, dAnd_e, dOr_e, dNot_e, dYes_e, dIf_e, dAndV_e, dOrV_e, dNotV_e, dIsi_e, dBits_e, dTuple_e, dSeqI_e, dChain_e, i2_e, i2'_e, u1_e, eqP_int, neP_int, addP_int, addP_tup, addP_lst, lenP_lst, lenP_tup, lenP_scr, absP_int, intP_int, isN_P, notN_P, isB2_P, tuple_lst, sel_t, sel_f, ixP_t0, ixP_t1, ixP_l0, ixP_l1, ixP_own0, ixP_own1, startD, List.map_cons, List.map_nil, List.length_cons, List.length_nil, List.cons_append, List.nil_append, List.getElem?_cons_zero, List.getElem?_cons_succ, List.set_cons_zero, List.set_cons_succ, Nat.reduceAdd, Nat.reduceSub, List.replicate_succ, List.replicate_zero, Option.some.injEq, dLc]
  refine ⟨fun i acc ρ => ρ = some x0 :: some x1 :: some (.tup (l.map D.int)) :: none :: r ∧ acc = ((l.take i).map fun i => i * i).map D.int, ⟨rfl, rfl⟩, ?_, ?_⟩
  · rintro i d acc ρ2 hi ⟨rfl, rfl⟩
    rw [List.getElem?_map] at hi
    obtain ⟨j, hj, rfl⟩ := Option.map_eq_some_iff.mp hi
    have hj' := hb j (List.mem_of_getElem? hj)
    have := size_big
    refine ⟨mulOk (by omega) (by omega), ?_, rfl, ?_⟩
    · rw [List.length_map, List.length_map, List.length_take]; omega
    · rw [take_snoc hj, List.map_append, List.map_append]; rfl
  · rintro acc ρ2 ⟨rfl, rfl⟩
    rw [List.length_map, List.take_length]
    exact hQ
theorem perm_asc {l l' : List Int} (hp : l'.Perm l) (hs : l'.Pairwise (· ≤ ·)) : decide (l' = l) = decide (l.Pairwise (· ≤ ·)) := by
  by_cases h : l.Pairwise (· ≤ ·)
  · have : l' = l := hp.eq_of_pairwise (fun a b _ _ h1 h2 => Int.le_antisymm h1 h2) hs h
    simp [this, h]
  · have : l' ≠ l := fun e => h (e ▸ hs)
    simp [this, h]
theorem sp__law_is_squares : ∀ args P W, args.length = 3 → F__law_is_squares args P W → d__law_is_squares W ⟨fun _ => P .non, fun d ρ => P (retD ρ d), fun _ => False, fun _ => False⟩ (startD 4 args) := by
  rintro args P W _ ⟨k, m, d, rfl, ⟨⟨ht, hb⟩, hx⟩, hP⟩
  simp only [dC_e, dVar_e, dOwn_e, dOp_e, dUn_e, dNil_e, dCons_e, dTup_e, dLst_e, dCB_e, dCall_e, dCallB_e, dSeq_e, dNext_e, dBreak_e, dCont_e, dDrop_e, dRet_e, dRetN_e, dIfS_e, dSet_e, dSetO_e, dAug_e, dRaise_e, dApp_e, dAsg_e, dPar_e, dPar3_e, dPar_vvo_e, dgName_e, dgTup_e, dgCons_e, dgNil_e, dTest_e, dAnd_e, dOr_e, dNot_e, dYes_e, dIf_e, dAndV_e, dOrV_e, dNotV_e, dIsi_e, dBits_e, dTuple_e, dSeqI_e, dChain_e, i2_e, i2'_e, u1_e, eqP_int, neP_int, addP_int, addP_tup, addP_lst, lenP_lst, lenP_tup, lenP_scr, absP_int, intP_int, isN_P, notN_P, isB2_P, tuple_lst, sel_t, sel_f, ixP_t0, ixP_t1, ixP_l0, ixP_l1, ixP_own0, ixP_own1, startD, List.map_cons, List.map_nil, List.length_cons, List.length_nil, List.cons_append, List.nil_append, List.getElem?_cons_zero, List.getElem?_cons_succ, List.set_cons_zero, List.set_cons_succ, Nat.reduceAdd, Nat.reduceSub, List.replicate_succ, List.replicate_zero, Option.some.injEq, d__law_is_squares]
  refine ⟨ht, ?_⟩
  cases d with
  | tup xs =>
    obtain ⟨hl, hx⟩ := hx xs rfl
    refine sel_n rfl ?_
    simp only [dC_e, dVar_e, dOwn_e, dOp_e, dUn_e, dNil_e, dCons_e, dTup_e, dLst_e, dCB_e, dCall_e, dCallB_e, dSeq_e, dNext_e, dBreak_e, dCont_e, dDrop_e, dRet_e, dRetN_e, dIfS_e, dSet_e, dSetO_e, dAug_e, dRaise_e, dApp_e, dAsg_e, dPar_e, dPar3_e, dPar_vvo_e, dgName_e, dgTup_e, dgCons_e, dgNil_e, dTest_e, dAnd_e, dOr_e, dNot_e, dYes_e, dIf_e, dAndV_e, dOrV_e, dNotV_e, dIsi_e, dBits_e, dTuple_e, dSeqI_e, dChain_e, i2_e, i2'_e, u1_e, eqP_int, neP_int, addP_int, addP_tup, addP_lst, lenP_lst, lenP_tup, lenP_scr, absP_int, intP_int, isN_P, notN_P, isB2_P, tuple_lst, sel_t, sel_f, ixP_t0, ixP_t1, ixP_l0, ixP_l1, ixP_own0, ixP_own1, startD, List.map_cons, List.map_nil, List.length_cons, List.length_nil, List.cons_append, List.nil_append, List.getElem?_cons_zero, List.getElem?_cons_succ, List.set_cons_zero, List.set_cons_succ, Nat.reduceAdd, Nat.reduceSub, List.replicate_succ, List.replicate_zero, Option.some.injEq]
    refine sel_of (fun h => ?_) fun h => ?_
    · have : ¬ ((xs.length : Int) = k) := by simpa using h
      rw [isSq_len this] at hP
      exact hP
    · have hk : (xs.length : Int) = k := by simpa using h
      simp only [dC_e, dVar_e, dOwn_e, dOp_e, dUn_e, dNil_e, dCons_e, dTup_e, dLst_e, dCB_e, dCall_e, dCallB_e, dSeq_e, dNext_e, dBreak_e, dCont_e, dDrop_e, dRet_e, dRetN_e, dIfS_e, dSet_e, dSetO_e, dAug_e, dRaise_e, dApp_e, dAsg_e, dPar_e, dPar3_e, dPar_vvo_e, dgName_e, dgTup_e, dgCons_e, dgNil_e, dTest_e, dAnd_e, dOr_e, dNot_e, dYes_e, dIf_e, dAndV_e, dOrV_e, dNotV_e, dIsi_e, dBits_e, dTuple_e, dSeqI_e, dChain_e, i2_e, i2'_e, u1_e, eqP_int, neP_int, addP_int, addP_tup, addP_lst, lenP_lst, lenP_tup, lenP_scr, absP_int, intP_int, isN_P, notN_P, isB2_P, tuple_lst, sel_t, sel_f, ixP_t0, ixP_t1, ixP_l0, ixP_l1, ixP_own0, ixP_own1, startD, List.map_cons, List.map_nil, List.length_cons, List.length_nil, List.cons_append, List.nil_append, List.getElem?_cons_zero, List.getElem?_cons_succ, List.set_cons_zero, List.set_cons_succ, Nat.reduceAdd, Nat.reduceSub, List.replicate_succ, List.replicate_zero, Option.some.injEq, dLc]
      refine ⟨fun i acc ρ => ρ = [some (.int k), some (.int m), some (.tup xs), none] ∧ acc = (xs.take i).filter negD, ⟨rfl, rfl⟩, ?_, ?_⟩
      · rintro i d acc ρ2 hi ⟨rfl, rfl⟩
        obtain ⟨⟨h1, h2⟩, -⟩ := hx d (List.mem_of_getElem? hi)
        have hz : ((xs.take i).filter negD).length < sizeLine := by
          have := size_big
          have h3 := List.length_filter_le negD (xs.take i)
          rw [List.length_take] at h3
          omega
        refine ⟨h1, ?_⟩
        cases d with
        | int j =>
          refine sel_n rfl (sel_of (fun h => ⟨hz, rfl, ?_⟩) fun h => ⟨rfl, ?_⟩)
          · rw [filt_snoc hi, if_pos (show negD (.int j) = true from h)]
          · rw [filt_snoc hi, if_neg (show ¬ negD (.int j) = true from fun z => Bool.noConfusion (h.symm.trans z))]
        | bl b => cases h2
        | _ => exact sel_y rfl ⟨hz, rfl, by rw [filt_snoc hi]; rfl⟩
      · rintro acc ρ2 ⟨rfl, rfl⟩
        rw [List.take_length]
        simp only [dC_e, dVar_e, dOwn_e, dOp_e, dUn_e, dNil_e, dCons_e, dTup_e, dLst_e, dCB_e, dCall_e, dCallB_e, dSeq_e, dNext_e, dBreak_e, dCont_e, dDrop_e, dRet_e, dRetN_e, dIfS_e, dSet_e, dSetO_e, dAug_e, dRaise_e, dApp_e, dAsg_e, dPar_e, dPar3_e, dPar_vvo_e, dgName_e, dgTup_e, dgCons_e, dgNil_e, dTest_e, dAnd_e, dOr_e, dNot_e, dYes_e, dIf_e, dAndV_e, dOrV_e, dNotV_e, dIsi_e, dBits_e, dTuple_e, dSeqI_e, dChain_e, i2_e, i2'_e, u1_e, eqP_int, neP_int, addP_int, addP_tup, addP_lst, lenP_lst, lenP_tup, lenP_scr, absP_int, intP_int, isN_P, notN_P, isB2_P, tuple_lst, sel_t, sel_f, ixP_t0, ixP_t1, ixP_l0, ixP_l1, ixP_own0, ixP_own1, startD, List.map_cons, List.map_nil, List.length_cons, List.length_nil, List.cons_append, List.nil_append, List.getElem?_cons_zero, List.getElem?_cons_succ, List.set_cons_zero, List.set_cons_succ, Nat.reduceAdd, Nat.reduceSub, List.replicate_succ, List.replicate_zero, Option.some.injEq]
        refine sel_of (fun h => ?_) fun h => ?_
        · have : xs.filter negD ≠ [] := fun z => by rw [z] at h; cases h
          rw [isSq_neg this] at hP
          exact hP
        · have : xs.filter negD = [] := by
            have := of_decide_eq_false h
            exact List.length_eq_zero_iff.mp (by omega)
          obtain ⟨l, rfl, h0⟩ := neg_none this
          rw [List.length_map] at hl hk
          have hbn : ∀ i ∈ l, i.natAbs < 2 ^ 60 := fun i hi => (hx _ (List.mem_map_of_mem hi)).2.2 i rfl
          have e3 : (l.all fun i => decide (0 ≤ i)) = true := List.all_eq_true.mpr fun i hi => decide_eq_true (h0 i hi)
          rw [isSq_ints, decide_eq_true hk, e3, Bool.true_and, Bool.true_and] at hP
          refine sorted_ints (.inr rfl) fun l' hp hs => ?_
          rw [listP_tup, eqP_ints, perm_asc hp hs]
          refine sel_of (fun h => ?_) fun h => ?_
          · rw [h, Bool.true_and] at hP
            refine sq_row (Q := fun d ρ1 => sumP ρ1 [d] fun z => dVar 1 ρ1 fun d ρ1 => eqP ρ1 z d fun z => P (retD ρ1 z)) hl hbn ?_
            refine sumP_ints ?_
            simp only [dC_e, dVar_e, dOwn_e, dOp_e, dUn_e, dNil_e, dCons_e, dTup_e, dLst_e, dCB_e, dCall_e, dCallB_e, dSeq_e, dNext_e, dBreak_e, dCont_e, dDrop_e, dRet_e, dRetN_e, dIfS_e, dSet_e, dSetO_e, dAug_e, dRaise_e, dApp_e, dAsg_e, dPar_e, dPar3_e, dPar_vvo_e, dgName_e, dgTup_e, dgCons_e, dgNil_e, dTest_e, dAnd_e, dOr_e, dNot_e, dYes_e, dIf_e, dAndV_e, dOrV_e, dNotV_e, dIsi_e, dBits_e, dTuple_e, dSeqI_e, dChain_e, i2_e, i2'_e, u1_e, eqP_int, neP_int, addP_int, addP_tup, addP_lst, lenP_lst, lenP_tup, lenP_scr, absP_int, intP_int, isN_P, notN_P, isB2_P, tuple_lst, sel_t, sel_f, ixP_t0, ixP_t1, ixP_l0, ixP_l1, ixP_own0, ixP_own1, startD, List.map_cons, List.map_nil, List.length_cons, List.length_nil, List.cons_append, List.nil_append, List.getElem?_cons_zero, List.getElem?_cons_succ, List.set_cons_zero, List.set_cons_succ, Nat.reduceAdd, Nat.reduceSub, List.replicate_succ, List.replicate_zero, Option.some.injEq]
            exact hP
          · rw [h, Bool.false_and] at hP
            exact hP
  | _ => exact sel_y rfl hP
theorem asc_of : ∀ {l : List Int}, (∀ j, j + 1 < l.length → l.getD j 0 ≤ l.getD (j + 1) 0) → l.Pairwise (· ≤ ·)
  | [], _ => .nil
  | [x], _ => by simp
  | x :: y :: l, h => by
    have ih : (y :: l).Pairwise (· ≤ ·) := asc_of fun j hj => h (j + 1) (by simpa using hj)
    have hxy : x ≤ y := h 0 (by simp)
    refine List.pairwise_cons.mpr ⟨fun z hz => ?_, ih⟩
    rcases List.mem_cons.mp hz with rfl | hz
    · exact hxy
    · exact Int.le_trans hxy ((List.pairwise_cons.mp ih).1 z hz)
theorem of_asc {l : List Int} (h : l.Pairwise (· ≤ ·)) (j : Nat) (hj : j + 1 < l.length) : l.getD j 0 ≤ l.getD (j + 1) 0 := by
  have := List.pairwise_iff_getElem.mp h j (j + 1) (by omega) hj (by omega)
  rw [List.getD_eq_getElem?_getD, List.getD_eq_getElem?_getD, List.getElem?_eq_getElem (by omega), List.getElem?_eq_getElem hj]
  exact this
def downs (l : List Int) (n : Nat) : List Bool := (List.range n).map fun j => decide (l.getD (j + 1) 0 < l.getD j 0)
theorem downs_any {l : List Int} : (downs l (l.length - 1)).any id = !decide (l.Pairwise (· ≤ ·)) := by
  by_cases h : l.Pairwise (· ≤ ·)
  · simp only [h, decide_true, Bool.not_true]
    rw [List.any_eq_false]
    intro b hb
    obtain ⟨j, hj, rfl⟩ := List.mem_map.mp hb
    have := of_asc h j (by have := List.mem_range.mp hj; omega)
    simp
    exact this
  · simp only [h, decide_false, Bool.not_false]
    rw [List.any_eq_true]
    refine Classical.byContradiction fun hn => h (asc_of fun j hj => ?_)
    refine Classical.byContradiction fun hlt => hn ⟨true, ?_, rfl⟩
    exact List.mem_map.mpr ⟨j, List.mem_range.mpr (by omega), decide_eq_true (by omega)⟩
theorem downs_snoc (l : List Int) (n : Nat) : downs l (n + 1) = downs l n ++ [decide (l.getD (n + 1) 0 < l.getD n 0)] := by
  unfold downs
  rw [List.range_succ, List.map_append]
  rfl
theorem allP_bls {ρ : PD.Env} {l : List Bool} {k : D → Prop} (h : k (.bl (l.all id))) : allP ρ [.lst (l.map D.bl)] k := ⟨l, rfl, h⟩
theorem anyP_bls {ρ : PD.Env} {l : List Bool} {k : D → Prop} (h : k (.bl (l.any id))) : anyP ρ [.lst (l.map D.bl)] k := ⟨l, rfl, h⟩
theorem get_int {l : List Int} {j : Nat} (h : j < l.length) : (l.map D.int)[j]? = some (.int (l.getD j 0)) := by
  rw [List.getElem?_map, List.getElem?_eq_getElem h, List.getD_eq_getElem?_getD, List.getElem?_eq_getElem h]
  rfl
theorem sp_is_squares : ∀ args P W, args.length = 3 → F_is_squares args P W → d_is_squares W ⟨fun _ => P .non, fun d ρ => P (retD ρ d), fun _ => False, fun _ => False⟩ (startD 5 args) := by
  rintro args P W _ ⟨k, m, d, rfl, pk, pm, ⟨⟨ht, hb⟩, hx⟩, hW, hP⟩
  simp only [dC_e, dVar_e, dOwn_e, dOp_e, dUn_e, dNil_e, dCons_e, dTup_e, dLst_e, dCB_e, dCall_e, dCallB_e, dSeq_e, dNext_e, dBreak_e, dCont_e, dDrop_e, dRet_e, dRetN_e, dIfS_e, dSet_e, dSetO_e, dAug_e, dRaise_e, dApp_e, dAsg_e, dPar_e, dPar3_e, dPar_vvo_e, dgName_e, dgTup_e, dgCons_e, dgNil_e, dTest_e, dAnd_e, dOr_e, dNot_e, dYes_e, dIf_e, dAndV_e, dOrV_e, dNotV_e, dIsi_e, dBits_e, dTuple_e, dSeqI_e, dChain_e, i2_e, i2'_e, u1_e, eqP_int, neP_int, addP_int, addP_tup, addP_lst, lenP_lst, lenP_tup, lenP_scr, absP_int, intP_int, isN_P, notN_P, isB2_P, tuple_lst, sel_t, sel_f, ixP_t0, ixP_t1, ixP_l0, ixP_l1, ixP_own0, ixP_own1, startD, List.map_cons, List.map_nil, List.length_cons, List.length_nil, List.cons_append, List.nil_append, List.getElem?_cons_zero, List.getElem?_cons_succ, List.set_cons_zero, List.set_cons_succ, Nat.reduceAdd, Nat.reduceSub, List.replicate_succ, List.replicate_zero, Option.some.injEq, d_is_squares]
  refine ⟨k, m, rfl, pk, pm, fun ok => ?_, hW⟩
  have h1 : numIn k 1 4 = true ∧ numIn m 0 1000000 = true := by
    unfold okKM at ok
    rwa [Bool.and_eq_true] at ok
  obtain ⟨kk, rfl, hk⟩ : ∃ kk : Int, k = .int kk ∧ 1 ≤ kk ∧ kk ≤ 4 := by
    cases k with
    | int i => exact ⟨i, rfl, of_decide_eq_true h1.1⟩
    | _ => exact absurd h1.1 (by simp [numIn])
  obtain ⟨mm, rfl, hm⟩ : ∃ mm : Int, m = .int mm ∧ 0 ≤ mm ∧ mm ≤ 1000000 := by
    cases m with
    | int i => exact ⟨i, rfl, of_decide_eq_true h1.2⟩
    | _ => exact absurd h1.2 (by simp [numIn])
  have hP := hP kk mm rfl rfl ok
  refine ⟨ht, ?_⟩
  cases d with
  | tup xs =>
    obtain ⟨hl, hx⟩ := hx xs rfl
    refine sel_n rfl ?_
    simp only [dC_e, dVar_e, dOwn_e, dOp_e, dUn_e, dNil_e, dCons_e, dTup_e, dLst_e, dCB_e, dCall_e, dCallB_e, dSeq_e, dNext_e, dBreak_e, dCont_e, dDrop_e, dRet_e, dRetN_e, dIfS_e, dSet_e, dSetO_e, dAug_e, dRaise_e, dApp_e, dAsg_e, dPar_e, dPar3_e, dPar_vvo_e, dgName_e, dgTup_e, dgCons_e, dgNil_e, dTest_e, dAnd_e, dOr_e, dNot_e, dYes_e, dIf_e, dAndV_e, dOrV_e, dNotV_e, dIsi_e, dBits_e, dTuple_e, dSeqI_e, dChain_e, i2_e, i2'_e, u1_e, eqP_int, neP_int, addP_int, addP_tup, addP_lst, lenP_lst, lenP_tup, lenP_scr, absP_int, intP_int, isN_P, notN_P, isB2_P, tuple_lst, sel_t, sel_f, ixP_t0, ixP_t1, ixP_l0, ixP_l1, ixP_own0, ixP_own1, startD, List.map_cons, List.map_nil, List.length_cons, List.length_nil, List.cons_append, List.nil_append, List.getElem?_cons_zero, List.getElem?_cons_succ, List.set_cons_zero, List.set_cons_succ, Nat.reduceAdd, Nat.reduceSub, List.replicate_succ, List.replicate_zero, Option.some.injEq]
    refine sel_of (fun h => ?_) fun h => ?_
    · have : ¬ ((xs.length : Int) = kk) := by simpa using h
      rw [isSq_len this] at hP
      exact hP
    · have hlk : (xs.length : Int) = kk := by simpa using h
      simp only [dC_e, dVar_e, dOwn_e, dOp_e, dUn_e, dNil_e, dCons_e, dTup_e, dLst_e, dCB_e, dCall_e, dCallB_e, dSeq_e, dNext_e, dBreak_e, dCont_e, dDrop_e, dRet_e, dRetN_e, dIfS_e, dSet_e, dSetO_e, dAug_e, dRaise_e, dApp_e, dAsg_e, dPar_e, dPar3_e, dPar_vvo_e, dgName_e, dgTup_e, dgCons_e, dgNil_e, dTest_e, dAnd_e, dOr_e, dNot_e, dYes_e, dIf_e, dAndV_e, dOrV_e, dNotV_e, dIsi_e, dBits_e, dTuple_e, dSeqI_e, dChain_e, i2_e, i2'_e, u1_e, eqP_int, neP_int, addP_int, addP_tup, addP_lst, lenP_lst, lenP_tup, lenP_scr, absP_int, intP_int, isN_P, notN_P, isB2_P, tuple_lst, sel_t, sel_f, ixP_t0, ixP_t1, ixP_l0, ixP_l1, ixP_own0, ixP_own1, startD, List.map_cons, List.map_nil, List.length_cons, List.length_nil, List.cons_append, List.nil_append, List.getElem?_cons_zero, List.getElem?_cons_succ, List.set_cons_zero, List.set_cons_succ, Nat.reduceAdd, Nat.reduceSub, List.replicate_succ, List.replicate_zero, Option.some.injEq, dLc]
      refine ⟨fun i acc ρ => ρ = [some (.int kk), some (.int mm), some (.tup xs), none, none] ∧ acc = ((xs.take i).map fun x => !negD x).map D.bl, ⟨rfl, rfl⟩, ?_, ?_⟩
      · rintro i d acc ρ2 hi ⟨rfl, rfl⟩
        obtain ⟨⟨h1, h2⟩, -⟩ := hx d (List.mem_of_getElem? hi)
        have hz : (((xs.take i).map fun x => !negD x).map D.bl).length < sizeLine := by
          have := size_big
          rw [List.length_map, List.length_map, List.length_take]
          omega
        refine ⟨h1, ?_⟩
        cases d with
        | int j =>
          refine sel_y rfl ⟨hz, rfl, ?_⟩
          rw [take_snoc hi, List.map_append, List.map_append]
          have : (!negD (.int j)) = decide (0 ≤ j) := by unfold negD; by_cases h : j < 0 <;> simp [h] <;> omega
          rw [List.map_cons, List.map_nil, List.map_cons, List.map_nil, this]
        | bl b => cases h2
        | _ =>
          refine sel_n rfl ⟨hz, rfl, ?_⟩
          rw [take_snoc hi, List.map_append, List.map_append]
          rfl
      · rintro acc ρ2 ⟨rfl, rfl⟩
        rw [List.take_length]
        refine allP_bls ?_
        simp only [dC_e, dVar_e, dOwn_e, dOp_e, dUn_e, dNil_e, dCons_e, dTup_e, dLst_e, dCB_e, dCall_e, dCallB_e, dSeq_e, dNext_e, dBreak_e, dCont_e, dDrop_e, dRet_e, dRetN_e, dIfS_e, dSet_e, dSetO_e, dAug_e, dRaise_e, dApp_e, dAsg_e, dPar_e, dPar3_e, dPar_vvo_e, dgName_e, dgTup_e, dgCons_e, dgNil_e, dTest_e, dAnd_e, dOr_e, dNot_e, dYes_e, dIf_e, dAndV_e, dOrV_e, dNotV_e, dIsi_e, dBits_e, dTuple_e, dSeqI_e, dChain_e, i2_e, i2'_e, u1_e, eqP_int, neP_int, addP_int, addP_tup, addP_lst, lenP_lst, lenP_tup, lenP_scr, absP_int, intP_int, isN_P, notN_P, isB2_P, tuple_lst, sel_t, sel_f, ixP_t0, ixP_t1, ixP_l0, ixP_l1, ixP_own0, ixP_own1, startD, List.map_cons, List.map_nil, List.length_cons, List.length_nil, List.cons_append, List.nil_append, List.getElem?_cons_zero, List.getElem?_cons_succ, List.set_cons_zero, List.set_cons_succ, Nat.reduceAdd, Nat.reduceSub, List.replicate_succ, List.replicate_zero, Option.some.injEq]
        refine sel_of (fun h => ?_) fun h => ?_
        · have : xs.filter negD ≠ [] := fun z => by
            have : (xs.map fun x => !negD x).all id = true := by
              rw [List.all_eq_true]
              intro b hb
              obtain ⟨x, hx, rfl⟩ := List.mem_map.mp hb
              have := List.filter_eq_nil_iff.mp z x hx
              simpa using this
            rw [this] at h
            cases h
          rw [isSq_neg this] at hP
          exact hP
        · have : xs.filter negD = [] := by
            rw [List.filter_eq_nil_iff]
            intro x hx hn
            have h' : (xs.map fun x => !negD x).all id = true := by simpa using h
            have := List.all_eq_true.mp h' _ (List.mem_map_of_mem hx)
            rw [hn] at this
            cases this
          obtain ⟨l, rfl, h0⟩ := neg_none this
          rw [List.length_map] at hl hlk
          have hbn : ∀ i ∈ l, i.natAbs < 2 ^ 60 := fun i hi => (hx _ (List.mem_map_of_mem hi)).2.2 i rfl
          have e3 : (l.all fun i => decide (0 ≤ i)) = true := List.all_eq_true.mpr fun i hi => decide_eq_true (h0 i hi)
          rw [isSq_ints, decide_eq_true hlk, e3, Bool.true_and, Bool.true_and] at hP
          simp only [dC_e, dVar_e, dOwn_e, dOp_e, dUn_e, dNil_e, dCons_e, dTup_e, dLst_e, dCB_e, dCall_e, dCallB_e, dSeq_e, dNext_e, dBreak_e, dCont_e, dDrop_e, dRet_e, dRetN_e, dIfS_e, dSet_e, dSetO_e, dAug_e, dRaise_e, dApp_e, dAsg_e, dPar_e, dPar3_e, dPar_vvo_e, dgName_e, dgTup_e, dgCons_e, dgNil_e, dTest_e, dAnd_e, dOr_e, dNot_e, dYes_e, dIf_e, dAndV_e, dOrV_e, dNotV_e, dIsi_e, dBits_e, dTuple_e, dSeqI_e, dChain_e, i2_e, i2'_e, u1_e, eqP_int, neP_int, addP_int, addP_tup, addP_lst, lenP_lst, lenP_tup, lenP_scr, absP_int, intP_int, isN_P, notN_P, isB2_P, tuple_lst, sel_t, sel_f, ixP_t0, ixP_t1, ixP_l0, ixP_l1, ixP_own0, ixP_own1, startD, List.map_cons, List.map_nil, List.length_cons, List.length_nil, List.cons_append, List.nil_append, List.getElem?_cons_zero, List.getElem?_cons_succ, List.set_cons_zero, List.set_cons_succ, Nat.reduceAdd, Nat.reduceSub, List.replicate_succ, List.replicate_zero, Option.some.injEq, dLc, dRange1]
          refine ⟨by omega, fun i acc ρ => ρ = [some (.int kk), some (.int mm), some (.tup (l.map D.int)), none, none] ∧ acc = (downs l i).map D.bl, ⟨rfl, rfl⟩, ?_, ?_⟩
          · rintro i d acc ρ2 hi ⟨rfl, rfl⟩
            obtain ⟨hi, rfl⟩ := rgD_got hi
            have e0 : (0 : Int) + (i : Nat) = (i : Int) := by omega
            have e1 : (0 : Int) + (i : Nat) + 1 = ((i + 1 : Nat) : Int) := by omega
            have hz : ((downs l i).map D.bl).length < sizeLine := by
              have := size_big
              unfold downs
              rw [List.length_map, List.length_map, List.length_range]
              omega
            simp only [dC_e, dVar_e, dOwn_e, dOp_e, dUn_e, dNil_e, dCons_e, dTup_e, dLst_e, dCB_e, dCall_e, dCallB_e, dSeq_e, dNext_e, dBreak_e, dCont_e, dDrop_e, dRet_e, dRetN_e, dIfS_e, dSet_e, dSetO_e, dAug_e, dRaise_e, dApp_e, dAsg_e, dPar_e, dPar3_e, dPar_vvo_e, dgName_e, dgTup_e, dgCons_e, dgNil_e, dTest_e, dAnd_e, dOr_e, dNot_e, dYes_e, dIf_e, dAndV_e, dOrV_e, dNotV_e, dIsi_e, dBits_e, dTuple_e, dSeqI_e, dChain_e, i2_e, i2'_e, u1_e, eqP_int, neP_int, addP_int, addP_tup, addP_lst, lenP_lst, lenP_tup, lenP_scr, absP_int, intP_int, isN_P, notN_P, isB2_P, tuple_lst, sel_t, sel_f, ixP_t0, ixP_t1, ixP_l0, ixP_l1, ixP_own0, ixP_own1, startD, List.map_cons, List.map_nil, List.length_cons, List.length_nil, List.cons_append, List.nil_append, List.getElem?_cons_zero, List.getElem?_cons_succ, List.set_cons_zero, List.set_cons_succ, Nat.reduceAdd, Nat.reduceSub, List.replicate_succ, List.replicate_zero, Option.some.injEq, wipeD]
            rw [e1, e0, ixP_tup (get_int (by omega)), ixP_tup (get_int (by omega))]
            refine ⟨hz, rfl, ?_⟩
            rw [downs_snoc, List.map_append]
            rfl
          · rintro acc ρ2 ⟨rfl, rfl⟩
            rw [rgD_length]
            refine anyP_bls ?_
            rw [show (kk - 1).toNat = l.length - 1 by omega, downs_any]
            simp only [dC_e, dVar_e, dOwn_e, dOp_e, dUn_e, dNil_e, dCons_e, dTup_e, dLst_e, dCB_e, dCall_e, dCallB_e, dSeq_e, dNext_e, dBreak_e, dCont_e, dDrop_e, dRet_e, dRetN_e, dIfS_e, dSet_e, dSetO_e, dAug_e, dRaise_e, dApp_e, dAsg_e, dPar_e, dPar3_e, dPar_vvo_e, dgName_e, dgTup_e, dgCons_e, dgNil_e, dTest_e, dAnd_e, dOr_e, dNot_e, dYes_e, dIf_e, dAndV_e, dOrV_e, dNotV_e, dIsi_e, dBits_e, dTuple_e, dSeqI_e, dChain_e, i2_e, i2'_e, u1_e, eqP_int, neP_int, addP_int, addP_tup, addP_lst, lenP_lst, lenP_tup, lenP_scr, absP_int, intP_int, isN_P, notN_P, isB2_P, tuple_lst, sel_t, sel_f, ixP_t0, ixP_t1, ixP_l0, ixP_l1, ixP_own0, ixP_own1, startD, List.map_cons, List.map_nil, List.length_cons, List.length_nil, List.cons_append, List.nil_append, List.getElem?_cons_zero, List.getElem?_cons_succ, List.set_cons_zero, List.set_cons_succ, Nat.reduceAdd, Nat.reduceSub, List.replicate_succ, List.replicate_zero, Option.some.injEq]
            refine sel_of (fun h => ?_) fun h => ?_
            · have : decide (l.Pairwise (· ≤ ·)) = false := by simpa using h
              rw [this] at hP
              exact hP
            · have : decide (l.Pairwise (· ≤ ·)) = true := by simpa using h
              rw [this, Bool.true_and] at hP
              refine sq_row (Q := fun d ρ1 => sumP ρ1 [d] fun z => dVar 1 ρ1 fun d ρ1 => eqP ρ1 z d fun z => P (retD ρ1 z)) hl hbn ?_
              refine sumP_ints ?_
              simp only [dC_e, dVar_e, dOwn_e, dOp_e, dUn_e, dNil_e, dCons_e, dTup_e, dLst_e, dCB_e, dCall_e, dCallB_e, dSeq_e, dNext_e, dBreak_e, dCont_e, dDrop_e, dRet_e, dRetN_e, dIfS_e, dSet_e, dSetO_e, dAug_e, dRaise_e, dApp_e, dAsg_e, dPar_e, dPar3_e, dPar_vvo_e, dgName_e, dgTup_e, dgCons_e, dgNil_e, dTest_e, dAnd_e, dOr_e, dNot_e, dYes_e, dIf_e, dAndV_e, dOrV_e, dNotV_e, dIsi_e, dBits_e, dTuple_e, dSeqI_e, dChain_e, i2_e, i2'_e, u1_e, eqP_int, neP_int, addP_int, addP_tup, addP_lst, lenP_lst, lenP_tup, lenP_scr, absP_int, intP_int, isN_P, notN_P, isB2_P, tuple_lst, sel_t, sel_f, ixP_t0, ixP_t1, ixP_l0, ixP_l1, ixP_own0, ixP_own1, startD, List.map_cons, List.map_nil, List.length_cons, List.length_nil, List.cons_append, List.nil_append, List.getElem?_cons_zero, List.getElem?_cons_succ, List.set_cons_zero, List.set_cons_succ, Nat.reduceAdd, Nat.reduceSub, List.replicate_succ, List.replicate_zero, Option.some.injEq]
              exact hP
  | _ => exact sel_y rfl hP
end K07

end
section
set_option Elab.async false
set_option linter.all false
set_option maxRecDepth 100000
/-! k07: the law -/
namespace K07
open PySem L2 PD NT

theorem wipe12 {a0 a1 a2 a3 a4 a5 a6 a7 a8 a9 a10 a11 : Option D} : wipeO (fun i => i == 2) [a0, a1, a2, a3, a4, a5, a6, a7, a8, a9, a10, a11] = [a0, a1, none, a3, a4, a5, a6, a7, a8, a9, a10, a11] := rfl
theorem neP_self {ρ : PD.Env} {xs : List D} {k : D → Prop} (o : okN 60 (.tup xs) = true) (h : k (.bl false)) : neP ρ (.tup xs) (.tup xs) k := by
  refine ⟨o, o, ?_⟩
  rw [show deref ρ (.tup xs) = .tup xs from rfl, eqD_refl o]
  exact h
/-- what may stand in a try -/
def TI (x : D) : Prop := Plain x ∧ okN 5 x = true ∧ ∀ i, x = .int i → i.natAbs < 2 ^ 60
theorem ti_int {i : Int} (h : i.natAbs < 2 ^ 60) : TI (.int i) := ⟨⟨rfl, rfl⟩, by rw [okN], fun j e => by cases e; exact h⟩
theorem try_tup {xs : List D} (h : xs.length ≤ 10) (ht : ∀ x ∈ xs, TI x) : TryOk (.tup xs) := ⟨⟨rfl, rfl⟩, fun ys e => by cases e; exact ⟨h, ht⟩⟩
theorem cut_mem {xs : List D} {lo hi : Option Int} {x : D} (h : x ∈ cutD xs lo hi) : x ∈ xs := List.mem_of_mem_drop (List.mem_of_mem_take h)
theorem cut_len (xs : List D) (lo hi : Option Int) : (cutD xs lo hi).length ≤ xs.length := by
  unfold cutD
  rw [List.length_take, List.length_drop]
  omega
theorem seq_of {s t : DS} {De : DEnds} {ρ : PD.Env} (N : PD.Env → Prop) (h2 : ∀ ρ, N ρ → t De ρ) (h1 : ∀ C : PD.Env → Prop, (∀ ρ, N ρ → C ρ) → s { De with nx := C } ρ) : dSeq s t De ρ := h1 _ h2
theorem neg_row {l : List Int} {x0 x1 x2 x3 x4 x5 x6 x8 x9 x10 x11 : Option D} {Q : D → PD.Env → Prop} (hl : l.length ≤ 10) (hQ : Q (.lst ((l.map fun i => -i).map D.int)) [x0, x1, x2, x3, x4, x5, x6, some (.tup (l.map D.int)), x8, x9, x10, x11]) :
    dLc (dSeqI (dVar 7)) (dgName 10) dYes (dUn negP (dVar 10)) [10] [x0, x1, x2, x3, x4, x5, x6, some (.tup (l.map D.int)), x8, x9, x10, x11] Q := by
  simp only [dC_e, dVar_e, dOwn_e, dOp_e, dUn_e, dNil_e, dCons_e, dTup_e, dLst_e, dCB_e, dCall_e, dCallB_e, dSeq_e, dNext_e, dBreak_e, dCont_e, dDrop_e, dRet_e, dRetN_e, dIfS_e, dSet_e, dSetO_e, dAug_e, dRaise_e, dApp_e, dAsg_e, dPar_e, dPar3_e, dPar_vvo_e, dgName_e, dgTup_e, dgCons_e, dgNil_e, dTest_e, dAnd_e, dOr_e, dNot_e, dYes_e, dIf_e, dAndV_e, dOrV_e, dNotV_e, dIsi_e, dBits_e, dTuple_e, dSeqI_e, dChain_e, i2_e, i2'_e, u1_e, eqP_int, neP_int, addP_int, addP_tup, addP_lst, lenP_lst, lenP_tup, lenP_scr, absP_int, intP_int, isN_P, notN_P, isB2_P, tuple_lst, sel_t, sel_f, ixP_t0, ixP_t1, ixP_l0, ixP_l1, ixP_own0, ixP_own1, startD, List.map_cons, List.map_nil, List.length_cons, List.length_nil, List.cons_append, List.nil_append, List.getElem?_cons_zero, List.getElem?_cons_succ, List.set_cons_zero, List.set_cons_succ, Nat.reduceAdd, Nat.reduceSub, List.replicate_succ, List.replicate_zero, Option.some.injEq, dLc]
  refine ⟨fun i acc ρ => ρ = [x0, x1, x2, x3, x4, x5, x6, some (.tup (l.map D.int)), x8, x9, x10, x11] ∧ acc = ((l.take i).map fun i => -i).map D.int, ⟨rfl, rfl⟩, ?_, ?_⟩
  · rintro i d acc ρ2 hi ⟨rfl, rfl⟩
    have hs := size_big
    rw [List.getElem?_map] at hi
    obtain ⟨j, hj, rfl⟩ := Option.map_eq_some_iff.mp hi
    refine ⟨?_, rfl, ?_⟩
    · rw [List.length_map, List.length_map, List.length_take]; omega
    · rw [take_snoc hj, List.map_append, List.map_append]; rfl
  · rintro acc ρ2 ⟨rfl, rfl⟩
    rw [List.length_map, List.take_length]
    exact hQ
theorem try_all {k : Nat} {m : Nat} {x0 x1 x5 x6 x8 x9 x10 x11 : Option D} {bx : D} {l : List Int} {De : DEnds} {W : Ex → Prop} (hk : 1 ≤ k) (hk4 : k ≤ 4) (hm : m ≤ 1000000) (hl : l.length = k) (hb : BoxOk bx) (hi : ∀ i ∈ l, i.natAbs ≤ 1000000)
    (hn : ∀ bx' y5 y6 y7 y8 y9 y10 y11, BoxOk bx' → De.nx [x0, x1, some bx', some (.int m), some (.int k), y5, y6, y7, y8, y9, y10, y11]) :
    (dSeq (dSet 8 (dCallB F__law_draw W 2 (dCons (dVar 4) dNil)))
  (dSeq (dSet 9 (dLst (dCons (dVar 7) (dCons (dRev (dVar 7)) (dCons (dTuple (dLc (dSeqI (dVar 7)) (dgName 10) dYes (dUn negP (dVar 10)) [10])) (dCons (dSl (dVar 7) (dPart (dC (.int 1))) dNoPart) (dCons (dOp addP (dVar 7) (dTup (dCons (dC (.int 0)) dNil))) dNil)))))))
  (dSeq (dSet 9 (dOp addP (dVar 9) (dLst (dCons (dOp addP (dTup (dCons (dC (.int 0)) dNil)) (dVar 7)) (dCons (dOp addP (dOp addP (dSl (dVar 7) dNoPart (dPart (dVar 8))) (dTup (dCons (dOp addP (dOp ixP (dVar 7) (dVar 8)) (dC (.int 1))) dNil))) (dSl (dVar 7) (dPart (dOp addP (dVar 8) (dC (.int 1)))) dNoPart)) (dCons (dC (.int 3)) (dCons (dC (.str "squares")) (dCons (dTup (dCons (dVar 7) dNil)) (dCons (dOp addP (dOp addP (dSl (dVar 7) dNoPart (dPart (dVar 8))) (dTup (dCons (dC (.str "0")) dNil))) (dSl (dVar 7) (dPart (dOp addP (dVar 8) (dC (.int 1)))) dNoPart)) dNil)))))))))
  (dFor (dSeqI (dVar 9)) (dgName 11)
  (dIfS (dTest (dOp neP (dTold F__law_read (fun i => i == 2) (fun W => (dCall F_is_squares W (dCons (dVar 4) (dCons (dVar 3) (dCons (dVar 11) dNil)))))) (dTup (dCons (dC (.int 0)) (dCons (dCall F__law_is_squares W (dCons (dVar 4) (dCons (dVar 3) (dCons (dVar 11) dNil)))) dNil)))))
  (dRet (dC (.bl false)))
  dNext))))) De [x0, x1, some bx, some (.int m), some (.int k), x5, x6, some (.tup (l.map D.int)), x8, x9, x10, x11] := by
  have hs := size_big
  refine seq_of (fun ρ => ∃ (at' : Nat) (bx' : D), at' < k ∧ BoxOk bx' ∧ ρ = [x0, x1, some bx', some (.int m), some (.int k), x5, x6, some (.tup (l.map D.int)), some (.int at'), x9, x10, x11]) ?_ ?_
  rotate_left
  · intro C hC
    simp only [dC_e, dVar_e, dOwn_e, dOp_e, dUn_e, dNil_e, dCons_e, dTup_e, dLst_e, dCB_e, dCall_e, dCallB_e, dSeq_e, dNext_e, dBreak_e, dCont_e, dDrop_e, dRet_e, dRetN_e, dIfS_e, dSet_e, dSetO_e, dAug_e, dRaise_e, dApp_e, dAsg_e, dPar_e, dPar3_e, dPar_vvo_e, dgName_e, dgTup_e, dgCons_e, dgNil_e, dTest_e, dAnd_e, dOr_e, dNot_e, dYes_e, dIf_e, dAndV_e, dOrV_e, dNotV_e, dIsi_e, dBits_e, dTuple_e, dSeqI_e, dChain_e, i2_e, i2'_e, u1_e, eqP_int, neP_int, addP_int, addP_tup, addP_lst, lenP_lst, lenP_tup, lenP_scr, absP_int, intP_int, isN_P, notN_P, isB2_P, tuple_lst, sel_t, sel_f, ixP_t0, ixP_t1, ixP_l0, ixP_l1, ixP_own0, ixP_own1, startD, List.map_cons, List.map_nil, List.length_cons, List.length_nil, List.cons_append, List.nil_append, List.getElem?_cons_zero, List.getElem?_cons_succ, List.set_cons_zero, List.set_cons_succ, Nat.reduceAdd, Nat.reduceSub, List.replicate_succ, List.replicate_zero, Option.some.injEq]
    exact ⟨bx, k, rfl, hb, hk, by omega, fun at' bx' hb' hat => hC _ ⟨at', bx', hat, hb', rfl⟩⟩
  rintro ρ ⟨at', bx', hat, hb', rfl⟩
  refine seq_of (fun ρ => ∃ y10 : Option D, ρ = [x0, x1, some bx', some (.int m), some (.int k), x5, x6, some (.tup (l.map D.int)), some (.int at'), some (.lst [.tup (l.map D.int), .tup (l.map D.int).reverse, .tup ((l.map fun i => -i).map D.int), .tup (cutD (l.map D.int) (some 1) none), .tup (l.map D.int ++ [.int 0])]), y10, x11]) ?_ ?_
  rotate_left
  · intro C hC
    simp only [dC_e, dVar_e, dOwn_e, dOp_e, dUn_e, dNil_e, dCons_e, dTup_e, dLst_e, dCB_e, dCall_e, dCallB_e, dSeq_e, dNext_e, dBreak_e, dCont_e, dDrop_e, dRet_e, dRetN_e, dIfS_e, dSet_e, dSetO_e, dAug_e, dRaise_e, dApp_e, dAsg_e, dPar_e, dPar3_e, dPar_vvo_e, dgName_e, dgTup_e, dgCons_e, dgNil_e, dTest_e, dAnd_e, dOr_e, dNot_e, dYes_e, dIf_e, dAndV_e, dOrV_e, dNotV_e, dIsi_e, dBits_e, dTuple_e, dSeqI_e, dChain_e, i2_e, i2'_e, u1_e, eqP_int, neP_int, addP_int, addP_tup, addP_lst, lenP_lst, lenP_tup, lenP_scr, absP_int, intP_int, isN_P, notN_P, isB2_P, tuple_lst, sel_t, sel_f, ixP_t0, ixP_t1, ixP_l0, ixP_l1, ixP_own0, ixP_own1, startD, List.map_cons, List.map_nil, List.length_cons, List.length_nil, List.cons_append, List.nil_append, List.getElem?_cons_zero, List.getElem?_cons_succ, List.set_cons_zero, List.set_cons_succ, Nat.reduceAdd, Nat.reduceSub, List.replicate_succ, List.replicate_zero, Option.some.injEq, dRev, dSl, dPart, dNoPart, slP]
    refine neg_row (by omega) ?_
    simp only [dC_e, dVar_e, dOwn_e, dOp_e, dUn_e, dNil_e, dCons_e, dTup_e, dLst_e, dCB_e, dCall_e, dCallB_e, dSeq_e, dNext_e, dBreak_e, dCont_e, dDrop_e, dRet_e, dRetN_e, dIfS_e, dSet_e, dSetO_e, dAug_e, dRaise_e, dApp_e, dAsg_e, dPar_e, dPar3_e, dPar_vvo_e, dgName_e, dgTup_e, dgCons_e, dgNil_e, dTest_e, dAnd_e, dOr_e, dNot_e, dYes_e, dIf_e, dAndV_e, dOrV_e, dNotV_e, dIsi_e, dBits_e, dTuple_e, dSeqI_e, dChain_e, i2_e, i2'_e, u1_e, eqP_int, neP_int, addP_int, addP_tup, addP_lst, lenP_lst, lenP_tup, lenP_scr, absP_int, intP_int, isN_P, notN_P, isB2_P, tuple_lst, sel_t, sel_f, ixP_t0, ixP_t1, ixP_l0, ixP_l1, ixP_own0, ixP_own1, startD, List.map_cons, List.map_nil, List.length_cons, List.length_nil, List.cons_append, List.nil_append, List.getElem?_cons_zero, List.getElem?_cons_succ, List.set_cons_zero, List.set_cons_succ, Nat.reduceAdd, Nat.reduceSub, List.replicate_succ, List.replicate_zero, Option.some.injEq]
    refine ⟨?_, hC _ ⟨_, rfl⟩⟩
    rw [List.length_map]; omega
  rintro ρ ⟨y10, rfl⟩
  refine seq_of (fun ρ => ∃ (y10 : Option D) (ts : List D), (∀ x ∈ ts, TryOk x) ∧ ts.length < 100 ∧ ρ = [x0, x1, some bx', some (.int m), some (.int k), x5, x6, some (.tup (l.map D.int)), some (.int at'), some (.lst ts), y10, x11]) ?_ ?_
  rotate_left
  · intro C hC
    have c1 := cut_len (l.map D.int) none (some (at' : Int))
    have c2 := cut_len (l.map D.int) (some ((at' : Int) + 1)) none
    rw [List.length_map] at c1 c2
    simp only [dC_e, dVar_e, dOwn_e, dOp_e, dUn_e, dNil_e, dCons_e, dTup_e, dLst_e, dCB_e, dCall_e, dCallB_e, dSeq_e, dNext_e, dBreak_e, dCont_e, dDrop_e, dRet_e, dRetN_e, dIfS_e, dSet_e, dSetO_e, dAug_e, dRaise_e, dApp_e, dAsg_e, dPar_e, dPar3_e, dPar_vvo_e, dgName_e, dgTup_e, dgCons_e, dgNil_e, dTest_e, dAnd_e, dOr_e, dNot_e, dYes_e, dIf_e, dAndV_e, dOrV_e, dNotV_e, dIsi_e, dBits_e, dTuple_e, dSeqI_e, dChain_e, i2_e, i2'_e, u1_e, eqP_int, neP_int, addP_int, addP_tup, addP_lst, lenP_lst, lenP_tup, lenP_scr, absP_int, intP_int, isN_P, notN_P, isB2_P, tuple_lst, sel_t, sel_f, ixP_t0, ixP_t1, ixP_l0, ixP_l1, ixP_own0, ixP_own1, startD, List.map_cons, List.map_nil, List.length_cons, List.length_nil, List.cons_append, List.nil_append, List.getElem?_cons_zero, List.getElem?_cons_succ, List.set_cons_zero, List.set_cons_succ, Nat.reduceAdd, Nat.reduceSub, List.replicate_succ, List.replicate_zero, Option.some.injEq, dSl, dPart, dNoPart, slP]
    rw [ixP_tup (get_int (by omega))]
    simp only [dC_e, dVar_e, dOwn_e, dOp_e, dUn_e, dNil_e, dCons_e, dTup_e, dLst_e, dCB_e, dCall_e, dCallB_e, dSeq_e, dNext_e, dBreak_e, dCont_e, dDrop_e, dRet_e, dRetN_e, dIfS_e, dSet_e, dSetO_e, dAug_e, dRaise_e, dApp_e, dAsg_e, dPar_e, dPar3_e, dPar_vvo_e, dgName_e, dgTup_e, dgCons_e, dgNil_e, dTest_e, dAnd_e, dOr_e, dNot_e, dYes_e, dIf_e, dAndV_e, dOrV_e, dNotV_e, dIsi_e, dBits_e, dTuple_e, dSeqI_e, dChain_e, i2_e, i2'_e, u1_e, eqP_int, neP_int, addP_int, addP_tup, addP_lst, lenP_lst, lenP_tup, lenP_scr, absP_int, intP_int, isN_P, notN_P, isB2_P, tuple_lst, sel_t, sel_f, ixP_t0, ixP_t1, ixP_l0, ixP_l1, ixP_own0, ixP_own1, startD, List.map_cons, List.map_nil, List.length_cons, List.length_nil, List.cons_append, List.nil_append, List.getElem?_cons_zero, List.getElem?_cons_succ, List.set_cons_zero, List.set_cons_succ, Nat.reduceAdd, Nat.reduceSub, List.replicate_succ, List.replicate_zero, Option.some.injEq, List.length_append, List.length_map]
    refine ⟨by omega, by omega, by omega, by omega, by omega, by omega, hC _ ⟨_, _, ?_, ?_, rfl⟩⟩
    · have hI : ∀ x ∈ l.map D.int, TI x := fun x hx => by
        obtain ⟨i, h, rfl⟩ := List.mem_map.mp hx
        have := hi i h
        exact ti_int (by omega)
      have hz : TI (.int 0) := ti_int (by decide)
      have hC1 : ∀ x ∈ cutD (l.map D.int) none (some (at' : Int)), TI x := fun x hx => hI x (cut_mem hx)
      have hC2 : ∀ x ∈ cutD (l.map D.int) (some ((at' : Int) + 1)) none, TI x := fun x hx => hI x (cut_mem hx)
      have hC3 : ∀ x ∈ cutD (l.map D.int) (some 1) none, TI x := fun x hx => hI x (cut_mem hx)
      have c3 := cut_len (l.map D.int) (some 1) none
      rw [List.length_map] at c3
      have hN : ∀ x ∈ (l.map fun i => -i).map D.int, TI x := fun x hx => by
        obtain ⟨i, h, rfl⟩ := List.mem_map.mp hx
        obtain ⟨j, hj, rfl⟩ := List.mem_map.mp h
        have := hi j hj
        exact ti_int (by omega)
      have hg : TI (.int (l.getD at' 0 + 1)) := by
        have : (l.getD at' 0).natAbs ≤ 1000000 := by
          rw [List.getD_eq_getElem?_getD, List.getElem?_eq_getElem (by omega)]
          exact hi _ (List.getElem_mem _)
        exact ti_int (by omega)
      have hs0 : TI (.str "0") := ⟨⟨rfl, rfl⟩, by rw [okN]; decide +kernel, fun i e => by cases e⟩
      intro x hx
      simp only [List.mem_append, List.mem_cons, List.not_mem_nil, or_false] at hx
      rcases hx with rfl | rfl | rfl | rfl | rfl | rfl | rfl | rfl | rfl | rfl | rfl
      · exact try_tup (by rw [List.length_map]; omega) hI
      · exact try_tup (by rw [List.length_reverse, List.length_map]; omega) fun x hx => hI x (List.mem_reverse.mp hx)
      · exact try_tup (by rw [List.length_map, List.length_map]; omega) hN
      · exact try_tup (by omega) hC3
      · refine try_tup (by rw [List.length_append, List.length_map]; simp; omega) fun x hx => ?_
        rcases List.mem_append.mp hx with h | h
        · exact hI x h
        · rw [List.mem_singleton.mp h]; exact hz
      · refine try_tup (by rw [List.length_cons, List.length_map]; omega) fun x hx => ?_
        rcases List.mem_cons.mp hx with h | h
        · rw [h]; exact hz
        · exact hI x h
      · refine try_tup (by simp only [List.length_append, List.length_cons, List.length_nil]; omega) fun x hx => ?_
        rcases List.mem_append.mp hx with h | h
        · rcases List.mem_append.mp h with h | h
          · exact hC1 x h
          · rw [List.mem_singleton.mp h]; exact hg
        · exact hC2 x h
      · exact ⟨⟨rfl, rfl⟩, fun xs e => by cases e⟩
      · exact ⟨⟨rfl, rfl⟩, fun xs e => by cases e⟩
      · refine try_tup (by simp) fun x hx => ?_
        rw [List.mem_singleton.mp hx]
        refine ⟨⟨rfl, rfl⟩, ?_, fun i e => by cases e⟩
        rw [okN, okNs_ints]
      · refine try_tup (by simp only [List.length_append, List.length_cons, List.length_nil]; omega) fun x hx => ?_
        rcases List.mem_append.mp hx with h | h
        · rcases List.mem_append.mp h with h | h
          · exact hC1 x h
          · rw [List.mem_singleton.mp h]; exact hs0
        · exact hC2 x h
    · simp
  rintro ρ ⟨y10, ts, hts, hlt, rfl⟩
  simp only [dC_e, dVar_e, dOwn_e, dOp_e, dUn_e, dNil_e, dCons_e, dTup_e, dLst_e, dCB_e, dCall_e, dCallB_e, dSeq_e, dNext_e, dBreak_e, dCont_e, dDrop_e, dRet_e, dRetN_e, dIfS_e, dSet_e, dSetO_e, dAug_e, dRaise_e, dApp_e, dAsg_e, dPar_e, dPar3_e, dPar_vvo_e, dgName_e, dgTup_e, dgCons_e, dgNil_e, dTest_e, dAnd_e, dOr_e, dNot_e, dYes_e, dIf_e, dAndV_e, dOrV_e, dNotV_e, dIsi_e, dBits_e, dTuple_e, dSeqI_e, dChain_e, i2_e, i2'_e, u1_e, eqP_int, neP_int, addP_int, addP_tup, addP_lst, lenP_lst, lenP_tup, lenP_scr, absP_int, intP_int, isN_P, notN_P, isB2_P, tuple_lst, sel_t, sel_f, ixP_t0, ixP_t1, ixP_l0, ixP_l1, ixP_own0, ixP_own1, startD, List.map_cons, List.map_nil, List.length_cons, List.length_nil, List.cons_append, List.nil_append, List.getElem?_cons_zero, List.getElem?_cons_succ, List.set_cons_zero, List.set_cons_succ, Nat.reduceAdd, Nat.reduceSub, List.replicate_succ, List.replicate_zero, Option.some.injEq, dFor]
  refine ⟨fun i ρ => ∃ y11 : Option D, ρ = [x0, x1, some bx', some (.int m), some (.int k), x5, x6, some (.tup (l.map D.int)), some (.int at'), some (.lst ts), y10, y11], ⟨_, rfl⟩, ?_, ?_⟩
  · rintro i d ρ2 hd ⟨y11, rfl⟩
    have ht := hts d (List.mem_of_getElem? hd)
    simp only [dC_e, dVar_e, dOwn_e, dOp_e, dUn_e, dNil_e, dCons_e, dTup_e, dLst_e, dCB_e, dCall_e, dCallB_e, dSeq_e, dNext_e, dBreak_e, dCont_e, dDrop_e, dRet_e, dRetN_e, dIfS_e, dSet_e, dSetO_e, dAug_e, dRaise_e, dApp_e, dAsg_e, dPar_e, dPar3_e, dPar_vvo_e, dgName_e, dgTup_e, dgCons_e, dgNil_e, dTest_e, dAnd_e, dOr_e, dNot_e, dYes_e, dIf_e, dAndV_e, dOrV_e, dNotV_e, dIsi_e, dBits_e, dTuple_e, dSeqI_e, dChain_e, i2_e, i2'_e, u1_e, eqP_int, neP_int, addP_int, addP_tup, addP_lst, lenP_lst, lenP_tup, lenP_scr, absP_int, intP_int, isN_P, notN_P, isB2_P, tuple_lst, sel_t, sel_f, ixP_t0, ixP_t1, ixP_l0, ixP_l1, ixP_own0, ixP_own1, startD, List.map_cons, List.map_nil, List.length_cons, List.length_nil, List.cons_append, List.nil_append, List.getElem?_cons_zero, List.getElem?_cons_succ, List.set_cons_zero, List.set_cons_succ, Nat.reduceAdd, Nat.reduceSub, List.replicate_succ, List.replicate_zero, Option.some.injEq, dTold, wipe12]
    refine ⟨_, _, _, rfl, ⟨rfl, rfl⟩, ⟨rfl, rfl⟩, ht, fun h => ?_, ?_⟩
    · exfalso
      have : okKM (.int k) (.int m) = true := by
        unfold okKM numIn
        rw [Bool.and_eq_true]
        exact ⟨decide_eq_true (by omega), decide_eq_true (by omega)⟩
      rw [this] at h
      cases h
    · rintro _ _ ⟨⟩ ⟨⟩ _
      refine ⟨_, rfl, by rw [rdN], ?_⟩
      refine ⟨_, _, _, rfl, ht, ?_⟩
      refine neP_self (by rw [okN, okNs, okN, okNs, okN, okNs]; rfl) ?_
      exact ⟨_, rfl⟩
  · rintro ρ2 ⟨y11, rfl⟩
    exact hn _ _ _ _ _ _ _ _ hb'
theorem eq_told {ρ : PD.Env} {a b : D} {k : D → Prop} (e : a = b) (o : okN 10 (.tup [.int 0, b]) = true) (h : k (.bl false)) : neP ρ (.tup [.int 0, a]) (.tup [.int 0, b]) k := by
  subst e
  exact neP_self (okN_mono (by decide) o) h
theorem forb_ok {k m : Nat} {d : D} (h : Forb k m d) : okN 10 (.tup [.int 0, d]) = true ∧ rdN 4 d = true ∧ isN d = false := by
  cases h <;> refine ⟨?_, ?_, rfl⟩ <;> simp only [okN, okNs, rdN, rdNs, List.length_cons, List.length_nil, Bool.and_true, Bool.true_and] <;> first | decide +kernel | rfl
theorem rdNs_ints {n : Nat} : ∀ l : List Int, rdNs n (l.map D.int) = true
  | [] => by rw [List.map_nil, rdNs]
  | x :: l => by rw [List.map_cons, rdNs, rdN, rdNs_ints l]; rfl
theorem neP_str {ρ : PD.Env} {k : D → Prop} (h : k (.bl false)) : neP ρ (.str "squares") (.str "squares") k := by
  have o : okN 60 (.str "squares") = true := by rw [okN]; decide +kernel
  refine ⟨o, o, ?_⟩
  rw [show deref ρ (.str "squares") = .str "squares" from rfl, eqD_refl o]
  exact h
theorem ntl_ints (l : List Nat) : ntl l = .tup ((l.map fun x : Nat => (x : Int)).map D.int) := by
  unfold ntl; rw [List.map_map]; rfl
theorem sq_le : ∀ {l : List Nat} {x : Nat}, x ∈ l → x * x ≤ sqSum l
  | y :: l, x, h => by
    have e : sqSum (y :: l) = y * y + sqSum l := by unfold sqSum; rw [List.map_cons, List.sum_cons]
    rcases List.mem_cons.mp h with rfl | h
    · omega
    · have := sq_le h; omega
theorem asc_le {k m : Nat} {l : List Nat} {x : Nat} (hm : m ≤ 1000000) (hl : AscS k m l) (hx : x ∈ l) : x ≤ 1000 := by
  have h1 := sq_le hx
  rw [hl.2.2] at h1
  refine Classical.byContradiction fun h => ?_
  have := Nat.mul_le_mul (show 1001 ≤ x by omega) (show 1001 ≤ x by omega)
  omega
theorem asc_try {k m : Nat} {l : List Nat} (hm : m ≤ 1000000) (hk : k ≤ 10) (hl : AscS k m l) : TryOk (ntl l) := by
  rw [ntl_ints]
  refine try_tup (by rw [List.length_map, List.length_map, hl.1]; exact hk) fun x hx => ?_
  obtain ⟨i, h, rfl⟩ := List.mem_map.mp hx
  obtain ⟨y, hy, rfl⟩ := List.mem_map.mp h
  have := asc_le hm hl hy
  exact ti_int (by omega)
theorem sq_cast : ∀ l : List Nat, ((l.map fun x : Nat => (x : Int)).map fun i => i * i).sum = ((sqSum l : Nat) : Int)
  | [] => rfl
  | x :: l => by
    have e : sqSum (x :: l) = x * x + sqSum l := by unfold sqSum; rw [List.map_cons, List.sum_cons]
    rw [List.map_cons, List.map_cons, List.sum_cons, sq_cast l, e]
    simp
theorem asc_sq {k m : Nat} {l : List Nat} (hl : AscS k m l) : isSq k m (ntl l) = true := by
  rw [ntl_ints, isSq_ints, sq_cast, hl.2.2, List.length_map, hl.1]
  have h1 : ((l.map fun x : Nat => (x : Int)).all fun i => decide (0 ≤ i)) = true := List.all_eq_true.mpr fun i hi => by
    obtain ⟨y, hy, rfl⟩ := List.mem_map.mp hi
    exact decide_eq_true (by omega)
  have h2 : (l.map fun x : Nat => (x : Int)).Pairwise (· ≤ ·) := List.pairwise_map.mpr (hl.2.1.imp fun h => by omega)
  simp [h1, h2]
theorem ones : ∀ k : Nat, (List.replicate k [D.int 1]).flatten = (List.replicate k (1 : Int)).map D.int
  | 0 => rfl
  | k + 1 => by rw [List.replicate_succ, List.replicate_succ, List.flatten_cons, ones k]; rfl
theorem checks {k m : Nat} {x0 x1 x5 x6 x7 x8 x9 x10 x11 : Option D} {bx : D} {De : DEnds} {W : Ex → Prop} {N : DS} (hk : 1 ≤ k) (hk4 : k ≤ 4) (hm : m ≤ 1000000) (hb : BoxOk bx)
    (hn : ∀ y5 y6 (l : List Int), l.length = k → (∀ i ∈ l, i.natAbs ≤ 1000000) → N De [x0, x1, some bx, some (.int m), some (.int k), y5, y6, some (.tup (l.map D.int)), x8, x9, x10, x11]) :
    (dSeq (dPar 5 6 (dCons (dCall F__law_forbids W (dCons (dVar 4) (dCons (dVar 3) dNil))) (dCons (dTold F__law_read (fun i => i == 2) (fun W => (dCall F_squares W (dCons (dVar 4) (dCons (dVar 3) dNil))))) dNil)))
  (dSeq (dIfS (dTest (dOp (isNP true) (dVar 5) (dC .non)))
  (dIfS (dTest (dOp neP (dVar 6) (dTup (dCons (dC (.int 0)) (dCons (dVar 5) dNil)))))
  (dRet (dC (.bl false)))
  dNext)
  (dIfS (dOr (dTest (dOp neP (dOp ixP (dVar 6) (dC (.int 0))) (dC (.int 0)))) (dOr (dNot (dTest (dIsi isTup (dOp ixP (dVar 6) (dC (.int 1)))))) (dOr (dTest (dOp neP (dCB lenP (dCons (dOp ixP (dVar 6) (dC (.int 1))) dNil)) (dC (.int 2)))) (dTest (dOp neP (dOp ixP (dOp ixP (dVar 6) (dC (.int 1))) (dC (.int 0))) (dC (.str "squares")))))))
  (dRet (dC (.bl false)))
  (dIfS (dNot (dTest (dCall F__law_is_squares W (dCons (dVar 4) (dCons (dVar 3) (dCons (dOp ixP (dOp ixP (dVar 6) (dC (.int 1))) (dC (.int 1))) dNil))))))
  (dRet (dC (.bl false)))
  dNext)))
  (dSeq (dSet 7 (dIf (dTest (dOp (isNP false) (dVar 5) (dC .non))) (dOp ixP (dOp ixP (dVar 6) (dC (.int 1))) (dC (.int 1))) (dOp repP (dTup (dCons (dC (.int 1)) dNil)) (dVar 4)))) N))) De [x0, x1, some bx, some (.int m), some (.int k), x5, x6, x7, x8, x9, x10, x11] := by
  refine seq_of (fun ρ => ∃ d5 d6 : D, ((∃ d, Forb k m d ∧ d5 = d ∧ d6 = .tup [.int 0, d]) ∨ (∃ l, AscS k m l ∧ d5 = .non ∧ d6 = .tup [.int 0, .tup [.str "squares", ntl l]])) ∧ ρ = [x0, x1, some bx, some (.int m), some (.int k), some d5, some d6, x7, x8, x9, x10, x11]) ?_ ?_
  rotate_left
  · intro C hC
    have ok : okKM (.int k) (.int m) = true := by
      unfold okKM numIn
      rw [Bool.and_eq_true]
      exact ⟨decide_eq_true (by omega), decide_eq_true (by omega)⟩
    simp only [dC_e, dVar_e, dOwn_e, dOp_e, dUn_e, dNil_e, dCons_e, dTup_e, dLst_e, dCB_e, dCall_e, dCallB_e, dSeq_e, dNext_e, dBreak_e, dCont_e, dDrop_e, dRet_e, dRetN_e, dIfS_e, dSet_e, dSetO_e, dAug_e, dRaise_e, dApp_e, dAsg_e, dPar_e, dPar3_e, dPar_vvo_e, dgName_e, dgTup_e, dgCons_e, dgNil_e, dTest_e, dAnd_e, dOr_e, dNot_e, dYes_e, dIf_e, dAndV_e, dOrV_e, dNotV_e, dIsi_e, dBits_e, dTuple_e, dSeqI_e, dChain_e, i2_e, i2'_e, u1_e, eqP_int, neP_int, addP_int, addP_tup, addP_lst, lenP_lst, lenP_tup, lenP_scr, absP_int, intP_int, isN_P, notN_P, isB2_P, tuple_lst, sel_t, sel_f, ixP_t0, ixP_t1, ixP_l0, ixP_l1, ixP_own0, ixP_own1, startD, List.map_cons, List.map_nil, List.length_cons, List.length_nil, List.cons_append, List.nil_append, List.getElem?_cons_zero, List.getElem?_cons_succ, List.set_cons_zero, List.set_cons_succ, Nat.reduceAdd, Nat.reduceSub, List.replicate_succ, List.replicate_zero, Option.some.injEq, dTold, wipe12]
    refine ⟨k, m, rfl, hk, hk4, hm, fun d hd => ?_, fun nf => ?_⟩
    · refine ⟨_, _, rfl, ⟨rfl, rfl⟩, ⟨rfl, rfl⟩, fun h => (by rw [ok] at h; cases h), ?_⟩
      intro kk mm e1 e2 _
      obtain rfl : k = kk := Int.ofNat.inj (D.int.inj e1)
      obtain rfl : m = mm := Int.ofNat.inj (D.int.inj e2)
      refine ⟨fun d' hd' => ⟨d', rfl, (forb_ok hd').2.1, hC _ ⟨_, _, .inl ⟨d, hd, rfl, ?_⟩, rfl⟩⟩, fun nf => absurd hd (nf d)⟩
      rw [forb_uniq hd hd']
    · refine ⟨_, _, rfl, ⟨rfl, rfl⟩, ⟨rfl, rfl⟩, fun h => (by rw [ok] at h; cases h), ?_⟩
      intro kk mm e1 e2 _
      obtain rfl : k = kk := Int.ofNat.inj (D.int.inj e1)
      obtain rfl : m = mm := Int.ofNat.inj (D.int.inj e2)
      refine ⟨fun d' hd' => absurd hd' (nf d'), fun _ l hl => ⟨_, rfl, ?_, hC _ ⟨_, _, .inr ⟨l, hl, rfl, rfl⟩, rfl⟩⟩⟩
      have hll := hl.1
      rw [ntl_ints]
      simp only [rdN, rdNs, rdNs_ints, List.length_cons, List.length_nil, List.length_map, Bool.and_true, Bool.true_and]
      rw [Bool.and_eq_true, Bool.and_eq_true]
      exact ⟨decide_eq_true (by omega), by decide +kernel, decide_eq_true (by omega)⟩
  rintro ρ ⟨d5, d6, hd, rfl⟩
  refine seq_of (fun ρ => ρ = [x0, x1, some bx, some (.int m), some (.int k), some d5, some d6, x7, x8, x9, x10, x11]) ?_ ?_
  rotate_left
  · intro C hC
    have hC := hC _ rfl
    rcases hd with ⟨d, hd, rfl, rfl⟩ | ⟨l, hl, rfl, rfl⟩
    · simp only [dC_e, dVar_e, dOwn_e, dOp_e, dUn_e, dNil_e, dCons_e, dTup_e, dLst_e, dCB_e, dCall_e, dCallB_e, dSeq_e, dNext_e, dBreak_e, dCont_e, dDrop_e, dRet_e, dRetN_e, dIfS_e, dSet_e, dSetO_e, dAug_e, dRaise_e, dApp_e, dAsg_e, dPar_e, dPar3_e, dPar_vvo_e, dgName_e, dgTup_e, dgCons_e, dgNil_e, dTest_e, dAnd_e, dOr_e, dNot_e, dYes_e, dIf_e, dAndV_e, dOrV_e, dNotV_e, dIsi_e, dBits_e, dTuple_e, dSeqI_e, dChain_e, i2_e, i2'_e, u1_e, eqP_int, neP_int, addP_int, addP_tup, addP_lst, lenP_lst, lenP_tup, lenP_scr, absP_int, intP_int, isN_P, notN_P, isB2_P, tuple_lst, sel_t, sel_f, ixP_t0, ixP_t1, ixP_l0, ixP_l1, ixP_own0, ixP_own1, startD, List.map_cons, List.map_nil, List.length_cons, List.length_nil, List.cons_append, List.nil_append, List.getElem?_cons_zero, List.getElem?_cons_succ, List.set_cons_zero, List.set_cons_succ, Nat.reduceAdd, Nat.reduceSub, List.replicate_succ, List.replicate_zero, Option.some.injEq]
      refine sel_y (by rw [(forb_ok hd).2.2]; rfl) ?_
      exact eq_told rfl (forb_ok hd).1 hC
    · simp only [dC_e, dVar_e, dOwn_e, dOp_e, dUn_e, dNil_e, dCons_e, dTup_e, dLst_e, dCB_e, dCall_e, dCallB_e, dSeq_e, dNext_e, dBreak_e, dCont_e, dDrop_e, dRet_e, dRetN_e, dIfS_e, dSet_e, dSetO_e, dAug_e, dRaise_e, dApp_e, dAsg_e, dPar_e, dPar3_e, dPar_vvo_e, dgName_e, dgTup_e, dgCons_e, dgNil_e, dTest_e, dAnd_e, dOr_e, dNot_e, dYes_e, dIf_e, dAndV_e, dOrV_e, dNotV_e, dIsi_e, dBits_e, dTuple_e, dSeqI_e, dChain_e, i2_e, i2'_e, u1_e, eqP_int, neP_int, addP_int, addP_tup, addP_lst, lenP_lst, lenP_tup, lenP_scr, absP_int, intP_int, isN_P, notN_P, isB2_P, tuple_lst, sel_t, sel_f, ixP_t0, ixP_t1, ixP_l0, ixP_l1, ixP_own0, ixP_own1, startD, List.map_cons, List.map_nil, List.length_cons, List.length_nil, List.cons_append, List.nil_append, List.getElem?_cons_zero, List.getElem?_cons_succ, List.set_cons_zero, List.set_cons_succ, Nat.reduceAdd, Nat.reduceSub, List.replicate_succ, List.replicate_zero, Option.some.injEq]
      refine sel_n rfl ?_
      refine sel_n (by decide) ⟨rfl, ?_⟩
      refine sel_n rfl ?_
      refine sel_n (by decide) ?_
      refine neP_str ?_
      refine ⟨_, _, _, rfl, asc_try hm (by omega) hl, ?_⟩
      rw [asc_sq hl]
      exact hC
  rintro ρ rfl
  rcases hd with ⟨d, hd, rfl, rfl⟩ | ⟨l, hl, rfl, rfl⟩
  · simp only [dC_e, dVar_e, dOwn_e, dOp_e, dUn_e, dNil_e, dCons_e, dTup_e, dLst_e, dCB_e, dCall_e, dCallB_e, dSeq_e, dNext_e, dBreak_e, dCont_e, dDrop_e, dRet_e, dRetN_e, dIfS_e, dSet_e, dSetO_e, dAug_e, dRaise_e, dApp_e, dAsg_e, dPar_e, dPar3_e, dPar_vvo_e, dgName_e, dgTup_e, dgCons_e, dgNil_e, dTest_e, dAnd_e, dOr_e, dNot_e, dYes_e, dIf_e, dAndV_e, dOrV_e, dNotV_e, dIsi_e, dBits_e, dTuple_e, dSeqI_e, dChain_e, i2_e, i2'_e, u1_e, eqP_int, neP_int, addP_int, addP_tup, addP_lst, lenP_lst, lenP_tup, lenP_scr, absP_int, intP_int, isN_P, notN_P, isB2_P, tuple_lst, sel_t, sel_f, ixP_t0, ixP_t1, ixP_l0, ixP_l1, ixP_own0, ixP_own1, startD, List.map_cons, List.map_nil, List.length_cons, List.length_nil, List.cons_append, List.nil_append, List.getElem?_cons_zero, List.getElem?_cons_succ, List.set_cons_zero, List.set_cons_succ, Nat.reduceAdd, Nat.reduceSub, List.replicate_succ, List.replicate_zero, Option.some.injEq]
    refine sel_n (forb_ok hd).2.2 ⟨by simp, by omega, by omega, by simp, ?_⟩
    rw [show ((k : Int)).toNat = k from rfl, ones]
    exact hn _ _ (List.replicate k 1) (by simp) fun i hi => by rw [(List.mem_replicate.mp hi).2]; decide
  · simp only [dC_e, dVar_e, dOwn_e, dOp_e, dUn_e, dNil_e, dCons_e, dTup_e, dLst_e, dCB_e, dCall_e, dCallB_e, dSeq_e, dNext_e, dBreak_e, dCont_e, dDrop_e, dRet_e, dRetN_e, dIfS_e, dSet_e, dSetO_e, dAug_e, dRaise_e, dApp_e, dAsg_e, dPar_e, dPar3_e, dPar_vvo_e, dgName_e, dgTup_e, dgCons_e, dgNil_e, dTest_e, dAnd_e, dOr_e, dNot_e, dYes_e, dIf_e, dAndV_e, dOrV_e, dNotV_e, dIsi_e, dBits_e, dTuple_e, dSeqI_e, dChain_e, i2_e, i2'_e, u1_e, eqP_int, neP_int, addP_int, addP_tup, addP_lst, lenP_lst, lenP_tup, lenP_scr, absP_int, intP_int, isN_P, notN_P, isB2_P, tuple_lst, sel_t, sel_f, ixP_t0, ixP_t1, ixP_l0, ixP_l1, ixP_own0, ixP_own1, startD, List.map_cons, List.map_nil, List.length_cons, List.length_nil, List.cons_append, List.nil_append, List.getElem?_cons_zero, List.getElem?_cons_succ, List.set_cons_zero, List.set_cons_succ, Nat.reduceAdd, Nat.reduceSub, List.replicate_succ, List.replicate_zero, Option.some.injEq]
    refine sel_y rfl ?_
    rw [ntl_ints]
    refine hn _ _ _ (by rw [List.length_map]; exact hl.1) fun i hi => ?_
    obtain ⟨x, hx, rfl⟩ := List.mem_map.mp hi
    have := asc_le hm hl hx
    omega
theorem for_r1 {n : Int} {j : Nat} {b : DS} {De : DEnds} {ρ : PD.Env} (I : PD.Env → Prop) (hn : -(2 ^ 62) ≤ n ∧ n < 2 ^ 62) (h0 : I ρ)
    (hs : ∀ (i : Nat) (ρ2 : PD.Env) (De' : DEnds), i < n.toNat → I ρ2 → (∀ ρ, I ρ → De'.nx ρ) → b De' (ρ2.set j (some (.int i)))) (hd : ∀ ρ, I ρ → De.nx ρ) : dFor (dRange1 (dC (.int n))) (dgName j) b De ρ := by
  refine ⟨hn, fun _ => I, h0, fun i d ρ2 hi h2 => ?_, fun ρ2 h2 => hd ρ2 h2⟩
  obtain ⟨hj, rfl⟩ := rgD_got hi
  rw [show (0 : Int) + (i : Nat) = (i : Int) by omega]
  exact hs i ρ2 _ hj h2 fun _ h => h
theorem for_r2 {m n : Int} {j : Nat} {b : DS} {De : DEnds} {ρ : PD.Env} (I : PD.Env → Prop) (hn : -(2 ^ 62) ≤ m ∧ m < 2 ^ 62 ∧ -(2 ^ 62) ≤ n ∧ n < 2 ^ 62) (h0 : I ρ)
    (hs : ∀ (i : Nat) (ρ2 : PD.Env) (De' : DEnds), i < (n - m).toNat → I ρ2 → (∀ ρ, I ρ → De'.nx ρ) → b De' (ρ2.set j (some (.int (m + i))))) (hd : ∀ ρ, I ρ → De.nx ρ) : dFor (dRange2 (dC (.int m)) (dC (.int n))) (dgName j) b De ρ := by
  refine ⟨hn, fun _ => I, h0, fun i d ρ2 hi h2 => ?_, fun ρ2 h2 => hd ρ2 h2⟩
  obtain ⟨hj, rfl⟩ := rgD_got hi
  exact hs i ρ2 _ hj h2 fun _ h => h
theorem for_any {di : DI} {g : DG} {b : DS} {De : DEnds} {ρ : PD.Env} (X : D → Prop) (I : PD.Env → Prop)
    (h0 : ∀ C : List D → PD.Env → Prop, (∀ items ρ1, (∀ d ∈ items, X d) → I ρ1 → C items ρ1) → di ρ C)
    (hs : ∀ (d : D) (ρ2 : PD.Env) (De' : DEnds), X d → I ρ2 → (∀ ρ, I ρ → De'.nx ρ) → g d ρ2 (b De')) (hd : ∀ ρ, I ρ → De.nx ρ) : dFor di g b De ρ :=
  h0 _ fun items ρ1 hx h1 => ⟨fun _ => I, h1, fun i d ρ2 hi h2 => hs d ρ2 _ (hx d (List.mem_of_getElem? hi)) h2 fun _ h => h, fun ρ2 h2 => hd ρ2 h2⟩
theorem pair_ok {k m : D} {x0 x1 x2 x5 x6 x7 x8 x9 x10 x11 : Option D} {De : DEnds} {W : Ex → Prop} (pk : Plain k) (pm : Plain m) (no : okKM k m = false)
    (hn : De.nx [x0, x1, x2, some m, some k, x5, x6, x7, x8, x9, x10, x11]) :
    (dSeq (dIfS (dTest (dOp neP (dTold F__law_read (fun i => i == 2) (fun W => (dCall F_squares W (dCons (dVar 4) (dCons (dVar 3) dNil))))) (dTup (dCons (dC (.int 1)) (dCons (dC (.str "range")) dNil)))))
  (dRet (dC (.bl false)))
  dNext)
  (dIfS (dTest (dOp neP (dTold F__law_read (fun i => i == 2) (fun W => (dCall F_is_squares W (dCons (dVar 4) (dCons (dVar 3) (dCons (dTup dNil) dNil)))))) (dTup (dCons (dC (.int 1)) (dCons (dC (.str "range")) dNil)))))
  (dRet (dC (.bl false)))
  dNext)) De [x0, x1, x2, some m, some k, x5, x6, x7, x8, x9, x10, x11] := by
  have o : okN 60 (.tup [.int 1, .str "range"]) = true := by
    simp only [okN, okNs, Bool.and_true, Bool.true_and]; decide +kernel
  simp only [dC_e, dVar_e, dOwn_e, dOp_e, dUn_e, dNil_e, dCons_e, dTup_e, dLst_e, dCB_e, dCall_e, dCallB_e, dSeq_e, dNext_e, dBreak_e, dCont_e, dDrop_e, dRet_e, dRetN_e, dIfS_e, dSet_e, dSetO_e, dAug_e, dRaise_e, dApp_e, dAsg_e, dPar_e, dPar3_e, dPar_vvo_e, dgName_e, dgTup_e, dgCons_e, dgNil_e, dTest_e, dAnd_e, dOr_e, dNot_e, dYes_e, dIf_e, dAndV_e, dOrV_e, dNotV_e, dIsi_e, dBits_e, dTuple_e, dSeqI_e, dChain_e, i2_e, i2'_e, u1_e, eqP_int, neP_int, addP_int, addP_tup, addP_lst, lenP_lst, lenP_tup, lenP_scr, absP_int, intP_int, isN_P, notN_P, isB2_P, tuple_lst, sel_t, sel_f, ixP_t0, ixP_t1, ixP_l0, ixP_l1, ixP_own0, ixP_own1, startD, List.map_cons, List.map_nil, List.length_cons, List.length_nil, List.cons_append, List.nil_append, List.getElem?_cons_zero, List.getElem?_cons_succ, List.set_cons_zero, List.set_cons_succ, Nat.reduceAdd, Nat.reduceSub, List.replicate_succ, List.replicate_zero, Option.some.injEq, dTold, wipe12]
  refine ⟨k, m, rfl, pk, pm, fun _ => ?_, fun kk mm _ _ h => (by rw [no] at h; cases h)⟩
  refine neP_self o ?_
  refine ⟨k, m, _, rfl, pk, pm, ⟨⟨rfl, rfl⟩, fun xs e => (by cases e; exact ⟨by decide, fun x h => (by cases h)⟩)⟩, fun _ => ?_, fun kk mm _ _ h => (by rw [no] at h; cases h)⟩
  exact neP_self o hn
def InvL (ns : List Int) (t : Nat) (ρ : PD.Env) : Prop := ∃ bx x3 x4 x5 x6 x7 x8 x9 x10 x11, BoxOk bx ∧ ρ = [some (.scr ns), some (.int t), some bx, x3, x4, x5, x6, x7, x8, x9, x10, x11]
def InvM (ns : List Int) (t m : Nat) (ρ : PD.Env) : Prop := ∃ bx x4 x5 x6 x7 x8 x9 x10 x11, BoxOk bx ∧ ρ = [some (.scr ns), some (.int t), some bx, some (.int m), x4, x5, x6, x7, x8, x9, x10, x11]
def InvT (ns : List Int) (ρ : PD.Env) : Prop := ∃ x1 x2 x3 x4 x5 x6 x7 x8 x9 x10 x11, ρ = [some (.scr ns), x1, x2, x3, x4, x5, x6, x7, x8, x9, x10, x11]
theorem sp_law : ∀ args P W, args.length = 1 → F_law args P W → d_law W ⟨fun _ => P .non, fun d ρ => P (retD ρ d), fun _ => False, fun _ => False⟩ (startD 12 args) := by
  rintro args P W _ ⟨ns, rfl, hl, hz, hP⟩
  unfold d_law
  refine seq_of (fun _ => True) (fun ρ _ => hP) fun C hC => ?_
  refine for_r1 (InvT ns) (by decide) ⟨_, _, _, _, _, _, _, _, _, _, _, rfl⟩ ?_ fun ρ _ => hC ρ trivial
  rintro t ρ2 De ht ⟨x1, x2, x3, x4, x5, x6, x7, x8, x9, x10, x11, rfl⟩ hDe
  refine seq_of (InvL ns t) ?_ ?_
  rotate_left
  · intro C hC
    simp only [dC_e, dVar_e, dOwn_e, dOp_e, dUn_e, dNil_e, dCons_e, dTup_e, dLst_e, dCB_e, dCall_e, dCallB_e, dSeq_e, dNext_e, dBreak_e, dCont_e, dDrop_e, dRet_e, dRetN_e, dIfS_e, dSet_e, dSetO_e, dAug_e, dRaise_e, dApp_e, dAsg_e, dPar_e, dPar3_e, dPar_vvo_e, dgName_e, dgTup_e, dgCons_e, dgNil_e, dTest_e, dAnd_e, dOr_e, dNot_e, dYes_e, dIf_e, dAndV_e, dOrV_e, dNotV_e, dIsi_e, dBits_e, dTuple_e, dSeqI_e, dChain_e, i2_e, i2'_e, u1_e, eqP_int, neP_int, addP_int, addP_tup, addP_lst, lenP_lst, lenP_tup, lenP_scr, absP_int, intP_int, isN_P, notN_P, isB2_P, tuple_lst, sel_t, sel_f, ixP_t0, ixP_t1, ixP_l0, ixP_l1, ixP_own0, ixP_own1, startD, List.map_cons, List.map_nil, List.length_cons, List.length_nil, List.cons_append, List.nil_append, List.getElem?_cons_zero, List.getElem?_cons_succ, List.set_cons_zero, List.set_cons_succ, Nat.reduceAdd, Nat.reduceSub, List.replicate_succ, List.replicate_zero, Option.some.injEq]
    exact ⟨ns, t, rfl, ⟨hl, hz⟩, fun d hd => ⟨by decide, hC _ ⟨d, _, _, _, _, _, _, _, _, _, hd, rfl⟩⟩⟩
  intro ρ hρ
  refine seq_of (InvL ns t) ?_ ?_
  rotate_left
  · intro C hC
    refine for_any (fun d => ∃ m : Nat, d = .int m ∧ m ≤ 1000000) (InvL ns t) ?_ ?_ hC
    · intro C hC
      obtain ⟨bx, x3, x4, x5, x6, x7, x8, x9, x10, x11, hb, rfl⟩ := hρ
      simp only [dC_e, dVar_e, dOwn_e, dOp_e, dUn_e, dNil_e, dCons_e, dTup_e, dLst_e, dCB_e, dCall_e, dCallB_e, dSeq_e, dNext_e, dBreak_e, dCont_e, dDrop_e, dRet_e, dRetN_e, dIfS_e, dSet_e, dSetO_e, dAug_e, dRaise_e, dApp_e, dAsg_e, dPar_e, dPar3_e, dPar_vvo_e, dgName_e, dgTup_e, dgCons_e, dgNil_e, dTest_e, dAnd_e, dOr_e, dNot_e, dYes_e, dIf_e, dAndV_e, dOrV_e, dNotV_e, dIsi_e, dBits_e, dTuple_e, dSeqI_e, dChain_e, i2_e, i2'_e, u1_e, eqP_int, neP_int, addP_int, addP_tup, addP_lst, lenP_lst, lenP_tup, lenP_scr, absP_int, intP_int, isN_P, notN_P, isB2_P, tuple_lst, sel_t, sel_f, ixP_t0, ixP_t1, ixP_l0, ixP_l1, ixP_own0, ixP_own1, startD, List.map_cons, List.map_nil, List.length_cons, List.length_nil, List.cons_append, List.nil_append, List.getElem?_cons_zero, List.getElem?_cons_succ, List.set_cons_zero, List.set_cons_succ, Nat.reduceAdd, Nat.reduceSub, List.replicate_succ, List.replicate_zero, Option.some.injEq]
      refine ⟨_, rfl, hb, fun i1 b1 hb1 h1 => ?_⟩
      simp only [dC_e, dVar_e, dOwn_e, dOp_e, dUn_e, dNil_e, dCons_e, dTup_e, dLst_e, dCB_e, dCall_e, dCallB_e, dSeq_e, dNext_e, dBreak_e, dCont_e, dDrop_e, dRet_e, dRetN_e, dIfS_e, dSet_e, dSetO_e, dAug_e, dRaise_e, dApp_e, dAsg_e, dPar_e, dPar3_e, dPar_vvo_e, dgName_e, dgTup_e, dgCons_e, dgNil_e, dTest_e, dAnd_e, dOr_e, dNot_e, dYes_e, dIf_e, dAndV_e, dOrV_e, dNotV_e, dIsi_e, dBits_e, dTuple_e, dSeqI_e, dChain_e, i2_e, i2'_e, u1_e, eqP_int, neP_int, addP_int, addP_tup, addP_lst, lenP_lst, lenP_tup, lenP_scr, absP_int, intP_int, isN_P, notN_P, isB2_P, tuple_lst, sel_t, sel_f, ixP_t0, ixP_t1, ixP_l0, ixP_l1, ixP_own0, ixP_own1, startD, List.map_cons, List.map_nil, List.length_cons, List.length_nil, List.cons_append, List.nil_append, List.getElem?_cons_zero, List.getElem?_cons_succ, List.set_cons_zero, List.set_cons_succ, Nat.reduceAdd, Nat.reduceSub, List.replicate_succ, List.replicate_zero, Option.some.injEq]
      refine ⟨_, rfl, hb1, fun i2 b2 hb2 h2 => ?_⟩
      simp only [dC_e, dVar_e, dOwn_e, dOp_e, dUn_e, dNil_e, dCons_e, dTup_e, dLst_e, dCB_e, dCall_e, dCallB_e, dSeq_e, dNext_e, dBreak_e, dCont_e, dDrop_e, dRet_e, dRetN_e, dIfS_e, dSet_e, dSetO_e, dAug_e, dRaise_e, dApp_e, dAsg_e, dPar_e, dPar3_e, dPar_vvo_e, dgName_e, dgTup_e, dgCons_e, dgNil_e, dTest_e, dAnd_e, dOr_e, dNot_e, dYes_e, dIf_e, dAndV_e, dOrV_e, dNotV_e, dIsi_e, dBits_e, dTuple_e, dSeqI_e, dChain_e, i2_e, i2'_e, u1_e, eqP_int, neP_int, addP_int, addP_tup, addP_lst, lenP_lst, lenP_tup, lenP_scr, absP_int, intP_int, isN_P, notN_P, isB2_P, tuple_lst, sel_t, sel_f, ixP_t0, ixP_t1, ixP_l0, ixP_l1, ixP_own0, ixP_own1, startD, List.map_cons, List.map_nil, List.length_cons, List.length_nil, List.cons_append, List.nil_append, List.getElem?_cons_zero, List.getElem?_cons_succ, List.set_cons_zero, List.set_cons_succ, Nat.reduceAdd, Nat.reduceSub, List.replicate_succ, List.replicate_zero, Option.some.injEq]
      refine ⟨_, 300, rfl, hb2, by decide, by decide, fun i3 b3 hb3 h3 => ?_⟩
      simp only [dC_e, dVar_e, dOwn_e, dOp_e, dUn_e, dNil_e, dCons_e, dTup_e, dLst_e, dCB_e, dCall_e, dCallB_e, dSeq_e, dNext_e, dBreak_e, dCont_e, dDrop_e, dRet_e, dRetN_e, dIfS_e, dSet_e, dSetO_e, dAug_e, dRaise_e, dApp_e, dAsg_e, dPar_e, dPar3_e, dPar_vvo_e, dgName_e, dgTup_e, dgCons_e, dgNil_e, dTest_e, dAnd_e, dOr_e, dNot_e, dYes_e, dIf_e, dAndV_e, dOrV_e, dNotV_e, dIsi_e, dBits_e, dTuple_e, dSeqI_e, dChain_e, i2_e, i2'_e, u1_e, eqP_int, neP_int, addP_int, addP_tup, addP_lst, lenP_lst, lenP_tup, lenP_scr, absP_int, intP_int, isN_P, notN_P, isB2_P, tuple_lst, sel_t, sel_f, ixP_t0, ixP_t1, ixP_l0, ixP_l1, ixP_own0, ixP_own1, startD, List.map_cons, List.map_nil, List.length_cons, List.length_nil, List.cons_append, List.nil_append, List.getElem?_cons_zero, List.getElem?_cons_succ, List.set_cons_zero, List.set_cons_succ, Nat.reduceAdd, Nat.reduceSub, List.replicate_succ, List.replicate_zero, Option.some.injEq]
      refine ⟨_, 1000, rfl, hb3, by decide, by decide, fun i4 b4 hb4 h4 => ?_⟩
      refine hC _ _ ?_ ⟨_, _, _, _, _, _, _, _, _, _, hb4, rfl⟩
      intro d hd
      simp only [List.mem_cons, List.not_mem_nil, or_false] at hd
      rcases hd with rfl | rfl | rfl | rfl
      · exact ⟨i1, rfl, h1⟩
      · exact ⟨i2, rfl, h2⟩
      · exact ⟨i3, rfl, by omega⟩
      · exact ⟨1000000 - i4, by rw [show ((1000000 - i4 : Nat) : Int) = 1000000 - (i4 : Int) by omega], by omega⟩
    · rintro d ρ3 De' ⟨m, rfl, hm⟩ ⟨bx, x3, x4, x5, x6, x7, x8, x9, x10, x11, hb, rfl⟩ hD
      refine for_r2 (InvM ns t m) (by decide) ⟨_, _, _, _, _, _, _, _, _, hb, rfl⟩ ?_ ?_
      · rintro i ρ4 De2 hi ⟨bx, x4, x5, x6, x7, x8, x9, x10, x11, hb, rfl⟩ hD2
        have hi : i < 4 := hi
        rw [show (1 : Int) + (i : Nat) = ((i + 1 : Nat) : Int) by omega]
        refine checks (by omega) (by omega) hm hb fun y5 y6 l hll hbd => ?_
        refine try_all (by omega) (by omega) hm hll hb hbd fun bx' y5 y6 y7 y8 y9 y10 y11 hb' => ?_
        exact hD2 _ ⟨_, _, _, _, _, _, _, _, _, hb', rfl⟩
      · rintro ρ4 ⟨bx, x4, x5, x6, x7, x8, x9, x10, x11, hb, rfl⟩
        exact hD _ ⟨_, _, _, _, _, _, _, _, _, _, hb, rfl⟩
  rintro ρ hρ
  refine for_any (fun d => ∃ k m, d = .tup [k, m] ∧ Plain k ∧ Plain m ∧ okKM k m = false) (InvL ns t) ?_ ?_ ?_
  · intro C hC
    simp only [dC_e, dVar_e, dOwn_e, dOp_e, dUn_e, dNil_e, dCons_e, dTup_e, dLst_e, dCB_e, dCall_e, dCallB_e, dSeq_e, dNext_e, dBreak_e, dCont_e, dDrop_e, dRet_e, dRetN_e, dIfS_e, dSet_e, dSetO_e, dAug_e, dRaise_e, dApp_e, dAsg_e, dPar_e, dPar3_e, dPar_vvo_e, dgName_e, dgTup_e, dgCons_e, dgNil_e, dTest_e, dAnd_e, dOr_e, dNot_e, dYes_e, dIf_e, dAndV_e, dOrV_e, dNotV_e, dIsi_e, dBits_e, dTuple_e, dSeqI_e, dChain_e, i2_e, i2'_e, u1_e, eqP_int, neP_int, addP_int, addP_tup, addP_lst, lenP_lst, lenP_tup, lenP_scr, absP_int, intP_int, isN_P, notN_P, isB2_P, tuple_lst, sel_t, sel_f, ixP_t0, ixP_t1, ixP_l0, ixP_l1, ixP_own0, ixP_own1, startD, List.map_cons, List.map_nil, List.length_cons, List.length_nil, List.cons_append, List.nil_append, List.getElem?_cons_zero, List.getElem?_cons_succ, List.set_cons_zero, List.set_cons_succ, Nat.reduceAdd, Nat.reduceSub, List.replicate_succ, List.replicate_zero, Option.some.injEq, u1_e]
    refine hC _ _ ?_ hρ
    intro d hd
    simp only [List.mem_cons, List.not_mem_nil, or_false] at hd
    rcases hd with rfl | rfl | rfl | rfl | rfl | rfl | rfl | rfl <;> exact ⟨_, _, rfl, ⟨rfl, rfl⟩, ⟨rfl, rfl⟩, by decide +kernel⟩
  · rintro d ρ3 De' ⟨k, m, rfl, pk, pm, no⟩ ⟨bx, x3, x4, x5, x6, x7, x8, x9, x10, x11, hb, rfl⟩ hD
    refine ⟨rfl, ?_⟩
    refine pair_ok (W := W) pk pm no ?_
    exact hD _ ⟨_, _, _, _, _, _, _, _, _, _, hb, rfl⟩
  · rintro ρ4 ⟨bx, x3, x4, x5, x6, x7, x8, x9, x10, x11, hb, rfl⟩
    exact hDe _ ⟨_, _, _, _, _, _, _, _, _, _, _, rfl⟩
end K07

end
section
set_option Elab.async false
set_option maxHeartbeats 400000
set_option linter.all false
set_option maxRecDepth 100000
namespace K07
open PySem PySem.Spec PyProof.Rows L2 RZ PD

def topS (i : Nat) : Stmt := PySem.Challenge.pw_allplaces_k07_squares.main.body.getD i (.Pass ⟨0, 0, 0, 0⟩)
abbrev s_is_number : Stmt := topS 5
abbrev s_primes_of : Stmt := topS 6
abbrev s_root : Stmt := topS 7
abbrev s_check_numbers : Stmt := topS 10
abbrev s_barred : Stmt := topS 11
abbrev s_fours : Stmt := topS 12
abbrev s_is_three : Stmt := topS 13
abbrev s_two : Stmt := topS 14
abbrev s_three : Stmt := topS 15
abbrev s_four : Stmt := topS 16
abbrev s_squares : Stmt := topS 17
abbrev s_is_squares : Stmt := topS 18
abbrev s__law_read : Stmt := topS 20
abbrev s__law_cell : Stmt := topS 21
abbrev s__law_stream : Stmt := topS 22
abbrev s__law_draw : Stmt := topS 23
abbrev s__law_told : Stmt := topS 24
abbrev s__law_primes : Stmt := topS 25
abbrev s__law_is_squares : Stmt := topS 26
abbrev s__law_forbids : Stmt := topS 27
abbrev s__law_number : Stmt := topS 28
abbrev s_law : Stmt := topS 29
theorem sc_is_number : FnScope ["told", "least", "most"] ["told", "least", "most"] (defScope s_is_number) := ⟨rfl, rfl, rfl, by decide +kernel, rfl, by decide +kernel, by decide +kernel⟩
theorem sc_primes_of : FnScope ["number", "rest", "told", "prime", "often"] ["number"] (defScope s_primes_of) := ⟨rfl, rfl, rfl, by decide +kernel, rfl, by decide +kernel, by decide +kernel⟩
theorem sc_root : FnScope ["number", "told"] ["number"] (defScope s_root) := ⟨rfl, rfl, rfl, by decide +kernel, rfl, by decide +kernel, by decide +kernel⟩
theorem sc_check_numbers : FnScope ["k", "m"] ["k", "m"] (defScope s_check_numbers) := ⟨rfl, rfl, rfl, by decide +kernel, rfl, by decide +kernel, by decide +kernel⟩
theorem sc_barred : FnScope ["m", "prime", "often"] ["m"] (defScope s_barred) := ⟨rfl, rfl, rfl, by decide +kernel, rfl, by decide +kernel, by decide +kernel⟩
theorem sc_fours : FnScope ["m", "often"] ["m"] (defScope s_fours) := ⟨rfl, rfl, rfl, by decide +kernel, rfl, by decide +kernel, by decide +kernel⟩
theorem sc_is_three : FnScope ["m"] ["m"] (defScope s_is_three) := ⟨rfl, rfl, rfl, by decide +kernel, rfl, by decide +kernel, by decide +kernel⟩
theorem sc_two : FnScope ["m", "x"] ["m"] (defScope s_two) := ⟨rfl, rfl, rfl, by decide +kernel, rfl, by decide +kernel, by decide +kernel⟩
theorem sc_three : FnScope ["m", "x"] ["m"] (defScope s_three) := ⟨rfl, rfl, rfl, by decide +kernel, rfl, by decide +kernel, by decide +kernel⟩
theorem sc_four : FnScope ["m", "x"] ["m"] (defScope s_four) := ⟨rfl, rfl, rfl, by decide +kernel, rfl, by decide +kernel, by decide +kernel⟩
theorem sc_squares : FnScope ["k", "m", "often", "rest", "told"] ["k", "m"] (defScope s_squares) := ⟨rfl, rfl, rfl, by decide +kernel, rfl, by decide +kernel, by decide +kernel⟩
theorem sc_is_squares : FnScope ["k", "m", "told", "item", "at"] ["k", "m", "told"] (defScope s_is_squares) := ⟨rfl, rfl, rfl, by decide +kernel, rfl, by decide +kernel, by decide +kernel⟩
theorem sc__law_read : FnScope ["told", "sign", "part"] ["told"] (defScope s__law_read) := ⟨rfl, rfl, rfl, by decide +kernel, rfl, by decide +kernel, by decide +kernel⟩
theorem sc__law_cell : FnScope ["script", "k"] ["script", "k"] (defScope s__law_cell) := ⟨rfl, rfl, rfl, by decide +kernel, rfl, by decide +kernel, by decide +kernel⟩
theorem sc__law_stream : FnScope ["script", "k"] ["script", "k"] (defScope s__law_stream) := ⟨rfl, rfl, rfl, by decide +kernel, rfl, by decide +kernel, by decide +kernel⟩
theorem sc__law_draw : FnScope ["box", "many", "told"] ["box", "many"] (defScope s__law_draw) := ⟨rfl, rfl, rfl, by decide +kernel, rfl, by decide +kernel, by decide +kernel⟩
theorem sc__law_told : FnScope ["call", "e", "words", "word", "is_so"] ["call"] (defScope s__law_told) := ⟨rfl, rfl, rfl, by decide +kernel, rfl, by decide +kernel, by decide +kernel⟩
theorem sc__law_primes : FnScope ["number", "p", "found"] ["number"] (defScope s__law_primes) := ⟨rfl, rfl, rfl, by decide +kernel, rfl, by decide +kernel, by decide +kernel⟩
theorem sc__law_is_squares : FnScope ["k", "m", "told", "a"] ["k", "m", "told"] (defScope s__law_is_squares) := ⟨rfl, rfl, rfl, by decide +kernel, rfl, by decide +kernel, by decide +kernel⟩
theorem sc__law_forbids : FnScope ["k", "m", "r", "p", "often", "rest", "a", "b"] ["k", "m"] (defScope s__law_forbids) := ⟨rfl, rfl, rfl, by decide +kernel, rfl, by decide +kernel, by decide +kernel⟩
theorem sc__law_number : FnScope ["box", "pick", "x", "y", "z"] ["box"] (defScope s__law_number) := ⟨rfl, rfl, rfl, by decide +kernel, rfl, by decide +kernel, by decide +kernel⟩
theorem sc_law : FnScope ["script", "turn", "box", "m", "k", "due", "told", "one", "at", "tries", "a", "some"] ["script"] (defScope s_law) := ⟨rfl, rfl, rfl, by decide +kernel, rfl, by decide +kernel, by decide +kernel⟩
structure Txt (K : PySem.W.Frag) (mg : Str → Option Value) (A : Nat → Addr) (FD : Nat → FuncData) (cl : Ex → Addr) (CC PT : Nat → Addr) (TT : List (Addr × Str)) (pe : Addr) : Prop where
  f0 : Fun K "is_number" "is_number" s_is_number (A 0) (FD 0)
  g0 : mg "is_number" = some (.ref (A 0))
  b0 : Binds K (FD 0) ["told", "least", "most"] []
  f1 : Fun K "primes_of" "primes_of" s_primes_of (A 1) (FD 1)
  g1 : mg "primes_of" = some (.ref (A 1))
  b1 : Binds K (FD 1) ["number"] []
  f2 : Fun K "root" "root" s_root (A 2) (FD 2)
  g2 : mg "root" = some (.ref (A 2))
  b2 : Binds K (FD 2) ["number"] []
  f3 : Fun K "check_numbers" "check_numbers" s_check_numbers (A 3) (FD 3)
  g3 : mg "check_numbers" = some (.ref (A 3))
  b3 : Binds K (FD 3) ["k", "m"] []
  f4 : Fun K "barred" "barred" s_barred (A 4) (FD 4)
  g4 : mg "barred" = some (.ref (A 4))
  b4 : Binds K (FD 4) ["m"] []
  f5 : Fun K "fours" "fours" s_fours (A 5) (FD 5)
  g5 : mg "fours" = some (.ref (A 5))
  b5 : Binds K (FD 5) ["m"] []
  f6 : Fun K "is_three" "is_three" s_is_three (A 6) (FD 6)
  g6 : mg "is_three" = some (.ref (A 6))
  b6 : Binds K (FD 6) ["m"] []
  f7 : Fun K "two" "two" s_two (A 7) (FD 7)
  g7 : mg "two" = some (.ref (A 7))
  b7 : Binds K (FD 7) ["m"] []
  f8 : Fun K "three" "three" s_three (A 8) (FD 8)
  g8 : mg "three" = some (.ref (A 8))
  b8 : Binds K (FD 8) ["m"] []
  f9 : Fun K "four" "four" s_four (A 9) (FD 9)
  g9 : mg "four" = some (.ref (A 9))
  b9 : Binds K (FD 9) ["m"] []
  f10 : Fun K "squares" "squares" s_squares (A 10) (FD 10)
  g10 : mg "squares" = some (.ref (A 10))
  b10 : Binds K (FD 10) ["k", "m"] []
  f11 : Fun K "is_squares" "is_squares" s_is_squares (A 11) (FD 11)
  g11 : mg "is_squares" = some (.ref (A 11))
  b11 : Binds K (FD 11) ["k", "m", "told"] []
  f12 : Fun K "_law_read" "_law_read" s__law_read (A 12) (FD 12)
  g12 : mg "_law_read" = some (.ref (A 12))
  b12 : Binds K (FD 12) ["told"] []
  f13 : Fun K "_law_cell" "_law_cell" s__law_cell (A 13) (FD 13)
  g13 : mg "_law_cell" = some (.ref (A 13))
  b13 : Binds K (FD 13) ["script", "k"] []
  f14 : Fun K "_law_stream" "_law_stream" s__law_stream (A 14) (FD 14)
  g14 : mg "_law_stream" = some (.ref (A 14))
  b14 : Binds K (FD 14) ["script", "k"] []
  f15 : Fun K "_law_draw" "_law_draw" s__law_draw (A 15) (FD 15)
  g15 : mg "_law_draw" = some (.ref (A 15))
  b15 : Binds K (FD 15) ["box", "many"] []
  f16 : Fun K "_law_told" "_law_told" s__law_told (A 16) (FD 16)
  g16 : mg "_law_told" = some (.ref (A 16))
  b16 : Binds K (FD 16) ["call"] []
  f17 : Fun K "_law_primes" "_law_primes" s__law_primes (A 17) (FD 17)
  g17 : mg "_law_primes" = some (.ref (A 17))
  b17 : Binds K (FD 17) ["number"] []
  f18 : Fun K "_law_is_squares" "_law_is_squares" s__law_is_squares (A 18) (FD 18)
  g18 : mg "_law_is_squares" = some (.ref (A 18))
  b18 : Binds K (FD 18) ["k", "m", "told"] []
  f19 : Fun K "_law_forbids" "_law_forbids" s__law_forbids (A 19) (FD 19)
  g19 : mg "_law_forbids" = some (.ref (A 19))
  b19 : Binds K (FD 19) ["k", "m"] []
  f20 : Fun K "_law_number" "_law_number" s__law_number (A 20) (FD 20)
  g20 : mg "_law_number" = some (.ref (A 20))
  b20 : Binds K (FD 20) ["box"] []
  f21 : FunC K "law" "law" s_law (A 21) (CC 21) (FD 21)
  t21 : (PT 21, ("law.<locals>.<lambda>" : Str)) ∈ TT
  u21 : ∀ p ∈ TT, p.1 = PT 21 → p.2 = "law.<locals>.<lambda>"
  g21 : mg "law" = some (.ref (A 21))
  b21 : Binds K (FD 21) ["script"] []
  z_abs : mg "abs" = none
  z_all : mg "all" = none
  z_any : mg "any" = none
  z_bool : mg "bool" = none
  z_enumerate : mg "enumerate" = none
  z_int : mg "int" = none
  z_isinstance : mg "isinstance" = none
  z_len : mg "len" = none
  z_list : mg "list" = none
  z_max : mg "max" = none
  z_min : mg "min" = none
  z_range : mg "range" = none
  z_repr : mg "repr" = none
  z_set : mg "set" = none
  z_sorted : mg "sorted" = none
  z_str : mg "str" = none
  z_sum : mg "sum" = none
  z_tuple : mg "tuple" = none
  z_zip : mg "zip" = none
  m_GREATEST : ∃ t, mg "GREATEST" = some (.int (1000000) t)
  x_BadForm : PySem.W.excIn K (cl .form) [.type "ValueError", .type "Exception", .type "BaseException", .type "object"] "ValueError.__new__" = true
  g_BadForm : mg "BadForm" = some (.ref (cl .form))
  k_BadForm : PySem.W.keepIn K (.ref (cl .form)) = true
  e_BadForm : PySem.W.subIn K (.ref (cl .form)) (.type "BaseException") = some true
  t_BadForm : PySem.W.typeIn K (.ref (cl .form)) = some (.type "type")
  x_OutOfRange : PySem.W.excIn K (cl .range) [.type "ValueError", .type "Exception", .type "BaseException", .type "object"] "ValueError.__new__" = true
  g_OutOfRange : mg "OutOfRange" = some (.ref (cl .range))
  k_OutOfRange : PySem.W.keepIn K (.ref (cl .range)) = true
  e_OutOfRange : PySem.W.subIn K (.ref (cl .range)) (.type "BaseException") = some true
  t_OutOfRange : PySem.W.typeIn K (.ref (cl .range)) = some (.type "type")
  g_PlaceError : mg "PlaceError" = some (.ref pe)
  ff : ∀ x, ExF K cl pe x
abbrev TB0 (base : Heap) (mg : Str → Option Value) (CC PT : Nat → Addr) : Prop := LamX.TabB base mg (CC 21) (PT 21) ∧ True
section
variable {P : Program} {w : World} {K : PySem.W.Frag} {mg : Str → Option Value} {base : Heap} {A : Nat → Addr} {FD : Nat → FuncData} {cl : Ex → Addr} {CC PT : Nat → Addr} {TT : List (Addr × Str)} {pe : Addr}

theorem ok_is_number (T : Txt K mg A FD cl CC PT TT pe) (TB0 : TB0 base mg CC PT) : FnOk P w K mg base (L2N.CX P w) 1 (A 0) (FD 0) ["told", "least", "most"] (spP K cl TT 3 F_is_number) := by
  have z_int := T.z_int
  have z_isinstance := T.z_isinstance
  have nd := sc_is_number.nd
  refine fn_pure T.f0 sc_is_number (fun _ => false) (by decide) d_is_number (fun cdv A0 outer s H E hr => ?_) sp_is_number
  exact ⟨_, (pss_one (ps_ret (pe_and (pe_callB (call_isi_K (K := K) rfl) (by rfl) z_isinstance bt_isinstance (pa_cons (pv 0) (pa_cons (pe_bltn (v := .ty "int") (by rfl) z_int bt_int rfl) pa_nil))) (pe_one (pe_chain op_le op_le (pv 1) (pv 0) (pv 2)))))),
   fun z h0 W he => (ss_ret (SV.se (sv_andV (sv_isi kit_int (sv_var 0 rfl)) (sv_chain sr_le sr_le (sv_var 1 rfl) (sv_var 0 rfl) (sv_var 2 rfl)))))⟩
theorem ok_primes_of (T : Txt K mg A FD cl CC PT TT pe) (TB0 : TB0 base mg CC PT) : FnOk P w K mg base (L2N.CX P w) 1 (A 1) (FD 1) ["number"] (spP K cl TT 1 F_primes_of) := by
  have z_abs := T.z_abs
  have nd := sc_primes_of.nd
  refine fn_pure T.f1 sc_primes_of (fun i => i == 2) (by decide) d_primes_of (fun cdv A0 outer s H E hr => ?_) sp_primes_of
  exact ⟨_, (pss_cons (ps_set (i := 1) nd rfl (Or.inl rfl) (pe_callB call_abs (by rfl) z_abs bt_abs (pa_cons (pv 0) pa_nil)))
  (pss_cons (ps_set (i := 2) nd rfl (Or.inl rfl) (pe_lst pa_nil))
  (pss_cons (ps_set (i := 3) nd rfl (Or.inl rfl) pe_int)
  (pss_cons (ps_while (passes_of rfl) (pt_cmpR op_le (pe_op op_mulW (pv 3) (pv 3)) (pv 1) (nomark _))
  (pss_cons (ps_set (i := 4) nd rfl (Or.inl rfl) pe_int)
  (pss_cons (ps_while (passes_of rfl) (pt_cmpR (op_eqDK (K := K) rfl hr.units) (pe_op op_mod (pv 1) (pv 3)) pe_int (nomark _))
  (pss_one (ps_par rfl nd rfl rfl (by decide) rfl rfl (pa_cons (pe_op op_fdivW (pv 1) (pv 3)) (pa_cons (pe_op (op_add4K (K := K) rfl) (pv 4) pe_int) pa_nil)) (by rfl))))
  (pss_cons (ps_if (pt_cmpR op_gt (pv 4) pe_int (nomark _))
  (pss_one (ps_expr (pe_appK (K := K) rfl (pv 2) (pe_tup (pa_cons (pv 3) (pa_cons (pv 4) pa_nil))))))
  pss_nil)
  (pss_one (ps_aug (i := 3) nd rfl (Or.inl rfl) (pe_ifExp (pt_cmpR (op_eqDK (K := K) rfl hr.units) (pv 3) pe_int (nomark _)) pe_int pe_int) ip_add))))))
  (pss_one (ps_ret (pe_ifExp (pt_cmpR op_gt (pv 1) pe_int (nomark _)) (pe_op (op_add4K (K := K) rfl) (pv 2) (pe_lst (pa_cons (pe_tup (pa_cons (pv 1) (pa_cons pe_int pa_nil))) pa_nil))) (pv 2)))))))),
   fun z h0 W he => (ss_seq (ss_set 1 rfl (sv_cb sr_abs (sao_cons (SV.se (sv_var 0 rfl)) sao_nil)))
  (ss_seq (ss_setO 2 rfl (.inl rfl) (sf_lst sa_nil))
  (ss_seq (ss_set 3 rfl sv_int)
  (ss_seq (ss_while (st_testO (sv_op sr_le (SV.se (sv_op sr_mul (SV.se (sv_var 3 rfl)) (SV.se (sv_var 3 rfl)))) (SV.se (sv_var 1 rfl))))
  (ss_seq (ss_set 4 rfl sv_int)
  (ss_seq (ss_while (st_testO (sv_op sr_eq (SV.se (sv_op sr_mod (SV.se (sv_var 1 rfl)) (SV.se (sv_var 3 rfl)))) (SV.se sv_int)))
  (ss_par 1 4 rfl rfl (sa_cons (sv_op sr_div (SV.se (sv_var 1 rfl)) (SV.se (sv_var 3 rfl))) (sa_cons (sv_op sr_add (SV.se (sv_var 4 rfl)) (SV.se sv_int)) sa_nil))))
  (ss_seq (ss_if (st_testO (sv_op sr_gt (SV.se (sv_var 4 rfl)) (SV.se sv_int)))
  (ss_app 2 rfl (sv_tup (sa_cons (sv_var 3 rfl) (sa_cons (sv_var 4 rfl) sa_nil))))
  ss_next)
  (ss_aug 3 rfl (sv_if (st_testO (sv_op sr_eq (SV.se (sv_var 3 rfl)) (SV.se sv_int))) sv_int sv_int))))))
  (ss_ret (se_if (st_testO (sv_op sr_gt (SV.se (sv_var 1 rfl)) (SV.se sv_int))) (SV.se (sv_op sr_add (se_own 2 rfl) (SV.se (sv_lst (sa_cons (sv_tup (sa_cons (sv_var 1 rfl) (sa_cons sv_int sa_nil))) sa_nil))))) (se_own 2 rfl)))))))⟩
theorem ok_root (T : Txt K mg A FD cl CC PT TT pe) (TB0 : TB0 base mg CC PT) : FnOk P w K mg base (L2N.CX P w) 1 (A 2) (FD 2) ["number"] (spP K cl TT 1 F_root) := by
  have nd := sc_root.nd
  refine fn_pure T.f2 sc_root (fun _ => false) (by decide) d_root (fun cdv A0 outer s H E hr => ?_) sp_root
  exact ⟨_, (pss_cons (ps_if (pt_cmpR (op_eqDK (K := K) rfl hr.units) (pv 0) pe_int (nomark _))
  (pss_one (ps_ret pe_int))
  pss_nil)
  (pss_cons (ps_set (i := 1) nd rfl (Or.inl rfl) (pe_op op_shl pe_int (pe_op op_fdivW (pe_op (op_add4K (K := K) rfl) (pe_bits (pv 0)) pe_int) pe_int)))
  (pss_cons (ps_while (passes_of rfl) (pt_cmpR op_gt (pe_op op_mulW (pv 1) (pv 1)) (pv 0) (nomark _))
  (pss_one (ps_set (i := 1) nd rfl (Or.inl rfl) (pe_op op_fdivW (pe_op (op_add4K (K := K) rfl) (pv 1) (pe_op op_fdivW (pv 0) (pv 1))) pe_int))))
  (pss_one (ps_ret (pv 1)))))),
   fun z h0 W he => (ss_seq (ss_if (st_testO (sv_op sr_eq (SV.se (sv_var 0 rfl)) (SV.se sv_int)))
  (ss_ret (SV.se sv_int))
  ss_next)
  (ss_seq (ss_set 1 rfl (sv_op sr_shl (SV.se sv_int) (SV.se (sv_op sr_div (SV.se (sv_op sr_add (SV.se (sv_bits (sv_var 0 rfl))) (SV.se sv_int))) (SV.se sv_int)))))
  (ss_seq (ss_while (st_testO (sv_op sr_gt (SV.se (sv_op sr_mul (SV.se (sv_var 1 rfl)) (SV.se (sv_var 1 rfl)))) (SV.se (sv_var 0 rfl))))
  (ss_set 1 rfl (sv_op sr_div (SV.se (sv_op sr_add (SV.se (sv_var 1 rfl)) (SV.se (sv_op sr_div (SV.se (sv_var 0 rfl)) (SV.se (sv_var 1 rfl)))))) (SV.se sv_int))))
  (ss_ret (SV.se (sv_var 1 rfl))))))⟩
theorem ok_check_numbers (T : Txt K mg A FD cl CC PT TT pe) (TB0 : TB0 base mg CC PT) : FnOk P w K mg base (L2N.CX P w) 2 (A 3) (FD 3) ["k", "m"] (spP K cl TT 2 F_check_numbers) := by
  obtain ⟨_, m_GREATEST⟩ := T.m_GREATEST
  have G_is_number : FnOk P w K mg base (L2N.CX P w) 1 (A 0) (FD 0) ["told", "least", "most"] (spP K cl TT 3 F_is_number) := ok_is_number T TB0
  have nd := sc_check_numbers.nd
  refine fn_pure T.f3 sc_check_numbers (fun _ => false) (by decide) d_check_numbers (fun cdv A0 outer s H E hr => ?_) sp_check_numbers
  exact ⟨_, (pss_one (ps_if (PW.pt (pw_or (pt_not (pt_val (pe_call G_is_number (hr.mono (by decide)) (by rfl) T.g0 T.f0.kp T.b0 .nil (L2N.passes_call (L2N.takes_of rfl rfl rfl rfl) (fun _ _ _ _ h => h)) (pa_cons (pv 0) (pa_cons pe_int (pa_cons pe_int pa_nil)))))) (pw_or1 (pt_not (pt_val (pe_call G_is_number (hr.mono (by decide)) (by rfl) T.g0 T.f0.kp T.b0 .nil (L2N.passes_call (L2N.takes_of rfl rfl rfl rfl) (fun _ _ _ _ h => h)) (pa_cons (pv 1) (pa_cons pe_int (pa_cons (pe_glob (v := .int (1000000)) (by rfl) m_GREATEST ⟨_, rfl⟩) pa_nil)))))))))
  (pss_one (L2N.ps_raise rfl (L2N.takes_of rfl rfl rfl rfl) (L2N.pmk_own PySem.F.excBase_ValueError T.x_OutOfRange T.g_OutOfRange T.k_OutOfRange (raises_own T.e_OutOfRange T.t_OutOfRange) rfl)))
  pss_nil)),
   fun z h0 W he => (ss_if (st_or (st_not (st_test (sv_call he (sa_cons (sv_var 0 rfl) (sa_cons sv_int (sa_cons sv_int sa_nil)))))) (st_not (st_test (sv_call he (sa_cons (sv_var 1 rfl) (sa_cons sv_int (sa_cons sv_int sa_nil)))))))
  (ss_raise .range he)
  ss_next)⟩
theorem ok_barred (T : Txt K mg A FD cl CC PT TT pe) (TB0 : TB0 base mg CC PT) : FnOk P w K mg base (L2N.CX P w) 2 (A 4) (FD 4) ["m"] (spP K cl TT 1 F_barred) := by
  have G_primes_of : FnOk P w K mg base (L2N.CX P w) 1 (A 1) (FD 1) ["number"] (spP K cl TT 1 F_primes_of) := ok_primes_of T TB0
  have nd := sc_barred.nd
  refine fn_pure T.f4 sc_barred (fun _ => false) (by decide) d_barred (fun cdv A0 outer s H E hr => ?_) sp_barred
  exact ⟨_, (pss_cons (ps_for (passes_of rfl) rfl (pi_seqK (K := K) rfl (pe_ifExp (pt_cmpR op_gt (pv 0) pe_int (nomark _)) (pe_call G_primes_of (hr.mono (by decide)) (by rfl) T.g1 T.f1.kp T.b1 .nil (L2N.passes_call (L2N.takes_of rfl rfl rfl rfl) (fun _ _ _ _ h => h)) (pa_cons (pv 0) pa_nil)) (pe_lst pa_nil))) (pg_tupK (K := K) (n := 2) rfl rfl (pgs_cons (pg_name (i := 1) nd rfl (Or.inl rfl)) (pgs_cons (pg_name (i := 2) nd rfl (Or.inl rfl)) pgs_nil)))
  (pss_one (ps_if (PW.pt (pw_and (pt_cmpR (op_eqDK (K := K) rfl hr.units) (pe_op op_mod (pv 1) pe_int) pe_int (nomark _)) (pw_and1 (pt_cmpR (op_eqDK (K := K) rfl hr.units) (pe_op op_mod (pv 2) pe_int) pe_int (nomark _)))))
  (pss_one (ps_ret (pv 1)))
  pss_nil)))
  (pss_one (ps_ret pe_non))),
   fun z h0 W he => (ss_seq (ss_for (si_seq (sv_if (st_testO (sv_op sr_gt (SV.se (sv_var 0 rfl)) (SV.se sv_int))) (sv_call he (sa_cons (sv_var 0 rfl) sa_nil)) (sv_lst sa_nil))) (sg_tup (sgs_cons (sg_name 1 rfl) (sgs_cons (sg_name 2 rfl) sgs_nil)))
  (ss_if (st_and (st_testO (sv_op sr_eq (SV.se (sv_op sr_mod (SV.se (sv_var 1 rfl)) (SV.se sv_int))) (SV.se sv_int))) (st_testO (sv_op sr_eq (SV.se (sv_op sr_mod (SV.se (sv_var 2 rfl)) (SV.se sv_int))) (SV.se sv_int))))
  (ss_ret (SV.se (sv_var 1 rfl)))
  ss_next))
  (ss_ret (SV.se sv_non)))⟩
theorem ok_fours (T : Txt K mg A FD cl CC PT TT pe) (TB0 : TB0 base mg CC PT) : FnOk P w K mg base (L2N.CX P w) 1 (A 5) (FD 5) ["m"] (spP K cl TT 1 F_fours) := by
  have nd := sc_fours.nd
  refine fn_pure T.f5 sc_fours (fun _ => false) (by decide) d_fours (fun cdv A0 outer s H E hr => ?_) sp_fours
  exact ⟨_, (pss_cons (ps_set (i := 1) nd rfl (Or.inl rfl) pe_int)
  (pss_cons (ps_while (passes_of rfl) (pt_cmpR (op_eqDK (K := K) rfl hr.units) (pe_op op_mod (pv 0) pe_int) pe_int (nomark _))
  (pss_one (ps_par rfl nd rfl rfl (by decide) rfl rfl (pa_cons (pe_op op_fdivW (pv 0) pe_int) (pa_cons (pe_op (op_add4K (K := K) rfl) (pv 1) pe_int) pa_nil)) (by rfl))))
  (pss_one (ps_ret (pe_tup (pa_cons (pv 1) (pa_cons (pv 0) pa_nil))))))),
   fun z h0 W he => (ss_seq (ss_set 1 rfl sv_int)
  (ss_seq (ss_while (st_testO (sv_op sr_eq (SV.se (sv_op sr_mod (SV.se (sv_var 0 rfl)) (SV.se sv_int))) (SV.se sv_int)))
  (ss_par 0 1 rfl rfl (sa_cons (sv_op sr_div (SV.se (sv_var 0 rfl)) (SV.se sv_int)) (sa_cons (sv_op sr_add (SV.se (sv_var 1 rfl)) (SV.se sv_int)) sa_nil))))
  (ss_ret (SV.se (sv_tup (sa_cons (sv_var 1 rfl) (sa_cons (sv_var 0 rfl) sa_nil)))))))⟩
theorem ok_is_three (T : Txt K mg A FD cl CC PT TT pe) (TB0 : TB0 base mg CC PT) : FnOk P w K mg base (L2N.CX P w) 2 (A 6) (FD 6) ["m"] (spP K cl TT 1 F_is_three) := by
  have G_fours : FnOk P w K mg base (L2N.CX P w) 1 (A 5) (FD 5) ["m"] (spP K cl TT 1 F_fours) := ok_fours T TB0
  have nd := sc_is_three.nd
  refine fn_pure T.f6 sc_is_three (fun _ => false) (by decide) d_is_three (fun cdv A0 outer s H E hr => ?_) sp_is_three
  exact ⟨_, (pss_one (ps_ret (pe_or (pe_cmpR (op_eqDK (K := K) rfl hr.units) (pv 0) pe_int (nomark _)) (pe_one (pe_cmpR (op_neDK (K := K) rfl hr.units) (pe_op op_mod (pe_ix (ix_seqK (K := K) rfl) (pe_call G_fours (hr.mono (by decide)) (by rfl) T.g5 T.f5.kp T.b5 .nil (L2N.passes_call (L2N.takes_of rfl rfl rfl rfl) (fun _ _ _ _ h => h)) (pa_cons (pv 0) pa_nil)) pe_int (fun _ _ => rfl)) pe_int) pe_int (nomark _)))))),
   fun z h0 W he => (ss_ret (SV.se (sv_orV (sv_op sr_eq (SV.se (sv_var 0 rfl)) (SV.se sv_int)) (sv_op sr_ne (SV.se (sv_op sr_mod (SV.se (sv_op sr_ix (SV.se (sv_call he (sa_cons (sv_var 0 rfl) sa_nil))) (SV.se sv_int))) (SV.se sv_int))) (SV.se sv_int)))))⟩
theorem ok_two (T : Txt K mg A FD cl CC PT TT pe) (TB0 : TB0 base mg CC PT) : FnOk P w K mg base (L2N.CX P w) 2 (A 7) (FD 7) ["m"] (spP K cl TT 1 F_two) := by
  have G_root : FnOk P w K mg base (L2N.CX P w) 1 (A 2) (FD 2) ["number"] (spP K cl TT 1 F_root) := ok_root T TB0
  have nd := sc_two.nd
  refine fn_pure T.f7 sc_two (fun _ => false) (by decide) d_two (fun cdv A0 outer s H E hr => ?_) sp_two
  exact ⟨_, (pss_cons (ps_set (i := 1) nd rfl (Or.inl rfl) (pe_call G_root (hr.mono (by decide)) (by rfl) T.g2 T.f2.kp T.b2 .nil (L2N.passes_call (L2N.takes_of rfl rfl rfl rfl) (fun _ _ _ _ h => h)) (pa_cons (pv 0) pa_nil)))
  (pss_cons (ps_while (passes_of rfl) (pt_cmpR (op_neDK (K := K) rfl hr.units) (pe_op op_mulW (pe_call G_root (hr.mono (by decide)) (by rfl) T.g2 T.f2.kp T.b2 .nil (L2N.passes_call (L2N.takes_of rfl rfl rfl rfl) (fun _ _ _ _ h => h)) (pa_cons (pe_op op_sub (pv 0) (pe_op op_mulW (pv 1) (pv 1))) pa_nil)) (pe_call G_root (hr.mono (by decide)) (by rfl) T.g2 T.f2.kp T.b2 .nil (L2N.passes_call (L2N.takes_of rfl rfl rfl rfl) (fun _ _ _ _ h => h)) (pa_cons (pe_op op_sub (pv 0) (pe_op op_mulW (pv 1) (pv 1))) pa_nil))) (pe_op op_sub (pv 0) (pe_op op_mulW (pv 1) (pv 1))) (nomark _))
  (pss_one (ps_aug (i := 1) nd rfl (Or.inl rfl) pe_int ip_sub)))
  (pss_one (ps_ret (pe_lst (pa_cons (pv 1) (pa_cons (pe_call G_root (hr.mono (by decide)) (by rfl) T.g2 T.f2.kp T.b2 .nil (L2N.passes_call (L2N.takes_of rfl rfl rfl rfl) (fun _ _ _ _ h => h)) (pa_cons (pe_op op_sub (pv 0) (pe_op op_mulW (pv 1) (pv 1))) pa_nil)) pa_nil))))))),
   fun z h0 W he => (ss_seq (ss_set 1 rfl (sv_call he (sa_cons (sv_var 0 rfl) sa_nil)))
  (ss_seq (ss_while (st_testO (sv_op sr_ne (SV.se (sv_op sr_mul (SV.se (sv_call he (sa_cons (sv_op sr_sub (SV.se (sv_var 0 rfl)) (SV.se (sv_op sr_mul (SV.se (sv_var 1 rfl)) (SV.se (sv_var 1 rfl))))) sa_nil))) (SV.se (sv_call he (sa_cons (sv_op sr_sub (SV.se (sv_var 0 rfl)) (SV.se (sv_op sr_mul (SV.se (sv_var 1 rfl)) (SV.se (sv_var 1 rfl))))) sa_nil))))) (SV.se (sv_op sr_sub (SV.se (sv_var 0 rfl)) (SV.se (sv_op sr_mul (SV.se (sv_var 1 rfl)) (SV.se (sv_var 1 rfl))))))))
  (ss_aug 1 rfl sv_int))
  (ss_ret (SV.se (sv_lst (sa_cons (sv_var 1 rfl) (sa_cons (sv_call he (sa_cons (sv_op sr_sub (SV.se (sv_var 0 rfl)) (SV.se (sv_op sr_mul (SV.se (sv_var 1 rfl)) (SV.se (sv_var 1 rfl))))) sa_nil)) sa_nil)))))))⟩
theorem ok_three (T : Txt K mg A FD cl CC PT TT pe) (TB0 : TB0 base mg CC PT) : FnOk P w K mg base (L2N.CX P w) 3 (A 8) (FD 8) ["m"] (spP K cl TT 1 F_three) := by
  have G_barred : FnOk P w K mg base (L2N.CX P w) 2 (A 4) (FD 4) ["m"] (spP K cl TT 1 F_barred) := ok_barred T TB0
  have G_root : FnOk P w K mg base (L2N.CX P w) 1 (A 2) (FD 2) ["number"] (spP K cl TT 1 F_root) := ok_root T TB0
  have G_two : FnOk P w K mg base (L2N.CX P w) 2 (A 7) (FD 7) ["m"] (spP K cl TT 1 F_two) := ok_two T TB0
  have nd := sc_three.nd
  refine fn_pure T.f8 sc_three (fun _ => false) (by decide) d_three (fun cdv A0 outer s H E hr => ?_) sp_three
  exact ⟨_, (pss_cons (ps_set (i := 1) nd rfl (Or.inl rfl) (pe_call G_root (hr.mono (by decide)) (by rfl) T.g2 T.f2.kp T.b2 .nil (L2N.passes_call (L2N.takes_of rfl rfl rfl rfl) (fun _ _ _ _ h => h)) (pa_cons (pv 0) pa_nil)))
  (pss_cons (ps_while (passes_of rfl) (pt_cmpR op_notN (pe_call G_barred (hr.mono (by decide)) (by rfl) T.g4 T.f4.kp T.b4 .nil (L2N.passes_call (L2N.takes_of rfl rfl rfl rfl) (fun _ _ _ _ h => h)) (pa_cons (pe_op op_sub (pv 0) (pe_op op_mulW (pv 1) (pv 1))) pa_nil)) pe_non (nomark _))
  (pss_one (ps_aug (i := 1) nd rfl (Or.inl rfl) pe_int ip_sub)))
  (pss_one (ps_ret (pe_op (op_add4K (K := K) rfl) (pe_lst (pa_cons (pv 1) pa_nil)) (pe_call G_two (hr.mono (by decide)) (by rfl) T.g7 T.f7.kp T.b7 .nil (L2N.passes_call (L2N.takes_of rfl rfl rfl rfl) (fun _ _ _ _ h => h)) (pa_cons (pe_op op_sub (pv 0) (pe_op op_mulW (pv 1) (pv 1))) pa_nil))))))),
   fun z h0 W he => (ss_seq (ss_set 1 rfl (sv_call he (sa_cons (sv_var 0 rfl) sa_nil)))
  (ss_seq (ss_while (st_testO (sv_op sr_notN (SV.se (sv_call he (sa_cons (sv_op sr_sub (SV.se (sv_var 0 rfl)) (SV.se (sv_op sr_mul (SV.se (sv_var 1 rfl)) (SV.se (sv_var 1 rfl))))) sa_nil))) (SV.se sv_non)))
  (ss_aug 1 rfl sv_int))
  (ss_ret (SV.se (sv_op sr_add (SV.se (sv_lst (sa_cons (sv_var 1 rfl) sa_nil))) (SV.se (sv_call he (sa_cons (sv_op sr_sub (SV.se (sv_var 0 rfl)) (SV.se (sv_op sr_mul (SV.se (sv_var 1 rfl)) (SV.se (sv_var 1 rfl))))) sa_nil))))))))⟩
theorem ok_four (T : Txt K mg A FD cl CC PT TT pe) (TB0 : TB0 base mg CC PT) : FnOk P w K mg base (L2N.CX P w) 4 (A 9) (FD 9) ["m"] (spP K cl TT 1 F_four) := by
  have G_is_three : FnOk P w K mg base (L2N.CX P w) 2 (A 6) (FD 6) ["m"] (spP K cl TT 1 F_is_three) := ok_is_three T TB0
  have G_root : FnOk P w K mg base (L2N.CX P w) 1 (A 2) (FD 2) ["number"] (spP K cl TT 1 F_root) := ok_root T TB0
  have G_three : FnOk P w K mg base (L2N.CX P w) 3 (A 8) (FD 8) ["m"] (spP K cl TT 1 F_three) := ok_three T TB0
  have nd := sc_four.nd
  refine fn_pure T.f9 sc_four (fun _ => false) (by decide) d_four (fun cdv A0 outer s H E hr => ?_) sp_four
  exact ⟨_, (pss_cons (ps_set (i := 1) nd rfl (Or.inl rfl) (pe_call G_root (hr.mono (by decide)) (by rfl) T.g2 T.f2.kp T.b2 .nil (L2N.passes_call (L2N.takes_of rfl rfl rfl rfl) (fun _ _ _ _ h => h)) (pa_cons (pv 0) pa_nil)))
  (pss_cons (ps_while (passes_of rfl) (pt_not (pt_val (pe_call G_is_three (hr.mono (by decide)) (by rfl) T.g6 T.f6.kp T.b6 .nil (L2N.passes_call (L2N.takes_of rfl rfl rfl rfl) (fun _ _ _ _ h => h)) (pa_cons (pe_op op_sub (pv 0) (pe_op op_mulW (pv 1) (pv 1))) pa_nil))))
  (pss_one (ps_aug (i := 1) nd rfl (Or.inl rfl) pe_int ip_sub)))
  (pss_one (ps_ret (pe_op (op_add4K (K := K) rfl) (pe_lst (pa_cons (pv 1) pa_nil)) (pe_call G_three (hr.mono (by decide)) (by rfl) T.g8 T.f8.kp T.b8 .nil (L2N.passes_call (L2N.takes_of rfl rfl rfl rfl) (fun _ _ _ _ h => h)) (pa_cons (pe_op op_sub (pv 0) (pe_op op_mulW (pv 1) (pv 1))) pa_nil))))))),
   fun z h0 W he => (ss_seq (ss_set 1 rfl (sv_call he (sa_cons (sv_var 0 rfl) sa_nil)))
  (ss_seq (ss_while (st_not (st_test (sv_call he (sa_cons (sv_op sr_sub (SV.se (sv_var 0 rfl)) (SV.se (sv_op sr_mul (SV.se (sv_var 1 rfl)) (SV.se (sv_var 1 rfl))))) sa_nil))))
  (ss_aug 1 rfl sv_int))
  (ss_ret (SV.se (sv_op sr_add (SV.se (sv_lst (sa_cons (sv_var 1 rfl) sa_nil))) (SV.se (sv_call he (sa_cons (sv_op sr_sub (SV.se (sv_var 0 rfl)) (SV.se (sv_op sr_mul (SV.se (sv_var 1 rfl)) (SV.se (sv_var 1 rfl))))) sa_nil))))))))⟩
theorem ok_squares (T : Txt K mg A FD cl CC PT TT pe) (TB0 : TB0 base mg CC PT) : FnOk P w K mg base (L2N.CX P w) 5 (A 10) (FD 10) ["k", "m"] (spP K cl TT 2 F_squares) := by
  have z_sorted := T.z_sorted
  have z_tuple := T.z_tuple
  have G_barred : FnOk P w K mg base (L2N.CX P w) 2 (A 4) (FD 4) ["m"] (spP K cl TT 1 F_barred) := ok_barred T TB0
  have G_check_numbers : FnOk P w K mg base (L2N.CX P w) 2 (A 3) (FD 3) ["k", "m"] (spP K cl TT 2 F_check_numbers) := ok_check_numbers T TB0
  have G_four : FnOk P w K mg base (L2N.CX P w) 4 (A 9) (FD 9) ["m"] (spP K cl TT 1 F_four) := ok_four T TB0
  have G_fours : FnOk P w K mg base (L2N.CX P w) 1 (A 5) (FD 5) ["m"] (spP K cl TT 1 F_fours) := ok_fours T TB0
  have G_is_three : FnOk P w K mg base (L2N.CX P w) 2 (A 6) (FD 6) ["m"] (spP K cl TT 1 F_is_three) := ok_is_three T TB0
  have G_root : FnOk P w K mg base (L2N.CX P w) 1 (A 2) (FD 2) ["number"] (spP K cl TT 1 F_root) := ok_root T TB0
  have G_three : FnOk P w K mg base (L2N.CX P w) 3 (A 8) (FD 8) ["m"] (spP K cl TT 1 F_three) := ok_three T TB0
  have G_two : FnOk P w K mg base (L2N.CX P w) 2 (A 7) (FD 7) ["m"] (spP K cl TT 1 F_two) := ok_two T TB0
  have nd := sc_squares.nd
  refine fn_pure T.f10 sc_squares (fun _ => false) (by decide) d_squares (fun cdv A0 outer s H E hr => ?_) sp_squares
  exact ⟨_, (pss_cons (ps_expr (pe_call G_check_numbers (hr.mono (by decide)) (by rfl) T.g3 T.f3.kp T.b3 .nil (L2N.passes_call (L2N.takes_of rfl rfl rfl rfl) (fun _ _ _ _ h => h)) (pa_cons (pv 0) (pa_cons (pv 1) pa_nil))))
  (pss_cons (ps_if (pt_cmpR (op_eqDK (K := K) rfl hr.units) (pv 0) pe_int (nomark _))
  (pss_one (ps_ret (pe_ifExp (pt_cmpR (op_eqDK (K := K) rfl hr.units) (pe_op op_mulW (pe_call G_root (hr.mono (by decide)) (by rfl) T.g2 T.f2.kp T.b2 .nil (L2N.passes_call (L2N.takes_of rfl rfl rfl rfl) (fun _ _ _ _ h => h)) (pa_cons (pv 1) pa_nil)) (pe_call G_root (hr.mono (by decide)) (by rfl) T.g2 T.f2.kp T.b2 .nil (L2N.passes_call (L2N.takes_of rfl rfl rfl rfl) (fun _ _ _ _ h => h)) (pa_cons (pv 1) pa_nil))) (pv 1) (nomark _)) (pe_tup (pa_cons pe_str (pa_cons (pe_tup (pa_cons (pe_call G_root (hr.mono (by decide)) (by rfl) T.g2 T.f2.kp T.b2 .nil (L2N.passes_call (L2N.takes_of rfl rfl rfl rfl) (fun _ _ _ _ h => h)) (pa_cons (pv 1) pa_nil)) pa_nil)) pa_nil))) (pe_tup (pa_cons pe_str (pa_cons (pe_call G_root (hr.mono (by decide)) (by rfl) T.g2 T.f2.kp T.b2 .nil (L2N.passes_call (L2N.takes_of rfl rfl rfl rfl) (fun _ _ _ _ h => h)) (pa_cons (pv 1) pa_nil)) pa_nil))))))
  pss_nil)
  (pss_cons (ps_if (PW.pt (pw_and (pt_cmpR (op_eqDK (K := K) rfl hr.units) (pv 0) pe_int (nomark _)) (pw_and1 (pt_cmpR op_notN (pe_call G_barred (hr.mono (by decide)) (by rfl) T.g4 T.f4.kp T.b4 .nil (L2N.passes_call (L2N.takes_of rfl rfl rfl rfl) (fun _ _ _ _ h => h)) (pa_cons (pv 1) pa_nil)) pe_non (nomark _)))))
  (pss_one (ps_ret (pe_tup (pa_cons pe_str (pa_cons (pe_call G_barred (hr.mono (by decide)) (by rfl) T.g4 T.f4.kp T.b4 .nil (L2N.passes_call (L2N.takes_of rfl rfl rfl rfl) (fun _ _ _ _ h => h)) (pa_cons (pv 1) pa_nil)) pa_nil)))))
  pss_nil)
  (pss_cons (ps_if (PW.pt (pw_and (pt_cmpR (op_eqDK (K := K) rfl hr.units) (pv 0) pe_int (nomark _)) (pw_and1 (pt_not (pt_val (pe_call G_is_three (hr.mono (by decide)) (by rfl) T.g6 T.f6.kp T.b6 .nil (L2N.passes_call (L2N.takes_of rfl rfl rfl rfl) (fun _ _ _ _ h => h)) (pa_cons (pv 1) pa_nil)))))))
  (pss_cons (ps_asg (pe_call G_fours (hr.mono (by decide)) (by rfl) T.g5 T.f5.kp T.b5 .nil (L2N.passes_call (L2N.takes_of rfl rfl rfl rfl) (fun _ _ _ _ h => h)) (pa_cons (pv 1) pa_nil)) (pg_tupK (K := K) (n := 2) rfl rfl (pgs_cons (pg_name (i := 2) nd rfl (Or.inl rfl)) (pgs_cons (pg_name (i := 3) nd rfl (Or.inl rfl)) pgs_nil))))
  (pss_one (ps_ret (pe_tup (pa_cons pe_str (pa_cons (pe_tup (pa_cons (pv 2) (pa_cons (pe_op op_fdivW (pv 3) pe_int) pa_nil))) pa_nil))))))
  pss_nil)
  (pss_cons (ps_set (i := 4) nd rfl (Or.inl rfl) (pe_ifExp (pt_cmpR (op_eqDK (K := K) rfl hr.units) (pv 0) pe_int (nomark _)) (pe_call G_two (hr.mono (by decide)) (by rfl) T.g7 T.f7.kp T.b7 .nil (L2N.passes_call (L2N.takes_of rfl rfl rfl rfl) (fun _ _ _ _ h => h)) (pa_cons (pv 1) pa_nil)) (pe_ifExp (pt_cmpR (op_eqDK (K := K) rfl hr.units) (pv 0) pe_int (nomark _)) (pe_call G_three (hr.mono (by decide)) (by rfl) T.g8 T.f8.kp T.b8 .nil (L2N.passes_call (L2N.takes_of rfl rfl rfl rfl) (fun _ _ _ _ h => h)) (pa_cons (pv 1) pa_nil)) (pe_call G_four (hr.mono (by decide)) (by rfl) T.g9 T.f9.kp T.b9 .nil (L2N.passes_call (L2N.takes_of rfl rfl rfl rfl) (fun _ _ _ _ h => h)) (pa_cons (pv 1) pa_nil)))))
  (pss_one (ps_ret (pe_tup (pa_cons pe_str (pa_cons (pe_tupleK (K := K) rfl (by rfl) z_tuple (pe_callB (cr_sortedK (K := K) rfl (units65 hr)) (by rfl) z_sorted bt_sorted (pa_cons (pv 4) pa_nil))) pa_nil)))))))))),
   fun z h0 W he => (ss_seq (ss_drop (SV.se (sv_call he (sa_cons (sv_var 0 rfl) (sa_cons (sv_var 1 rfl) sa_nil)))))
  (ss_seq (ss_if (st_testO (sv_op sr_eq (SV.se (sv_var 0 rfl)) (SV.se sv_int)))
  (ss_ret (SV.se (sv_if (st_testO (sv_op sr_eq (SV.se (sv_op sr_mul (SV.se (sv_call he (sa_cons (sv_var 1 rfl) sa_nil))) (SV.se (sv_call he (sa_cons (sv_var 1 rfl) sa_nil))))) (SV.se (sv_var 1 rfl)))) (sv_tup (sa_cons sv_str (sa_cons (sv_tup (sa_cons (sv_call he (sa_cons (sv_var 1 rfl) sa_nil)) sa_nil)) sa_nil))) (sv_tup (sa_cons sv_str (sa_cons (sv_call he (sa_cons (sv_var 1 rfl) sa_nil)) sa_nil))))))
  ss_next)
  (ss_seq (ss_if (st_and (st_testO (sv_op sr_eq (SV.se (sv_var 0 rfl)) (SV.se sv_int))) (st_testO (sv_op sr_notN (SV.se (sv_call he (sa_cons (sv_var 1 rfl) sa_nil))) (SV.se sv_non))))
  (ss_ret (SV.se (sv_tup (sa_cons sv_str (sa_cons (sv_call he (sa_cons (sv_var 1 rfl) sa_nil)) sa_nil)))))
  ss_next)
  (ss_seq (ss_if (st_and (st_testO (sv_op sr_eq (SV.se (sv_var 0 rfl)) (SV.se sv_int))) (st_not (st_test (sv_call he (sa_cons (sv_var 1 rfl) sa_nil)))))
  (ss_seq (ss_asg (sv_call he (sa_cons (sv_var 1 rfl) sa_nil)) (sg_tup (sgs_cons (sg_name 2 rfl) (sgs_cons (sg_name 3 rfl) sgs_nil))))
  (ss_ret (SV.se (sv_tup (sa_cons sv_str (sa_cons (sv_tup (sa_cons (sv_var 2 rfl) (sa_cons (sv_op sr_div (SV.se (sv_var 3 rfl)) (SV.se sv_int)) sa_nil))) sa_nil))))))
  ss_next)
  (ss_seq (ss_set 4 rfl (sv_if (st_testO (sv_op sr_eq (SV.se (sv_var 0 rfl)) (SV.se sv_int))) (sv_call he (sa_cons (sv_var 1 rfl) sa_nil)) (sv_if (st_testO (sv_op sr_eq (SV.se (sv_var 0 rfl)) (SV.se sv_int))) (sv_call he (sa_cons (sv_var 1 rfl) sa_nil)) (sv_call he (sa_cons (sv_var 1 rfl) sa_nil)))))
  (ss_ret (SV.se (sv_tup (sa_cons sv_str (sa_cons (sv_tuple (SV.se (sv_cb sr_sortedX (sao_cons (SV.se (sv_var 4 rfl)) sao_nil)))) sa_nil))))))))))⟩
theorem ok_is_squares (T : Txt K mg A FD cl CC PT TT pe) (TB0 : TB0 base mg CC PT) : FnOk P w K mg base (L2N.CX P w) 3 (A 11) (FD 11) ["k", "m", "told"] (spP K cl TT 3 F_is_squares) := by
  have z_all := T.z_all
  have z_any := T.z_any
  have z_int := T.z_int
  have z_isinstance := T.z_isinstance
  have z_len := T.z_len
  have z_range := T.z_range
  have z_sum := T.z_sum
  have z_tuple := T.z_tuple
  have G_check_numbers : FnOk P w K mg base (L2N.CX P w) 2 (A 3) (FD 3) ["k", "m"] (spP K cl TT 2 F_check_numbers) := ok_check_numbers T TB0
  have nd := sc_is_squares.nd
  refine fn_pure T.f11 sc_is_squares (fun _ => false) (by decide) d_is_squares (fun cdv A0 outer s H E hr => ?_) sp_is_squares
  exact ⟨_, (pss_cons (ps_expr (pe_call G_check_numbers (hr.mono (by decide)) (by rfl) T.g3 T.f3.kp T.b3 .nil (L2N.passes_call (L2N.takes_of rfl rfl rfl rfl) (fun _ _ _ _ h => h)) (pa_cons (pv 0) (pa_cons (pv 1) pa_nil))))
  (pss_cons (ps_if (PW.pt (pw_or (pt_not (pt_val (pe_callB (call_isi_K (K := K) rfl) (by rfl) z_isinstance bt_isinstance (pa_cons (pv 2) (pa_cons (pe_bltn (v := .ty "tuple") (by rfl) z_tuple bt_tuple rfl) pa_nil))))) (pw_or (pt_cmpR (op_neDK (K := K) rfl hr.units) (pe_callB (call_lenK (K := K) rfl) (by rfl) z_len bt_len (pa_cons (pv 2) pa_nil)) (pv 0) (nomark _)) (pw_or1 (pt_not (pt_val (pe_callB (cr_allK (K := K) rfl rfl) (by rfl) z_all bt_all (pa_cons (by exact (pe_lc (own := [("item", 3)]) rfl nd (pi_seqK (K := K) rfl (pv 2)) (blkOk_by (own := [("item", 3)]) (N := ["k", "m", "told", "item", "at"]) (sc := (defScope s_is_squares)) (by decide +kernel)) (fun _ _ _ _ _ => by exact (pg_name (i := 3) nd rfl (Or.inl rfl))) (fun _ _ _ _ _ => by exact pts_nil) (fun _ _ _ _ _ => by exact (pe_and (pe_callB (call_isi_K (K := K) rfl) (by rfl) z_isinstance bt_isinstance (pa_cons (pv 3) (pa_cons (pe_bltn (v := .ty "int") (by rfl) z_int bt_int rfl) pa_nil))) (pe_one (pe_cmpR op_ge (pv 3) pe_int (nomark _))))))) pa_nil))))))))
  (pss_one (ps_ret pe_bl))
  pss_nil)
  (pss_cons (ps_if (pt_val (pe_callB (cr_anyK (K := K) rfl rfl) (by rfl) z_any bt_any (pa_cons (by exact (pe_lc (own := [("at", 4)]) rfl nd (pi_range1 rfl z_range (pa_cons (pe_op op_sub (pv 0) pe_int) pa_nil)) (blkOk_by (own := [("at", 4)]) (N := ["k", "m", "told", "item", "at"]) (sc := (defScope s_is_squares)) (by decide +kernel)) (fun _ _ _ _ _ => by exact (pg_name (i := 4) nd rfl (Or.inl rfl))) (fun _ _ _ _ _ => by exact pts_nil) (fun _ _ _ _ _ => by exact (pe_cmpR op_gt (pe_ix (ix_seqK (K := K) rfl) (pv 2) (pv 4) (fun _ _ => rfl)) (pe_ix (ix_seqK (K := K) rfl) (pv 2) (pe_op (op_add4K (K := K) rfl) (pv 4) pe_int) (fun _ _ => rfl)) (nomark _))))) pa_nil)))
  (pss_one (ps_ret pe_bl))
  pss_nil)
  (pss_one (ps_ret (pe_cmpR (op_eqDK (K := K) rfl hr.units) (pe_callB (cr_sumK (K := K) rfl rfl) (by rfl) z_sum bt_sum (pa_cons (by exact (pe_lc (own := [("item", 3)]) rfl nd (pi_seqK (K := K) rfl (pv 2)) (blkOk_by (own := [("item", 3)]) (N := ["k", "m", "told", "item", "at"]) (sc := (defScope s_is_squares)) (by decide +kernel)) (fun _ _ _ _ _ => by exact (pg_name (i := 3) nd rfl (Or.inl rfl))) (fun _ _ _ _ _ => by exact pts_nil) (fun _ _ _ _ _ => by exact (pe_op op_mulW (pv 3) (pv 3))))) pa_nil)) (pv 1) (nomark _))))))),
   fun z h0 W he => (ss_seq (ss_drop (SV.se (sv_call he (sa_cons (sv_var 0 rfl) (sa_cons (sv_var 1 rfl) sa_nil)))))
  (ss_seq (ss_if (st_or (st_not (st_test (sv_isi kit_tup (sv_var 2 rfl)))) (st_or (st_testO (sv_op sr_ne (SV.se (sv_cb sr_len (sao_cons (SV.se (sv_var 2 rfl)) sao_nil))) (SV.se (sv_var 0 rfl)))) (st_not (st_test (sv_cb sr_all (sao_cons (SV.se (SFL.v (sfl_lc (vs := [3]) (si_seq (sv_var 2 rfl)) (sg_name 3 rfl) st_yes (sv_andV (sv_isi kit_int (sv_var 3 rfl)) (sv_op sr_ge (SV.se (sv_var 3 rfl)) (SV.se sv_int))) rfl rfl))) sao_nil))))))
  (ss_ret (SV.se sv_bl))
  ss_next)
  (ss_seq (ss_if (st_test (sv_cb sr_any (sao_cons (SV.se (SFL.v (sfl_lc (vs := [4]) (si_range1 (sv_op sr_sub (SV.se (sv_var 0 rfl)) (SV.se sv_int))) (sg_name 4 rfl) st_yes (sv_op sr_gt (SV.se (sv_op sr_ix (SV.se (sv_var 2 rfl)) (SV.se (sv_var 4 rfl)))) (SV.se (sv_op sr_ix (SV.se (sv_var 2 rfl)) (SV.se (sv_op sr_add (SV.se (sv_var 4 rfl)) (SV.se sv_int)))))) rfl rfl))) sao_nil)))
  (ss_ret (SV.se sv_bl))
  ss_next)
  (ss_ret (SV.se (sv_op sr_eq (SV.se (sv_cb sr_sum (sao_cons (SV.se (SFL.v (sfl_lc (vs := [3]) (si_seq (sv_var 2 rfl)) (sg_name 3 rfl) st_yes (sv_op sr_mul (SV.se (sv_var 3 rfl)) (SV.se (sv_var 3 rfl))) rfl rfl))) sao_nil))) (SV.se (sv_var 1 rfl))))))))⟩
theorem step__law_read (T : Txt K mg A FD cl CC PT TT pe) (TB0 : TB0 base mg CC PT) {kk : Nat} {Fi F : FP} (G__law_read : FnOk P w K mg base (L2N.CX P w) kk (A 12) (FD 12) ["told"] (spP K cl TT 1 Fi)) (sp : ∀ args P W, args.length = 1 → F args P W → d__law_read Fi W ⟨fun _ => P .non, fun d ρ => P (retD ρ d), fun _ => False, fun _ => False⟩ (startD 3 args)) : FnOk P w K mg base (L2N.CX P w) (kk + 1) (A 12) (FD 12) ["told"] (spP K cl TT 1 F) := by
  have z_int := T.z_int
  have z_isinstance := T.z_isinstance
  have z_list := T.z_list
  have z_str := T.z_str
  have z_tuple := T.z_tuple
  have nd := sc__law_read.nd
  refine fn_pure T.f12 sc__law_read (fun _ => false) (by decide) (d__law_read Fi) (fun cdv A0 outer s H E hr => ?_) sp
  exact ⟨_, (pss_cons (ps_if (PW.pt (pw_or (pt_cmpR op_isN (pv 0) pe_non (nomark _)) (pw_or (pt_cmpR op_isB2 (pv 0) pe_bl (nomark _)) (pw_or1 (pt_cmpR op_isB2 (pv 0) pe_bl (nomark _))))))
  (pss_one (ps_ret (pv 0)))
  pss_nil)
  (pss_cons (ps_if (pt_val (pe_callB (call_isi_K (K := K) rfl) (by rfl) z_isinstance bt_isinstance (pa_cons (pv 0) (pa_cons (pe_bltn (v := .ty "int") (by rfl) z_int bt_int rfl) pa_nil))))
  (pss_one (ps_ret (pe_callTy call_int1 (by rfl) z_int bt_int (pa_cons (pv 0) pa_nil))))
  pss_nil)
  (pss_cons (ps_if (pt_val (pe_callB (call_isi_K (K := K) rfl) (by rfl) z_isinstance bt_isinstance (pa_cons (pv 0) (pa_cons (pe_bltn (v := .ty "str") (by rfl) z_str bt_str rfl) pa_nil))))
  (pss_one (ps_ret (pe_joinK (K := K) rfl pe_str (by exact (pe_lc (own := [("sign", 1)]) rfl nd (pi_str (pv 0)) (blkOk_by (own := [("sign", 1)]) (N := ["told", "sign", "part"]) (sc := (defScope s__law_read)) (by decide +kernel)) (fun _ _ _ _ _ => by exact (pg_name (i := 1) nd rfl (Or.inl rfl))) (fun _ _ _ _ _ => by exact pts_nil) (fun _ _ _ _ _ => by exact (pv 1)))))))
  pss_nil)
  (pss_cons (ps_if (pt_val (pe_callB (call_isi_K (K := K) rfl) (by rfl) z_isinstance bt_isinstance (pa_cons (pv 0) (pa_cons (pe_bltn (v := .ty "tuple") (by rfl) z_tuple bt_tuple rfl) pa_nil))))
  (pss_one (ps_ret (pe_tupleK (K := K) rfl (by rfl) z_tuple (by exact (pe_lc (own := [("part", 2)]) rfl nd (pi_seqK (K := K) rfl (pv 0)) (blkOk_by (own := [("part", 2)]) (N := ["told", "sign", "part"]) (sc := (defScope s__law_read)) (by decide +kernel)) (fun _ _ _ _ _ => by exact (pg_name (i := 2) nd rfl (Or.inl rfl))) (fun _ _ _ _ _ => by exact pts_nil) (fun _ _ _ _ _ => by exact (pe_call G__law_read hr (by rfl) T.g12 T.f12.kp T.b12 .nil passN (pa_cons (pv 2) pa_nil))))))))
  pss_nil)
  (pss_one (ps_ret (pe_ifExp (pt_val (pe_callB (call_isi_K (K := K) rfl) (by rfl) z_isinstance bt_isinstance (pa_cons (pv 0) (pa_cons (pe_bltn (v := .ty "list") (by rfl) z_list bt_list rfl) pa_nil)))) (by exact (pe_lc (own := [("part", 2)]) rfl nd (pi_seqK (K := K) rfl (pv 0)) (blkOk_by (own := [("part", 2)]) (N := ["told", "sign", "part"]) (sc := (defScope s__law_read)) (by decide +kernel)) (fun _ _ _ _ _ => by exact (pg_name (i := 2) nd rfl (Or.inl rfl))) (fun _ _ _ _ _ => by exact pts_nil) (fun _ _ _ _ _ => by exact (pe_call G__law_read hr (by rfl) T.g12 T.f12.kp T.b12 .nil passN (pa_cons (pv 2) pa_nil))))) pe_str))))))),
   fun z h0 W he => (ss_seq (ss_if (st_or (st_testO (sv_op sr_isN (SV.se (sv_var 0 rfl)) (SV.se sv_non))) (st_or (st_testO (sv_op sr_isB2 (SV.se (sv_var 0 rfl)) (SV.se sv_bl))) (st_testO (sv_op sr_isB2 (SV.se (sv_var 0 rfl)) (SV.se sv_bl)))))
  (ss_ret (SV.se (sv_var 0 rfl)))
  ss_next)
  (ss_seq (ss_if (st_test (sv_isi kit_int (sv_var 0 rfl)))
  (ss_ret (SV.se (sv_cb sr_intC (sao_cons (SV.se (sv_var 0 rfl)) sao_nil))))
  ss_next)
  (ss_seq (ss_if (st_test (sv_isi kit_str (sv_var 0 rfl)))
  (ss_ret (SV.se (sv_join sv_str (SFL.v (sfl_lc (vs := [1]) (si_str (sv_var 0 rfl)) (sg_name 1 rfl) st_yes (sv_var 1 rfl) rfl rfl)))))
  ss_next)
  (ss_seq (ss_if (st_test (sv_isi kit_tup (sv_var 0 rfl)))
  (ss_ret (SV.se (sv_tuple (SV.se (SFL.v (sfl_lc (vs := [2]) (si_seq (sv_var 0 rfl)) (sg_name 2 rfl) st_yes (sv_call takes_noX (sa_cons (sv_var 2 rfl) sa_nil)) rfl rfl))))))
  ss_next)
  (ss_ret (SV.se (sv_if (st_test (sv_isi kit_lst (sv_var 0 rfl))) (SFL.v (sfl_lc (vs := [2]) (si_seq (sv_var 0 rfl)) (sg_name 2 rfl) st_yes (sv_call takes_noX (sa_cons (sv_var 2 rfl) sa_nil)) rfl rfl)) sv_str)))))))⟩
theorem ok__law_read (T : Txt K mg A FD cl CC PT TT pe) (TB0 : TB0 base mg CC PT) : FnOk P w K mg base (L2N.CX P w) 6 (A 12) (FD 12) ["told"] (spP K cl TT 1 F__law_read) := (step__law_read T TB0 (kk := 5) (Fi := readN 3) (F := readN 4) (step__law_read T TB0 (kk := 4) (Fi := readN 2) (F := readN 3) (step__law_read T TB0 (kk := 3) (Fi := readN 1) (F := readN 2) (step__law_read T TB0 (kk := 2) (Fi := readN 0) (F := readN 1) (step__law_read T TB0 (kk := 1) (Fi := fun _ _ _ => False) (F := readN 0) (fn_none (F := fun _ _ _ => False) (fun _ _ _ h => h) rfl) read_zero) read_step) read_step) read_step) read_step)
theorem ok__law_cell (T : Txt K mg A FD cl CC PT TT pe) (TB0 : TB0 base mg CC PT) : FnOk P w K mg base (L2N.CX P w) 1 (A 13) (FD 13) ["script", "k"] (spP K cl TT 2 F__law_cell) := by
  have z_int := T.z_int
  have z_len := T.z_len
  have nd := sc__law_cell.nd
  refine fn_pure T.f13 sc__law_cell (fun _ => false) (by decide) d__law_cell (fun cdv A0 outer s H E hr => ?_) sp__law_cell
  exact ⟨_, (pss_one (ps_ret (pe_ifExp (pt_cmpR op_lt (pv 1) (pe_callB (call_lenK (K := K) rfl) (by rfl) z_len bt_len (pa_cons (pv 0) pa_nil)) (nomark _)) (pe_callTy call_int1 (by rfl) z_int bt_int (pa_cons (pe_ix (ix_seqK (K := K) rfl) (pv 0) (pv 1) (fun _ _ => rfl)) pa_nil)) pe_int))),
   fun z h0 W he => (ss_ret (SV.se (sv_if (st_testO (sv_op sr_lt (SV.se (sv_var 1 rfl)) (SV.se (sv_cb sr_len (sao_cons (SV.se (sv_var 0 rfl)) sao_nil))))) (sv_cb sr_intC (sao_cons (SV.se (sv_op sr_ix (SV.se (sv_var 0 rfl)) (SV.se (sv_var 1 rfl)))) sao_nil)) sv_int)))⟩
theorem ok__law_stream (T : Txt K mg A FD cl CC PT TT pe) (TB0 : TB0 base mg CC PT) : FnOk P w K mg base (L2N.CX P w) 2 (A 14) (FD 14) ["script", "k"] (spN K cl TT 2 F__law_stream) := by
  have z_abs := T.z_abs
  have G__law_cell : FnOk P w K mg base (L2N.CX P w) 1 (A 13) (FD 13) ["script", "k"] (spP K cl TT 2 F__law_cell) := ok__law_cell T TB0
  have nd := sc__law_stream.nd
  refine fn_new (de := d__law_stream) T.f14 sc__law_stream (fun cdv A0 outer s H E hr => ?_) sp__law_stream
  exact ⟨_, pss_one (ps_ret (pe_lst (pa_cons (pe_callB call_abs (by rfl) z_abs bt_abs (pa_cons (pe_call G__law_cell (hr.mono (by decide)) (by rfl) T.g13 T.f13.kp T.b13 .nil passN (pa_cons (pv 0) (pa_cons (pv 1) pa_nil))) pa_nil)) (pa_cons (pe_op (op_add4K (K := K) rfl) (pe_op op_mod (pe_callB call_abs (by rfl) z_abs bt_abs (pa_cons (pe_call G__law_cell (hr.mono (by decide)) (by rfl) T.g13 T.f13.kp T.b13 .nil passN (pa_cons (pv 0) (pa_cons (pv 1) pa_nil))) pa_nil)) pe_int) pe_int) pa_nil)))), fun z h0 => (sf_lst (sa_cons (sv_cb sr_abs (sao_cons (SV.se (sv_call takes_noX (sa_cons (sv_var 0 rfl) (sa_cons (sv_var 1 rfl) sa_nil)))) sao_nil)) (sa_cons (sv_op sr_add (SV.se (sv_op sr_mod (SV.se (sv_cb sr_abs (sao_cons (SV.se (sv_call takes_noX (sa_cons (sv_var 0 rfl) (sa_cons (sv_var 1 rfl) sa_nil)))) sao_nil))) (SV.se sv_int))) (SV.se sv_int)) sa_nil)))⟩
theorem ok__law_draw (T : Txt K mg A FD cl CC PT TT pe) (TB0 : TB0 base mg CC PT) : FnOk P w K mg base (L2N.CX P w) 1 (A 15) (FD 15) ["box", "many"] (spB K cl TT 2 F__law_draw) := by
  have z_int := T.z_int
  have nd := sc__law_draw.nd
  refine fn_box T.f15 sc__law_draw (fun i => i == 0) (by decide) (by decide) d__law_draw (fun cdv A0 outer s H E hr => ?_) sp__law_draw
  exact ⟨_, (pss_cons (ps_if (pt_cmpR op_gt (pe_ix (ix_seqK (K := K) rfl) (pv 0) pe_int (fun _ _ => rfl)) pe_int (nomark _))
  (pss_cons (ps_set (i := 2) nd rfl (Or.inl rfl) (pe_op op_mod (pe_ix (ix_seqK (K := K) rfl) (pv 0) pe_int (fun _ _ => rfl)) (pv 1)))
  (pss_cons (ps_asg (pe_op op_fdivW (pe_ix (ix_seqK (K := K) rfl) (pv 0) pe_int (fun _ _ => rfl)) (pv 1)) (pg_sub (pv 0) pe_int set_list))
  (pss_one (ps_ret (pe_callTy call_int1 (by rfl) z_int bt_int (pa_cons (pv 2) pa_nil))))))
  pss_nil)
  (pss_cons (ps_asg (pe_op op_mod (pe_callTy call_int1 (by rfl) z_int bt_int (pa_cons (pe_op (op_add4K (K := K) rfl) (pe_op op_mulW (pe_ix (ix_seqK (K := K) rfl) (pv 0) pe_int (fun _ _ => rfl)) pe_int) pe_int) pa_nil)) pe_int) (pg_sub (pv 0) pe_int set_list))
  (pss_one (ps_ret (pe_op op_mod (pe_callTy call_int1 (by rfl) z_int bt_int (pa_cons (pe_op op_fdivW (pe_ix (ix_seqK (K := K) rfl) (pv 0) pe_int (fun _ _ => rfl)) pe_int) pa_nil)) (pv 1)))))),
   fun z b h0 W he => (ss_seq (ss_if (st_testO (sv_op sr_gt (SV.se (sv_op sr_ix (se_own 0 rfl) (SV.se sv_int))) (SV.se sv_int)))
  (ss_seq (ss_set 2 rfl (sv_op sr_mod (SV.se (sv_op sr_ix (se_own 0 rfl) (SV.se sv_int))) (SV.se (sv_var 1 rfl))))
  (ss_seq (ss_setIx 0 rfl (sv_op sr_div (SV.se (sv_op sr_ix (se_own 0 rfl) (SV.se sv_int))) (SV.se (sv_var 1 rfl))) sv_int)
  (ss_ret (SV.se (sv_cb sr_intC (sao_cons (SV.se (sv_var 2 rfl)) sao_nil))))))
  ss_next)
  (ss_seq (ss_setIx 0 rfl (sv_op sr_mod (SV.se (sv_cb sr_intC (sao_cons (SV.se (sv_op sr_add (SV.se (sv_op sr_mul (SV.se (sv_op sr_ix (se_own 0 rfl) (SV.se sv_int))) (SV.se sv_int))) (SV.se sv_int))) sao_nil))) (SV.se sv_int)) sv_int)
  (ss_ret (SV.se (sv_op sr_mod (SV.se (sv_cb sr_intC (sao_cons (SV.se (sv_op sr_div (SV.se (sv_op sr_ix (se_own 0 rfl) (SV.se sv_int))) (SV.se sv_int))) sao_nil))) (SV.se (sv_var 1 rfl)))))))⟩
theorem gives_told (T : Txt K mg A FD cl CC PT TT pe) (TB0 : TB0 base mg CC PT) {Ar : Around} {st : List PySem.Env} {cdv : Value} {q : Str} {kk : Nat} (hk : 6 ≤ kk) : GivesToN P w K mg base Ar st ["call", "e", "words", "word", "is_so"] "_law_told" (defScope s__law_told) (A 16) cdv (defBody s__law_told) "call" kk q (TTold K cl TT F__law_read) := by
  have nd := sc__law_told.nd
  have G__law_read : FnOk P w K mg base (L2N.CX P w) 6 (A 12) (FD 12) ["told"] (spP K cl TT 1 F__law_read) := ok__law_read T TB0
  intro f c' s H Q tl hr act hc h
  have hn : Names (cxOf C8.CX0 P w K mg base ["call", "e", "words", "word", "is_so"] "_law_told" (defScope s__law_told) (A 16) cdv Ar st s H C8.E0).nox "PlaceError" (.ref pe) := ⟨rfl, by decide, .inl T.g_PlaceError⟩
  refine ⟨_, pss_one (L2N.ps_try_as (X := (cxOf C8.CX0 P w K mg base ["call", "e", "words", "word", "is_so"] "_law_told" (defScope s__law_told) (A 16) cdv Ar st s H C8.E0).nox) (c := .ref pe) (i := 1) (Wout := fun _ _ _ _ => False) (ts := toldTs K cl) (tb := toldTb K cl TT F__law_read f c' q tl) rfl rfl nd rfl rfl hn (fun u s' x => by obtain ⟨_, _, _, _, _, _, _, _, _, _, _, _, _, _, _, _, z⟩ := x; exact z.elim)
    (fun W pn xe tk po => pss_one (ps_ret (pe_tup (pa_cons pe_int (pa_cons (pe_call G__law_read (hr.mono hk) (by rfl) T.g12 T.f12.kp T.b12 .nil (L2N.passes_call tk (fun _ _ _ _ h => h.elim)) (pa_cons (act W pn xe _ _ tk) pa_nil)) pa_nil))))) (fun a oe cls d pn hz hd => pss_ex fun x hx => ?_)), told_end T.ff hc h⟩
  obtain ⟨rfl, rfl⟩ := hx
  have hot := hot_suite (X := (cxOf C8.CX0 P w K mg base ["call", "e", "words", "word", "is_so"] "_law_told" (defScope s__law_told) (A 16) cdv Ar st s H C8.E0).nox) (a := a) (pn := pn) hz hd
  exact pss_cons (ps_setLcH (i := 2) (own := [("word", 3), ("is_so", 4)]) hot nd rfl rfl (sw_true rfl rfl rfl (by decide +kernel)) (pe_lst (pa_cons (pe_tup (pa_cons pe_str (pa_cons (pe_callB (call_isE (T.ff x).c hz.zc hd) (by rfl) T.z_isinstance bt_isinstance (pa_cons (pv 1) (pa_cons (pe_glob (v := .ref (cl .form)) (by rfl) T.g_BadForm rfl) pa_nil))) pa_nil))) (pa_cons (pe_tup (pa_cons pe_str (pa_cons (pe_callB (call_isE (T.ff x).c hz.zc hd) (by rfl) T.z_isinstance bt_isinstance (pa_cons (pv 1) (pa_cons (pe_glob (v := .ref (cl .range)) (by rfl) T.g_OutOfRange rfl) pa_nil))) pa_nil))) pa_nil))) (blkOk_by (own := [("word", 3), ("is_so", 4)]) (N := ["call", "e", "words", "word", "is_so"]) (sc := defScope s__law_told) (by decide +kernel))
      (fun _ _ _ _ _ hx => by exact (pg_tupH hx (pgs_cons (pg_name (i := 3) nd rfl (Or.inl rfl)) (pgs_cons (pg_name (i := 4) nd rfl (Or.inl rfl)) pgs_nil)))) (fun _ _ _ _ _ => by exact (pts_one (pt_val (pv 4)))) (fun _ _ _ _ _ => by exact (pv 3)))
    (pss_one (ps_ret (pe_tup (pa_cons pe_int (pa_cons (pe_ifExp (pt_cmpR (op_eqDK (K := K) rfl (by exact hr.units)) (pe_callB (call_lenK (K := K) rfl) (by rfl) T.z_len bt_len (pa_cons (pv 2) pa_nil)) pe_int (nomark _)) (pe_ix (ix_seqK (K := K) rfl) (pv 2) pe_int (fun _ _ => rfl)) pe_str) pa_nil)))))
theorem ok__law_primes (T : Txt K mg A FD cl CC PT TT pe) (TB0 : TB0 base mg CC PT) : FnOk P w K mg base (L2N.CX P w) 1 (A 17) (FD 17) ["number"] (spP K cl TT 1 F__law_primes) := by
  have z_abs := T.z_abs
  have nd := sc__law_primes.nd
  refine fn_pure T.f17 sc__law_primes (fun i => i == 2) (by decide) d__law_primes (fun cdv A0 outer s H E hr => ?_) sp__law_primes
  exact ⟨_, (pss_cons (ps_par3 (i := 0) (j := 1) (l := 2) rfl nd rfl rfl rfl (by decide) (by decide) (by decide) rfl rfl rfl (pa_cons (pe_callB call_abs (by rfl) z_abs bt_abs (pa_cons (pv 0) pa_nil)) (pa_cons pe_int (pa_cons (pe_lst pa_nil) pa_nil))) (by rfl))
  (pss_cons (ps_while (passes_of rfl) (pt_cmpR op_le (pe_op op_mulW (pv 1) (pv 1)) (pv 0) (nomark _))
  (pss_cons (ps_if (pt_cmpR (op_eqDK (K := K) rfl hr.units) (pe_op op_mod (pv 0) (pv 1)) pe_int (nomark _))
  (pss_cons (ps_expr (pe_appK (K := K) rfl (pv 2) (pv 1)))
  (pss_one (ps_while (passes_of rfl) (pt_cmpR (op_eqDK (K := K) rfl hr.units) (pe_op op_mod (pv 0) (pv 1)) pe_int (nomark _))
  (pss_one (ps_set (i := 0) nd rfl (Or.inl rfl) (pe_op op_fdivW (pv 0) (pv 1)))))))
  pss_nil)
  (pss_one (ps_set (i := 1) nd rfl (Or.inl rfl) (pe_op (op_add4K (K := K) rfl) (pv 1) pe_int)))))
  (pss_one (ps_ret (pe_ifExp (pt_cmpR op_gt (pv 0) pe_int (nomark _)) (pe_op (op_add4K (K := K) rfl) (pv 2) (pe_lst (pa_cons (pv 0) pa_nil))) (pv 2)))))),
   fun z h0 W he => (ss_seq (ss_par_vvo 0 1 2 rfl rfl rfl (.inl rfl) (sv_cb sr_abs (sao_cons (SV.se (sv_var 0 rfl)) sao_nil)) sv_int)
  (ss_seq (ss_while (st_testO (sv_op sr_le (SV.se (sv_op sr_mul (SV.se (sv_var 1 rfl)) (SV.se (sv_var 1 rfl)))) (SV.se (sv_var 0 rfl))))
  (ss_seq (ss_if (st_testO (sv_op sr_eq (SV.se (sv_op sr_mod (SV.se (sv_var 0 rfl)) (SV.se (sv_var 1 rfl)))) (SV.se sv_int)))
  (ss_seq (ss_app 2 rfl (sv_var 1 rfl))
  (ss_while (st_testO (sv_op sr_eq (SV.se (sv_op sr_mod (SV.se (sv_var 0 rfl)) (SV.se (sv_var 1 rfl)))) (SV.se sv_int)))
  (ss_set 0 rfl (sv_op sr_div (SV.se (sv_var 0 rfl)) (SV.se (sv_var 1 rfl))))))
  ss_next)
  (ss_set 1 rfl (sv_op sr_add (SV.se (sv_var 1 rfl)) (SV.se sv_int)))))
  (ss_ret (se_if (st_testO (sv_op sr_gt (SV.se (sv_var 0 rfl)) (SV.se sv_int))) (SV.se (sv_op sr_add (se_own 2 rfl) (SV.se (sv_lst (sa_cons (sv_var 0 rfl) sa_nil))))) (se_own 2 rfl)))))⟩
theorem ok__law_is_squares (T : Txt K mg A FD cl CC PT TT pe) (TB0 : TB0 base mg CC PT) : FnOk P w K mg base (L2N.CX P w) 1 (A 18) (FD 18) ["k", "m", "told"] (spP K cl TT 3 F__law_is_squares) := by
  have z_int := T.z_int
  have z_isinstance := T.z_isinstance
  have z_len := T.z_len
  have z_list := T.z_list
  have z_sorted := T.z_sorted
  have z_sum := T.z_sum
  have z_tuple := T.z_tuple
  have nd := sc__law_is_squares.nd
  refine fn_pure T.f18 sc__law_is_squares (fun _ => false) (by decide) d__law_is_squares (fun cdv A0 outer s H E hr => ?_) sp__law_is_squares
  exact ⟨_, (pss_cons (ps_if (PW.pt (pw_or (pt_not (pt_val (pe_callB (call_isi_K (K := K) rfl) (by rfl) z_isinstance bt_isinstance (pa_cons (pv 2) (pa_cons (pe_bltn (v := .ty "tuple") (by rfl) z_tuple bt_tuple rfl) pa_nil))))) (pw_or (pt_cmpR (op_neDK (K := K) rfl hr.units) (pe_callB (call_lenK (K := K) rfl) (by rfl) z_len bt_len (pa_cons (pv 2) pa_nil)) (pv 0) (nomark _)) (pw_or1 (pt_cmpR op_gt (pe_callB (call_lenK (K := K) rfl) (by rfl) z_len bt_len (pa_cons (by exact (pe_lc (own := [("a", 3)]) rfl nd (pi_seqK (K := K) rfl (pv 2)) (blkOk_by (own := [("a", 3)]) (N := ["k", "m", "told", "a"]) (sc := (defScope s__law_is_squares)) (by decide +kernel)) (fun _ _ _ _ _ => by exact (pg_name (i := 3) nd rfl (Or.inl rfl))) (fun _ _ _ _ _ => by exact (pts_one (PW.pt (pw_or (pt_not (pt_val (pe_callB (call_isi_K (K := K) rfl) (by rfl) z_isinstance bt_isinstance (pa_cons (pv 3) (pa_cons (pe_bltn (v := .ty "int") (by rfl) z_int bt_int rfl) pa_nil))))) (pw_or1 (pt_cmpR op_lt (pv 3) pe_int (nomark _))))))) (fun _ _ _ _ _ => by exact (pv 3)))) pa_nil)) pe_int (nomark _))))))
  (pss_one (ps_ret pe_bl))
  pss_nil)
  (pss_one (ps_ret (pe_and (pe_cmpR (op_eqDK (K := K) rfl hr.units) (pe_callB (cr_sortedK (K := K) rfl (units65 hr)) (by rfl) z_sorted bt_sorted (pa_cons (pv 2) pa_nil)) (pe_callTy (call_listK (K := K) rfl) (by rfl) z_list bt_list (pa_cons (pv 2) pa_nil)) (nomark _)) (pe_one (pe_cmpR (op_eqDK (K := K) rfl hr.units) (pe_callB (cr_sumK (K := K) rfl rfl) (by rfl) z_sum bt_sum (pa_cons (by exact (pe_lc (own := [("a", 3)]) rfl nd (pi_seqK (K := K) rfl (pv 2)) (blkOk_by (own := [("a", 3)]) (N := ["k", "m", "told", "a"]) (sc := (defScope s__law_is_squares)) (by decide +kernel)) (fun _ _ _ _ _ => by exact (pg_name (i := 3) nd rfl (Or.inl rfl))) (fun _ _ _ _ _ => by exact pts_nil) (fun _ _ _ _ _ => by exact (pe_op op_mulW (pv 3) (pv 3))))) pa_nil)) (pv 1) (nomark _))))))),
   fun z h0 W he => (ss_seq (ss_if (st_or (st_not (st_test (sv_isi kit_tup (sv_var 2 rfl)))) (st_or (st_testO (sv_op sr_ne (SV.se (sv_cb sr_len (sao_cons (SV.se (sv_var 2 rfl)) sao_nil))) (SV.se (sv_var 0 rfl)))) (st_testO (sv_op sr_gt (SV.se (sv_cb sr_len (sao_cons (SV.se (SFL.v (sfl_lc (vs := [3]) (si_seq (sv_var 2 rfl)) (sg_name 3 rfl) (st_or (st_not (st_test (sv_isi kit_int (sv_var 3 rfl)))) (st_testO (sv_op sr_lt (SV.se (sv_var 3 rfl)) (SV.se sv_int)))) (sv_var 3 rfl) rfl rfl))) sao_nil))) (SV.se sv_int)))))
  (ss_ret (SV.se sv_bl))
  ss_next)
  (ss_ret (SV.se (sv_andV (sv_op sr_eq (SV.se (sv_cb sr_sortedX (sao_cons (SV.se (sv_var 2 rfl)) sao_nil))) (SV.se (sv_cb sr_list (sao_cons (SV.se (sv_var 2 rfl)) sao_nil)))) (sv_op sr_eq (SV.se (sv_cb sr_sum (sao_cons (SV.se (SFL.v (sfl_lc (vs := [3]) (si_seq (sv_var 2 rfl)) (sg_name 3 rfl) st_yes (sv_op sr_mul (SV.se (sv_var 3 rfl)) (SV.se (sv_var 3 rfl))) rfl rfl))) sao_nil))) (SV.se (sv_var 1 rfl)))))))⟩
theorem ok__law_forbids (T : Txt K mg A FD cl CC PT TT pe) (TB0 : TB0 base mg CC PT) : FnOk P w K mg base (L2N.CX P w) 2 (A 19) (FD 19) ["k", "m"] (spP K cl TT 2 F__law_forbids) := by
  have G__law_primes : FnOk P w K mg base (L2N.CX P w) 1 (A 17) (FD 17) ["number"] (spP K cl TT 1 F__law_primes) := ok__law_primes T TB0
  have nd := sc__law_forbids.nd
  refine fn_pure T.f19 sc__law_forbids (fun _ => false) (by decide) d__law_forbids (fun cdv A0 outer s H E hr => ?_) sp__law_forbids
  exact ⟨_, (pss_cons (ps_if (pt_cmpR (op_eqDK (K := K) rfl hr.units) (pv 0) pe_int (nomark _))
  (pss_cons (ps_set (i := 2) nd rfl (Or.inl rfl) pe_int)
  (pss_cons (ps_while (passes_of rfl) (pt_cmpR op_le (pe_op op_mulW (pe_op (op_add4K (K := K) rfl) (pv 2) pe_int) (pe_op (op_add4K (K := K) rfl) (pv 2) pe_int)) (pv 1) (nomark _))
  (pss_one (ps_set (i := 2) nd rfl (Or.inl rfl) (pe_op (op_add4K (K := K) rfl) (pv 2) pe_int))))
  (pss_one (ps_ret (pe_ifExp (pt_cmpR (op_eqDK (K := K) rfl hr.units) (pe_op op_mulW (pv 2) (pv 2)) (pv 1) (nomark _)) pe_non (pe_tup (pa_cons pe_str (pa_cons (pv 2) pa_nil))))))))
  pss_nil)
  (pss_cons (ps_if (pt_cmpR (op_eqDK (K := K) rfl hr.units) (pv 0) pe_int (nomark _))
  (pss_cons (ps_for (passes_of rfl) rfl (pi_seqK (K := K) rfl (pe_ifExp (pt_cmpR op_gt (pv 1) pe_int (nomark _)) (pe_call G__law_primes (hr.mono (by decide)) (by rfl) T.g17 T.f17.kp T.b17 .nil (L2N.passes_call (L2N.takes_of rfl rfl rfl rfl) (fun _ _ _ _ h => h)) (pa_cons (pv 1) pa_nil)) (pe_lst pa_nil))) (pg_name (i := 3) nd rfl (Or.inl rfl))
  (pss_cons (ps_par rfl nd rfl rfl (by decide) rfl rfl (pa_cons pe_int (pa_cons (pv 1) pa_nil)) (by rfl))
  (pss_cons (ps_while (passes_of rfl) (pt_cmpR (op_eqDK (K := K) rfl hr.units) (pe_op op_mod (pv 5) (pv 3)) pe_int (nomark _))
  (pss_one (ps_par rfl nd rfl rfl (by decide) rfl rfl (pa_cons (pe_op op_fdivW (pv 5) (pv 3)) (pa_cons (pe_op (op_add4K (K := K) rfl) (pv 4) pe_int) pa_nil)) (by rfl))))
  (pss_one (ps_if (PW.pt (pw_and (pt_cmpR (op_eqDK (K := K) rfl hr.units) (pe_op op_mod (pv 3) pe_int) pe_int (nomark _)) (pw_and1 (pt_cmpR (op_eqDK (K := K) rfl hr.units) (pe_op op_mod (pv 4) pe_int) pe_int (nomark _)))))
  (pss_one (ps_ret (pe_tup (pa_cons pe_str (pa_cons (pv 3) pa_nil)))))
  pss_nil)))))
  (pss_one (ps_ret pe_non)))
  pss_nil)
  (pss_cons (ps_par rfl nd rfl rfl (by decide) rfl rfl (pa_cons pe_int (pa_cons (pv 1) pa_nil)) (by rfl))
  (pss_cons (ps_while (passes_of rfl) (PW.pt (pw_and (pt_cmpR op_gt (pv 7) pe_int (nomark _)) (pw_and1 (pt_cmpR (op_eqDK (K := K) rfl hr.units) (pe_op op_mod (pv 7) pe_int) pe_int (nomark _)))))
  (pss_one (ps_par rfl nd rfl rfl (by decide) rfl rfl (pa_cons (pe_op (op_add4K (K := K) rfl) (pv 6) pe_int) (pa_cons (pe_op op_fdivW (pv 7) pe_int) pa_nil)) (by rfl))))
  (pss_one (ps_ret (pe_ifExp (PW.pt (pw_and (pt_cmpR (op_eqDK (K := K) rfl hr.units) (pv 0) pe_int (nomark _)) (pw_and1 (pt_cmpR (op_eqDK (K := K) rfl hr.units) (pe_op op_mod (pv 7) pe_int) pe_int (nomark _))))) (pe_tup (pa_cons pe_str (pa_cons (pe_tup (pa_cons (pv 6) (pa_cons (pe_op op_fdivW (pv 7) pe_int) pa_nil))) pa_nil))) pe_non))))))),
   fun z h0 W he => (ss_seq (ss_if (st_testO (sv_op sr_eq (SV.se (sv_var 0 rfl)) (SV.se sv_int)))
  (ss_seq (ss_set 2 rfl sv_int)
  (ss_seq (ss_while (st_testO (sv_op sr_le (SV.se (sv_op sr_mul (SV.se (sv_op sr_add (SV.se (sv_var 2 rfl)) (SV.se sv_int))) (SV.se (sv_op sr_add (SV.se (sv_var 2 rfl)) (SV.se sv_int))))) (SV.se (sv_var 1 rfl))))
  (ss_set 2 rfl (sv_op sr_add (SV.se (sv_var 2 rfl)) (SV.se sv_int))))
  (ss_ret (SV.se (sv_if (st_testO (sv_op sr_eq (SV.se (sv_op sr_mul (SV.se (sv_var 2 rfl)) (SV.se (sv_var 2 rfl)))) (SV.se (sv_var 1 rfl)))) sv_non (sv_tup (sa_cons sv_str (sa_cons (sv_var 2 rfl) sa_nil))))))))
  ss_next)
  (ss_seq (ss_if (st_testO (sv_op sr_eq (SV.se (sv_var 0 rfl)) (SV.se sv_int)))
  (ss_seq (ss_for (si_seq (sv_if (st_testO (sv_op sr_gt (SV.se (sv_var 1 rfl)) (SV.se sv_int))) (sv_call he (sa_cons (sv_var 1 rfl) sa_nil)) (sv_lst sa_nil))) (sg_name 3 rfl)
  (ss_seq (ss_par 4 5 rfl rfl (sa_cons sv_int (sa_cons (sv_var 1 rfl) sa_nil)))
  (ss_seq (ss_while (st_testO (sv_op sr_eq (SV.se (sv_op sr_mod (SV.se (sv_var 5 rfl)) (SV.se (sv_var 3 rfl)))) (SV.se sv_int)))
  (ss_par 5 4 rfl rfl (sa_cons (sv_op sr_div (SV.se (sv_var 5 rfl)) (SV.se (sv_var 3 rfl))) (sa_cons (sv_op sr_add (SV.se (sv_var 4 rfl)) (SV.se sv_int)) sa_nil))))
  (ss_if (st_and (st_testO (sv_op sr_eq (SV.se (sv_op sr_mod (SV.se (sv_var 3 rfl)) (SV.se sv_int))) (SV.se sv_int))) (st_testO (sv_op sr_eq (SV.se (sv_op sr_mod (SV.se (sv_var 4 rfl)) (SV.se sv_int))) (SV.se sv_int))))
  (ss_ret (SV.se (sv_tup (sa_cons sv_str (sa_cons (sv_var 3 rfl) sa_nil)))))
  ss_next))))
  (ss_ret (SV.se sv_non)))
  ss_next)
  (ss_seq (ss_par 6 7 rfl rfl (sa_cons sv_int (sa_cons (sv_var 1 rfl) sa_nil)))
  (ss_seq (ss_while (st_and (st_testO (sv_op sr_gt (SV.se (sv_var 7 rfl)) (SV.se sv_int))) (st_testO (sv_op sr_eq (SV.se (sv_op sr_mod (SV.se (sv_var 7 rfl)) (SV.se sv_int))) (SV.se sv_int))))
  (ss_par 6 7 rfl rfl (sa_cons (sv_op sr_add (SV.se (sv_var 6 rfl)) (SV.se sv_int)) (sa_cons (sv_op sr_div (SV.se (sv_var 7 rfl)) (SV.se sv_int)) sa_nil))))
  (ss_ret (SV.se (sv_if (st_and (st_testO (sv_op sr_eq (SV.se (sv_var 0 rfl)) (SV.se sv_int))) (st_testO (sv_op sr_eq (SV.se (sv_op sr_mod (SV.se (sv_var 7 rfl)) (SV.se sv_int))) (SV.se sv_int)))) (sv_tup (sa_cons sv_str (sa_cons (sv_tup (sa_cons (sv_var 6 rfl) (sa_cons (sv_op sr_div (SV.se (sv_var 7 rfl)) (SV.se sv_int)) sa_nil))) sa_nil))) sv_non)))))))⟩
theorem ok__law_number (T : Txt K mg A FD cl CC PT TT pe) (TB0 : TB0 base mg CC PT) : FnOk P w K mg base (L2N.CX P w) 2 (A 20) (FD 20) ["box"] (spB K cl TT 1 F__law_number) := by
  have G__law_draw : FnOk P w K mg base (L2N.CX P w) 1 (A 15) (FD 15) ["box", "many"] (spB K cl TT 2 F__law_draw) := ok__law_draw T TB0
  have nd := sc__law_number.nd
  refine fn_box T.f20 sc__law_number (fun i => i == 0) (by decide) (by decide) d__law_number (fun cdv A0 outer s H E hr => ?_) sp__law_number
  exact ⟨_, (pss_cons (ps_set (i := 1) nd rfl (Or.inl rfl) (pe_call G__law_draw (hr.mono (by decide)) (by rfl) T.g15 T.f15.kp T.b15 .nil (L2N.passes_call (L2N.takes_of rfl rfl rfl rfl) (fun _ _ _ _ h => h)) (pa_cons (pv 0) (pa_cons pe_int pa_nil))))
  (pss_cons (ps_if (pt_cmpR (op_eqDK (K := K) rfl hr.units) (pv 1) pe_int (nomark _))
  (pss_one (ps_ret (pe_call G__law_draw (hr.mono (by decide)) (by rfl) T.g15 T.f15.kp T.b15 .nil (L2N.passes_call (L2N.takes_of rfl rfl rfl rfl) (fun _ _ _ _ h => h)) (pa_cons (pv 0) (pa_cons pe_int pa_nil)))))
  pss_nil)
  (pss_cons (ps_if (pt_cmpR (op_eqDK (K := K) rfl hr.units) (pv 1) pe_int (nomark _))
  (pss_one (ps_ret (pe_call G__law_draw (hr.mono (by decide)) (by rfl) T.g15 T.f15.kp T.b15 .nil (L2N.passes_call (L2N.takes_of rfl rfl rfl rfl) (fun _ _ _ _ h => h)) (pa_cons (pv 0) (pa_cons pe_int pa_nil)))))
  pss_nil)
  (pss_cons (ps_if (pt_cmpR (op_eqDK (K := K) rfl hr.units) (pv 1) pe_int (nomark _))
  (pss_one (ps_ret (pe_op op_mulW (pe_op (op_add4K (K := K) rfl) (pe_op op_mulW pe_int (pe_call G__law_draw (hr.mono (by decide)) (by rfl) T.g15 T.f15.kp T.b15 .nil (L2N.passes_call (L2N.takes_of rfl rfl rfl rfl) (fun _ _ _ _ h => h)) (pa_cons (pv 0) (pa_cons pe_int pa_nil)))) pe_int) (pe_ix (ix_seqK (K := K) rfl) (pe_lst (pa_cons pe_int (pa_cons pe_int (pa_cons pe_int (pa_cons pe_int (pa_cons pe_int pa_nil)))))) (pe_call G__law_draw (hr.mono (by decide)) (by rfl) T.g15 T.f15.kp T.b15 .nil (L2N.passes_call (L2N.takes_of rfl rfl rfl rfl) (fun _ _ _ _ h => h)) (pa_cons (pv 0) (pa_cons pe_int pa_nil))) (fun _ _ => rfl)))))
  pss_nil)
  (pss_cons (ps_par3 rfl nd rfl rfl rfl (by decide) (by decide) (by decide) rfl rfl rfl (pa_cons (pe_call G__law_draw (hr.mono (by decide)) (by rfl) T.g15 T.f15.kp T.b15 .nil (L2N.passes_call (L2N.takes_of rfl rfl rfl rfl) (fun _ _ _ _ h => h)) (pa_cons (pv 0) (pa_cons pe_int pa_nil))) (pa_cons (pe_call G__law_draw (hr.mono (by decide)) (by rfl) T.g15 T.f15.kp T.b15 .nil (L2N.passes_call (L2N.takes_of rfl rfl rfl rfl) (fun _ _ _ _ h => h)) (pa_cons (pv 0) (pa_cons pe_int pa_nil))) (pa_cons (pe_call G__law_draw (hr.mono (by decide)) (by rfl) T.g15 T.f15.kp T.b15 .nil (L2N.passes_call (L2N.takes_of rfl rfl rfl rfl) (fun _ _ _ _ h => h)) (pa_cons (pv 0) (pa_cons pe_int pa_nil))) pa_nil))) (by rfl))
  (pss_one (ps_ret (pe_ifExp (pt_cmpR (op_eqDK (K := K) rfl hr.units) (pv 1) pe_int (nomark _)) (pe_op (op_add4K (K := K) rfl) (pe_op (op_add4K (K := K) rfl) (pe_op op_mulW (pv 2) (pv 2)) (pe_op op_mulW (pv 3) (pv 3))) (pe_ix (ix_seqK (K := K) rfl) (pe_lst (pa_cons pe_int (pa_cons (pe_op op_mulW (pv 4) (pv 4)) pa_nil))) (pe_call G__law_draw (hr.mono (by decide)) (by rfl) T.g15 T.f15.kp T.b15 .nil (L2N.passes_call (L2N.takes_of rfl rfl rfl rfl) (fun _ _ _ _ h => h)) (pa_cons (pv 0) (pa_cons pe_int pa_nil))) (fun _ _ => rfl))) (pe_op op_mulW (pv 2) (pv 2)))))))))),
   fun z b h0 W he => (ss_seq (ss_set 1 rfl (sv_callB 0 rfl he (sa_cons sv_int sa_nil)))
  (ss_seq (ss_if (st_testO (sv_op sr_eq (SV.se (sv_var 1 rfl)) (SV.se sv_int)))
  (ss_ret (SV.se (sv_callB 0 rfl he (sa_cons sv_int sa_nil))))
  ss_next)
  (ss_seq (ss_if (st_testO (sv_op sr_eq (SV.se (sv_var 1 rfl)) (SV.se sv_int)))
  (ss_ret (SV.se (sv_callB 0 rfl he (sa_cons sv_int sa_nil))))
  ss_next)
  (ss_seq (ss_if (st_testO (sv_op sr_eq (SV.se (sv_var 1 rfl)) (SV.se sv_int)))
  (ss_ret (SV.se (sv_op sr_mul (SV.se (sv_op sr_add (SV.se (sv_op sr_mul (SV.se sv_int) (SV.se (sv_callB 0 rfl he (sa_cons sv_int sa_nil))))) (SV.se sv_int))) (SV.se (sv_op sr_ix (SV.se (sv_lst (sa_cons sv_int (sa_cons sv_int (sa_cons sv_int (sa_cons sv_int (sa_cons sv_int sa_nil))))))) (SV.se (sv_callB 0 rfl he (sa_cons sv_int sa_nil))))))))
  ss_next)
  (ss_seq (ss_par3 2 3 4 rfl rfl rfl (sa_cons (sv_callB 0 rfl he (sa_cons sv_int sa_nil)) (sa_cons (sv_callB 0 rfl he (sa_cons sv_int sa_nil)) (sa_cons (sv_callB 0 rfl he (sa_cons sv_int sa_nil)) sa_nil))))
  (ss_ret (SV.se (sv_if (st_testO (sv_op sr_eq (SV.se (sv_var 1 rfl)) (SV.se sv_int))) (sv_op sr_add (SV.se (sv_op sr_add (SV.se (sv_op sr_mul (SV.se (sv_var 2 rfl)) (SV.se (sv_var 2 rfl)))) (SV.se (sv_op sr_mul (SV.se (sv_var 3 rfl)) (SV.se (sv_var 3 rfl)))))) (SV.se (sv_op sr_ix (SV.se (sv_lst (sa_cons sv_int (sa_cons (sv_op sr_mul (SV.se (sv_var 4 rfl)) (SV.se (sv_var 4 rfl))) sa_nil)))) (SV.se (sv_callB 0 rfl he (sa_cons sv_int sa_nil)))))) (sv_op sr_mul (SV.se (sv_var 2 rfl)) (SV.se (sv_var 2 rfl)))))))))))⟩
theorem ok_law (T : Txt K mg A FD cl CC PT TT pe) (TB0 : TB0 base mg CC PT) : FnOk P w K mg base (L2N.CX P w) 9 (A 21) (FD 21) ["script"] (spP K cl TT 1 F_law) := by
  have z_isinstance := T.z_isinstance
  have z_len := T.z_len
  have z_range := T.z_range
  have z_tuple := T.z_tuple
  have G__law_draw : FnOk P w K mg base (L2N.CX P w) 1 (A 15) (FD 15) ["box", "many"] (spB K cl TT 2 F__law_draw) := ok__law_draw T TB0
  have G__law_forbids : FnOk P w K mg base (L2N.CX P w) 2 (A 19) (FD 19) ["k", "m"] (spP K cl TT 2 F__law_forbids) := ok__law_forbids T TB0
  have G__law_is_squares : FnOk P w K mg base (L2N.CX P w) 1 (A 18) (FD 18) ["k", "m", "told"] (spP K cl TT 3 F__law_is_squares) := ok__law_is_squares T TB0
  have G__law_number : FnOk P w K mg base (L2N.CX P w) 2 (A 20) (FD 20) ["box"] (spB K cl TT 1 F__law_number) := ok__law_number T TB0
  have G__law_stream : FnOk P w K mg base (L2N.CX P w) 2 (A 14) (FD 14) ["script", "k"] (spN K cl TT 2 F__law_stream) := ok__law_stream T TB0
  have G_is_squares : FnOk P w K mg base (L2N.CX P w) 3 (A 11) (FD 11) ["k", "m", "told"] (spP K cl TT 3 F_is_squares) := ok_is_squares T TB0
  have G_squares : FnOk P w K mg base (L2N.CX P w) 5 (A 10) (FD 10) ["k", "m"] (spP K cl TT 2 F_squares) := ok_squares T TB0
  have nd := sc_law.nd
  have TB := TB0.1
  refine fn_pureC T.f21 sc_law (fun i => i == 2) (by decide) d_law (fun A0 outer s H E hr => ?_) sp_law
  exact ⟨_, (pss_cons (ps_for (passes_of rfl) rfl (pi_range1 rfl z_range (pa_cons pe_int pa_nil)) (pg_name (i := 1) nd rfl (Or.inl rfl))
  (pss_cons (ps_set (i := 2) nd rfl (Or.inl rfl) (pe_call G__law_stream (hr.mono (by decide)) (by rfl) T.g14 T.f14.kp T.b14 .nil (L2N.passes_call (L2N.takes_of rfl rfl rfl rfl) (fun _ _ _ _ h => h)) (pa_cons (pv 0) (pa_cons (pv 1) pa_nil))))
  (pss_cons (ps_for (passes_of rfl) rfl (pi_seqK (K := K) rfl (pe_lst (pa_cons (pe_call G__law_number (hr.mono (by decide)) (by rfl) T.g20 T.f20.kp T.b20 .nil (L2N.passes_call (L2N.takes_of rfl rfl rfl rfl) (fun _ _ _ _ h => h)) (pa_cons (pv 2) pa_nil)) (pa_cons (pe_call G__law_number (hr.mono (by decide)) (by rfl) T.g20 T.f20.kp T.b20 .nil (L2N.passes_call (L2N.takes_of rfl rfl rfl rfl) (fun _ _ _ _ h => h)) (pa_cons (pv 2) pa_nil)) (pa_cons (pe_call G__law_draw (hr.mono (by decide)) (by rfl) T.g15 T.f15.kp T.b15 .nil (L2N.passes_call (L2N.takes_of rfl rfl rfl rfl) (fun _ _ _ _ h => h)) (pa_cons (pv 2) (pa_cons pe_int pa_nil))) (pa_cons (pe_op op_sub pe_int (pe_call G__law_draw (hr.mono (by decide)) (by rfl) T.g15 T.f15.kp T.b15 .nil (L2N.passes_call (L2N.takes_of rfl rfl rfl rfl) (fun _ _ _ _ h => h)) (pa_cons (pv 2) (pa_cons pe_int pa_nil)))) pa_nil)))))) (pg_name (i := 3) nd rfl (Or.inr rfl))
  (pss_one (ps_for (passes_of rfl) rfl (pi_range2 rfl z_range (pa_cons pe_int (pa_cons pe_int pa_nil))) (pg_name (i := 4) nd rfl (Or.inr rfl))
  (pss_cons (ps_par rfl nd rfl rfl (by decide) rfl rfl (pa_cons (pe_call G__law_forbids (hr.mono (by decide)) (by rfl) T.g19 T.f19.kp T.b19 .nil (L2N.passes_call (L2N.takes_of rfl rfl rfl rfl) (fun _ _ _ _ h => h)) (pa_cons (pv 4) (pa_cons (pv 3) pa_nil))) (pa_cons (pe_told (T := TT) (TT := TTold K cl TT F__law_read) T.f16 T.b16 sc__law_told (fun cdv => gives_told T TB0 (by decide)) (fun A outer s H E f c' hr => by exact (pe_call G_squares (hr.mono (by decide)) (by rfl) T.g10 T.f10.kp T.b10 .nil (L2N.passes_call takes_lam (fun _ _ _ _ h => h)) (pa_cons (pv 4) (pa_cons (pv 3) pa_nil)))) rfl T.g16 hr TB rfl T.t21 T.u21 rfl (by first | exact Or.inl rfl | exact Or.inr (Or.inl rfl)) (by exact LamX.lamS_by (sc := defScope s_law) (by decide +kernel)) rfl (fun _ _ _ _ _ => rfl)) pa_nil)) (by rfl))
  (pss_cons (ps_if (pt_cmpR op_notN (pv 5) pe_non (nomark _))
  (pss_one (ps_if (pt_cmpR (op_neDK (K := K) rfl hr.units) (pv 6) (pe_tup (pa_cons pe_int (pa_cons (pv 5) pa_nil))) (nomark _))
  (pss_one (ps_ret pe_bl))
  pss_nil))
  (pss_one (ps_if (PW.pt (pw_or (pt_cmpR (op_neDK (K := K) rfl hr.units) (pe_ix (ix_seqK (K := K) rfl) (pv 6) pe_int (fun _ _ => rfl)) pe_int (nomark _)) (pw_or (pt_not (pt_val (pe_callB (call_isi_K (K := K) rfl) (by rfl) z_isinstance bt_isinstance (pa_cons (pe_ix (ix_seqK (K := K) rfl) (pv 6) pe_int (fun _ _ => rfl)) (pa_cons (pe_bltn (v := .ty "tuple") (by rfl) z_tuple bt_tuple rfl) pa_nil))))) (pw_or (pt_cmpR (op_neDK (K := K) rfl hr.units) (pe_callB (call_lenK (K := K) rfl) (by rfl) z_len bt_len (pa_cons (pe_ix (ix_seqK (K := K) rfl) (pv 6) pe_int (fun _ _ => rfl)) pa_nil)) pe_int (nomark _)) (pw_or1 (pt_cmpR (op_neDK (K := K) rfl hr.units) (pe_ix (ix_seqK (K := K) rfl) (pe_ix (ix_seqK (K := K) rfl) (pv 6) pe_int (fun _ _ => rfl)) pe_int (fun _ _ => rfl)) pe_str (nomark _)))))))
  (pss_one (ps_ret pe_bl))
  (pss_one (ps_if (pt_not (pt_val (pe_call G__law_is_squares (hr.mono (by decide)) (by rfl) T.g18 T.f18.kp T.b18 .nil (L2N.passes_call (L2N.takes_of rfl rfl rfl rfl) (fun _ _ _ _ h => h)) (pa_cons (pv 4) (pa_cons (pv 3) (pa_cons (pe_ix (ix_seqK (K := K) rfl) (pe_ix (ix_seqK (K := K) rfl) (pv 6) pe_int (fun _ _ => rfl)) pe_int (fun _ _ => rfl)) pa_nil))))))
  (pss_one (ps_ret pe_bl))
  pss_nil)))))
  (pss_cons (ps_set (i := 7) nd rfl (Or.inl rfl) (pe_ifExp (pt_cmpR op_isN (pv 5) pe_non (nomark _)) (pe_ix (ix_seqK (K := K) rfl) (pe_ix (ix_seqK (K := K) rfl) (pv 6) pe_int (fun _ _ => rfl)) pe_int (fun _ _ => rfl)) (pe_op (op_rep1K (K := K) rfl) (pe_tup (pa_cons pe_int pa_nil)) (pv 4))))
  (pss_cons (ps_set (i := 8) nd rfl (Or.inl rfl) (pe_call G__law_draw (hr.mono (by decide)) (by rfl) T.g15 T.f15.kp T.b15 .nil (L2N.passes_call (L2N.takes_of rfl rfl rfl rfl) (fun _ _ _ _ h => h)) (pa_cons (pv 2) (pa_cons (pv 4) pa_nil))))
  (pss_cons (ps_set (i := 9) nd rfl (Or.inl rfl) (pe_lst (pa_cons (pv 7) (pa_cons (pe_revTK (K := K) rfl (pv 7)) (pa_cons (pe_tupleK (K := K) rfl (by rfl) z_tuple (by exact (pe_lc (own := [("a", 10)]) rfl nd (pi_seqK (K := K) rfl (pv 7)) (blkOk_by (own := [("a", 10)]) (N := ["script", "turn", "box", "m", "k", "due", "told", "one", "at", "tries", "a", "some"]) (sc := (defScope s_law)) (by decide +kernel)) (fun _ _ _ _ _ => by exact (pg_name (i := 10) nd rfl (Or.inl rfl))) (fun _ _ _ _ _ => by exact pts_nil) (fun _ _ _ _ _ => by exact (pe_un un_neg (pv 10)))))) (pa_cons (pe_slice (sl_K (K := K) rfl) (pv 7) (po_some pe_int) po_none) (pa_cons (pe_op (op_add4K (K := K) rfl) (pv 7) (pe_tup (pa_cons pe_int pa_nil))) pa_nil)))))))
  (pss_cons (ps_set (i := 9) nd rfl (Or.inl rfl) (pe_op (op_add4K (K := K) rfl) (pv 9) (pe_lst (pa_cons (pe_op (op_add4K (K := K) rfl) (pe_tup (pa_cons pe_int pa_nil)) (pv 7)) (pa_cons (pe_op (op_add4K (K := K) rfl) (pe_op (op_add4K (K := K) rfl) (pe_slice (sl_K (K := K) rfl) (pv 7) po_none (po_some (pv 8))) (pe_tup (pa_cons (pe_op (op_add4K (K := K) rfl) (pe_ix (ix_seqK (K := K) rfl) (pv 7) (pv 8) (fun _ _ => rfl)) pe_int) pa_nil))) (pe_slice (sl_K (K := K) rfl) (pv 7) (po_some (pe_op (op_add4K (K := K) rfl) (pv 8) pe_int)) po_none)) (pa_cons pe_int (pa_cons pe_str (pa_cons (pe_tup (pa_cons (pv 7) pa_nil)) (pa_cons (pe_op (op_add4K (K := K) rfl) (pe_op (op_add4K (K := K) rfl) (pe_slice (sl_K (K := K) rfl) (pv 7) po_none (po_some (pv 8))) (pe_tup (pa_cons pe_str pa_nil))) (pe_slice (sl_K (K := K) rfl) (pv 7) (po_some (pe_op (op_add4K (K := K) rfl) (pv 8) pe_int)) po_none)) pa_nil)))))))))
  (pss_one (ps_for (passes_of rfl) rfl (pi_seqK (K := K) rfl (pv 9)) (pg_name (i := 11) nd rfl (Or.inr rfl))
  (pss_one (ps_if (pt_cmpR (op_neDK (K := K) rfl hr.units) (pe_told (T := TT) (TT := TTold K cl TT F__law_read) T.f16 T.b16 sc__law_told (fun cdv => gives_told T TB0 (by decide)) (fun A outer s H E f c' hr => by exact (pe_call G_is_squares (hr.mono (by decide)) (by rfl) T.g11 T.f11.kp T.b11 .nil (L2N.passes_call takes_lam (fun _ _ _ _ h => h)) (pa_cons (pv 4) (pa_cons (pv 3) (pa_cons (pv 11) pa_nil))))) rfl T.g16 hr TB rfl T.t21 T.u21 rfl (by first | exact Or.inl rfl | exact Or.inr (Or.inl rfl)) (by exact LamX.lamS_by (sc := defScope s_law) (by decide +kernel)) rfl (fun _ _ _ _ _ => rfl)) (pe_tup (pa_cons pe_int (pa_cons (pe_call G__law_is_squares (hr.mono (by decide)) (by rfl) T.g18 T.f18.kp T.b18 .nil (L2N.passes_call (L2N.takes_of rfl rfl rfl rfl) (fun _ _ _ _ h => h)) (pa_cons (pv 4) (pa_cons (pv 3) (pa_cons (pv 11) pa_nil)))) pa_nil))) (nomark _))
  (pss_one (ps_ret pe_bl))
  pss_nil)))))))))))))
  (pss_one (ps_for (passes_of rfl) rfl (pi_seqK (K := K) rfl (pe_lst (pa_cons (pe_tup (pa_cons pe_int (pa_cons pe_int pa_nil))) (pa_cons (pe_tup (pa_cons pe_int (pa_cons pe_int pa_nil))) (pa_cons (pe_tup (pa_cons pe_str (pa_cons pe_int pa_nil))) (pa_cons (pe_tup (pa_cons pe_int (pa_cons (pe_un un_neg pe_int) pa_nil))) (pa_cons (pe_tup (pa_cons pe_int (pa_cons pe_int pa_nil))) (pa_cons (pe_tup (pa_cons pe_int (pa_cons pe_str pa_nil))) (pa_cons (pe_tup (pa_cons (pe_tup (pa_cons pe_int pa_nil)) (pa_cons pe_int pa_nil))) (pa_cons (pe_tup (pa_cons pe_int (pa_cons (pe_tup (pa_cons pe_int pa_nil)) pa_nil))) pa_nil)))))))))) (pg_tupK (K := K) (n := 2) rfl rfl (pgs_cons (pg_name (i := 4) nd rfl (Or.inr rfl)) (pgs_cons (pg_name (i := 3) nd rfl (Or.inr rfl)) pgs_nil)))
  (pss_cons (ps_if (pt_cmpR (op_neDK (K := K) rfl hr.units) (pe_told (T := TT) (TT := TTold K cl TT F__law_read) T.f16 T.b16 sc__law_told (fun cdv => gives_told T TB0 (by decide)) (fun A outer s H E f c' hr => by exact (pe_call G_squares (hr.mono (by decide)) (by rfl) T.g10 T.f10.kp T.b10 .nil (L2N.passes_call takes_lam (fun _ _ _ _ h => h)) (pa_cons (pv 4) (pa_cons (pv 3) pa_nil)))) rfl T.g16 hr TB rfl T.t21 T.u21 rfl (by first | exact Or.inl rfl | exact Or.inr (Or.inl rfl)) (by exact LamX.lamS_by (sc := defScope s_law) (by decide +kernel)) rfl (fun _ _ _ _ _ => rfl)) (pe_tup (pa_cons pe_int (pa_cons pe_str pa_nil))) (nomark _))
  (pss_one (ps_ret pe_bl))
  pss_nil)
  (pss_one (ps_if (pt_cmpR (op_neDK (K := K) rfl hr.units) (pe_told (T := TT) (TT := TTold K cl TT F__law_read) T.f16 T.b16 sc__law_told (fun cdv => gives_told T TB0 (by decide)) (fun A outer s H E f c' hr => by exact (pe_call G_is_squares (hr.mono (by decide)) (by rfl) T.g11 T.f11.kp T.b11 .nil (L2N.passes_call takes_lam (fun _ _ _ _ h => h)) (pa_cons (pv 4) (pa_cons (pv 3) (pa_cons (pe_tup pa_nil) pa_nil))))) rfl T.g16 hr TB rfl T.t21 T.u21 rfl (by first | exact Or.inl rfl | exact Or.inr (Or.inl rfl)) (by exact LamX.lamS_by (sc := defScope s_law) (by decide +kernel)) rfl (fun _ _ _ _ _ => rfl)) (pe_tup (pa_cons pe_int (pa_cons pe_str pa_nil))) (nomark _))
  (pss_one (ps_ret pe_bl))
  pss_nil))))))))
  (pss_one (ps_ret pe_bl))),
   fun z h0 W he => (ss_seq (ss_for (si_range1 sv_int) (sg_name 1 rfl)
  (ss_seq (ss_setO 2 rfl (.inl rfl) (sf_callN (sa_cons (sv_var 0 rfl) (sa_cons (sv_var 1 rfl) sa_nil))))
  (ss_seq (ss_for (si_seq (sv_lst (sa_cons (sv_callB 2 rfl he sa_nil) (sa_cons (sv_callB 2 rfl he sa_nil) (sa_cons (sv_callB 2 rfl he (sa_cons sv_int sa_nil)) (sa_cons (sv_op sr_sub (SV.se sv_int) (SV.se (sv_callB 2 rfl he (sa_cons sv_int sa_nil)))) sa_nil)))))) (sg_name 3 rfl)
  (ss_for (si_range2 sv_int sv_int) (sg_name 4 rfl)
  (ss_seq (ss_par 5 6 rfl rfl (sa_cons (sv_call he (sa_cons (sv_var 4 rfl) (sa_cons (sv_var 3 rfl) sa_nil))) (sa_cons (sv_told (fun z h0 E W he => by exact (sv_call he (sa_cons (sv_var 4 rfl) (sa_cons (sv_var 3 rfl) sa_nil))))) sa_nil)))
  (ss_seq (ss_if (st_testO (sv_op sr_notN (SV.se (sv_var 5 rfl)) (SV.se sv_non)))
  (ss_if (st_testO (sv_op sr_ne (SV.se (sv_var 6 rfl)) (SV.se (sv_tup (sa_cons sv_int (sa_cons (sv_var 5 rfl) sa_nil))))))
  (ss_ret (SV.se sv_bl))
  ss_next)
  (ss_if (st_or (st_testO (sv_op sr_ne (SV.se (sv_op sr_ix (SV.se (sv_var 6 rfl)) (SV.se sv_int))) (SV.se sv_int))) (st_or (st_not (st_test (sv_isi kit_tup (sv_op sr_ix (SV.se (sv_var 6 rfl)) (SV.se sv_int))))) (st_or (st_testO (sv_op sr_ne (SV.se (sv_cb sr_len (sao_cons (SV.se (sv_op sr_ix (SV.se (sv_var 6 rfl)) (SV.se sv_int))) sao_nil))) (SV.se sv_int))) (st_testO (sv_op sr_ne (SV.se (sv_op sr_ix (SV.se (sv_op sr_ix (SV.se (sv_var 6 rfl)) (SV.se sv_int))) (SV.se sv_int))) (SV.se sv_str))))))
  (ss_ret (SV.se sv_bl))
  (ss_if (st_not (st_test (sv_call he (sa_cons (sv_var 4 rfl) (sa_cons (sv_var 3 rfl) (sa_cons (sv_op sr_ix (SV.se (sv_op sr_ix (SV.se (sv_var 6 rfl)) (SV.se sv_int))) (SV.se sv_int)) sa_nil))))))
  (ss_ret (SV.se sv_bl))
  ss_next)))
  (ss_seq (ss_set 7 rfl (sv_if (st_testO (sv_op sr_isN (SV.se (sv_var 5 rfl)) (SV.se sv_non))) (sv_op sr_ix (SV.se (sv_op sr_ix (SV.se (sv_var 6 rfl)) (SV.se sv_int))) (SV.se sv_int)) (sv_op sr_rep1 (SV.se (sv_tup (sa_cons sv_int sa_nil))) (SV.se (sv_var 4 rfl)))))
  (ss_seq (ss_set 8 rfl (sv_callB 2 rfl he (sa_cons (sv_var 4 rfl) sa_nil)))
  (ss_seq (ss_set 9 rfl (sv_lst (sa_cons (sv_var 7 rfl) (sa_cons (sv_rev (SV.se (sv_var 7 rfl))) (sa_cons (sv_tuple (SV.se (SFL.v (sfl_lc (vs := [10]) (si_seq (sv_var 7 rfl)) (sg_name 10 rfl) st_yes (sv_un sr_neg (SV.se (sv_var 10 rfl))) rfl rfl)))) (sa_cons (sv_sl (SV.se (sv_var 7 rfl)) (so_some sv_int) so_none) (sa_cons (sv_op sr_add (SV.se (sv_var 7 rfl)) (SV.se (sv_tup (sa_cons sv_int sa_nil)))) sa_nil)))))))
  (ss_seq (ss_set 9 rfl (sv_op sr_add (SV.se (sv_var 9 rfl)) (SV.se (sv_lst (sa_cons (sv_op sr_add (SV.se (sv_tup (sa_cons sv_int sa_nil))) (SV.se (sv_var 7 rfl))) (sa_cons (sv_op sr_add (SV.se (sv_op sr_add (SV.se (sv_sl (SV.se (sv_var 7 rfl)) so_none (so_some (sv_var 8 rfl)))) (SV.se (sv_tup (sa_cons (sv_op sr_add (SV.se (sv_op sr_ix (SV.se (sv_var 7 rfl)) (SV.se (sv_var 8 rfl)))) (SV.se sv_int)) sa_nil))))) (SV.se (sv_sl (SV.se (sv_var 7 rfl)) (so_some (sv_op sr_add (SV.se (sv_var 8 rfl)) (SV.se sv_int))) so_none))) (sa_cons sv_int (sa_cons sv_str (sa_cons (sv_tup (sa_cons (sv_var 7 rfl) sa_nil)) (sa_cons (sv_op sr_add (SV.se (sv_op sr_add (SV.se (sv_sl (SV.se (sv_var 7 rfl)) so_none (so_some (sv_var 8 rfl)))) (SV.se (sv_tup (sa_cons sv_str sa_nil))))) (SV.se (sv_sl (SV.se (sv_var 7 rfl)) (so_some (sv_op sr_add (SV.se (sv_var 8 rfl)) (SV.se sv_int))) so_none))) sa_nil))))))))))
  (ss_for (si_seq (sv_var 9 rfl)) (sg_name 11 rfl)
  (ss_if (st_testO (sv_op sr_ne (SV.se (sv_told (fun z h0 E W he => by exact (sv_call he (sa_cons (sv_var 4 rfl) (sa_cons (sv_var 3 rfl) (sa_cons (sv_var 11 rfl) sa_nil))))))) (SV.se (sv_tup (sa_cons sv_int (sa_cons (sv_call he (sa_cons (sv_var 4 rfl) (sa_cons (sv_var 3 rfl) (sa_cons (sv_var 11 rfl) sa_nil)))) sa_nil))))))
  (ss_ret (SV.se sv_bl))
  ss_next))))))))))
  (ss_for (si_seq (sv_lst (sa_cons (sv_tup (sa_cons sv_int (sa_cons sv_int sa_nil))) (sa_cons (sv_tup (sa_cons sv_int (sa_cons sv_int sa_nil))) (sa_cons (sv_tup (sa_cons sv_str (sa_cons sv_int sa_nil))) (sa_cons (sv_tup (sa_cons sv_int (sa_cons (sv_un sr_neg (SV.se sv_int)) sa_nil))) (sa_cons (sv_tup (sa_cons sv_int (sa_cons sv_int sa_nil))) (sa_cons (sv_tup (sa_cons sv_int (sa_cons sv_str sa_nil))) (sa_cons (sv_tup (sa_cons (sv_tup (sa_cons sv_int sa_nil)) (sa_cons sv_int sa_nil))) (sa_cons (sv_tup (sa_cons sv_int (sa_cons (sv_tup (sa_cons sv_int sa_nil)) sa_nil))) sa_nil)))))))))) (sg_tup (sgs_cons (sg_name 4 rfl) (sgs_cons (sg_name 3 rfl) sgs_nil)))
  (ss_seq (ss_if (st_testO (sv_op sr_ne (SV.se (sv_told (fun z h0 E W he => by exact (sv_call he (sa_cons (sv_var 4 rfl) (sa_cons (sv_var 3 rfl) sa_nil)))))) (SV.se (sv_tup (sa_cons sv_int (sa_cons sv_str sa_nil))))))
  (ss_ret (SV.se sv_bl))
  ss_next)
  (ss_if (st_testO (sv_op sr_ne (SV.se (sv_told (fun z h0 E W he => by exact (sv_call he (sa_cons (sv_var 4 rfl) (sa_cons (sv_var 3 rfl) (sa_cons (sv_tup sa_nil) sa_nil))))))) (SV.se (sv_tup (sa_cons sv_int (sa_cons sv_str sa_nil))))))
  (ss_ret (SV.se sv_bl))
  ss_next))))))
  (ss_ret (SV.se sv_bl)))⟩
end
theorem end_mk {K : PySem.W.Frag} {w : World} {h : Heap} {mg : Str → Option Value} {fa : Addr} (X : K.In h) (G : h.Ns mainGlobals mg) (hfa : mg "law" = some (.ref fa)) {a0 a1 a2 a3 a4 a5 a6 a7 a8 a9 a10 a11 a12 a13 a14 a15 a16 a17 a18 a19 a20 a21 c21 p21 cF cR cP : Addr}
    (n0 : PySem.W.nsIn K mainGlobals "is_number" = some (some (.ref a0)))
    (d0 : ∃ fd, Fun K "is_number" "is_number" s_is_number a0 fd)
    (n1 : PySem.W.nsIn K mainGlobals "primes_of" = some (some (.ref a1)))
    (d1 : ∃ fd, Fun K "primes_of" "primes_of" s_primes_of a1 fd)
    (n2 : PySem.W.nsIn K mainGlobals "root" = some (some (.ref a2)))
    (d2 : ∃ fd, Fun K "root" "root" s_root a2 fd)
    (n3 : PySem.W.nsIn K mainGlobals "check_numbers" = some (some (.ref a3)))
    (d3 : ∃ fd, Fun K "check_numbers" "check_numbers" s_check_numbers a3 fd)
    (n4 : PySem.W.nsIn K mainGlobals "barred" = some (some (.ref a4)))
    (d4 : ∃ fd, Fun K "barred" "barred" s_barred a4 fd)
    (n5 : PySem.W.nsIn K mainGlobals "fours" = some (some (.ref a5)))
    (d5 : ∃ fd, Fun K "fours" "fours" s_fours a5 fd)
    (n6 : PySem.W.nsIn K mainGlobals "is_three" = some (some (.ref a6)))
    (d6 : ∃ fd, Fun K "is_three" "is_three" s_is_three a6 fd)
    (n7 : PySem.W.nsIn K mainGlobals "two" = some (some (.ref a7)))
    (d7 : ∃ fd, Fun K "two" "two" s_two a7 fd)
    (n8 : PySem.W.nsIn K mainGlobals "three" = some (some (.ref a8)))
    (d8 : ∃ fd, Fun K "three" "three" s_three a8 fd)
    (n9 : PySem.W.nsIn K mainGlobals "four" = some (some (.ref a9)))
    (d9 : ∃ fd, Fun K "four" "four" s_four a9 fd)
    (n10 : PySem.W.nsIn K mainGlobals "squares" = some (some (.ref a10)))
    (d10 : ∃ fd, Fun K "squares" "squares" s_squares a10 fd)
    (n11 : PySem.W.nsIn K mainGlobals "is_squares" = some (some (.ref a11)))
    (d11 : ∃ fd, Fun K "is_squares" "is_squares" s_is_squares a11 fd)
    (n12 : PySem.W.nsIn K mainGlobals "_law_read" = some (some (.ref a12)))
    (d12 : ∃ fd, Fun K "_law_read" "_law_read" s__law_read a12 fd)
    (n13 : PySem.W.nsIn K mainGlobals "_law_cell" = some (some (.ref a13)))
    (d13 : ∃ fd, Fun K "_law_cell" "_law_cell" s__law_cell a13 fd)
    (n14 : PySem.W.nsIn K mainGlobals "_law_stream" = some (some (.ref a14)))
    (d14 : ∃ fd, Fun K "_law_stream" "_law_stream" s__law_stream a14 fd)
    (n15 : PySem.W.nsIn K mainGlobals "_law_draw" = some (some (.ref a15)))
    (d15 : ∃ fd, Fun K "_law_draw" "_law_draw" s__law_draw a15 fd)
    (n16 : PySem.W.nsIn K mainGlobals "_law_told" = some (some (.ref a16)))
    (d16 : ∃ fd, Fun K "_law_told" "_law_told" s__law_told a16 fd)
    (n17 : PySem.W.nsIn K mainGlobals "_law_primes" = some (some (.ref a17)))
    (d17 : ∃ fd, Fun K "_law_primes" "_law_primes" s__law_primes a17 fd)
    (n18 : PySem.W.nsIn K mainGlobals "_law_is_squares" = some (some (.ref a18)))
    (d18 : ∃ fd, Fun K "_law_is_squares" "_law_is_squares" s__law_is_squares a18 fd)
    (n19 : PySem.W.nsIn K mainGlobals "_law_forbids" = some (some (.ref a19)))
    (d19 : ∃ fd, Fun K "_law_forbids" "_law_forbids" s__law_forbids a19 fd)
    (n20 : PySem.W.nsIn K mainGlobals "_law_number" = some (some (.ref a20)))
    (d20 : ∃ fd, Fun K "_law_number" "_law_number" s__law_number a20 fd)
    (n21 : PySem.W.nsIn K mainGlobals "law" = some (some (.ref a21)))
    (d21 : ∃ fd, FunC K "law" "law" s_law a21 c21 fd)
    (z_abs : PySem.W.nsIn K mainGlobals "abs" = some none)
    (z_all : PySem.W.nsIn K mainGlobals "all" = some none)
    (z_any : PySem.W.nsIn K mainGlobals "any" = some none)
    (z_bool : PySem.W.nsIn K mainGlobals "bool" = some none)
    (z_enumerate : PySem.W.nsIn K mainGlobals "enumerate" = some none)
    (z_int : PySem.W.nsIn K mainGlobals "int" = some none)
    (z_isinstance : PySem.W.nsIn K mainGlobals "isinstance" = some none)
    (z_len : PySem.W.nsIn K mainGlobals "len" = some none)
    (z_list : PySem.W.nsIn K mainGlobals "list" = some none)
    (z_max : PySem.W.nsIn K mainGlobals "max" = some none)
    (z_min : PySem.W.nsIn K mainGlobals "min" = some none)
    (z_range : PySem.W.nsIn K mainGlobals "range" = some none)
    (z_repr : PySem.W.nsIn K mainGlobals "repr" = some none)
    (z_set : PySem.W.nsIn K mainGlobals "set" = some none)
    (z_sorted : PySem.W.nsIn K mainGlobals "sorted" = some none)
    (z_str : PySem.W.nsIn K mainGlobals "str" = some none)
    (z_sum : PySem.W.nsIn K mainGlobals "sum" = some none)
    (z_tuple : PySem.W.nsIn K mainGlobals "tuple" = some none)
    (z_zip : PySem.W.nsIn K mainGlobals "zip" = some none)
    (m_GREATEST : ∃ t, PySem.W.nsIn K mainGlobals "GREATEST" = some (some (.int (1000000) t)))
    (q21 : h.get? p21 = some { cls := .none, data := .fields #[] })
    (h21 : PySem.W.codeHdIn K c21 p21 = true)
    (l21 : K.lookup p21 = none)
    (n_PlaceError : PySem.W.nsIn K mainGlobals "PlaceError" = some (some (.ref cP)))
    (n_BadForm : PySem.W.nsIn K mainGlobals "BadForm" = some (some (.ref cF)))
    (x_BadForm : PySem.W.excIn K cF [.type "ValueError", .type "Exception", .type "BaseException", .type "object"] "ValueError.__new__" = true)
    (k_BadForm : PySem.W.keepIn K (.ref cF) = true)
    (e_BadForm : PySem.W.subIn K (.ref cF) (.type "BaseException") = some true)
    (t_BadForm : PySem.W.typeIn K (.ref cF) = some (.type "type"))
    (y0_BadForm : PySem.W.findIn K (.ref cF) "__getattribute__" = some (some (.builtin "BaseException.__getattribute__")))
    (y1_BadForm : PySem.W.findIn K (.ref cF) "__getattr__" = some none)
    (y2_BadForm : PySem.W.hasDictIn K cF = true)
    (y3_BadForm : PySem.W.findIn K (.ref cF) "__class__" = some (some (.builtin "object.__class__")))
    (y4_BadForm : PySem.W.mroIn K cF (.type "object") = some true)
    (y5_BadForm : PySem.W.exmOne K (.ref cF) (.ref cP) = some true)
    (y6_BadForm : PySem.W.kitOne K (.ref cF) (.ref cF) = some true)
    (y7_BadForm : PySem.W.kitOne K (.ref cF) (.ref cR) = some false)
    (n_OutOfRange : PySem.W.nsIn K mainGlobals "OutOfRange" = some (some (.ref cR)))
    (x_OutOfRange : PySem.W.excIn K cR [.type "ValueError", .type "Exception", .type "BaseException", .type "object"] "ValueError.__new__" = true)
    (k_OutOfRange : PySem.W.keepIn K (.ref cR) = true)
    (e_OutOfRange : PySem.W.subIn K (.ref cR) (.type "BaseException") = some true)
    (t_OutOfRange : PySem.W.typeIn K (.ref cR) = some (.type "type"))
    (y0_OutOfRange : PySem.W.findIn K (.ref cR) "__getattribute__" = some (some (.builtin "BaseException.__getattribute__")))
    (y1_OutOfRange : PySem.W.findIn K (.ref cR) "__getattr__" = some none)
    (y2_OutOfRange : PySem.W.hasDictIn K cR = true)
    (y3_OutOfRange : PySem.W.findIn K (.ref cR) "__class__" = some (some (.builtin "object.__class__")))
    (y4_OutOfRange : PySem.W.mroIn K cR (.type "object") = some true)
    (y5_OutOfRange : PySem.W.exmOne K (.ref cR) (.ref cP) = some true)
    (y6_OutOfRange : PySem.W.kitOne K (.ref cR) (.ref cF) = some false)
    (y7_OutOfRange : PySem.W.kitOne K (.ref cR) (.ref cR) = some true)
    (y8 : PySem.W.specialIn K (.builtin "object.__class__") "__get__" = some (some (.builtin "getset_descriptor.__get__")))
    (y9 : PySem.W.takesIn K (.builtin "object.__class__") = some true)
    : LamX.LawAtS PySem.Challenge.rw_allplaces_k07_squares w K (L2N.CX PySem.Challenge.rw_allplaces_k07_squares.prog w) 9 63 "script" mg fa h := by
  obtain ⟨fd0, F0⟩ := d0
  obtain ⟨fd1, F1⟩ := d1
  obtain ⟨fd2, F2⟩ := d2
  obtain ⟨fd3, F3⟩ := d3
  obtain ⟨fd4, F4⟩ := d4
  obtain ⟨fd5, F5⟩ := d5
  obtain ⟨fd6, F6⟩ := d6
  obtain ⟨fd7, F7⟩ := d7
  obtain ⟨fd8, F8⟩ := d8
  obtain ⟨fd9, F9⟩ := d9
  obtain ⟨fd10, F10⟩ := d10
  obtain ⟨fd11, F11⟩ := d11
  obtain ⟨fd12, F12⟩ := d12
  obtain ⟨fd13, F13⟩ := d13
  obtain ⟨fd14, F14⟩ := d14
  obtain ⟨fd15, F15⟩ := d15
  obtain ⟨fd16, F16⟩ := d16
  obtain ⟨fd17, F17⟩ := d17
  obtain ⟨fd18, F18⟩ := d18
  obtain ⟨fd19, F19⟩ := d19
  obtain ⟨fd20, F20⟩ := d20
  obtain ⟨fd21, F21⟩ := d21
  have tabs_one_21 : True → ∀ q ∈ ([(p21, "law.<locals>.<lambda>")] : List (Addr × Str)), q.1 = p21 → q.2 = "law.<locals>.<lambda>" := fun _ q hq e => by
    rcases List.mem_cons.mp hq with z | z
    · rw [z]
    · cases z
  have hpp := True.intro
  have T : Txt K mg (fun k => [a0, a1, a2, a3, a4, a5, a6, a7, a8, a9, a10, a11, a12, a13, a14, a15, a16, a17, a18, a19, a20, a21].getD k 0) (fun k => [fd0, fd1, fd2, fd3, fd4, fd5, fd6, fd7, fd8, fd9, fd10, fd11, fd12, fd13, fd14, fd15, fd16, fd17, fd18, fd19, fd20, fd21].getD k fd0) (fun e => match e with | .form => cF | .range => cR) (fun k => [0, 0, 0, 0, 0, 0, 0, 0, 0, 0, 0, 0, 0, 0, 0, 0, 0, 0, 0, 0, 0, c21].getD k 0) (fun k => [0, 0, 0, 0, 0, 0, 0, 0, 0, 0, 0, 0, 0, 0, 0, 0, 0, 0, 0, 0, 0, p21].getD k 0) [(p21, "law.<locals>.<lambda>")] cP := {
    f0 := F0
    g0 := PySem.W.mg_of X G n0
    b0 := F0.binds (ps := ["told", "least", "most"]) fun _ _ _ _ _ _ us hl => match us, hl with | [_, _, _], _ => rfl
    f1 := F1
    g1 := PySem.W.mg_of X G n1
    b1 := F1.binds (ps := ["number"]) fun _ _ _ _ _ _ us hl => match us, hl with | [_], _ => rfl
    f2 := F2
    g2 := PySem.W.mg_of X G n2
    b2 := F2.binds (ps := ["number"]) fun _ _ _ _ _ _ us hl => match us, hl with | [_], _ => rfl
    f3 := F3
    g3 := PySem.W.mg_of X G n3
    b3 := F3.binds (ps := ["k", "m"]) fun _ _ _ _ _ _ us hl => match us, hl with | [_, _], _ => rfl
    f4 := F4
    g4 := PySem.W.mg_of X G n4
    b4 := F4.binds (ps := ["m"]) fun _ _ _ _ _ _ us hl => match us, hl with | [_], _ => rfl
    f5 := F5
    g5 := PySem.W.mg_of X G n5
    b5 := F5.binds (ps := ["m"]) fun _ _ _ _ _ _ us hl => match us, hl with | [_], _ => rfl
    f6 := F6
    g6 := PySem.W.mg_of X G n6
    b6 := F6.binds (ps := ["m"]) fun _ _ _ _ _ _ us hl => match us, hl with | [_], _ => rfl
    f7 := F7
    g7 := PySem.W.mg_of X G n7
    b7 := F7.binds (ps := ["m"]) fun _ _ _ _ _ _ us hl => match us, hl with | [_], _ => rfl
    f8 := F8
    g8 := PySem.W.mg_of X G n8
    b8 := F8.binds (ps := ["m"]) fun _ _ _ _ _ _ us hl => match us, hl with | [_], _ => rfl
    f9 := F9
    g9 := PySem.W.mg_of X G n9
    b9 := F9.binds (ps := ["m"]) fun _ _ _ _ _ _ us hl => match us, hl with | [_], _ => rfl
    f10 := F10
    g10 := PySem.W.mg_of X G n10
    b10 := F10.binds (ps := ["k", "m"]) fun _ _ _ _ _ _ us hl => match us, hl with | [_, _], _ => rfl
    f11 := F11
    g11 := PySem.W.mg_of X G n11
    b11 := F11.binds (ps := ["k", "m", "told"]) fun _ _ _ _ _ _ us hl => match us, hl with | [_, _, _], _ => rfl
    f12 := F12
    g12 := PySem.W.mg_of X G n12
    b12 := F12.binds (ps := ["told"]) fun _ _ _ _ _ _ us hl => match us, hl with | [_], _ => rfl
    f13 := F13
    g13 := PySem.W.mg_of X G n13
    b13 := F13.binds (ps := ["script", "k"]) fun _ _ _ _ _ _ us hl => match us, hl with | [_, _], _ => rfl
    f14 := F14
    g14 := PySem.W.mg_of X G n14
    b14 := F14.binds (ps := ["script", "k"]) fun _ _ _ _ _ _ us hl => match us, hl with | [_, _], _ => rfl
    f15 := F15
    g15 := PySem.W.mg_of X G n15
    b15 := F15.binds (ps := ["box", "many"]) fun _ _ _ _ _ _ us hl => match us, hl with | [_, _], _ => rfl
    f16 := F16
    g16 := PySem.W.mg_of X G n16
    b16 := F16.binds (ps := ["call"]) fun _ _ _ _ _ _ us hl => match us, hl with | [_], _ => rfl
    f17 := F17
    g17 := PySem.W.mg_of X G n17
    b17 := F17.binds (ps := ["number"]) fun _ _ _ _ _ _ us hl => match us, hl with | [_], _ => rfl
    f18 := F18
    g18 := PySem.W.mg_of X G n18
    b18 := F18.binds (ps := ["k", "m", "told"]) fun _ _ _ _ _ _ us hl => match us, hl with | [_, _, _], _ => rfl
    f19 := F19
    g19 := PySem.W.mg_of X G n19
    b19 := F19.binds (ps := ["k", "m"]) fun _ _ _ _ _ _ us hl => match us, hl with | [_, _], _ => rfl
    f20 := F20
    g20 := PySem.W.mg_of X G n20
    b20 := F20.binds (ps := ["box"]) fun _ _ _ _ _ _ us hl => match us, hl with | [_], _ => rfl
    f21 := F21
    g21 := PySem.W.mg_of X G n21
    b21 := F21.fn.binds (ps := ["script"]) fun _ _ _ _ _ _ us hl => match us, hl with | [_], _ => rfl
    t21 := by first | exact List.mem_cons_self | exact List.mem_cons_of_mem _ List.mem_cons_self
    u21 := tabs_one_21 hpp
    z_abs := PySem.W.mg_none_of X G z_abs
    z_all := PySem.W.mg_none_of X G z_all
    z_any := PySem.W.mg_none_of X G z_any
    z_bool := PySem.W.mg_none_of X G z_bool
    z_enumerate := PySem.W.mg_none_of X G z_enumerate
    z_int := PySem.W.mg_none_of X G z_int
    z_isinstance := PySem.W.mg_none_of X G z_isinstance
    z_len := PySem.W.mg_none_of X G z_len
    z_list := PySem.W.mg_none_of X G z_list
    z_max := PySem.W.mg_none_of X G z_max
    z_min := PySem.W.mg_none_of X G z_min
    z_range := PySem.W.mg_none_of X G z_range
    z_repr := PySem.W.mg_none_of X G z_repr
    z_set := PySem.W.mg_none_of X G z_set
    z_sorted := PySem.W.mg_none_of X G z_sorted
    z_str := PySem.W.mg_none_of X G z_str
    z_sum := PySem.W.mg_none_of X G z_sum
    z_tuple := PySem.W.mg_none_of X G z_tuple
    z_zip := PySem.W.mg_none_of X G z_zip
    m_GREATEST := m_GREATEST.elim fun t e => ⟨t, PySem.W.mg_of X G e⟩
    g_PlaceError := PySem.W.mg_of X G n_PlaceError
    x_BadForm := x_BadForm
    g_BadForm := PySem.W.mg_of X G n_BadForm
    k_BadForm := k_BadForm
    e_BadForm := e_BadForm
    t_BadForm := t_BadForm
    x_OutOfRange := x_OutOfRange
    g_OutOfRange := PySem.W.mg_of X G n_OutOfRange
    k_OutOfRange := k_OutOfRange
    e_OutOfRange := e_OutOfRange
    t_OutOfRange := t_OutOfRange
    ff := fun x => match x with | .form => ⟨⟨y0_BadForm, y1_BadForm, e_BadForm, y2_BadForm, y3_BadForm, y8, y9, y4_BadForm⟩, y5_BadForm, fun y => match y with | .form => y6_BadForm | .range => y7_BadForm⟩ | .range => ⟨⟨y0_OutOfRange, y1_OutOfRange, e_OutOfRange, y2_OutOfRange, y3_OutOfRange, y8, y9, y4_OutOfRange⟩, y5_OutOfRange, fun y => match y with | .form => y6_OutOfRange | .range => y7_OutOfRange⟩ }
  have e := hfa.symm.trans T.g21
  cases e
  refine ⟨fd21, [(c21, p21)], spP K (fun e => match e with | .form => cF | .range => cR) [(p21, "law.<locals>.<lambda>")] 1 F_law, (fun p hp => by
    rcases List.mem_cons.mp hp with z | hp
    · rw [z]; exact q21
    · cases hp), (fun p hp => by
    rcases List.mem_cons.mp hp with z | hp
    · rw [z]; exact l21
    · cases hp), (fun p hp => by
    rcases List.mem_cons.mp hp with z | hp
    · rw [z]; exact PySem.W.codeHd_of_K X h21
    · cases hp), fun s u => ?_, fun H a ns hl hb hT hS => law_asked ?_ hS fun P W hP => ⟨ns, rfl, hl, hb, hP⟩, fun base hK hN hTB => ?_⟩
  · obtain ⟨oc, od, kV, doc, pm, an, ct, osl, rfl, _⟩ := F21.ex
    exact .of_eq rfl
  · intro p hp
    rcases List.mem_cons.mp hp with z | hp
    · rw [z]; exact LamX.TabS.nil (hT (c21, p21) (by first | exact List.mem_cons_self | exact List.mem_cons_of_mem _ List.mem_cons_self))
    · cases hp
  · exact ok_law T ⟨hTB (c21, p21) (by first | exact List.mem_cons_self | exact List.mem_cons_of_mem _ List.mem_cons_self), trivial⟩
end K07
open PySem PySem.W PyProof.Rows PD
set_option maxHeartbeats 0 in
theorem PySem.Challenge.cw_allplaces_k07_squares_holds : PySem.Challenge.rw_allplaces_k07_squares.Holds := by
  w_on; o_law; k_head; (case hw => w_witness2)
  k_fill
  refine LamX.walk_ofTs (l := PySem.Challenge.rw_allplaces_k07_squares) (n := 63) (k := 9) (x := "script") (CX := fun w => L2N.CX PySem.Challenge.rw_allplaces_k07_squares.prog w) rfl (by decide) rfl ⟨rfl, by decide, by decide⟩ (fun w h Y => PySem.W.km_in_of Y) ?F (fun _ H s e s' c => PD.no_errorN c)
  case F =>
    intro w mg fa h Y KX G hmg
    refine' K07.end_mk KX G hmg ?n0 ?d0 ?n1 ?d1 ?n2 ?d2 ?n3 ?d3 ?n4 ?d4 ?n5 ?d5 ?n6 ?d6 ?n7 ?d7 ?n8 ?d8 ?n9 ?d9 ?n10 ?d10 ?n11 ?d11 ?n12 ?d12 ?n13 ?d13 ?n14 ?d14 ?n15 ?d15 ?n16 ?d16 ?n17 ?d17 ?n18 ?d18 ?n19 ?d19 ?n20 ?d20 ?n21 ?d21 ?z_abs ?z_all ?z_any ?z_bool ?z_enumerate ?z_int ?z_isinstance ?z_len ?z_list ?z_max ?z_min ?z_range ?z_repr ?z_set ?z_sorted ?z_str ?z_sum ?z_tuple ?z_zip ?m_GREATEST ?q21 ?h21 ?l21 ?n_PlaceError ?n_BadForm ?x_BadForm ?k_BadForm ?e_BadForm ?t_BadForm ?y0_BadForm ?y1_BadForm ?y2_BadForm ?y3_BadForm ?y4_BadForm ?y5_BadForm ?y6_BadForm ?y7_BadForm ?n_OutOfRange ?x_OutOfRange ?k_OutOfRange ?e_OutOfRange ?t_OutOfRange ?y0_OutOfRange ?y1_OutOfRange ?y2_OutOfRange ?y3_OutOfRange ?y4_OutOfRange ?y5_OutOfRange ?y6_OutOfRange ?y7_OutOfRange ?y8 ?y9
    (case n0 => k_is)
    (case d0 => (refine' ⟨_, L2.fun_mk ?l ?c ?k⟩; (case l => k_is); (case c => k_is); (case k => k_is)))
    (case n1 => k_is)
    (case d1 => (refine' ⟨_, L2.fun_mk ?l ?c ?k⟩; (case l => k_is); (case c => k_is); (case k => k_is)))
    (case n2 => k_is)
    (case d2 => (refine' ⟨_, L2.fun_mk ?l ?c ?k⟩; (case l => k_is); (case c => k_is); (case k => k_is)))
    (case n3 => k_is)
    (case d3 => (refine' ⟨_, L2.fun_mk ?l ?c ?k⟩; (case l => k_is); (case c => k_is); (case k => k_is)))
    (case n4 => k_is)
    (case d4 => (refine' ⟨_, L2.fun_mk ?l ?c ?k⟩; (case l => k_is); (case c => k_is); (case k => k_is)))
    (case n5 => k_is)
    (case d5 => (refine' ⟨_, L2.fun_mk ?l ?c ?k⟩; (case l => k_is); (case c => k_is); (case k => k_is)))
    (case n6 => k_is)
    (case d6 => (refine' ⟨_, L2.fun_mk ?l ?c ?k⟩; (case l => k_is); (case c => k_is); (case k => k_is)))
    (case n7 => k_is)
    (case d7 => (refine' ⟨_, L2.fun_mk ?l ?c ?k⟩; (case l => k_is); (case c => k_is); (case k => k_is)))
    (case n8 => k_is)
    (case d8 => (refine' ⟨_, L2.fun_mk ?l ?c ?k⟩; (case l => k_is); (case c => k_is); (case k => k_is)))
    (case n9 => k_is)
    (case d9 => (refine' ⟨_, L2.fun_mk ?l ?c ?k⟩; (case l => k_is); (case c => k_is); (case k => k_is)))
    (case n10 => k_is)
    (case d10 => (refine' ⟨_, L2.fun_mk ?l ?c ?k⟩; (case l => k_is); (case c => k_is); (case k => k_is)))
    (case n11 => k_is)
    (case d11 => (refine' ⟨_, L2.fun_mk ?l ?c ?k⟩; (case l => k_is); (case c => k_is); (case k => k_is)))
    (case n12 => k_is)
    (case d12 => (refine' ⟨_, L2.fun_mk ?l ?c ?k⟩; (case l => k_is); (case c => k_is); (case k => k_is)))
    (case n13 => k_is)
    (case d13 => (refine' ⟨_, L2.fun_mk ?l ?c ?k⟩; (case l => k_is); (case c => k_is); (case k => k_is)))
    (case n14 => k_is)
    (case d14 => (refine' ⟨_, L2.fun_mk ?l ?c ?k⟩; (case l => k_is); (case c => k_is); (case k => k_is)))
    (case n15 => k_is)
    (case d15 => (refine' ⟨_, L2.fun_mk ?l ?c ?k⟩; (case l => k_is); (case c => k_is); (case k => k_is)))
    (case n16 => k_is)
    (case d16 => (refine' ⟨_, L2.fun_mk ?l ?c ?k⟩; (case l => k_is); (case c => k_is); (case k => k_is)))
    (case n17 => k_is)
    (case d17 => (refine' ⟨_, L2.fun_mk ?l ?c ?k⟩; (case l => k_is); (case c => k_is); (case k => k_is)))
    (case n18 => k_is)
    (case d18 => (refine' ⟨_, L2.fun_mk ?l ?c ?k⟩; (case l => k_is); (case c => k_is); (case k => k_is)))
    (case n19 => k_is)
    (case d19 => (refine' ⟨_, L2.fun_mk ?l ?c ?k⟩; (case l => k_is); (case c => k_is); (case k => k_is)))
    (case n20 => k_is)
    (case d20 => (refine' ⟨_, L2.fun_mk ?l ?c ?k⟩; (case l => k_is); (case c => k_is); (case k => k_is)))
    (case n21 => k_is)
    (case d21 => (refine' FunC.mk1 ?l ?c ?k; (case l => k_is); (case c => k_is); (case k => k_is)))
    (case z_abs => k_is)
    (case z_all => k_is)
    (case z_any => k_is)
    (case z_bool => k_is)
    (case z_enumerate => k_is)
    (case z_int => k_is)
    (case z_isinstance => k_is)
    (case z_len => k_is)
    (case z_list => k_is)
    (case z_max => k_is)
    (case z_min => k_is)
    (case z_range => k_is)
    (case z_repr => k_is)
    (case z_set => k_is)
    (case z_sorted => k_is)
    (case z_str => k_is)
    (case z_sum => k_is)
    (case z_tuple => k_is)
    (case z_zip => k_is)
    (case m_GREATEST => first | exact ⟨_, by k_is⟩ | exact ⟨0, by kernel_rfl⟩ | exact ⟨_, rfl⟩ | (constructor; k_is))
    first | ((case q21 => exact PySem.W.km_tabs_of Y _ List.mem_cons_self); (case h21 => kernel_rfl))
    (case l21 => first | k_is | kernel_rfl)
    (case n_PlaceError => k_is)
    (case n_BadForm => first | k_is | kernel_rfl)
    (case x_BadForm => first | k_is | kernel_rfl)
    (case k_BadForm => first | k_is | kernel_rfl)
    (case e_BadForm => first | k_is | kernel_rfl)
    (case t_BadForm => first | k_is | kernel_rfl)
    (case y0_BadForm => first | k_is | kernel_rfl)
    (case y1_BadForm => first | k_is | kernel_rfl)
    (case y2_BadForm => first | k_is | kernel_rfl)
    (case y3_BadForm => first | k_is | kernel_rfl)
    (case y4_BadForm => first | k_is | kernel_rfl)
    (case y5_BadForm => first | k_is | kernel_rfl)
    (case y6_BadForm => first | k_is | kernel_rfl)
    (case y7_BadForm => first | k_is | kernel_rfl)
    (case n_OutOfRange => first | k_is | kernel_rfl)
    (case x_OutOfRange => first | k_is | kernel_rfl)
    (case k_OutOfRange => first | k_is | kernel_rfl)
    (case e_OutOfRange => first | k_is | kernel_rfl)
    (case t_OutOfRange => first | k_is | kernel_rfl)
    (case y0_OutOfRange => first | k_is | kernel_rfl)
    (case y1_OutOfRange => first | k_is | kernel_rfl)
    (case y2_OutOfRange => first | k_is | kernel_rfl)
    (case y3_OutOfRange => first | k_is | kernel_rfl)
    (case y4_OutOfRange => first | k_is | kernel_rfl)
    (case y5_OutOfRange => first | k_is | kernel_rfl)
    (case y6_OutOfRange => first | k_is | kernel_rfl)
    (case y7_OutOfRange => first | k_is | kernel_rfl)
    (case y8 => k_is)
    (case y9 => k_is)
end

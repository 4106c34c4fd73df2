import PyProof.Rows.All
import Wide.All
import OpenK.AllK
import Wide.FinOn
import HandS.ForMost
import HandS.Exc
import HandS.TryOnly
import HandS.ExcOwn
import HandS.WordsExc
import HandS.Wide
import HandS.WideMore
import HandS.WideBits
import HandS.Style
import HandS.IsInst
import HandS.Conv
import HandS.Zip
import HandS.Flow
import HandS.Lambda
import HandS.ExcCtx
import HandS.TupAny
import HandS.TupMul
import HandS.Deep
import KE.SortData
import PyProof.TupleOfSeq
import KE.KRevSl
import HandS.HotCalls
import HandS.ExcIs
import HandS.Iter
import HandS.EndTab
import HandS.CallLocal
import PyProof.ReprRoads
import PyProof.ReprLen
import PySem.Challenge.RW_allplaces_k08_reduced_and_same
section
set_option Elab.async false
set_option linter.all false
set_option maxRecDepth 100000
/-! Pure data over the layer of readings: D, what stands for it, the environments, and for each reading the same over data. -/
namespace PD
open PySem L2

/-- data: own i is the object that the slot i alone holds (a list or a dict that the def changes) -/
inductive D where
  | non | bl (b : Bool) | int (i : Int) | str (s : Str)
  | tup (xs : List D) | lst (xs : List D)
  | fn (a : Addr) | own (i : Nat)
  | dct (ks : List Int) (vs : List D)
  | scr (ns : List Int)

/-- what stands at a is known to the module -/
def KLst (K : PySem.W.Frag) (a : Addr) (xs : List V) : Prop :=
  ∃ (o : Obj) (its : Array Value) (n : Nat), K.lookup a = some o ∧ o.cls = .type "list" ∧ o.dict = none ∧ o.data = .seq its n ∧ its.size ≤ sizeLine ∧ Vals xs its.toList

/-- all but tables and what is told by its one object -/
def Pn : HO → Prop
  | .tbl _ => False
  | .ext _ => False
  | _ => True
mutual
/-- v stands for d; nothing of it lies in A -/
inductive Rp (K : PySem.W.Frag) (A : Addr → Prop) (H : Hp) : D → V → Prop
  | non : Rp K A H .non .non
  | bl (b : Bool) : Rp K A H (.bl b) (.bl b)
  | int (i : Int) : Rp K A H (.int i) (.int i)
  | str (s : Str) : Rp K A H (.str s) (.str s)
  | tup {a : Addr} {ds : List D} {vs : List V} : ¬ A a → H a = some (.tup vs) → RpL K A H ds vs → Rp K A H (.tup ds) (.ref a)
  | lst {a : Addr} {ds : List D} {vs : List V} : ¬ A a → H a = some (.lst vs) → RpL K A H ds vs → Rp K A H (.lst ds) (.ref a)
  | frz {a : Addr} {o : Obj} (ns : List Int) : ¬ A a → H a = some (.frz o (.lst (ns.map V.int))) → Rp K A H (.scr ns) (.ref a)
  | slst {a : Addr} (ns : List Int) : ¬ A a → H a = some (.lst (ns.map V.int)) → Rp K A H (.scr ns) (.ref a)
  | klst {a : Addr} (ns : List Int) : KLst K a (ns.map V.int) → Rp K A H (.scr ns) (.ref a)
  | dct {a : Addr} {ks : List Int} {ds : List D} {vs : List V} : ¬ A a → H a = some (.dK ((ks.map Sum.inl).zip vs)) → ks.length = vs.length → RpL K A H ds vs → Rp K A H (.dct ks ds) (.ref a)
  | fn (a : Addr) : Rp K A H (.fn a) (.ref a)
inductive RpL (K : PySem.W.Frag) (A : Addr → Prop) (H : Hp) : List D → List V → Prop
  | nil : RpL K A H [] []
  | cons {d : D} {v : V} {ds : List D} {vs : List V} : Rp K A H d v → RpL K A H ds vs → RpL K A H (d :: ds) (v :: vs)
end

section
variable {K : PySem.W.Frag} {A A' : Addr → Prop} {H H' : Hp}
mutual
theorem Rp.move (h : ∀ a o, ¬ A a → H a = some o → Pn o → ¬ A' a ∧ H' a = some o) : ∀ {d : D} {v : V}, Rp K A H d v → Rp K A' H' d v
  | _, _, .non => .non
  | _, _, .bl b => .bl b
  | _, _, .int b => .int b
  | _, _, .str b => .str b
  | _, _, .tup n e r => .tup (h _ _ n e trivial).1 (h _ _ n e trivial).2 (RpL.move h r)
  | _, _, .lst n e r => .lst (h _ _ n e trivial).1 (h _ _ n e trivial).2 (RpL.move h r)
  | _, _, .frz ns n e => .frz ns (h _ _ n e trivial).1 (h _ _ n e trivial).2
  | _, _, .slst ns n e => .slst ns (h _ _ n e trivial).1 (h _ _ n e trivial).2
  | _, _, .klst ns k => .klst ns k
  | _, _, .dct n e l r => .dct (h _ _ n e trivial).1 (h _ _ n e trivial).2 l (RpL.move h r)
  | _, _, .fn a => .fn a
theorem RpL.move (h : ∀ a o, ¬ A a → H a = some o → Pn o → ¬ A' a ∧ H' a = some o) : ∀ {ds : List D} {vs : List V}, RpL K A H ds vs → RpL K A' H' ds vs
  | _, _, .nil => .nil
  | _, _, .cons a b => .cons (Rp.move h a) (RpL.move h b)
end
theorem RpL.length : ∀ {ds : List D} {vs : List V}, RpL K A H ds vs → ds.length = vs.length
  | _, _, .nil => rfl
  | _, _, .cons _ b => congrArg (· + 1) (RpL.length b)
theorem RpL.append : ∀ {ds : List D} {vs : List V} {es : List D} {ws : List V}, RpL K A H ds vs → RpL K A H es ws → RpL K A H (ds ++ es) (vs ++ ws)
  | _, _, _, _, .nil, h => h
  | _, _, _, _, .cons a b, h => .cons a (RpL.append b h)
theorem RpL.get : ∀ {ds : List D} {vs : List V} {i : Nat} {v : V}, RpL K A H ds vs → vs[i]? = some v → ∃ d, ds[i]? = some d ∧ Rp K A H d v
  | _, _, _, _, .nil, e => by simp at e
  | _, _, 0, _, .cons a _, e => by simp at e; subst e; exact ⟨_, rfl, a⟩
  | _, _, i + 1, _, .cons _ b, e => by
    obtain ⟨d, e1, r⟩ := RpL.get (i := i) b (by simpa using e)
    exact ⟨d, by simpa using e1, r⟩
theorem RpL.got : ∀ {ds : List D} {vs : List V} {i : Nat} {d : D}, RpL K A H ds vs → ds[i]? = some d → ∃ v, vs[i]? = some v ∧ Rp K A H d v
  | _, _, _, _, .nil, e => by simp at e
  | _, _, 0, _, .cons a _, e => by simp at e; subst e; exact ⟨_, rfl, a⟩
  | _, _, i + 1, _, .cons _ b, e => by
    obtain ⟨d, e1, r⟩ := RpL.got (i := i) b (by simpa using e)
    exact ⟨d, by simpa using e1, r⟩
theorem RpL.set : ∀ {ds : List D} {vs : List V} (i : Nat) {d : D} {v : V}, RpL K A H ds vs → Rp K A H d v → RpL K A H (ds.set i d) (vs.set i v)
  | _, _, _, _, _, .nil, _ => .nil
  | _, _, 0, _, _, .cons _ b, r => .cons r b
  | _, _, i + 1, _, _, .cons a b, r => .cons a (RpL.set i b r)
theorem RpL.take : ∀ {ds : List D} {vs : List V} (n : Nat), RpL K A H ds vs → RpL K A H (ds.take n) (vs.take n)
  | _, _, 0, _ => by rw [List.take_zero, List.take_zero]; exact .nil
  | _, _, _ + 1, .nil => .nil
  | _, _, n + 1, .cons a b => .cons a (RpL.take n b)
theorem RpL.drop : ∀ {ds : List D} {vs : List V} (n : Nat), RpL K A H ds vs → RpL K A H (ds.drop n) (vs.drop n)
  | _, _, 0, h => h
  | _, _, _ + 1, .nil => .nil
  | _, _, n + 1, .cons _ b => RpL.drop n b
theorem RpL.eraseIdx : ∀ {ds : List D} {vs : List V} (n : Nat), RpL K A H ds vs → RpL K A H (ds.eraseIdx n) (vs.eraseIdx n)
  | _, _, _, .nil => .nil
  | _, _, 0, .cons _ b => b
  | _, _, n + 1, .cons a b => .cons a (RpL.eraseIdx n b)
theorem RpL.reverse {ds : List D} {vs : List V} (h : RpL K A H ds vs) : RpL K A H ds.reverse vs.reverse := by
  induction ds generalizing vs with
  | nil => cases h; exact .nil
  | cons d ds ih =>
    cases h with
    | cons a b =>
      rw [List.reverse_cons, List.reverse_cons]
      exact (ih b).append (.cons a .nil)
theorem RpL.rep {ds : List D} {vs : List V} (h : RpL K A H ds vs) : ∀ k : Nat, RpL K A H (List.replicate k ds).flatten (List.replicate k vs).flatten
  | 0 => .nil
  | k + 1 => by
    rw [List.replicate_succ, List.replicate_succ, List.flatten_cons, List.flatten_cons]
    exact h.append (RpL.rep h k)
theorem RpL.ints : ∀ {ns : List Int} {vs : List V}, RpL K A H (ns.map D.int) vs → vs = ns.map V.int
  | [], _, .nil => rfl
  | _ :: _, _, .cons (.int _) b => congrArg (_ :: ·) (RpL.ints b)
theorem RpL.of_ints : ∀ (ns : List Int), RpL K A H (ns.map D.int) (ns.map V.int)
  | [] => .nil
  | n :: ns => .cons (.int n) (RpL.of_ints ns)
theorem RpL.bls : ∀ {ns : List Bool} {vs : List V}, RpL K A H (ns.map D.bl) vs → vs = ns.map V.bl
  | [], _, .nil => rfl
  | _ :: _, _, .cons (.bl _) b => congrArg (_ :: ·) (RpL.bls b)
/-- a list that is read -/
theorem Rp.seqL {ds : List D} {v : V} (h : Rp K A H (.lst ds) v) : ∃ a vs, v = .ref a ∧ ¬ A a ∧ H a = some (.lst vs) ∧ RpL K A H ds vs := by
  cases h with
  | lst n e r => exact ⟨_, _, rfl, n, e, r⟩
theorem Rp.seqS {ns : List Int} {v : V} (h : Rp K A H (.scr ns) v) : ∃ a, v = .ref a ∧ SqL K H a (ns.map V.int) := by
  cases h with
  | frz ns n e => exact ⟨_, rfl, .inl (.inr ⟨_, e⟩)⟩
  | slst ns n e => exact ⟨_, rfl, .of e⟩
  | klst ns k => exact ⟨_, rfl, .inr k⟩
theorem Rp.seqT {ds : List D} {v : V} (h : Rp K A H (.tup ds) v) : ∃ a vs, v = .ref a ∧ ¬ A a ∧ H a = some (.tup vs) ∧ RpL K A H ds vs := by
  cases h with
  | tup n e r => exact ⟨_, _, rfl, n, e, r⟩
end

/-! ### the environment of a def that runs -/
/-- the program's errors -/
inductive Ex where
  | form | range
/-- what is fixed through a def: the written part, what must not be touched nor held (z), the caller's object in slot 0 that may be changed, the heap at the start, the slots that hold objects of their own, the wish of an error -/
structure C0 where
  K : PySem.W.Frag
  z : Addr → Prop
  box : Option Addr
  h0 : Hp
  own : Nat → Bool
  ew : L2.XK
  dw : Ex → Prop
  cl : Ex → Addr
  T : List (Addr × Str)
/-- what is wanted of errors -/
def C0.Good (c : C0) : Prop := ∀ x H', (∀ a o, c.h0 a = some o → Pn o → c.box ≠ some a → H' a = some o) → LamX.Tabs c.T H' → c.dw x → c.ew (.ref (c.cl x)) none H'

/-- what is held besides: values on the way, objects on the way -/
structure Tm where
  vals : List (D × V)
  hold : List (Addr × HO)

abbrev Env := List (Option D)

/-- where one must not reach -/
def Far (c : C0) (t : Tm) (σ : L2.St) (a : Addr) : Prop :=
  c.z a ∨ (∃ o, (a, o) ∈ t.hold) ∨ ∃ i, c.own i = true ∧ σ[i]? = some (some (.ref a))

/-- what an object that a slot alone holds is -/
def OwnC (K : PySem.W.Frag) (A : Addr → Prop) (H : Hp) (o : HO) : D → Prop
  | .lst ds => ∃ vs, o = .lst vs ∧ RpL K A H ds vs
  | .dct ks ds => ∃ vs : List V, o = .dK ((ks.map Sum.inl).zip vs) ∧ ks.length = vs.length ∧ RpL K A H ds vs
  | _ => False
def OwnAt (K : PySem.W.Frag) (A : Addr → Prop) (H : Hp) (l : Addr) (d : D) : Prop := ∃ o, H l = some o ∧ OwnC K A H o d

structure EnvOk (c : C0) (t : Tm) (σ : L2.St) (H : Hp) (ρ : Env) : Prop where
  len : σ.length = ρ.length
  frame : ∀ a o, c.h0 a = some o → Pn o → c.box ≠ some a → H a = some o
  tabs : LamX.Tabs c.T H
  trk : ∀ a, Far c t σ a → ∃ o, H a = some o ∧ Pn o
  val : ∀ i d, ρ[i]? = some (some d) → c.own i = false → ∃ v, σ[i]? = some (some v) ∧ Rp c.K (Far c t σ) H d v
  ownv : ∀ i d, ρ[i]? = some (some d) → c.own i = true → ∃ l, σ[i]? = some (some (.ref l)) ∧ OwnAt c.K (Far c t σ) H l d ∧ (c.box = some l ∨ ∀ o, c.h0 l = some o → Pn o → False)
  ownn : ∀ i, c.own i = true → ρ[i]? = some none → σ[i]? = some none
  dist : ∀ i j l, c.own i = true → c.own j = true → σ[i]? = some (some (.ref l)) → σ[j]? = some (some (.ref l)) → i = j
  bx : ∀ b, c.box = some b → c.own 0 = true ∧ σ[0]? = some (some (.ref b))
  tv : ∀ p ∈ t.vals, Rp c.K (Far c t σ) H p.1 p.2
  th : ∀ p ∈ t.hold, H p.1 = some p.2 ∧ (∀ i, c.own i = true → σ[i]? ≠ some (some (.ref p.1))) ∧ (∀ o, c.h0 p.1 = some o → Pn o → False) ∧ Pn p.2

/-- a value on the way: what stands for d, or the own object of a slot -/
def RpO (c : C0) (t : Tm) (σ : L2.St) (H : Hp) (d : D) (v : V) : Prop :=
  Rp c.K (Far c t σ) H d v ∨ ∃ i, d = .own i ∧ c.own i = true ∧ σ[i]? = some (some v)

end PD

end
section
set_option Elab.async false
set_option linter.all false
set_option maxRecDepth 100000
namespace PD
open PySem L2

/-! ### environments: growth, a change, a store -/
section
variable {c : C0} {t : Tm} {σ : L2.St} {H H' : Hp} {ρ : Env}

theorem OwnC.move {K : PySem.W.Frag} {A A' : Addr → Prop} {o : HO} {d : D} (h : ∀ a o, ¬ A a → H a = some o → Pn o → ¬ A' a ∧ H' a = some o) (x : OwnC K A H o d) : OwnC K A' H' o d := by
  cases d with
  | lst ds => obtain ⟨vs, e, r⟩ := x; exact ⟨vs, e, RpL.move h r⟩
  | dct ks ds => obtain ⟨vs, e, n, r⟩ := x; exact ⟨vs, e, n, RpL.move h r⟩
  | _ => exact False.elim x
theorem OwnC.pn {K : PySem.W.Frag} {A : Addr → Prop} {o : HO} {d : D} (x : OwnC K A H o d) : Pn o := by
  cases d with
  | lst ds => obtain ⟨vs, e, r⟩ := x; subst e; trivial
  | dct ks ds => obtain ⟨vs, e, n, r⟩ := x; subst e; trivial
  | _ => exact False.elim x
theorem OwnAt.move {K : PySem.W.Frag} {A A' : Addr → Prop} {l : Addr} {d : D} (hl : ∀ o, H l = some o → Pn o → H' l = some o) (h : ∀ a o, ¬ A a → H a = some o → Pn o → ¬ A' a ∧ H' a = some o) (x : OwnAt K A H l d) : OwnAt K A' H' l d := by
  obtain ⟨o, e, x⟩ := x
  exact ⟨o, hl _ e x.pn, x.move h⟩
/-- nothing but tables grows, nothing is lost -/
def Gr (T : List (Addr × Str)) (H H' : Hp) : Prop := (∀ a o, H a = some o → Pn o → H' a = some o) ∧ (LamX.Tabs T H → LamX.Tabs T H')
theorem Gr.refl {T : List (Addr × Str)} : Gr T H H := ⟨fun _ _ e _ => e, id⟩
theorem Gr.of {T : List (Addr × Str)} (g : ∀ a o, H a = some o → H' a = some o) : Gr T H H' := ⟨fun a o e _ => g a o e, fun t => t.ext g⟩
/-- tables stay behind a change of a plain object -/
theorem tabs_upd {T : List (Addr × Str)} {l : Addr} {o o' : HO} (t : LamX.Tabs T H) (e : H l = some o) (pn : Pn o) : LamX.Tabs T (upd H l o') := fun p hp => by
  obtain ⟨ps, h1, h2, h3⟩ := t p hp
  refine ⟨ps, by rw [upd_ne (fun z => by rw [z, e] at h1; cases h1; exact pn)]; exact h1, h2, fun pos cv hc => ?_⟩
  obtain ⟨c, e1, e2⟩ := h3 pos cv hc
  exact ⟨c, e1, by rw [upd_ne (fun z => by rw [z, e] at e2; unfold LamX.CodeO at e2; cases e2; exact pn)]; exact e2⟩
theorem OwnAt.there {K : PySem.W.Frag} {A : Addr → Prop} {l : Addr} {d : D} (x : OwnAt K A H l d) : ∃ o, H l = some o ∧ Pn o := x.imp fun _ h => ⟨h.1, h.2.pn⟩

/-- all that is tracked stays -/
theorem EnvOk.grow (h : EnvOk c t σ H ρ) (g : Gr c.T H H') : EnvOk c t σ H' ρ where
  len := h.len
  frame := fun a o e p n => g.1 _ _ (h.frame a o e p n) p
  tabs := g.2 h.tabs
  trk := fun a f => let ⟨o, e, p⟩ := h.trk a f; ⟨o, g.1 _ _ e p, p⟩
  val := fun i d e n => let ⟨v, e1, r⟩ := h.val i d e n; ⟨v, e1, r.move fun a o na ea p => ⟨na, g.1 _ _ ea p⟩⟩
  ownv := fun i d e n => let ⟨l, e1, x, z⟩ := h.ownv i d e n; ⟨l, e1, x.move (fun o => g.1 l o) (fun a o na ea p => ⟨na, g.1 _ _ ea p⟩), z⟩
  ownn := h.ownn
  dist := h.dist
  bx := h.bx
  tv := fun p hp => (h.tv p hp).move fun a o na ea q => ⟨na, g.1 _ _ ea q⟩
  th := fun p hp => let ⟨a, b, e, q⟩ := h.th p hp; ⟨g.1 _ _ a q, b, e, q⟩
theorem upd_grow {p : Addr} {o : HO} (hp : H p = none) : ∀ a o', H a = some o' → upd H p o a = some o' := fun a o' e => by
  rw [upd_ne (ne_of_none e hp)]; exact e
theorem EnvOk.new {p : Addr} {o : HO} (h : EnvOk c t σ H ρ) (hp : H p = none) : EnvOk c t σ (upd H p o) ρ := h.grow (.of (upd_grow hp))
theorem EnvOk.far {p : Addr} (h : EnvOk c t σ H ρ) (hp : H p = none) : ¬ Far c t σ p := fun f => by
  obtain ⟨o, e, _⟩ := h.trk p f
  rw [hp] at e; cases e
theorem EnvOk.h0n {p : Addr} (h : EnvOk c t σ H ρ) (hp : H p = none) : ∀ o, c.h0 p = some o → Pn o → False := fun o e pn => by
  by_cases hb : c.box = some p
  · obtain ⟨a, b⟩ := h.bx p hb
    exact absurd (.inr (.inr ⟨0, a, b⟩)) (h.far hp)
  · have := h.frame p o e pn hb
    rw [hp] at this; cases this
theorem Rp.grow {d : D} {v : V} {A : Addr → Prop} {K : PySem.W.Frag} (r : Rp K A H d v) (g : ∀ a o, H a = some o → H' a = some o) : Rp K A H' d v := r.move fun a o na ea _ => ⟨na, g _ _ ea⟩
theorem RpL.grow {d : List D} {v : List V} {A : Addr → Prop} {K : PySem.W.Frag} (r : RpL K A H d v) (g : ∀ a o, H a = some o → H' a = some o) : RpL K A H' d v := r.move fun a o na ea _ => ⟨na, g _ _ ea⟩

theorem RpO.grow {d : D} {v : V} (r : RpO c t σ H d v) (g : ∀ a o, H a = some o → H' a = some o) : RpO c t σ H' d v := r.imp (fun r => r.grow g) id
/-- an own object is changed -/
theorem EnvOk.mut {i : Nat} {l : Addr} {d d' : D} {o : HO} (h : EnvOk c t σ H ρ) (hi : c.own i = true) (hd : ρ[i]? = some (some d)) (hl : σ[i]? = some (some (.ref l)))
    (new : OwnC c.K (Far c t σ) H o d') : EnvOk c t σ (upd H l o) (ρ.set i (some d')) := by
  have fl : Far c t σ l := .inr (.inr ⟨i, hi, hl⟩)
  have keep : ∀ a o', ¬ Far c t σ a → H a = some o' → Pn o' → ¬ Far c t σ a ∧ upd H l o a = some o' := fun a o' na e _ => ⟨na, by
    rw [upd_ne (fun z => na (by rw [z]; exact fl))]; exact e⟩
  have hlen : i < ρ.length := (List.getElem?_eq_some_iff.mp hd).1
  obtain ⟨l', e1, x, bz⟩ := h.ownv i d hd hi
  rw [hl] at e1; cases e1
  refine ⟨by rw [List.length_set]; exact h.len, fun a o' e pn n => ?_, let ⟨o, e, pn⟩ := h.trk l fl; tabs_upd h.tabs e pn, fun a f => ?_, fun j dj e n => ?_, fun j dj e n => ?_, fun j n e => ?_, h.dist, h.bx, fun p hp => (h.tv p hp).move keep, fun p hp => ?_⟩
  · have hne : a ≠ l := fun z => by
      subst z
      rcases bz with z | z
      · exact n z
      · exact z o' e pn
    rw [upd_ne hne]; exact h.frame a o' e pn n
  · by_cases z : a = l
    · subst z; exact ⟨_, upd_same, new.pn⟩
    · obtain ⟨o', e, pn⟩ := h.trk a f
      exact ⟨o', by rw [upd_ne z]; exact e, pn⟩
  · have hij : i ≠ j := fun z => by subst z; rw [hi] at n; cases n
    rw [List.getElem?_set_ne hij] at e
    obtain ⟨v, e1, r⟩ := h.val j dj e n
    exact ⟨v, e1, r.move keep⟩
  · by_cases hij : i = j
    · subst hij
      rw [List.getElem?_set_self hlen] at e
      cases e
      exact ⟨l, hl, ⟨o, upd_same, new.move keep⟩, bz⟩
    · rw [List.getElem?_set_ne hij] at e
      obtain ⟨l2, e1, x2, z2⟩ := h.ownv j dj e n
      have hne : l2 ≠ l := fun z => by subst z; exact hij (h.dist i j _ hi n hl e1)
      exact ⟨l2, e1, x2.move (fun o' q _ => by rw [upd_ne hne]; exact q) keep, z2⟩
  · by_cases hij : i = j
    · subst hij
      rw [List.getElem?_set_self hlen] at e; cases e
    · rw [List.getElem?_set_ne hij] at e
      exact h.ownn j n e
  · obtain ⟨a, b, e, q⟩ := h.th p hp
    have hne : p.1 ≠ l := fun z => b i hi (by rw [z]; exact hl)
    exact ⟨by rw [upd_ne hne]; exact a, b, e, q⟩

theorem far_set {i : Nat} {x : Option V} {a : Addr} (hi : c.own i = false) : Far c t (σ.set i x) a ↔ Far c t σ a := by
  unfold Far
  have e : ∀ j, c.own j = true → (σ.set i x)[j]? = σ[j]? := fun j hj => List.getElem?_set_ne fun z => by subst z; rw [hi] at hj; cases hj
  constructor
  · rintro (f | f | ⟨j, hj, f⟩)
    · exact .inl f
    · exact .inr (.inl f)
    · rw [e j hj] at f; exact .inr (.inr ⟨j, hj, f⟩)
  · rintro (f | f | ⟨j, hj, f⟩)
    · exact .inl f
    · exact .inr (.inl f)
    · exact .inr (.inr ⟨j, hj, by rw [e j hj]; exact f⟩)
/-- a slot is stored (or forgotten) -/
theorem EnvOk.put {i : Nat} {x : Option V} {y : Option D} (h : EnvOk c t σ H ρ) (hi : c.own i = false) (r : ∀ d, y = some d → ∃ v, x = some v ∧ Rp c.K (Far c t σ) H d v) : EnvOk c t (σ.set i x) H (ρ.set i y) := by
  have ff : Far c t (σ.set i x) = Far c t σ := funext fun a => propext (far_set hi)
  have e : ∀ j, c.own j = true → (σ.set i x)[j]? = σ[j]? ∧ (ρ.set i y)[j]? = ρ[j]? := fun j hj => by
    have hij : i ≠ j := fun z => by subst z; rw [hi] at hj; cases hj
    exact ⟨List.getElem?_set_ne hij, List.getElem?_set_ne hij⟩
  refine ⟨by rw [List.length_set, List.length_set]; exact h.len, h.frame, h.tabs, fun a f => h.trk a (by rw [ff] at f; exact f), fun j d ej n => ?_, fun j d ej n => ?_, fun j n ej => ?_, fun j k l hj hk e1 e2 => ?_, fun b hb => ?_, fun p hp => by rw [ff]; exact h.tv p hp, fun p hp => ?_⟩
  · rw [ff]
    by_cases hij : i = j
    · subst hij
      have hlt : i < ρ.length := by
        have := (List.getElem?_eq_some_iff.mp ej).1
        rwa [List.length_set] at this
      rw [List.getElem?_set_self hlt] at ej
      obtain ⟨v, e1, r1⟩ := r d (Option.some.inj ej)
      exact ⟨v, by rw [List.getElem?_set_self (by rw [h.len]; exact hlt), e1], r1⟩
    · rw [List.getElem?_set_ne hij] at ej ⊢
      exact h.val j d ej n
  · rw [(e j n).2] at ej
    rw [(e j n).1, ff]
    exact h.ownv j d ej n
  · rw [(e j n).2] at ej
    rw [(e j n).1]
    exact h.ownn j n ej
  · rw [(e j hj).1] at e1
    rw [(e k hk).1] at e2
    exact h.dist j k l hj hk e1 e2
  · obtain ⟨a, z⟩ := h.bx b hb
    exact ⟨a, by rw [(e 0 a).1]; exact z⟩
  · obtain ⟨a, b, z⟩ := h.th p hp
    exact ⟨a, fun j hj => by rw [(e j hj).1]; exact b j hj, z⟩
/-- a new object of its own is stored in a slot -/
theorem EnvOk.putNew {i : Nat} {p : Addr} {o : HO} {d : D} (h : EnvOk c t σ H ρ) (hi : c.own i = true) (hb : c.box = none ∨ i ≠ 0) (hlt : i < ρ.length) (hp : H p = none)
    (new : OwnC c.K (Far c t σ) H o d) : EnvOk c t (σ.set i (some (.ref p))) (upd H p o) (ρ.set i (some d)) := by
  have fp := h.far hp
  have keep : ∀ a o', ¬ Far c t σ a → H a = some o' → Pn o' → ¬ Far c t (σ.set i (some (.ref p))) a ∧ upd H p o a = some o' := fun a o' na e _ => by
    have hne : a ≠ p := ne_of_none e hp
    refine ⟨?_, by rw [upd_ne hne]; exact e⟩
    rintro (f | f | ⟨j, hj, f⟩)
    · exact na (.inl f)
    · exact na (.inr (.inl f))
    · by_cases hij : i = j
      · subst hij
        rw [List.getElem?_set_self (by rw [h.len]; exact hlt)] at f
        cases f; exact hne rfl
      · rw [List.getElem?_set_ne hij] at f
        exact na (.inr (.inr ⟨j, hj, f⟩))
  refine ⟨by rw [List.length_set, List.length_set]; exact h.len, fun a o' e pn n => ?_, h.tabs.ext (upd_grow hp), fun a f => ?_, fun j dj ej n => ?_, fun j dj ej n => ?_, fun j n ej => ?_, fun j k l hj hk e1 e2 => ?_, fun b hb' => ?_, fun q hq => (h.tv q hq).move keep, fun q hq => ?_⟩
  · have := h.frame a o' e pn n
    rw [upd_ne (ne_of_none this hp)]; exact this
  · by_cases z : a = p
    · subst z; exact ⟨_, upd_same, new.pn⟩
    · rw [upd_ne z]
      refine h.trk a ?_
      rcases f with f | f | ⟨j, hj, f⟩
      · exact .inl f
      · exact .inr (.inl f)
      · by_cases hij : i = j
        · subst hij
          rw [List.getElem?_set_self (by rw [h.len]; exact hlt)] at f
          cases f; exact absurd rfl z
        · rw [List.getElem?_set_ne hij] at f
          exact .inr (.inr ⟨j, hj, f⟩)
  · have hij : i ≠ j := fun z => by subst z; rw [hi] at n; cases n
    rw [List.getElem?_set_ne hij] at ej ⊢
    obtain ⟨v, e1, r⟩ := h.val j dj ej n
    exact ⟨v, e1, r.move keep⟩
  · by_cases hij : i = j
    · subst hij
      rw [List.getElem?_set_self hlt] at ej
      cases ej
      exact ⟨p, by rw [List.getElem?_set_self (by rw [h.len]; exact hlt)], ⟨o, upd_same, new.move keep⟩, .inr (h.h0n hp)⟩
    · rw [List.getElem?_set_ne hij] at ej ⊢
      obtain ⟨l2, e1, x2, z2⟩ := h.ownv j dj ej n
      exact ⟨l2, e1, x2.move (fun o' q _ => by rw [upd_ne (ne_of_none q hp)]; exact q) keep, z2⟩
  · by_cases hij : i = j
    · subst hij
      rw [List.getElem?_set_self hlt] at ej; cases ej
    · rw [List.getElem?_set_ne hij] at ej ⊢
      exact h.ownn j n ej
  · by_cases hij : i = j
    · subst hij
      by_cases hik : i = k
      · exact hik
      · rw [List.getElem?_set_self (by rw [h.len]; exact hlt)] at e1
        rw [List.getElem?_set_ne hik] at e2
        cases e1
        exact absurd (.inr (.inr ⟨k, hk, e2⟩)) fp
    · rw [List.getElem?_set_ne hij] at e1
      by_cases hik : i = k
      · subst hik
        rw [List.getElem?_set_self (by rw [h.len]; exact hlt)] at e2
        cases e2
        exact absurd (.inr (.inr ⟨j, hj, e1⟩)) fp
      · rw [List.getElem?_set_ne hik] at e2
        exact h.dist j k l hj hk e1 e2
  · obtain ⟨a, z⟩ := h.bx b hb'
    have hij : i ≠ 0 := hb.resolve_left (by rw [hb']; simp)
    exact ⟨a, by rw [List.getElem?_set_ne hij]; exact z⟩
  · obtain ⟨a, b, z⟩ := h.th q hq
    have hne : q.1 ≠ p := ne_of_none a hp
    refine ⟨by rw [upd_ne hne]; exact a, fun j hj e => ?_, z⟩
    by_cases hij : i = j
    · subst hij
      rw [List.getElem?_set_self (by rw [h.len]; exact hlt)] at e
      cases e; exact hne rfl
    · rw [List.getElem?_set_ne hij] at e
      exact b j hj e
end
end PD

end
section
set_option Elab.async false
set_option linter.all false
set_option maxRecDepth 100000
namespace PD
open PySem L2

/-! ### the readings over data -/
abbrev DE := Env → (D → Env → Prop) → Prop
abbrev DT := Env → (Bool → Env → Prop) → Prop
abbrev DA := Env → (List D → Env → Prop) → Prop
structure DEnds where
  nx : Env → Prop
  rt : D → Env → Prop
  bk : Env → Prop
  ct : Env → Prop
abbrev DS := DEnds → Env → Prop

inductive RpOL (c : C0) (t : Tm) (σ : L2.St) (H : Hp) : List D → List V → Prop
  | nil : RpOL c t σ H [] []
  | cons {d : D} {v : V} {ds : List D} {vs : List V} : RpO c t σ H d v → RpOL c t σ H ds vs → RpOL c t σ H (d :: ds) (v :: vs)

def SE (c : C0) (te : TE) (de : DE) : Prop := ∀ (t : Tm) (σ : L2.St) (H : Hp) (ρ : Env) (P : D → Env → Prop) (Q : VK), EnvOk c t σ H ρ → de ρ P →
  (∀ v d H' ρ', EnvOk c t σ H' ρ' → RpO c t σ H' d v → P d ρ' → Q v H') → te σ H Q
/-- .. whose value is no slot's own object -/
def SV (c : C0) (te : TE) (de : DE) : Prop := ∀ (t : Tm) (σ : L2.St) (H : Hp) (ρ : Env) (P : D → Env → Prop) (Q : VK), EnvOk c t σ H ρ → de ρ P →
  (∀ v d H' ρ', EnvOk c t σ H' ρ' → Rp c.K (Far c t σ) H' d v → P d ρ' → Q v H') → te σ H Q
theorem SV.se {c : C0} {te : TE} {de : DE} (h : SV c te de) : SE c te de := fun t σ H ρ P Q e q k => h t σ H ρ P Q e q fun v d H' ρ' e' r p => k v d H' ρ' e' (.inl r) p
def ST (c : C0) (tt : TT) (dt : DT) : Prop := ∀ (t : Tm) (σ : L2.St) (H : Hp) (ρ : Env) (P : Bool → Env → Prop) (Q : Bool → Hp → Prop), EnvOk c t σ H ρ → dt ρ P →
  (∀ b H' ρ', EnvOk c t σ H' ρ' → P b ρ' → Q b H') → tt σ H Q
/-- n arguments -/
def SA (c : C0) (n : Nat) (ta : TA) (da : DA) : Prop := ∀ (t : Tm) (σ : L2.St) (H : Hp) (ρ : Env) (P : List D → Env → Prop) (Q : List V → Hp → Prop), EnvOk c t σ H ρ → da ρ P →
  (∀ vs ds H' ρ', EnvOk c t σ H' ρ' → RpL c.K (Far c t σ) H' ds vs → vs.length = n → P ds ρ' → Q vs H') → ta σ H Q
def SAO (c : C0) (ta : TA) (da : DA) : Prop := ∀ (t : Tm) (σ : L2.St) (H : Hp) (ρ : Env) (P : List D → Env → Prop) (Q : List V → Hp → Prop), EnvOk c t σ H ρ → da ρ P →
  (∀ vs ds H' ρ', EnvOk c t σ H' ρ' → RpOL c t σ H' ds vs → P ds ρ' → Q vs H') → ta σ H Q
def SS (c : C0) (ts : TS) (ds : DS) : Prop := ∀ (t : Tm) (σ : L2.St) (H : Hp) (ρ : Env) (De : DEnds) (E : Ends), EnvOk c t σ H ρ → ds De ρ →
  (∀ σ' H' ρ', EnvOk c t σ' H' ρ' → De.nx ρ' → E.nx σ' H') → (∀ v d σ' H' ρ', EnvOk c t σ' H' ρ' → RpO c t σ' H' d v → De.rt d ρ' → E.rt v H') →
  (∀ σ' H' ρ', EnvOk c t σ' H' ρ' → De.bk ρ' → E.bk σ' H') → (∀ σ' H' ρ', EnvOk c t σ' H' ρ' → De.ct ρ' → E.ct σ' H') → ts E σ H

section
variable {c : C0} {t : Tm} {σ : L2.St} {H H' : Hp} {ρ : Env}

/-- a value on the way is kept -/
theorem EnvOk.push {d : D} {v : V} (h : EnvOk c t σ H ρ) (r : RpO c t σ H d v) : ∃ t' : Tm, t'.hold = t.hold ∧ EnvOk c t' σ H ρ ∧ ∀ H' ρ', EnvOk c t' σ H' ρ' → EnvOk c t σ H' ρ' ∧ RpO c t σ H' d v := by
  rcases r with r | r
  · refine ⟨⟨(d, v) :: t.vals, t.hold⟩, rfl, { h with tv := fun p hp => ?_ }, fun H' ρ' h' => ⟨{ h' with tv := fun p hp => h'.tv p (List.mem_cons_of_mem _ hp) }, .inl (h'.tv (d, v) List.mem_cons_self)⟩⟩
    rcases List.mem_cons.mp hp with e | hp
    · rw [e]; exact r
    · exact h.tv p hp
  · exact ⟨t, rfl, h, fun H' ρ' h' => ⟨h', .inr r⟩⟩
theorem Far.hold {t' : Tm} (e : t'.hold = t.hold) : Far c t' σ = Far c t σ := by
  funext a; unfold Far; rw [e]
theorem RpO.hold {t' : Tm} {d : D} {v : V} (e : t'.hold = t.hold) (r : RpO c t' σ H d v) : RpO c t σ H d v := by
  unfold RpO at r ⊢; rw [Far.hold e] at r; exact r
theorem RpO.hold' {t' : Tm} {d : D} {v : V} (e : t'.hold = t.hold) (r : RpO c t σ H d v) : RpO c t' σ H d v := r.hold e.symm
theorem RpOL.hold {t' : Tm} (e : t'.hold = t.hold) : ∀ {ds : List D} {vs : List V}, RpOL c t' σ H ds vs → RpOL c t σ H ds vs
  | _, _, .nil => .nil
  | _, _, .cons a b => .cons (a.hold e) (RpOL.hold e b)
theorem RpOL.length : ∀ {ds : List D} {vs : List V}, RpOL c t σ H ds vs → ds.length = vs.length
  | _, _, .nil => rfl
  | _, _, .cons _ b => congrArg (· + 1) (RpOL.length b)

/-! values, sequences -/
def NotOwn : D → Prop
  | .own _ => False
  | _ => True
theorem RpO.rp {d : D} {v : V} (r : RpO c t σ H d v) (n : NotOwn d) : Rp c.K (Far c t σ) H d v := by
  rcases r with r | ⟨i, rfl, _, _⟩
  · exact r
  · exact False.elim n
def AllNot : List D → Prop
  | [] => True
  | d :: ds => NotOwn d ∧ AllNot ds
theorem RpOL.rp : ∀ {ds : List D} {vs : List V}, RpOL c t σ H ds vs → AllNot ds → RpL c.K (Far c t σ) H ds vs
  | _, _, .nil, _ => .nil
  | _, _, .cons a b, n => .cons (a.rp n.1) (RpOL.rp b n.2)
theorem RpL.rpo : ∀ {ds : List D} {vs : List V}, RpL c.K (Far c t σ) H ds vs → RpOL c t σ H ds vs
  | _, _, .nil => .nil
  | _, _, .cons a b => .cons (.inl a) (RpL.rpo b)

/-- a list, its items -/
def onL (ρ : Env) (d : D) (k : List D → Prop) : Prop :=
  match d with
  | .lst xs => k xs
  | .own i => match ρ[i]? with
    | some (some (.lst xs)) => k xs
    | _ => False
  | _ => False
/-- a list, a tuple, the script: its items -/
def onS (ρ : Env) (d : D) (k : List D → Prop) : Prop :=
  match d with
  | .lst xs => k xs
  | .tup xs => k xs
  | .scr ns => k (ns.map D.int)
  | .own i => match ρ[i]? with
    | some (some (.lst xs)) => k xs
    | _ => False
  | _ => False
theorem EnvOk.ownL {i : Nat} {xs : List D} {v : V} (h : EnvOk c t σ H ρ) (hi : c.own i = true) (e : σ[i]? = some (some v)) (hd : ρ[i]? = some (some (.lst xs))) : ∃ a vs, v = .ref a ∧ H a = some (.lst vs) ∧ RpL c.K (Far c t σ) H xs vs := by
  obtain ⟨l, e1, ⟨o, ho, vs, rfl, r⟩, _⟩ := h.ownv i _ hd hi
  rw [e] at e1; cases e1
  exact ⟨l, vs, rfl, ho, r⟩
theorem onL_ok {d : D} {v : V} {k : List D → Prop} (h : EnvOk c t σ H ρ) (r : RpO c t σ H d v) (q : onL ρ d k) : ∃ xs a vs, v = .ref a ∧ H a = some (.lst vs) ∧ RpL c.K (Far c t σ) H xs vs ∧ k xs := by
  rcases r with r | ⟨i, rfl, hi, e⟩
  · cases d with
    | lst xs =>
      obtain ⟨a, vs, e, _, h1, h2⟩ := r.seqL
      exact ⟨xs, a, vs, e, h1, h2, q⟩
    | own i => cases r
    | _ => exact False.elim q
  · have q' : (match ρ[i]? with
      | some (some (.lst xs)) => k xs
      | _ => False) := q
    split at q'
    · rename_i xs hx
      obtain ⟨a, vs, e1, h1, h2⟩ := h.ownL hi e hx
      exact ⟨xs, a, vs, e1, h1, h2, q'⟩
    · exact False.elim q'
theorem onS_ok {d : D} {v : V} {k : List D → Prop} (h : EnvOk c t σ H ρ) (r : RpO c t σ H d v) (q : onS ρ d k) : ∃ xs a vs, v = .ref a ∧ (SqL c.K H a vs ∨ SqT c.K H a vs) ∧ RpL c.K (Far c t σ) H xs vs ∧ k xs := by
  rcases r with r | ⟨i, rfl, hi, e⟩
  · cases d with
    | lst xs =>
      obtain ⟨a, vs, e, _, h1, h2⟩ := r.seqL
      exact ⟨xs, a, vs, e, .inl (.of h1), h2, q⟩
    | tup xs =>
      obtain ⟨a, vs, e, _, h1, h2⟩ := r.seqT
      exact ⟨xs, a, vs, e, .inr (.of h1), h2, q⟩
    | scr ns =>
      obtain ⟨a, e, h1⟩ := r.seqS
      exact ⟨_, a, _, e, .inl h1, .of_ints ns, q⟩
    | own i => cases r
    | _ => exact False.elim q
  · have q' : onL ρ (.own i) k := q
    obtain ⟨xs, a, vs, e, h1, h2, h3⟩ := onL_ok h (.inr ⟨i, rfl, hi, e⟩) q'
    exact ⟨xs, a, vs, e, .inl (.of h1), h2, h3⟩

/-! ### names, constants -/
def dVar (i : Nat) : DE := fun ρ P => match ρ[i]? with
  | some (some d) => P d ρ
  | _ => False
def dOwn (i : Nat) : DE := fun ρ P => match ρ[i]? with
  | some (some _) => P (.own i) ρ
  | _ => False
def dC (d : D) : DE := fun ρ P => P d ρ
theorem sv_var (i : Nat) (hi : c.own i = false) : SV c (tVar i) (dVar i) := fun t σ H ρ P Q h q k => by
  unfold dVar at q
  split at q
  · rename_i d hd
    obtain ⟨v, e, r⟩ := h.val i d hd hi
    exact ⟨v, e, k v d H ρ h r q⟩
  · exact False.elim q
theorem se_own (i : Nat) (hi : c.own i = true) : SE c (tVar i) (dOwn i) := fun t σ H ρ P Q h q k => by
  unfold dOwn at q
  split at q
  · rename_i d hd
    obtain ⟨l, e, x, _⟩ := h.ownv i d hd hi
    exact ⟨_, e, k _ _ H ρ h (.inr ⟨i, rfl, hi, e⟩) q⟩
  · exact False.elim q
theorem sv_non : SV c (tC .non) (dC .non) := fun t σ H ρ P Q h q k => k _ _ H ρ h .non q
theorem sv_bl {b : Bool} : SV c (tC (.bl b)) (dC (.bl b)) := fun t σ H ρ P Q h q k => k _ _ H ρ h (.bl b) q
theorem sv_int {i : Int} : SV c (tC (.int i)) (dC (.int i)) := fun t σ H ρ P Q h q k => k _ _ H ρ h (.int i) q
theorem sv_str {s : Str} : SV c (tC (.str s)) (dC (.str s)) := fun t σ H ρ P Q h q k => k _ _ H ρ h (.str s) q
theorem sv_fn {a : Addr} : SV c (tC (.ref a)) (dC (.fn a)) := fun t σ H ρ P Q h q k => k _ _ H ρ h (.fn a) q

/-! ### operators -/
/-- a two-place operation on values, over data -/
def SR2 (c : C0) (r : R2) (f : Env → D → D → (D → Prop) → Prop) : Prop := ∀ (t : Tm) (σ : L2.St) (H : Hp) (ρ : Env) (x y : V) (dx dy : D) (P : D → Prop) (Q : VK), EnvOk c t σ H ρ → RpO c t σ H dx x → RpO c t σ H dy y →
  f ρ dx dy P → (∀ v d H', EnvOk c t σ H' ρ → Rp c.K (Far c t σ) H' d v → P d → Q v H') → r x y H Q
def SR1 (c : C0) (r : V → Hp → VK → Prop) (f : Env → D → (D → Prop) → Prop) : Prop := ∀ (t : Tm) (σ : L2.St) (H : Hp) (ρ : Env) (x : V) (dx : D) (P : D → Prop) (Q : VK), EnvOk c t σ H ρ → RpO c t σ H dx x →
  f ρ dx P → (∀ v d H', EnvOk c t σ H' ρ → Rp c.K (Far c t σ) H' d v → P d → Q v H') → r x H Q
def SRL (c : C0) (r : List V → Hp → VK → Prop) (f : Env → List D → (D → Prop) → Prop) : Prop := ∀ (t : Tm) (σ : L2.St) (H : Hp) (ρ : Env) (xs : List V) (ds : List D) (P : D → Prop) (Q : VK), EnvOk c t σ H ρ → RpOL c t σ H ds xs →
  f ρ ds P → (∀ v d H', EnvOk c t σ H' ρ → Rp c.K (Far c t σ) H' d v → P d → Q v H') → r xs H Q
def dOp (f : Env → D → D → (D → Prop) → Prop) (a b : DE) : DE := fun ρ P => a ρ fun x ρ1 => b ρ1 fun y ρ2 => f ρ2 x y fun z => P z ρ2
def dUn (f : Env → D → (D → Prop) → Prop) (a : DE) : DE := fun ρ P => a ρ fun x ρ1 => f ρ1 x fun z => P z ρ1
variable {r : R2} {f : Env → D → D → (D → Prop) → Prop} {ta tb tc : TE} {da db dc : DE}
/-- two expressions in a row -/
theorem se_two {P : D → D → Env → Prop} {R : V → V → Hp → Prop} (ha : SE c ta da) (hb : SE c tb db) (h : EnvOk c t σ H ρ) (q : da ρ fun x ρ1 => db ρ1 fun y ρ2 => P x y ρ2)
    (k : ∀ x y dx dy H' ρ', EnvOk c t σ H' ρ' → RpO c t σ H' dx x → RpO c t σ H' dy y → P dx dy ρ' → R x y H') : ta σ H fun x H1 => tb σ H1 fun y H2 => R x y H2 := by
  refine ha t σ H ρ _ _ h q fun v d H1 ρ1 h1 r1 q1 => ?_
  obtain ⟨t', e, h1', back⟩ := h1.push r1
  refine hb t' σ H1 ρ1 _ _ h1' q1 fun v2 d2 H2 ρ2 h2 r2 q2 => ?_
  obtain ⟨h3, r3⟩ := back H2 ρ2 h2
  exact k v v2 d d2 H2 ρ2 h3 r3 (r2.hold e) q2
theorem sv_op (hr : SR2 c r f) (ha : SE c ta da) (hb : SE c tb db) : SV c (tOp r ta tb) (dOp f da db) := fun t σ H ρ P Q h q k =>
  se_two (P := fun x y ρ2 => f ρ2 x y fun z => P z ρ2) ha hb h q fun x y dx dy H' ρ' h' rx ry q' => hr t σ H' ρ' x y dx dy _ _ h' rx ry q' fun v d H2 h2 r2 p2 => k v d H2 ρ' h2 r2 p2
theorem sv_un {r : V → Hp → VK → Prop} {f : Env → D → (D → Prop) → Prop} (hr : SR1 c r f) (ha : SE c ta da) : SV c (tUn r ta) (dUn f da) := fun t σ H ρ P Q h q k =>
  ha t σ H ρ _ _ h q fun v d H1 ρ1 h1 r1 q1 => hr t σ H1 ρ1 v d _ _ h1 r1 q1 fun v2 d2 H2 h2 r2 p2 => k v2 d2 H2 ρ1 h2 r2 p2

/-- ints in -/
def i2 (C : Int → Int → Prop) (g : Int → Int → D) (_ : Env) : D → D → (D → Prop) → Prop
  | .int i, .int j, k => C i j ∧ k (g i j)
  | _, _, _ => False
def i2' (g : Int → Int → D) (_ : Env) : D → D → (D → Prop) → Prop
  | .int i, .int j, k => k (g i j)
  | _, _, _ => False
def u1 (g : Int → D) (_ : Env) : D → (D → Prop) → Prop
  | .int i, k => k (g i)
  | _, _ => False
theorem RpO.int {i : Int} {v : V} (r : RpO c t σ H (.int i) v) : v = .int i := by
  rcases r with r | ⟨j, e, _⟩
  · cases r; rfl
  · cases e
theorem RpO.str {i : Str} {v : V} (r : RpO c t σ H (.str i) v) : v = .str i := by
  rcases r with r | ⟨j, e, _⟩
  · cases r; rfl
  · cases e
theorem RpO.bl {i : Bool} {v : V} (r : RpO c t σ H (.bl i) v) : v = .bl i := by
  rcases r with r | ⟨j, e, _⟩
  · cases r; rfl
  · cases e
theorem RpO.non {v : V} (r : RpO c t σ H .non v) : v = .non := by
  rcases r with r | ⟨j, e, _⟩
  · cases r; rfl
  · cases e
/-- scalars -/
def vD : D → Option V
  | .non => some .non
  | .bl b => some (.bl b)
  | .int i => some (.int i)
  | .str s => some (.str s)
  | _ => none
theorem RpO.vD {d : D} {v w : V} (r : RpO c t σ H d v) (e : vD d = some w) : v = w := by
  cases d with
  | non => cases e; exact r.non
  | bl b => cases e; exact r.bl
  | int b => cases e; exact r.int
  | str b => cases e; exact r.str
  | _ => cases e
theorem vD_rp {d : D} {w : V} {A : Addr → Prop} {K : PySem.W.Frag} (e : vD d = some w) : Rp K A H d w := by
  cases d with
  | non => cases e; exact .non
  | bl b => cases e; exact .bl b
  | int b => cases e; exact .int b
  | str b => cases e; exact .str b
  | _ => cases e
theorem sr_I {C : Int → Int → Prop} {g : Int → Int → V} {g' : Int → Int → D} (e : ∀ i j, vD (g' i j) = some (g i j)) : SR2 c (rI C g) (i2 C g') := fun t σ H ρ x y dx dy P Q h rx ry q k => by
  cases dx with
  | int i => cases dy with
    | int j => exact ⟨i, j, rx.int, ry.int, q.1, k _ _ H h (vD_rp (e i j)) q.2⟩
    | _ => exact False.elim q
  | _ => exact False.elim q
theorem sr_I0 {g : Int → Int → V} {g' : Int → Int → D} (e : ∀ i j, vD (g' i j) = some (g i j)) : SR2 c (rI0 g) (i2' g') := fun t σ H ρ x y dx dy P Q h rx ry q k => by
  cases dx with
  | int i => cases dy with
    | int j => exact ⟨i, j, rx.int, ry.int, k _ _ H h (vD_rp (e i j)) q⟩
    | _ => exact False.elim q
  | _ => exact False.elim q
theorem sr_U {g : Int → V} {g' : Int → D} (e : ∀ i, vD (g' i) = some (g i)) : SR1 c (rU g) (u1 g') := fun t σ H ρ x dx P Q h rx q k => by
  cases dx with
  | int i => exact ⟨i, rx.int, k _ _ H h (vD_rp (e i)) q⟩
  | _ => exact False.elim q
end
end PD

end
section
set_option Elab.async false
set_option linter.all false
set_option maxRecDepth 100000
namespace PD
open PySem PySem.Spec PyProof.Rows L2

/-! ### operators by values, wider -/
section
variable {X : Cx}
def rAdd4 (K : PySem.W.Frag) : R2 := fun x y H Q => rI0 (fun i j => .int (i + j)) x y H Q ∨ (∃ i j, x = .str i ∧ y = .str j ∧ i.length + j.length ≤ sizeLine ∧ Q (.str (i ++ j)) H) ∨ rCatA K x y H Q ∨ rCat x y H Q
theorem op_add4 : OpR X (binaryOp .Add) (rAdd4 X.K) := OpR.or op_add (OpR.or op_add_str (OpR.or op_catA op_cat))
def rDiv2 : R2 := fun x y H Q => rI CDivW (fun i j => .int (i / j)) x y H Q ∨ rI CDivN (fun i j => .int (i.fdiv j)) x y H Q
theorem op_div2 : OpR X (binaryOp .FloorDiv) rDiv2 := OpR.or op_fdivW op_fdivN
end

section
variable {c : C0} {t : Tm} {σ : L2.St} {H H' : Hp} {ρ : Env}

def addP (ρ : Env) (x y : D) (k : D → Prop) : Prop :=
  match x, y with
  | .int i, .int j => k (.int (i + j))
  | .str i, .str j => i.length + j.length ≤ sizeLine ∧ k (.str (i ++ j))
  | .tup xs, .tup ys => xs.length + ys.length ≤ sizeLine ∧ k (.tup (xs ++ ys))
  | x, y => onL ρ x fun xs => onL ρ y fun ys => xs.length + ys.length ≤ sizeLine ∧ k (.lst (xs ++ ys))
theorem addL {x y : V} {dx dy : D} {P : D → Prop} {Q : VK} (h : EnvOk c t σ H ρ) (rx : RpO c t σ H dx x) (ry : RpO c t σ H dy y) (q : onL ρ dx fun xs => onL ρ dy fun ys => xs.length + ys.length ≤ sizeLine ∧ P (.lst (xs ++ ys)))
    (k : ∀ v d H', EnvOk c t σ H' ρ → Rp c.K (Far c t σ) H' d v → P d → Q v H') : rAdd4 c.K x y H Q := by
  obtain ⟨xs, a, vs, rfl, ha, rxs, q⟩ := onL_ok h rx q
  obtain ⟨ys, b, ws, rfl, hb, rys, q1, q2⟩ := onL_ok h ry q
  refine .inr (.inr (.inr ⟨a, b, vs, ws, rfl, rfl, ha, hb, by rw [← rxs.length, ← rys.length]; exact q1, fun p hp => ?_⟩))
  exact k _ _ _ (h.new hp) (.lst (h.far hp) upd_same ((rxs.append rys).grow (upd_grow hp))) q2
theorem sr_add : SR2 c (rAdd4 c.K) addP := fun t σ H ρ x y dx dy P Q h rx ry q k => by
  unfold addP at q
  split at q
  · rename_i i j
    exact .inl ⟨i, j, rx.int, ry.int, k _ _ H h (.int _) q⟩
  · rename_i i j
    exact .inr (.inl ⟨i, j, rx.str, ry.str, q.1, k _ _ H h (.str _) q.2⟩)
  · rename_i xs ys
    obtain ⟨a, vs, rfl, na, ha, rxs⟩ := (rx.rp trivial).seqT
    obtain ⟨b, ws, rfl, nb, hb, rys⟩ := (ry.rp trivial).seqT
    refine .inr (.inr (.inl ⟨a, b, vs, ws, rfl, rfl, .of ha, .of hb, by rw [← rxs.length, ← rys.length]; exact q.1, fun e => ?_, fun _ e => ?_, fun _ _ p hp => ?_⟩))
    · subst e
      cases rxs
      exact k _ _ H h (ry.rp trivial) q.2
    · subst e
      cases rys
      rw [List.append_nil] at q
      exact k _ _ H h (rx.rp trivial) q.2
    · exact k _ _ _ (h.new hp) (.tup (h.far hp) upd_same ((rxs.append rys).grow (upd_grow hp))) q.2
  · exact addL h rx ry q k
theorem sr_sub : SR2 c (rI0 fun i j => .int (i - j)) (i2' fun i j => .int (i - j)) := sr_I0 fun _ _ => rfl
def MulOk (i j : Int) : Prop := i.natAbs.log2 + j.natAbs.log2 < 1000000
theorem sr_mul : SR2 c (rI CMulW fun i j => .int (i * j)) (i2 MulOk fun i j => .int (i * j)) := sr_I fun _ _ => rfl
def DivOk (_ j : Int) : Prop := 0 < j ∧ j.natAbs.log2 < 9000
theorem sr_div : SR2 c (rI CDivW fun i j => .int (i / j)) (i2 DivOk fun i j => .int (i / j)) := sr_I fun _ _ => rfl
theorem sr_divN : SR2 c (rI CDivN fun i j => .int (i.fdiv j)) (i2 CDivN fun i j => .int (i.fdiv j)) := sr_I fun _ _ => rfl
theorem sr_mod : SR2 c (rI (fun _ j => 0 < j) fun i j => .int (i % j)) (i2 (fun _ j => 0 < j) fun i j => .int (i % j)) := sr_I fun _ _ => rfl
theorem sr_shl : SR2 c (rI CPow fun i j => .int (i * 2 ^ j.toNat)) (i2 CPow fun i j => .int (i * 2 ^ j.toNat)) := sr_I fun _ _ => rfl
theorem sr_pow : SR2 c (rI CPow fun i j => .int (i ^ j.toNat)) (i2 CPow fun i j => .int (i ^ j.toNat)) := sr_I fun _ _ => rfl
theorem sr_neg : SR1 c (rU fun i => .int (-i)) (u1 fun i => .int (-i)) := sr_U fun _ => rfl
theorem sr_lt : SR2 c (rI0 fun i j => .bl (decide (i < j))) (i2' fun i j => .bl (decide (i < j))) := sr_I0 fun _ _ => rfl
theorem sr_le : SR2 c (rI0 fun i j => .bl (decide (i ≤ j))) (i2' fun i j => .bl (decide (i ≤ j))) := sr_I0 fun _ _ => rfl
theorem sr_gt : SR2 c (rI0 fun i j => .bl (decide (j < i))) (i2' fun i j => .bl (decide (j < i))) := sr_I0 fun _ _ => rfl
theorem sr_ge : SR2 c (rI0 fun i j => .bl (decide (j ≤ i))) (i2' fun i j => .bl (decide (j ≤ i))) := sr_I0 fun _ _ => rfl

/-! ### is -/
def isN : D → Bool
  | .non => true
  | _ => false
def isNP (neg : Bool) (_ : Env) (x y : D) (k : D → Prop) : Prop := match y with
  | .non => k (.bl (if neg then !isN x else isN x))
  | _ => False
theorem RpO.isN {d : D} {v : V} (r : RpO c t σ H d v) (h : EnvOk c t σ H ρ) : decide (v = .non) = isN d := by
  rcases r with r | ⟨i, rfl, hi, e⟩
  · cases r <;> first | rfl | (exact decide_eq_false (fun z => by cases z))
  · cases hd : ρ[i]? with
    | none =>
      have l1 := List.getElem?_eq_none_iff.mp hd
      have l2 := (List.getElem?_eq_some_iff.mp e).1
      have := h.len
      omega
    | some o =>
      cases o with
      | none =>
        have := h.ownn i hi hd
        rw [e] at this; cases this
      | some d =>
        obtain ⟨l, e1, _⟩ := h.ownv i d hd hi
        rw [e] at e1; cases e1
        exact decide_eq_false (fun z => by cases z)
theorem sr_isN : SR2 c (fun x y H Q => y = .non ∧ Q (.bl (decide (x = .non))) H) (isNP false) := fun t σ H ρ x y dx dy P Q h rx ry q k => by
  cases dy with
  | non =>
    refine ⟨ry.non, ?_⟩
    rw [rx.isN h]
    exact k _ _ H h (.bl _) q
  | _ => exact False.elim q
theorem sr_notN : SR2 c (fun x y H Q => y = .non ∧ Q (.bl (!decide (x = .non))) H) (isNP true) := fun t σ H ρ x y dx dy P Q h rx ry q k => by
  cases dy with
  | non =>
    refine ⟨ry.non, ?_⟩
    rw [rx.isN h]
    exact k _ _ H h (.bl _) q
  | _ => exact False.elim q

/-! ### == -/
mutual
def toPy : D → PyData
  | .non => .none
  | .bl b => .bool b
  | .int i => .int i
  | .str s => .str s
  | .tup xs => .tuple (toPys xs)
  | .lst xs => .list (toPys xs)
  | .fn _ => .none
  | .own _ => .none
  | .dct _ _ => .none
  | .scr ns => .list (ns.map PyData.int)
def toPys : List D → List PyData
  | [] => []
  | x :: xs => toPy x :: toPys xs
end
mutual
/-- data of at most that depth -/
def okN : Nat → D → Bool
  | _, .non => true
  | _, .bl _ => true
  | _, .int _ => true
  | _, .str s => PyData.strOk s
  | 0, .tup _ => false
  | n + 1, .tup xs => okNs n xs
  | 0, .lst _ => false
  | n + 1, .lst xs => okNs n xs
  | _, .fn _ => false
  | _, .own _ => false
  | _, .dct _ _ => false
  | _, .scr _ => false
def okNs : Nat → List D → Bool
  | _, [] => true
  | n, x :: xs => okN n x && okNs n xs
end

mutual
theorem Rp.dp {K : PySem.W.Frag} {A : Addr → Prop} : ∀ {n : Nat} {d : D} {v : V}, okN n d = true → Rp K A H d v → Dp K H v (toPy d)
  | _, .non, _, _, .non => by rw [toPy]; exact .non
  | _, .bl _, _, _, .bl b => by rw [toPy]; exact .bl b
  | _, .int _, _, _, .int b => by rw [toPy]; exact .int b
  | _, .str _, _, _, .str b => by rw [toPy]; exact .str b
  | n + 1, .tup xs, _, o, .tup _ e r => by rw [toPy]; exact .tup (.of e) (RpL.dp (n := n) (by rw [okN] at o; exact o) r)
  | 0, .tup xs, _, o, _ => by rw [okN] at o; cases o
  | n + 1, .lst xs, _, o, .lst _ e r => by rw [toPy]; exact .lst (.of e) (RpL.dp (n := n) (by rw [okN] at o; exact o) r)
  | 0, .lst xs, _, o, _ => by rw [okN] at o; cases o
  | _, .fn _, _, o, _ => by rw [okN] at o; cases o
  | _, .own _, _, o, _ => by rw [okN] at o; cases o
  | _, .dct _ _, _, o, _ => by rw [okN] at o; cases o
  | _, .scr _, _, o, _ => by rw [okN] at o; cases o
theorem RpL.dp {K : PySem.W.Frag} {A : Addr → Prop} : ∀ {n : Nat} {ds : List D} {vs : List V}, okNs n ds = true → RpL K A H ds vs → DpAll K H vs (toPys ds)
  | _, [], _, _, .nil => by rw [toPys]; exact .nil
  | n, x :: xs, _, o, .cons a b => by
    rw [okNs, Bool.and_eq_true] at o
    rw [toPys]
    exact .cons (Rp.dp o.1 a) (RpL.dp o.2 b)
end
mutual
theorem okN_shape : ∀ {n : Nat} {d : D}, okN n d = true → (toPy d).canLay0 = true ∧ (toPy d).depth ≤ n
  | _, .non, _ => by rw [toPy]; exact ⟨by rw [PyData.canLay0], by rw [PyData.depth]; exact Nat.zero_le _⟩
  | _, .bl _, _ => by rw [toPy]; exact ⟨by rw [PyData.canLay0], by rw [PyData.depth]; exact Nat.zero_le _⟩
  | _, .int _, _ => by rw [toPy]; exact ⟨by rw [PyData.canLay0], by rw [PyData.depth]; exact Nat.zero_le _⟩
  | _, .str _, o => by rw [okN] at o; rw [toPy]; exact ⟨by rw [PyData.canLay0]; exact o, by rw [PyData.depth]; exact Nat.zero_le _⟩
  | n + 1, .tup xs, o => by
    rw [okN] at o
    have := okNs_shape o
    rw [toPy]
    exact ⟨by rw [PyData.canLay0]; exact this.1, by rw [PyData.depth]; exact Nat.succ_le_succ this.2⟩
  | 0, .tup xs, o => by rw [okN] at o; cases o
  | n + 1, .lst xs, o => by
    rw [okN] at o
    have := okNs_shape o
    rw [toPy]
    exact ⟨by rw [PyData.canLay0]; exact this.1, by rw [PyData.depth]; exact Nat.succ_le_succ this.2⟩
  | 0, .lst xs, o => by rw [okN] at o; cases o
  | _, .fn _, o => by rw [okN] at o; cases o
  | _, .own _, o => by rw [okN] at o; cases o
  | _, .dct _ _, o => by rw [okN] at o; cases o
  | _, .scr _, o => by rw [okN] at o; cases o
theorem okNs_shape : ∀ {n : Nat} {ds : List D}, okNs n ds = true → PyData.canLayAll0 (toPys ds) = true ∧ PyData.depthAll (toPys ds) ≤ n
  | _, [], _ => by rw [toPys]; exact ⟨by rw [PyData.canLayAll0], by rw [PyData.depthAll]; exact Nat.zero_le _⟩
  | n, x :: xs, o => by
    rw [okNs, Bool.and_eq_true] at o
    have h1 := okN_shape o.1
    have h2 := okNs_shape o.2
    rw [toPys]
    exact ⟨by rw [PyData.canLayAll0, h1.1, h2.1]; rfl, by rw [PyData.depthAll]; exact Nat.max_le.mpr ⟨h1.2, h2.2⟩⟩
end
mutual
theorem okN_mono : ∀ {n m : Nat} {d : D}, n ≤ m → okN n d = true → okN m d = true
  | _, _, .non, _, _ => by rw [okN]
  | _, _, .bl _, _, _ => by rw [okN]
  | _, _, .int _, _, _ => by rw [okN]
  | _, _, .str _, _, o => by rw [okN] at o ⊢; exact o
  | n + 1, m + 1, .tup xs, h, o => by rw [okN] at o ⊢; exact okNs_mono (Nat.le_of_succ_le_succ h) o
  | 0, _, .tup xs, _, o => by rw [okN] at o; cases o
  | n + 1, 0, .tup xs, h, o => by cases h
  | n + 1, m + 1, .lst xs, h, o => by rw [okN] at o ⊢; exact okNs_mono (Nat.le_of_succ_le_succ h) o
  | 0, _, .lst xs, _, o => by rw [okN] at o; cases o
  | n + 1, 0, .lst xs, h, o => by cases h
  | _, _, .fn _, _, o => by rw [okN] at o; cases o
  | _, _, .own _, _, o => by rw [okN] at o; cases o
  | _, _, .dct _ _, _, o => by rw [okN] at o; cases o
  | _, _, .scr _, _, o => by rw [okN] at o; cases o
theorem okNs_mono : ∀ {n m : Nat} {ds : List D}, n ≤ m → okNs n ds = true → okNs m ds = true
  | _, _, [], _, _ => by rw [okNs]
  | _, _, x :: xs, h, o => by
    rw [okNs, Bool.and_eq_true] at o ⊢
    exact ⟨okN_mono h o.1, okNs_mono h o.2⟩
end
theorem okN_shaped {n : Nat} {d : D} (h : n ≤ 64) (o : okN n d = true) : SeqAt.shaped (toPy d) = true := by
  have := okN_shape o
  unfold SeqAt.shaped
  rw [this.1, decide_eq_true (Nat.le_trans this.2 h)]; rfl
/-- of an own object what it holds -/
def deref (ρ : Env) : D → D
  | .own i => match ρ[i]? with
    | some (some d) => d
    | _ => .own i
  | d => d
theorem okN_notOwn {n : Nat} {i : Nat} : okN n (.own i) ≠ true := by
  cases n <;> (rw [okN]; intro h; cases h)
theorem RpO.dp {n : Nat} {d : D} {v : V} (h : EnvOk c t σ H ρ) (r : RpO c t σ H d v) (o : okN n (deref ρ d) = true) : Dp c.K H v (toPy (deref ρ d)) := by
  rcases r with r | ⟨i, rfl, hi, e⟩
  · cases d with
    | own i => cases r
    | _ => exact r.dp o
  · cases hz : ρ[i]? with
    | none =>
      have e0 : deref ρ (.own i) = .own i := by unfold deref; simp only [hz]
      rw [e0] at o
      exact absurd o okN_notOwn
    | some z => cases z with
     | none =>
      have e0 : deref ρ (.own i) = .own i := by unfold deref; simp only [hz]
      rw [e0] at o
      exact absurd o okN_notOwn
     | some d =>
      have e0 : deref ρ (.own i) = d := by unfold deref; simp only [hz]
      rw [e0] at o ⊢
      obtain ⟨l, e1, ⟨ob, ho, x⟩, _⟩ := h.ownv i d hz hi
      rw [e] at e1; cases e1
      cases d with
      | lst ds =>
        obtain ⟨vs, rfl, r⟩ := x
        cases n with
        | zero => rw [okN] at o; cases o
        | succ n =>
          rw [okN] at o
          rw [toPy]
          exact .lst (.of ho) (r.dp o)
      | dct ks ds => rw [okN] at o; cases o
      | _ => exact False.elim x
def eqD (x y : D) : Bool := PyData.eqv (toPy x) (toPy y)
def eqP (ρ : Env) (x y : D) (k : D → Prop) : Prop := okN 60 (deref ρ x) = true ∧ okN 60 (deref ρ y) = true ∧ k (.bl (eqD (deref ρ x) (deref ρ y)))
def neP (ρ : Env) (x y : D) (k : D → Prop) : Prop := okN 60 (deref ρ x) = true ∧ okN 60 (deref ρ y) = true ∧ k (.bl (!eqD (deref ρ x) (deref ρ y)))
theorem sr_eq : SR2 c (rEqD c.K) eqP := fun t σ H ρ x y dx dy P Q h rx ry q k =>
  ⟨_, _, rx.dp h q.1, ry.dp h q.2.1, okN_shaped (by decide) q.1, okN_shaped (by decide) q.2.1, k _ _ H h (.bl _) q.2.2⟩
theorem sr_ne : SR2 c (rNeD c.K) neP := fun t σ H ρ x y dx dy P Q h rx ry q k =>
  ⟨_, _, rx.dp h q.1, ry.dp h q.2.1, okN_shaped (by decide) q.1, okN_shaped (by decide) q.2.1, k _ _ H h (.bl _) q.2.2⟩
/-! what == says -/
theorem eqD_int (a b : Int) : eqD (.int a) (.int b) = decide (a = b) := by
  unfold eqD; rw [toPy, toPy, PyData.eqv]; rfl
theorem eqD_bl (a b : Bool) : eqD (.bl a) (.bl b) = (a == b) := by
  unfold eqD; rw [toPy, toPy, PyData.eqv]
theorem eqD_str (a b : Str) : eqD (.str a) (.str b) = (a == b) := by
  unfold eqD; rw [toPy, toPy, PyData.eqv]
theorem eqD_refl : ∀ {n : Nat} {d : D}, okN n d = true → eqD d d = true := fun {n d} o => by
  unfold eqD
  exact SeqAt.eqv_refl _ (okN_shape o).1
def eqDs : List D → List D → Bool
  | [], [] => true
  | x :: xs, y :: ys => eqD x y && eqDs xs ys
  | _, _ => false
theorem eqvAll_ds : ∀ xs ys : List D, PyData.eqvAll (toPys xs) (toPys ys) = eqDs xs ys
  | [], [] => by rw [toPys, PyData.eqvAll]; rfl
  | [], y :: ys => by rw [toPys, toPys, PyData.eqvAll]; rfl
  | x :: xs, [] => by rw [toPys, toPys, PyData.eqvAll]; rfl
  | x :: xs, y :: ys => by rw [toPys, toPys, PyData.eqvAll, eqvAll_ds xs ys]; rfl
theorem eqD_tup (xs ys : List D) : eqD (.tup xs) (.tup ys) = eqDs xs ys := by
  unfold eqD; rw [toPy, toPy, PyData.eqv, eqvAll_ds]
theorem eqD_lst (xs ys : List D) : eqD (.lst xs) (.lst ys) = eqDs xs ys := by
  unfold eqD; rw [toPy, toPy, PyData.eqv, eqvAll_ds]

/-! ### in -/
def inP (ρ : Env) (x y : D) (k : D → Prop) : Prop := okN 60 (deref ρ x) = true ∧ onL ρ y fun ys => okNs 59 ys = true ∧ k (.bl (ys.any fun z => eqD z (deref ρ x)))
def niP (ρ : Env) (x y : D) (k : D → Prop) : Prop := okN 60 (deref ρ x) = true ∧ onL ρ y fun ys => okNs 59 ys = true ∧ k (.bl (!ys.any fun z => eqD z (deref ρ x)))
theorem any_ds (x : D) : ∀ ys : List D, ((toPys ys).any fun z => PyData.eqv z (toPy x)) = ys.any fun z => eqD z x
  | [] => by rw [toPys]; rfl
  | y :: ys => by rw [toPys, List.any_cons, List.any_cons, any_ds x ys]; rfl
theorem sr_in : SR2 c (rInD c.K) inP := fun t σ H ρ x y dx dy P Q h rx ry q k => by
  obtain ⟨ys, a, vs, rfl, ha, r, o, q2⟩ := onL_ok h ry q.2
  have o2 : okN 60 (.lst ys) = true := by rw [okN]; exact o
  have e : toPy (.lst ys) = .list (toPys ys) := by rw [toPy]
  refine ⟨_, toPys ys, rx.dp h q.1, .lst (.of ha) (r.dp o), okN_shaped (by decide) q.1, by rw [← e]; exact okN_shaped (by decide) o2, ?_⟩
  rw [any_ds]
  exact k _ _ H h (.bl _) q2
theorem sr_ni : SR2 c (rNotInD c.K) niP := fun t σ H ρ x y dx dy P Q h rx ry q k => by
  obtain ⟨ys, a, vs, rfl, ha, r, o, q2⟩ := onL_ok h ry q.2
  have o2 : okN 60 (.lst ys) = true := by rw [okN]; exact o
  have e : toPy (.lst ys) = .list (toPys ys) := by rw [toPy]
  refine ⟨_, toPys ys, rx.dp h q.1, .lst (.of ha) (r.dp o), okN_shaped (by decide) q.1, by rw [← e]; exact okN_shaped (by decide) o2, ?_⟩
  rw [any_ds]
  exact k _ _ H h (.bl _) q2
end
/-- .. a tuple -/
def rInT (K : PySem.W.Frag) : R2 := fun x y H Q => ∃ d ds, Dp K H x d ∧ Dp K H y (.tuple ds) ∧ SeqAt.shaped d = true ∧ SeqAt.shaped (.tuple ds) = true ∧ Q (.bl (ds.any fun z => PyData.eqv z d)) H
def rNotInT (K : PySem.W.Frag) : R2 := fun x y H Q => ∃ d ds, Dp K H x d ∧ Dp K H y (.tuple ds) ∧ SeqAt.shaped d = true ∧ SeqAt.shaped (.tuple ds) = true ∧ Q (.bl (!ds.any fun z => PyData.eqv z d)) H
section
variable {X : Cx}
theorem op_inT (hu : X.A.units + 65 < cLine) : OpR X (compareOp .In) (rInT X.K) := by
  intro pins s σ H x y v u Q I rx ry h
  obtain ⟨d, ds, hd, he, sd, se, q⟩ := h
  obtain ⟨as, r1⟩ := Dp.reads I d x v hd rx
  obtain ⟨bs, r2⟩ := Dp.reads I (.tuple ds) y u he ry
  exact SeqAt.in_tuple_reads r2 r1 (SeqAt.canLay_of_shaped se) (SeqAt.canLay_of_shaped sd) (room_in_shaped sd hu) ⟨.bl _, H, I, rfl, q⟩
theorem op_notInT (hu : X.A.units + 65 < cLine) : OpR X (compareOp .NotIn) (rNotInT X.K) := by
  intro pins s σ H x y v u Q I rx ry h
  obtain ⟨d, ds, hd, he, sd, se, q⟩ := h
  obtain ⟨as, r1⟩ := Dp.reads I d x v hd rx
  obtain ⟨bs, r2⟩ := Dp.reads I (.tuple ds) y u he ry
  exact SeqAt.notIn_tuple_reads r2 r1 (SeqAt.canLay_of_shaped se) (SeqAt.canLay_of_shaped sd) (room_in_shaped sd hu) ⟨.bl _, H, I, rfl, q⟩
end
end PD

end
section
set_option Elab.async false
set_option linter.all false
set_option maxRecDepth 100000
namespace PD
open PySem PySem.Spec PyProof.Rows L2

section
variable {c : C0} {t : Tm} {σ : L2.St} {H H' : Hp} {ρ : Env}
variable {te ta tb tc : TE} {de da db dc : DE} {tt tu : TT} {dt du : DT}

/-! ### arguments, displays -/
def dNil : DA := fun ρ P => P [] ρ
def dCons (a : DE) (r : DA) : DA := fun ρ P => a ρ fun d ρ1 => r ρ1 fun ds ρ2 => P (d :: ds) ρ2
theorem sa_nil : SA c 0 tNil dNil := fun t σ H ρ P Q h q k => k [] [] H ρ h .nil rfl q
theorem sa_cons {n : Nat} {tr : TA} {dr : DA} (ha : SV c ta da) (hr : SA c n tr dr) : SA c (n + 1) (tCons ta tr) (dCons da dr) := fun t σ H ρ P Q h q k => by
  refine ha t σ H ρ _ _ h q fun v d H1 ρ1 h1 r1 q1 => ?_
  obtain ⟨t', e, h1', back⟩ := h1.push (.inl r1)
  refine hr t' σ H1 ρ1 _ _ h1' q1 fun vs ds H2 ρ2 h2 r2 n2 q2 => ?_
  obtain ⟨h3, r3⟩ := back H2 ρ2 h2
  rw [Far.hold e] at r2
  have r3' : Rp c.K (Far c t σ) H2 d v := by
    rcases r3 with r3 | ⟨i, rfl, _⟩
    · exact r3
    · cases r1
  exact k _ _ H2 ρ2 h3 (.cons r3' r2) (congrArg (· + 1) n2) q2
theorem sao_nil : SAO c tNil dNil := fun t σ H ρ P Q h q k => k [] [] H ρ h .nil q
theorem sao_cons {tr : TA} {dr : DA} (ha : SE c ta da) (hr : SAO c tr dr) : SAO c (tCons ta tr) (dCons da dr) := fun t σ H ρ P Q h q k => by
  refine ha t σ H ρ _ _ h q fun v d H1 ρ1 h1 r1 q1 => ?_
  obtain ⟨t', e, h1', back⟩ := h1.push r1
  refine hr t' σ H1 ρ1 _ _ h1' q1 fun vs ds H2 ρ2 h2 r2 q2 => ?_
  obtain ⟨h3, r3⟩ := back H2 ρ2 h2
  exact k _ _ H2 ρ2 h3 (.cons r3 (r2.hold e)) q2
theorem SA.o {n : Nat} {ta : TA} {da : DA} (h : SA c n ta da) : SAO c ta da := fun t σ H ρ P Q e q k => h t σ H ρ P Q e q fun vs ds H' ρ' e' r _ p => k vs ds H' ρ' e' r.rpo p
def dTup (a : DA) : DE := fun ρ P => a ρ fun ds ρ1 => P (.tup ds) ρ1
def dLst (a : DA) : DE := fun ρ P => a ρ fun ds ρ1 => P (.lst ds) ρ1
theorem sv_tup {n : Nat} {ta : TA} {da : DA} (h : SA c n ta da) (hn : n ≤ sizeLine := by decide) : SV c (tTup ta) (dTup da) := fun t σ H ρ P Q e q k =>
  h t σ H ρ _ _ e q fun vs ds H1 ρ1 h1 r n1 q1 => ⟨by rw [n1]; exact hn, fun p hp => k _ _ _ ρ1 (h1.new hp) (.tup (h1.far hp) upd_same (r.grow (upd_grow hp))) q1⟩
theorem sv_lst {n : Nat} {ta : TA} {da : DA} (h : SA c n ta da) (hn : n ≤ sizeLine := by decide) : SV c (tLst ta) (dLst da) := fun t σ H ρ P Q e q k =>
  h t σ H ρ _ _ e q fun vs ds H1 ρ1 h1 r n1 q1 => ⟨by rw [n1]; exact hn, fun p hp => k _ _ _ ρ1 (h1.new hp) (.lst (h1.far hp) upd_same (r.grow (upd_grow hp))) q1⟩

/-! ### built-in functions -/
def dCB (f : Env → List D → (D → Prop) → Prop) (a : DA) : DE := fun ρ P => a ρ fun ds ρ1 => f ρ1 ds fun z => P z ρ1
theorem sv_cb {r : List V → Hp → VK → Prop} {f : Env → List D → (D → Prop) → Prop} {ta : TA} {da : DA} (hr : SRL c r f) (ha : SAO c ta da) : SV c (tCB r ta) (dCB f da) := fun t σ H ρ P Q h q k =>
  ha t σ H ρ _ _ h q fun vs ds H1 ρ1 h1 r1 q1 => hr t σ H1 ρ1 vs ds _ _ h1 r1 q1 fun v d H2 h2 r2 p2 => k v d H2 ρ1 h2 r2 p2
theorem RpOL.one {d : D} {vs : List V} (r : RpOL c t σ H [d] vs) : ∃ v, vs = [v] ∧ RpO c t σ H d v := by
  cases r with
  | cons a b => cases b; exact ⟨_, rfl, a⟩
theorem RpOL.two {d e : D} {vs : List V} (r : RpOL c t σ H [d, e] vs) : ∃ v w, vs = [v, w] ∧ RpO c t σ H d v ∧ RpO c t σ H e w := by
  cases r with
  | cons a b => cases b with
    | cons b d => cases d; exact ⟨_, _, rfl, a, b⟩
def lenP (ρ : Env) (ds : List D) (k : D → Prop) : Prop := match ds with
  | [d] => onS ρ d fun xs => k (.int xs.length)
  | _ => False
theorem sr_len0 : SRL c (fun xs H Q => ∃ p ys, xs = [.ref p] ∧ (SqL c.K H p ys ∨ SqT c.K H p ys) ∧ Q (.int ys.length) H) lenP := fun t σ H ρ vs ds P Q h r q k => by
  unfold lenP at q
  split at q
  · obtain ⟨v, rfl, r1⟩ := r.one
    obtain ⟨xs, a, vs, rfl, hs, rs, q⟩ := onS_ok h r1 q
    exact ⟨a, vs, rfl, hs, k _ _ H h (.int _) (by rw [← rs.length]; exact q)⟩
  · exact False.elim q
def absP (_ : Env) (ds : List D) (k : D → Prop) : Prop := match ds with
  | [.int i] => k (.int i.natAbs)
  | _ => False
theorem sr_abs : SRL c (fun xs H Q => ∃ i, xs = [.int i] ∧ Q (.int (if i < 0 then -i else i)) H) absP := fun t σ H ρ vs ds P Q h r q k => by
  unfold absP at q
  split at q
  · rename_i i
    obtain ⟨v, rfl, r1⟩ := r.one
    refine ⟨i, by rw [r1.int], k _ _ H h (.int _) ?_⟩
    rw [show (if i < 0 then -i else i) = (i.natAbs : Int) by split <;> omega]
    exact q
  · exact False.elim q
def intP (_ : Env) (ds : List D) (k : D → Prop) : Prop := match ds with
  | [.int i] => k (.int i)
  | [.bl b] => k (.int (if b then 1 else 0))
  | _ => False
theorem sr_intC : SRL c (fun xs H Q => (∃ i, xs = [.int i] ∧ Q (.int i) H) ∨ ∃ k, xs = [.bl k] ∧ Q (.int (if k then 1 else 0)) H) intP := fun t σ H ρ vs ds P Q h r q k => by
  unfold intP at q
  split at q
  · obtain ⟨v, rfl, r1⟩ := r.one
    exact .inl ⟨_, by rw [r1.int], k _ _ H h (.int _) q⟩
  · obtain ⟨v, rfl, r1⟩ := r.one
    exact .inr ⟨_, by rw [r1.bl], k _ _ H h (.int _) q⟩
  · exact False.elim q
def max2P (_ : Env) (ds : List D) (k : D → Prop) : Prop := match ds with
  | [.int i, .int j] => k (.int (if j > i then j else i))
  | _ => False
theorem sr_max2 : SRL c (fun xs H Q => ∃ i j, xs = [.int i, .int j] ∧ Q (.int (if j > i then j else i)) H) max2P := fun t σ H ρ vs ds P Q h r q k => by
  unfold max2P at q
  split at q
  · obtain ⟨v, w, rfl, r1, r2⟩ := r.two
    exact ⟨_, _, by rw [r1.int, r2.int], k _ _ H h (.int _) q⟩
  · exact False.elim q
def min2P (_ : Env) (ds : List D) (k : D → Prop) : Prop := match ds with
  | [.int i, .int j] => k (.int (if j < i then j else i))
  | _ => False
theorem sr_min2 : SRL c (fun xs H Q => ∃ i j, xs = [.int i, .int j] ∧ Q (.int (if j < i then j else i)) H) min2P := fun t σ H ρ vs ds P Q h r q k => by
  unfold min2P at q
  split at q
  · obtain ⟨v, w, rfl, r1, r2⟩ := r.two
    exact ⟨_, _, by rw [r1.int, r2.int], k _ _ H h (.int _) q⟩
  · exact False.elim q
/-- the ints of a list of data -/
def sumP (ρ : Env) (ds : List D) (k : D → Prop) : Prop := match ds with
  | [d] => onL ρ d fun xs => ∃ ns : List Int, xs = ns.map D.int ∧ k (.int ns.sum)
  | _ => False
theorem sr_sum : SRL c (rSum c.K) sumP := fun t σ H ρ vs ds P Q h r q k => by
  unfold sumP at q
  split at q
  · obtain ⟨v, rfl, r1⟩ := r.one
    obtain ⟨xs, a, vs, rfl, ha, rs, ns, rfl, q⟩ := onL_ok h r1 q
    have e := rs.ints
    subst e
    exact ⟨a, ns, rfl, .of ha, k _ _ H h (.int _) q⟩
  · exact False.elim q
def allP (ρ : Env) (ds : List D) (k : D → Prop) : Prop := match ds with
  | [d] => onL ρ d fun xs => ∃ ns : List Bool, xs = ns.map D.bl ∧ k (.bl (ns.all id))
  | _ => False
def anyP (ρ : Env) (ds : List D) (k : D → Prop) : Prop := match ds with
  | [d] => onL ρ d fun xs => ∃ ns : List Bool, xs = ns.map D.bl ∧ k (.bl (ns.any id))
  | _ => False
theorem sr_all : SRL c (rAll c.K) allP := fun t σ H ρ vs ds P Q h r q k => by
  unfold allP at q
  split at q
  · obtain ⟨v, rfl, r1⟩ := r.one
    obtain ⟨xs, a, vs, rfl, ha, rs, ns, rfl, q⟩ := onL_ok h r1 q
    have e := rs.bls
    subst e
    exact ⟨a, ns, rfl, .of ha, k _ _ H h (.bl _) q⟩
  · exact False.elim q
theorem sr_any : SRL c (rAny c.K) anyP := fun t σ H ρ vs ds P Q h r q k => by
  unfold anyP at q
  split at q
  · obtain ⟨v, rfl, r1⟩ := r.one
    obtain ⟨xs, a, vs, rfl, ha, rs, ns, rfl, q⟩ := onL_ok h r1 q
    have e := rs.bls
    subst e
    exact ⟨a, ns, rfl, .of ha, k _ _ H h (.bl _) q⟩
  · exact False.elim q
def listP (ρ : Env) (ds : List D) (k : D → Prop) : Prop := match ds with
  | [d] => onS ρ d fun xs => k (.lst xs)
  | _ => False
theorem sr_list0 : SRL c (fun xs H Q => ∃ p ys, xs = [.ref p] ∧ (SqL c.K H p ys ∨ SqT c.K H p ys) ∧ ∀ l, H l = none → Q (.ref l) (upd H l (.lst ys))) listP := fun t σ H ρ vs ds P Q h r q k => by
  unfold listP at q
  split at q
  · obtain ⟨v, rfl, r1⟩ := r.one
    obtain ⟨xs, a, vs, rfl, hs, rs, q⟩ := onS_ok h r1 q
    exact ⟨a, vs, rfl, hs, fun l hl => k _ _ _ (h.new hl) (.lst (h.far hl) upd_same (rs.grow (upd_grow hl))) q⟩
  · exact False.elim q
/-- tuple(x) -/
def tupleP (ρ : Env) (d : D) (k : D → Prop) : Prop := match d with
  | .tup xs => k (.tup xs)
  | d => onL ρ d fun xs => k (.tup xs)
def dTuple (a : DE) : DE := fun ρ P => a ρ fun d ρ1 => tupleP ρ1 d fun z => P z ρ1
theorem sv_tuple (ha : SE c ta da) : SV c (tThen ta (kTup c.K)) (dTuple da) := fun t σ H ρ P Q h q k =>
  ha t σ H ρ _ _ h q fun v d H1 ρ1 h1 r1 q1 => by
    have q1 : tupleP ρ1 d fun z => P z ρ1 := q1
    unfold tupleP at q1
    split at q1
    · obtain ⟨a, vs, rfl, _, hs, rs⟩ := (r1.rp trivial).seqT
      exact .inr ⟨a, vs, rfl, .of hs, k _ _ H1 ρ1 h1 (r1.rp trivial) q1⟩
    · obtain ⟨xs, a, vs, rfl, hs, rs, q1⟩ := onL_ok h1 r1 q1
      exact .inl ⟨a, vs, rfl, .of hs, fun p hp => k _ _ _ ρ1 (h1.new hp) (.tup (h1.far hp) upd_same (rs.grow (upd_grow hp))) q1⟩

/-! ### isinstance -/
def tyD : D → Option String
  | .non => some "NoneType"
  | .bl _ => some "bool"
  | .int _ => some "int"
  | .str _ => some "str"
  | .tup _ => some "tuple"
  | .lst _ => some "list"
  | _ => none
def isInt : D → Bool
  | .int _ => true
  | .bl _ => true
  | _ => false
def isBool : D → Bool
  | .bl _ => true
  | _ => false
def isStr : D → Bool
  | .str _ => true
  | _ => false
def isTup : D → Bool
  | .tup _ => true
  | _ => false
def isLst : D → Bool
  | .lst _ => true
  | _ => false
theorem kit_int : ∀ d n, tyD d = some n → kitB n "int" = some (isInt d) := fun d n e => by
  cases d <;> cases e <;> first | (show kitB _ _ = some true; decide +kernel) | (show kitB _ _ = some false; decide +kernel)
theorem kit_bool : ∀ d n, tyD d = some n → kitB n "bool" = some (isBool d) := fun d n e => by
  cases d <;> cases e <;> first | (show kitB _ _ = some true; decide +kernel) | (show kitB _ _ = some false; decide +kernel)
theorem kit_str : ∀ d n, tyD d = some n → kitB n "str" = some (isStr d) := fun d n e => by
  cases d <;> cases e <;> first | (show kitB _ _ = some true; decide +kernel) | (show kitB _ _ = some false; decide +kernel)
theorem kit_tup : ∀ d n, tyD d = some n → kitB n "tuple" = some (isTup d) := fun d n e => by
  cases d <;> cases e <;> first | (show kitB _ _ = some true; decide +kernel) | (show kitB _ _ = some false; decide +kernel)
theorem kit_lst : ∀ d n, tyD d = some n → kitB n "list" = some (isLst d) := fun d n e => by
  cases d <;> cases e <;> first | (show kitB _ _ = some true; decide +kernel) | (show kitB _ _ = some false; decide +kernel)
theorem Rp.ty {d : D} {v : V} {n : String} {A : Addr → Prop} (r : Rp c.K A H d v) (e : tyD d = some n) : TyX c.K H v (.type n) := by
  cases d with
  | non => cases e; cases r; exact .base .non
  | bl b => cases e; cases r; exact .base (.bl _)
  | int b => cases e; cases r; exact .base (.int _)
  | str b => cases e; cases r; exact .base (.str _)
  | tup b => cases e; cases r with | tup _ e _ => exact .base (.tup e)
  | lst b => cases e; cases r with | lst _ e _ => exact .base (.lst e)
  | _ => cases e
def dIsi (p : D → Bool) (a : DE) : DE := fun ρ P => a ρ fun d ρ1 => (tyD d).isSome = true ∧ P (.bl (p d)) ρ1
theorem sv_isi {T : String} {p : D → Bool} (hp : ∀ d n, tyD d = some n → kitB n T = some (p d)) (ha : SV c ta da) : SV c (tCB (rIsi c.K) (tCons ta (tCons (tC (.ty T)) tNil))) (dIsi p da) := fun t σ H ρ P Q h q k =>
  ha t σ H ρ _ _ h q fun v d H1 ρ1 h1 r1 q1 => by
    obtain ⟨n, hn⟩ := Option.isSome_iff_exists.mp q1.1
    exact ⟨v, .ty T, .type n, .type T, p d, rfl, .ty T, r1.ty hn, kit_ty (hp d n hn), k _ _ H1 ρ1 h1 (.bl _) q1.2⟩

/-! ### tests -/
/-- by a test's answer -/
def sel (b : Bool) (p q : Prop) : Prop := match b with
  | true => p
  | false => q
theorem sel_of {b : Bool} {p q : Prop} (h1 : b = true → p) (h2 : b = false → q) : sel b p q := by
  cases b with
  | true => exact h1 rfl
  | false => exact h2 rfl
theorem sel_true {p q : Prop} : sel true p q = p := rfl
theorem sel_false {p q : Prop} : sel false p q = q := rfl
theorem sel_ite {b : Bool} {p q : Prop} (h : sel b p q) : if b = true then p else q := by
  cases b with
  | true => exact (if_pos rfl).mpr h
  | false => exact (if_neg (fun z => by cases z)).mpr h
def dTest (a : DE) : DT := fun ρ P => a ρ fun d ρ1 => match d with
  | .bl b => P b ρ1
  | _ => False
theorem st_testO (ha : SV c ta da) : ST c (tTest ta) (dTest da) := fun t σ H ρ P Q h q k =>
  ha t σ H ρ _ _ h q fun v d H1 ρ1 h1 r1 q1 => by
    cases d with
    | bl b => cases r1; exact ⟨b, rfl, k b H1 ρ1 h1 q1⟩
    | _ => exact False.elim q1
theorem st_test (ha : SV c ta da) : ST c (tB ta) (dTest da) := st_testO ha
def dAnd (a b : DT) : DT := fun ρ P => a ρ fun k ρ1 => sel k (b ρ1 P) (P false ρ1)
def dOr (a b : DT) : DT := fun ρ P => a ρ fun k ρ1 => sel k (P true ρ1) (b ρ1 P)
def dNot (a : DT) : DT := fun ρ P => a ρ fun k ρ1 => P (!k) ρ1
theorem st_and (ha : ST c tt dt) (hb : ST c tu du) : ST c (tAnd tt tu) (dAnd dt du) := fun t σ H ρ P Q h q k =>
  ha t σ H ρ _ _ h q fun b H1 ρ1 h1 q1 => by
    cases b with
    | true => exact (if_pos rfl).mpr (hb t σ H1 ρ1 _ _ h1 q1 k)
    | false => exact (if_neg (fun z => by cases z)).mpr (k _ H1 ρ1 h1 q1)
theorem st_or (ha : ST c tt dt) (hb : ST c tu du) : ST c (tOr tt tu) (dOr dt du) := fun t σ H ρ P Q h q k =>
  ha t σ H ρ _ _ h q fun b H1 ρ1 h1 q1 => by
    cases b with
    | true => exact (if_pos rfl).mpr (k _ H1 ρ1 h1 q1)
    | false => exact (if_neg (fun z => by cases z)).mpr (hb t σ H1 ρ1 _ _ h1 q1 k)
theorem st_not (ha : ST c tt dt) : ST c (tNot tt) (dNot dt) := fun t σ H ρ P Q h q k => ha t σ H ρ _ _ h q fun b H1 ρ1 h1 q1 => k _ H1 ρ1 h1 q1
/-! .. as values -/
def dAndV (a b : DE) : DE := fun ρ P => a ρ fun d ρ1 => match d with
  | .bl k => sel k (b ρ1 P) (P (.bl false) ρ1)
  | _ => False
def dOrV (a b : DE) : DE := fun ρ P => a ρ fun d ρ1 => match d with
  | .bl k => sel k (P (.bl true) ρ1) (b ρ1 P)
  | _ => False
def dNotV (a : DE) : DE := fun ρ P => a ρ fun d ρ1 => match d with
  | .bl k => P (.bl (!k)) ρ1
  | _ => False
theorem sv_andV (ha : SV c ta da) (hb : SV c tb db) : SV c (tAndV ta tb) (dAndV da db) := fun t σ H ρ P Q h q k =>
  ha t σ H ρ _ _ h q fun v d H1 ρ1 h1 r1 q1 => by
    cases d with
    | bl b =>
      cases r1
      refine ⟨b, rfl, ?_⟩
      cases b with
      | true => exact (if_pos rfl).mpr (hb t σ H1 ρ1 _ _ h1 q1 k)
      | false => exact (if_neg (fun z => by cases z)).mpr (k _ _ H1 ρ1 h1 (.bl _) q1)
    | _ => exact False.elim q1
theorem sv_orV (ha : SV c ta da) (hb : SV c tb db) : SV c (tOrV ta tb) (dOrV da db) := fun t σ H ρ P Q h q k =>
  ha t σ H ρ _ _ h q fun v d H1 ρ1 h1 r1 q1 => by
    cases d with
    | bl b =>
      cases r1
      refine ⟨b, rfl, ?_⟩
      cases b with
      | true => exact (if_pos rfl).mpr (k _ _ H1 ρ1 h1 (.bl _) q1)
      | false => exact (if_neg (fun z => by cases z)).mpr (hb t σ H1 ρ1 _ _ h1 q1 k)
    | _ => exact False.elim q1
theorem sv_notV (ha : SV c ta da) : SV c (tNotV ta) (dNotV da) := fun t σ H ρ P Q h q k =>
  ha t σ H ρ _ _ h q fun v d H1 ρ1 h1 r1 q1 => by
    cases d with
    | bl b => cases r1; exact ⟨b, rfl, k _ _ H1 ρ1 h1 (.bl _) q1⟩
    | _ => exact False.elim q1
def dIf (a : DT) (b e : DE) : DE := fun ρ P => a ρ fun k ρ1 => sel k (b ρ1 P) (e ρ1 P)
theorem sv_if (ht : ST c tt dt) (ha : SV c ta da) (hb : SV c tb db) : SV c (tIf tt ta tb) (dIf dt da db) := fun t σ H ρ P Q h q k =>
  ht t σ H ρ _ _ h q fun b H1 ρ1 h1 q1 => by
    cases b with
    | true => exact (if_pos rfl).mpr (ha t σ H1 ρ1 _ _ h1 q1 k)
    | false => exact (if_neg (fun z => by cases z)).mpr (hb t σ H1 ρ1 _ _ h1 q1 k)
/-- a op b op' c -/
def dChain (f f' : Env → D → D → (D → Prop) → Prop) (a b e : DE) : DE := fun ρ P => a ρ fun x ρ1 => b ρ1 fun y ρ2 => f ρ2 x y fun z => match z with
  | .bl k => sel k (e ρ2 fun w ρ3 => f' ρ3 y w fun z => P z ρ3) (P (.bl false) ρ2)
  | _ => False
theorem sv_chain {r r' : R2} {f f' : Env → D → D → (D → Prop) → Prop} (hr : SR2 c r f) (hr' : SR2 c r' f') (ha : SV c ta da) (hb : SV c tb db) (hc : SV c tc dc) : SV c (tChain r r' ta tb tc) (dChain f f' da db dc) := fun t σ H ρ P Q h q k => by
  refine se_two (P := fun x y ρ2 => f ρ2 x y fun z => match z with
    | .bl k => sel k (dc ρ2 fun w ρ3 => f' ρ3 y w fun z => P z ρ3) (P (.bl false) ρ2)
    | _ => False) ha.se hb.se h q fun x y dx dy H' ρ' h' rx ry q' => ?_
  obtain ⟨t', e, h1, back⟩ := h'.push ry
  refine hr t' σ H' ρ' x y dx dy _ _ h1 (rx.hold' e) (ry.hold' e) q' fun z d H2 h2 r2 p2 => ?_
  obtain ⟨h3, r3⟩ := back H2 ρ' h2
  cases d with
  | bl b =>
    cases r2
    refine ⟨b, rfl, ?_⟩
    cases b with
    | true =>
      refine (if_pos rfl).mpr (hc t' σ H2 ρ' _ _ h2 p2 fun w dw H4 ρ4 h4 r4 p4 => ?_)
      obtain ⟨h5, r5⟩ := back H4 ρ4 h4
      rw [Far.hold e] at r4
      exact hr' t σ H4 ρ4 y w dy dw _ _ h5 r5 (.inl r4) p4 fun v d H6 h6 r6 p6 => k v d H6 ρ4 h6 r6 p6
    | false => exact (if_neg (fun z => by cases z)).mpr (k _ _ H2 ρ' h3 (.bl _) p2)
  | _ => exact False.elim p2

/-! ### subscripts, slices -/
def ixP (ρ : Env) (x i : D) (k : D → Prop) : Prop := match i with
  | .int i => onS ρ x fun xs => match atI xs i with
    | some z => k z
    | none => False
  | _ => False
theorem atI_rp {K : PySem.W.Frag} {A : Addr → Prop} {ds : List D} {vs : List V} {i : Int} {z : D} (r : RpL K A H ds vs) (e : atI ds i = some z) : ∃ v, atI vs i = some v ∧ Rp K A H z v := by
  unfold atI at e ⊢
  rw [← r.length]
  cases hj : ixN ds.length i with
  | none => rw [hj] at e; cases e
  | some j =>
    rw [hj] at e
    exact r.got e
theorem sr_ix : SR2 c (rIx c.K) ixP := fun t σ H ρ x y dx dy P Q h rx ry q k => by
  cases dy with
  | int i =>
    obtain ⟨xs, a, vs, rfl, hs, rs, q⟩ := onS_ok h rx q
    cases e : atI xs i with
    | none => rw [e] at q; exact False.elim q
    | some z =>
      rw [e] at q
      obtain ⟨v, e2, r2⟩ := atI_rp rs e
      have q2 := k v z H h r2 q
      rcases hs with hs | hs
      · exact .inl ⟨a, vs, i, v, rfl, ry.int, hs, e2, q2⟩
      · exact .inr (.inl ⟨a, vs, i, v, rfl, ry.int, hs, e2, q2⟩)
  | _ => exact False.elim q
/-- a part of a slice -/
abbrev DO := Env → (Option Int → Env → Prop) → Prop
def SO (c : C0) (to : TO) (d : DO) : Prop := ∀ (t : Tm) (σ : L2.St) (H : Hp) (ρ : Env) (P : Option Int → Env → Prop) (Q : Option Int → Hp → Prop), EnvOk c t σ H ρ → d ρ P →
  (∀ o H' ρ', EnvOk c t σ H' ρ' → P o ρ' → Q o H') → to σ H Q
def dNoPart : DO := fun ρ P => P none ρ
def dPart (a : DE) : DO := fun ρ P => a ρ fun d ρ1 => match d with
  | .int i => P (some i) ρ1
  | _ => False
theorem so_none : SO c tNoPart dNoPart := fun t σ H ρ P Q h q k => k _ H ρ h q
theorem so_some (ha : SV c ta da) : SO c (tPart ta) (dPart da) := fun t σ H ρ P Q h q k =>
  ha t σ H ρ _ _ h q fun v d H1 ρ1 h1 r1 q1 => by
    cases d with
    | int i => cases r1; exact ⟨i, rfl, k _ H1 ρ1 h1 q1⟩
    | _ => exact False.elim q1
def cutD (xs : List D) (lo hi : Option Int) : List D := (xs.drop (HT.sIx xs.length 0 lo)).take (HT.sIx xs.length xs.length hi - HT.sIx xs.length 0 lo)
theorem cut_rp {K : PySem.W.Frag} {A : Addr → Prop} {ds : List D} {vs : List V} {lo hi : Option Int} (r : RpL K A H ds vs) : RpL K A H (cutD ds lo hi) (cutV vs lo hi) := by
  unfold cutD cutV
  rw [r.length]
  exact (r.drop _).take _
theorem cut_all {ds : List D} {lo hi : Option Int} (h : HT.sIx ds.length 0 lo = 0 ∧ HT.sIx ds.length ds.length hi = ds.length) : cutD ds lo hi = ds := by
  unfold cutD
  rw [h.1, h.2, List.drop_zero, Nat.sub_zero, List.take_length]
def slP (ρ : Env) (x : D) (lo hi : Option Int) (k : D → Prop) : Prop := match x with
  | .tup xs => k (.tup (cutD xs lo hi))
  | x => onL ρ x fun xs => k (.lst (cutD xs lo hi))
def dSl (a : DE) (lo hi : DO) : DE := fun ρ P => a ρ fun x ρ1 => lo ρ1 fun l ρ2 => hi ρ2 fun u ρ3 => slP ρ3 x l u fun z => P z ρ3
theorem sv_sl0 {tl th : TO} {dl dh : DO} (ha : SE c ta da) (hl : SO c tl dl) (hh : SO c th dh) :
    SV c (tSl (fun x lo hi H Q => rSlA c.K x lo hi H Q ∨ rSlL c.K x lo hi H Q) ta tl th) (dSl da dl dh) := fun t σ H ρ P Q h q k => by
  refine ha t σ H ρ _ _ h q fun v d H1 ρ1 h1 r1 q1 => ?_
  obtain ⟨t', e, h1', back⟩ := h1.push r1
  refine hl t' σ H1 ρ1 _ _ h1' q1 fun lo H2 ρ2 h2 q2 => hh t' σ H2 ρ2 _ _ h2 q2 fun hi H3 ρ3 h3 q3 => ?_
  obtain ⟨h4, r4⟩ := back H3 ρ3 h3
  have q3 : slP ρ3 d lo hi fun z => P z ρ3 := q3
  unfold slP at q3
  split at q3
  · obtain ⟨a, vs, rfl, _, hs, rs⟩ := (r4.rp trivial).seqT
    refine .inl ⟨a, vs, rfl, .of hs, fun w => ?_, fun _ p hp => k _ _ _ ρ3 (h4.new hp) (.tup (h4.far hp) upd_same ((cut_rp rs).grow (upd_grow hp))) q3⟩
    rw [← rs.length] at w
    rw [cut_all w] at q3
    exact k _ _ H3 ρ3 h4 (r4.rp trivial) q3
  · obtain ⟨xs, a, vs, rfl, hs, rs, q3⟩ := onL_ok h4 r4 q3
    exact .inr ⟨a, vs, rfl, .of hs, fun p hp => k _ _ _ ρ3 (h4.new hp) (.lst (h4.far hp) upd_same ((cut_rp rs).grow (upd_grow hp))) q3⟩
end
end PD

end
section
set_option Elab.async false
set_option linter.all false
set_option maxRecDepth 100000
namespace PD
open PySem PySem.Spec PyProof.Rows L2

section
variable {c : C0} {t : Tm} {σ : L2.St} {H H' : Hp} {ρ : Env}
variable {te ta tb tc : TE} {de da db dc : DE} {tt tu : TT} {dt du : DT} {ts tv : TS} {ds dv : DS}

/-! ### a new object, held -/
abbrev Tm.add (t : Tm) (p : Addr) (o : HO) : Tm := ⟨t.vals, (p, o) :: t.hold⟩
theorem far_add {p a : Addr} {o : HO} : Far c (t.add p o) σ a ↔ a = p ∨ Far c t σ a := by
  unfold Far
  constructor
  · rintro (f | ⟨o', f⟩ | f)
    · exact .inr (.inl f)
    · rcases List.mem_cons.mp f with e | f
      · cases e; exact .inl rfl
      · exact .inr (.inr (.inl ⟨o', f⟩))
    · exact .inr (.inr (.inr f))
  · rintro (f | f | ⟨o', f⟩ | f)
    · subst f; exact .inr (.inl ⟨o, List.mem_cons_self⟩)
    · exact .inl f
    · exact .inr (.inl ⟨o', List.mem_cons_of_mem _ f⟩)
    · exact .inr (.inr f)
theorem EnvOk.add {p : Addr} {o : HO} (h : EnvOk c t σ H ρ) (hp : H p = none) (pn : Pn o := by trivial) : EnvOk c (t.add p o) σ (upd H p o) ρ := by
  have keep : ∀ a o', ¬ Far c t σ a → H a = some o' → Pn o' → ¬ Far c (t.add p o) σ a ∧ upd H p o a = some o' := fun a o' na e _ => by
    have hne : a ≠ p := ne_of_none e hp
    exact ⟨fun f => (far_add.mp f).elim hne na, by rw [upd_ne hne]; exact e⟩
  have h1 := h.new (o := o) hp
  refine ⟨h.len, h1.frame, h1.tabs, fun a f => ?_, fun i d e n => ?_, fun i d e n => ?_, h.ownn, h.dist, h.bx, fun q hq => (h.tv q hq).move keep, fun q hq => ?_⟩
  · rcases far_add.mp f with rfl | f
    · exact ⟨o, upd_same, pn⟩
    · exact h1.trk a f
  · obtain ⟨v, e1, r⟩ := h.val i d e n
    exact ⟨v, e1, r.move keep⟩
  · obtain ⟨l, e1, x, z⟩ := h.ownv i d e n
    exact ⟨l, e1, x.move (fun o q _ => upd_grow hp l o q) keep, z⟩
  · rcases List.mem_cons.mp hq with e | hq
    · subst e
      exact ⟨upd_same, fun i hi e => h.far hp (.inr (.inr ⟨i, hi, e⟩)), h.h0n hp, pn⟩
    · exact h1.th q hq
/-- it is let go: a list of data that may be held anywhere -/
theorem EnvOk.drop {p : Addr} {o : HO} (h : EnvOk c (t.add p o) σ H ρ) (hn : ¬ Far c t σ p) : EnvOk c t σ H ρ := by
  have keep : ∀ a o', ¬ Far c (t.add p o) σ a → H a = some o' → Pn o' → ¬ Far c t σ a ∧ H a = some o' := fun a o' na e _ => ⟨fun f => na (far_add.mpr (.inr f)), e⟩
  refine ⟨h.len, h.frame, h.tabs, fun a f => h.trk a (far_add.mpr (.inr f)), fun i d e n => ?_, fun i d e n => ?_, h.ownn, h.dist, h.bx, fun q hq => (h.tv q hq).move keep, fun q hq => h.th q (List.mem_cons_of_mem _ hq)⟩
  · obtain ⟨v, e1, r⟩ := h.val i d e n
    exact ⟨v, e1, r.move keep⟩
  · obtain ⟨l, e1, x, z⟩ := h.ownv i d e n
    exact ⟨l, e1, x.move (fun o q _ => q) keep, z⟩
/-- the held object is changed -/
theorem EnvOk.chg {p : Addr} {o o' : HO} (h : EnvOk c (t.add p o) σ H ρ) (hn : ¬ Far c t σ p) (pn' : Pn o' := by trivial) : EnvOk c (t.add p o') σ (upd H p o') ρ := by
  have ff : ∀ a, Far c (t.add p o') σ a ↔ Far c (t.add p o) σ a := fun a => by rw [far_add, far_add]
  have keep : ∀ a u, ¬ Far c (t.add p o) σ a → H a = some u → Pn u → ¬ Far c (t.add p o') σ a ∧ upd H p o' a = some u := fun a u na e _ => by
    have hne : a ≠ p := fun z => na (far_add.mpr (.inl z))
    exact ⟨fun f => na ((ff a).mp f), by rw [upd_ne hne]; exact e⟩
  obtain ⟨hp, hown, h0, pn⟩ := h.th (p, o) List.mem_cons_self
  refine ⟨h.len, fun a u e qn n => ?_, tabs_upd h.tabs hp pn, fun a f => ?_, fun i d e n => ?_, fun i d e n => ?_, h.ownn, h.dist, h.bx, fun q hq => (h.tv q hq).move keep, fun q hq => ?_⟩
  · have hne : a ≠ p := fun z => by subst z; exact h0 u e qn
    rw [upd_ne hne]; exact h.frame a u e qn n
  · by_cases z : a = p
    · subst z; exact ⟨_, upd_same, pn'⟩
    · rw [upd_ne z]; exact h.trk a ((ff a).mp f)
  · obtain ⟨v, e1, r⟩ := h.val i d e n
    exact ⟨v, e1, r.move keep⟩
  · obtain ⟨l, e1, x, z⟩ := h.ownv i d e n
    have hne : l ≠ p := fun z => by subst z; exact hown i n e1
    exact ⟨l, e1, x.move (fun u q _ => by rw [upd_ne hne]; exact q) keep, z⟩
  · rcases List.mem_cons.mp hq with e | hq
    · subst e
      exact ⟨upd_same, hown, h0, pn'⟩
    · obtain ⟨a, b, e⟩ := h.th q (List.mem_cons_of_mem _ hq)
      have hne : q.1 ≠ p := fun z => hn (.inr (.inl ⟨q.2, by rw [← z]; exact hq⟩))
      exact ⟨by rw [upd_ne hne]; exact a, b, e⟩
/-- it becomes a slot's own -/
theorem EnvOk.putHeld {i : Nat} {p : Addr} {o : HO} {d : D} (h : EnvOk c (t.add p o) σ H ρ) (hn : ¬ Far c t σ p) (hi : c.own i = true) (hb : c.box = none ∨ i ≠ 0) (hlt : i < ρ.length)
    (new : OwnC c.K (Far c (t.add p o) σ) H o d) : EnvOk c t (σ.set i (some (.ref p))) H (ρ.set i (some d)) := by
  obtain ⟨hp, hown, h0, pn⟩ := h.th (p, o) List.mem_cons_self
  have hl : i < σ.length := by rw [h.len]; exact hlt
  have ff : ∀ a, Far c t (σ.set i (some (.ref p))) a → Far c (t.add p o) σ a := fun a f => by
    rcases f with f | f | ⟨j, hj, f⟩
    · exact far_add.mpr (.inr (.inl f))
    · exact far_add.mpr (.inr (.inr (.inl f)))
    · by_cases hij : i = j
      · subst hij
        rw [List.getElem?_set_self hl] at f
        cases f; exact far_add.mpr (.inl rfl)
      · rw [List.getElem?_set_ne hij] at f
        exact far_add.mpr (.inr (.inr (.inr ⟨j, hj, f⟩)))
  have keep : ∀ a u, ¬ Far c (t.add p o) σ a → H a = some u → Pn u → ¬ Far c t (σ.set i (some (.ref p))) a ∧ H a = some u := fun a u na e _ => ⟨fun f => na (ff a f), e⟩
  refine ⟨by rw [List.length_set, List.length_set]; exact h.len, h.frame, h.tabs, fun a f => h.trk a (ff a f), fun j dj ej n => ?_, fun j dj ej n => ?_, fun j n ej => ?_, fun j k l hj hk e1 e2 => ?_, fun b hb' => ?_, fun q hq => (h.tv q hq).move keep, fun q hq => ?_⟩
  · have hij : i ≠ j := fun z => by subst z; rw [hi] at n; cases n
    rw [List.getElem?_set_ne hij] at ej ⊢
    obtain ⟨v, e1, r⟩ := h.val j dj ej n
    exact ⟨v, e1, r.move keep⟩
  · by_cases hij : i = j
    · subst hij
      rw [List.getElem?_set_self hlt] at ej
      cases ej
      exact ⟨p, by rw [List.getElem?_set_self hl], ⟨o, hp, new.move keep⟩, .inr h0⟩
    · rw [List.getElem?_set_ne hij] at ej ⊢
      obtain ⟨l2, e1, x2, z2⟩ := h.ownv j dj ej n
      exact ⟨l2, e1, x2.move (fun _ q _ => q) keep, z2⟩
  · by_cases hij : i = j
    · subst hij
      rw [List.getElem?_set_self hlt] at ej; cases ej
    · rw [List.getElem?_set_ne hij] at ej ⊢
      exact h.ownn j n ej
  · by_cases hij : i = j
    · subst hij
      by_cases hik : i = k
      · exact hik
      · rw [List.getElem?_set_self hl] at e1
        rw [List.getElem?_set_ne hik] at e2
        cases e1
        exact absurd e2 (hown k hk)
    · rw [List.getElem?_set_ne hij] at e1
      by_cases hik : i = k
      · subst hik
        rw [List.getElem?_set_self hl] at e2
        cases e2
        exact absurd e1 (hown j hj)
      · rw [List.getElem?_set_ne hik] at e2
        exact h.dist j k l hj hk e1 e2
  · obtain ⟨a, z⟩ := h.bx b hb'
    have hij : i ≠ 0 := hb.resolve_left (by rw [hb']; simp)
    exact ⟨a, by rw [List.getElem?_set_ne hij]; exact z⟩
  · obtain ⟨a, b, z⟩ := h.th q (List.mem_cons_of_mem _ hq)
    have hne : q.1 ≠ p := fun e => hn (.inr (.inl ⟨q.2, by rw [← e]; exact hq⟩))
    refine ⟨a, fun j hj e => ?_, z⟩
    by_cases hij : i = j
    · subst hij
      rw [List.getElem?_set_self hl] at e
      cases e; exact hne rfl
    · rw [List.getElem?_set_ne hij] at e
      exact b j hj e

/-- te makes a new object, which is d -/
def SF (c : C0) (te : TE) (de : DE) : Prop := ∀ (t : Tm) (σ : L2.St) (H : Hp) (ρ : Env) (P : D → Env → Prop) (Q : VK), EnvOk c t σ H ρ → de ρ P →
  (∀ p o d H' ρ', ¬ Far c t σ p → EnvOk c (t.add p o) σ H' ρ' → OwnC c.K (Far c (t.add p o) σ) H' o d → P d ρ' → Q (.ref p) H') → te σ H Q
/-- .. a new list -/
def SFL (c : C0) (te : TE) (de : DE) : Prop := ∀ (t : Tm) (σ : L2.St) (H : Hp) (ρ : Env) (P : D → Env → Prop) (Q : VK), EnvOk c t σ H ρ → de ρ P →
  (∀ p vs xs H' ρ', ¬ Far c t σ p → EnvOk c (t.add p (.lst vs)) σ H' ρ' → RpL c.K (Far c (t.add p (.lst vs)) σ) H' xs vs → P (.lst xs) ρ' → Q (.ref p) H') → te σ H Q
theorem SFL.f (h : SFL c te de) : SF c te de := fun t σ H ρ P Q e q k => h t σ H ρ P Q e q fun p vs xs H' ρ' np h1 r p1 => k p (.lst vs) (.lst xs) H' ρ' np h1 ⟨vs, rfl, r⟩ p1
theorem SFL.v (h : SFL c te de) : SV c te de := fun t σ H ρ P Q e q k =>
  h t σ H ρ P Q e q fun p vs xs H' ρ' np h1 rs p1 => by
    have keep : ∀ a o', ¬ Far c (t.add p (.lst vs)) σ a → H' a = some o' → Pn o' → ¬ Far c t σ a ∧ H' a = some o' := fun a o' na e _ => ⟨fun f => na (far_add.mpr (.inr f)), e⟩
    exact k _ _ H' ρ' (h1.drop np) (.lst np (h1.th (p, .lst vs) List.mem_cons_self).1 (rs.move keep)) p1
theorem sf_lst {n : Nat} {ta : TA} {da : DA} (h : SA c n ta da) (hn : n ≤ sizeLine := by decide) : SF c (tLst ta) (dLst da) := fun t σ H ρ P Q e q k =>
  h t σ H ρ _ _ e q fun vs ds H1 ρ1 h1 r n1 q1 => ⟨by rw [n1]; exact hn, fun p hp => k p (.lst vs) (.lst ds) _ ρ1 (h1.far hp) (h1.add hp) ⟨vs, rfl, r.move fun a u na e _ => ⟨fun f => (far_add.mp f).elim (ne_of_none e hp) na, upd_grow hp a u e⟩⟩ q1⟩
theorem sf_list0 (ha : SE c ta da) : SF c (tCB (fun xs H Q => ∃ p ys, xs = [.ref p] ∧ (SqL c.K H p ys ∨ SqT c.K H p ys) ∧ ∀ l, H l = none → Q (.ref l) (upd H l (.lst ys))) (tCons ta tNil)) (dCB listP (dCons da dNil)) := fun t σ H ρ P Q h q k =>
  ha t σ H ρ _ _ h q fun v d H1 ρ1 h1 r1 q1 => by
    have q1 : onS ρ1 d fun xs => P (.lst xs) ρ1 := q1
    obtain ⟨xs, a, vs, rfl, hs, rs, q1⟩ := onS_ok h1 r1 q1
    exact ⟨a, vs, rfl, hs, fun p hp => k p (.lst vs) (.lst xs) _ ρ1 (h1.far hp) (h1.add hp) ⟨vs, rfl, rs.move fun a u na e _ => ⟨fun f => (far_add.mp f).elim (ne_of_none e hp) na, upd_grow hp a u e⟩⟩ q1⟩

/-! ### statements -/
def dNext : DS := fun De ρ => De.nx ρ
def dSeq (a b : DS) : DS := fun De ρ => a { De with nx := fun ρ1 => b De ρ1 } ρ
def dBreak : DS := fun De ρ => De.bk ρ
def dCont : DS := fun De ρ => De.ct ρ
def dDrop (a : DE) : DS := fun De ρ => a ρ fun _ ρ1 => De.nx ρ1
def dRet (a : DE) : DS := fun De ρ => a ρ De.rt
def dRetN : DS := fun De ρ => De.rt .non ρ
def dIfS (a : DT) (b e : DS) : DS := fun De ρ => a ρ fun k ρ1 => sel k (b De ρ1) (e De ρ1)
def dSet (i : Nat) (a : DE) : DS := fun De ρ => a ρ fun d ρ1 => De.nx (ρ1.set i (some d))
theorem ss_next : SS c tNext dNext := fun t σ H ρ De E h q n r b k => n σ H ρ h q
theorem ss_brk : SS c tBreak dBreak := fun t σ H ρ De E h q n r b k => b σ H ρ h q
theorem ss_ct : SS c tCont dCont := fun t σ H ρ De E h q n r b k => k σ H ρ h q
theorem ss_seq (h1 : SS c ts ds) (h2 : SS c tv dv) : SS c (tSeq ts tv) (dSeq ds dv) := fun t σ H ρ De E h q n r b k =>
  h1 t σ H ρ _ _ h q (fun σ' H' ρ' h' q' => h2 t σ' H' ρ' De E h' q' n r b k) r b k
theorem ss_drop (ha : SE c ta da) : SS c (tDrop ta) (dDrop da) := fun t σ H ρ De E h q n r b k => ha t σ H ρ _ _ h q fun v d H1 ρ1 h1 _ q1 => n σ H1 ρ1 h1 q1
theorem ss_ret (ha : SE c ta da) : SS c (tRet ta) (dRet da) := fun t σ H ρ De E h q n r b k => ha t σ H ρ _ _ h q fun v d H1 ρ1 h1 r1 q1 => r v d σ H1 ρ1 h1 r1 q1
theorem ss_retN : SS c tRetN dRetN := fun t σ H ρ De E h q n r b k => r .non .non σ H ρ h (.inl .non) q
theorem ss_if (ht : ST c tt dt) (h1 : SS c ts ds) (h2 : SS c tv dv) : SS c (tIfS tt ts tv) (dIfS dt ds dv) := fun t σ H ρ De E h q n r b k =>
  ht t σ H ρ _ _ h q fun x H1 ρ1 e1 q1 => by
    cases x with
    | true => exact (if_pos rfl).mpr (h1 t σ H1 ρ1 De E e1 q1 n r b k)
    | false => exact (if_neg (fun z => by cases z)).mpr (h2 t σ H1 ρ1 De E e1 q1 n r b k)
def dNever : DS := fun _ _ => False
theorem ss_never : SS c tNever dNever := fun t σ H ρ De E h q n r b k => False.elim q
theorem ss_set (i : Nat) (hi : c.own i = false) (ha : SV c ta da) : SS c (tAsg ta (gName i)) (dSet i da) := fun t σ H ρ De E h q n r b k =>
  ha t σ H ρ _ _ h q fun v d H1 ρ1 h1 r1 q1 => n _ H1 _ (h1.put hi fun d' e => ⟨v, rfl, by cases e; exact r1⟩) q1
/-- .. of a slot that holds an object of its own: a new one -/
def dSetO (i : Nat) (a : DE) : DS := fun De ρ => a ρ fun d ρ1 => i < ρ1.length ∧ De.nx (ρ1.set i (some d))
theorem ss_setO (i : Nat) (hi : c.own i = true) (hb : c.box = none ∨ i ≠ 0) (ha : SF c ta da) : SS c (tAsg ta (gName i)) (dSetO i da) := fun t σ H ρ De E h q n r b k =>
  ha t σ H ρ _ _ h q fun p o d H1 ρ1 hn h1 r1 q1 => n _ H1 _ (h1.putHeld hn hi hb q1.1 r1) q1.2
/-- name op= e of ints -/
def dAug (i : Nat) (f : Int → Int → Int) (a : DE) : DS := fun De ρ => match ρ[i]? with
  | some (some (.int x)) => a ρ fun d ρ1 => match d with
    | .int y => De.nx (ρ1.set i (some (.int (f x y))))
    | _ => False
  | _ => False
theorem ss_aug {f : Int → Int → Int} (i : Nat) (hi : c.own i = false) (ha : SV c ta da) : SS c (tAug i ta (ipI f)) (dAug i f da) := fun t σ H ρ De E h q n r b k => by
  unfold dAug at q
  split at q
  · rename_i x hx
    obtain ⟨v, e, r1⟩ := h.val i _ hx hi
    cases r1
    refine ⟨_, e, ha t σ H ρ _ _ h q fun v d H1 ρ1 h1 r1 q1 => ?_⟩
    cases d with
    | int y =>
      cases r1
      exact ⟨x, y, rfl, rfl, n _ H1 _ (h1.put hi fun d' e => ⟨_, rfl, by cases e; exact .int _⟩) q1⟩
    | _ => exact False.elim q1
  · exact False.elim q
/-- xs.append(e) -/
def dApp (i : Nat) (a : DE) : DS := fun De ρ => match ρ[i]? with
  | some (some (.lst _)) => a ρ fun d ρ1 => match ρ1[i]? with
    | some (some (.lst xs)) => xs.length < sizeLine ∧ De.nx (ρ1.set i (some (.lst (xs ++ [d]))))
    | _ => False
  | _ => False
theorem ss_app (i : Nat) (hi : c.own i = true) (ha : SV c ta da) : SS c (tDrop (tBM c.K "list" rAppend (tVar i) (tCons ta tNil))) (dApp i da) := fun t σ H ρ De E h q n r b k => by
  unfold dApp at q
  split at q
  · rename_i xs0 hx0
    obtain ⟨l0, e0, ⟨o0, ho0, vs0, rfl, rs0⟩, _⟩ := h.ownv i _ hx0 hi
    refine ⟨_, e0, .inl ⟨rfl, _, .of ho0⟩, ha t σ H ρ _ _ h q fun v d H1 ρ1 h1 r1 q1 => ?_⟩
    have q1 : (match ρ1[i]? with
      | some (some (.lst xs)) => xs.length < sizeLine ∧ De.nx (ρ1.set i (some (.lst (xs ++ [d]))))
      | _ => False) := q1
    split at q1
    · rename_i xs hx
      obtain ⟨l, e1, ⟨o, ho, vs, rfl, rs⟩, _⟩ := h1.ownv i _ hx hi
      rw [e0] at e1; cases e1
      exact ⟨l0, vs, v, rfl, rfl, ho, by rw [← rs.length]; exact q1.1, n _ _ _ (h1.mut (d' := .lst (xs ++ [d])) hi hx e0 ⟨_, rfl, rs.append (.cons r1 .nil)⟩) q1.2⟩
    · exact False.elim q1
  · exact False.elim q
/-- xs[i] = e of a slot's own list -/
def dSetIx (i : Nat) (a j : DE) : DS := fun De ρ => a ρ fun d ρ1 => match ρ1[i]? with
  | some (some (.lst _)) => j ρ1 fun z ρ2 => match z, ρ2[i]? with
    | .int z, some (some (.lst xs)) => match ixN xs.length z with
      | some m => De.nx (ρ2.set i (some (.lst (xs.set m d))))
      | none => False
    | _, _ => False
  | _ => False
theorem ss_setIx (i : Nat) (hi : c.own i = true) (ha : SV c ta da) (hb : SV c tb db) : SS c (tAsg ta (gSub (tVar i) tb rSetL)) (dSetIx i da db) := fun t σ H ρ De E h q n r b k => by
  refine ha t σ H ρ _ _ h q fun v d H1 ρ1 h1 r1 q1 => ?_
  have q1 : (match ρ1[i]? with
  | some (some (.lst _)) => db ρ1 fun z ρ2 => match z, ρ2[i]? with
    | .int z, some (some (.lst xs)) => match ixN xs.length z with
      | some m => De.nx (ρ2.set i (some (.lst (xs.set m d))))
      | none => False
    | _, _ => False
  | _ => False) := q1
  split at q1
  · rename_i xs0 hx0
    obtain ⟨l0, e0, ⟨o0, ho0, vs0, rfl, rs0⟩, _⟩ := h1.ownv i _ hx0 hi
    obtain ⟨t', e, h1', back⟩ := h1.push (.inl r1)
    refine ⟨_, e0, hb t' σ H1 ρ1 _ _ h1' q1 fun w z H2 ρ2 h2 r2 q2 => ?_⟩
    obtain ⟨h3, r3⟩ := back H2 ρ2 h2
    have r3 : Rp c.K (Far c t σ) H2 d v := by
      rcases r3 with r3 | ⟨i, rfl, _⟩
      · exact r3
      · cases r1
    cases z with
    | int z =>
      cases r2
      have q2 : (match ρ2[i]? with
        | some (some (.lst xs)) => match ixN xs.length z with
          | some m => De.nx (ρ2.set i (some (.lst (xs.set m d))))
          | none => False
        | _ => False) := by
        revert q2
        cases ρ2[i]? with
        | none => exact id
        | some o => cases o with
          | none => exact id
          | some o => cases o <;> exact id
      split at q2
      · rename_i xs hx
        split at q2
        · rename_i m hm
          obtain ⟨l, e1, ⟨o, ho, vs, rfl, rs⟩, _⟩ := h3.ownv i _ hx hi
          rw [e0] at e1; cases e1
          exact ⟨l0, vs, z, m, rfl, rfl, ho, by rw [← rs.length]; exact hm, n _ _ _ (h3.mut (d' := .lst (xs.set m d)) hi hx e0 ⟨_, rfl, rs.set m r3⟩) q2⟩
        · exact False.elim q2
      · exact False.elim q2
    | _ => exact False.elim q2
  · exact False.elim q1

/-! ### targets -/
abbrev DG := D → Env → (Env → Prop) → Prop
abbrev DGs := List D → Env → (Env → Prop) → Prop
/-- g stores into the slots is -/
def SG (c : C0) (is : List Nat) (g : TG) (dg : DG) : Prop := ∀ (t : Tm) (σ : L2.St) (H : Hp) (ρ : Env) (v : V) (d : D) (P : Env → Prop) (Q : L2.St → Hp → Prop), EnvOk c t σ H ρ → Rp c.K (Far c t σ) H d v → dg d ρ P →
  (∀ σ' ρ', EnvOk c t σ' H ρ' → σ'.length = σ.length → (∀ j, j ∉ is → σ'[j]? = σ[j]? ∧ ρ'[j]? = ρ[j]?) → Far c t σ' = Far c t σ → P ρ' → Q σ' H) → g v σ H Q
def SGs (c : C0) (is : List Nat) (g : TGs) (dg : DGs) : Prop := ∀ (t : Tm) (σ : L2.St) (H : Hp) (ρ : Env) (vs : List V) (ds : List D) (P : Env → Prop) (Q : L2.St → Hp → Prop), EnvOk c t σ H ρ → RpL c.K (Far c t σ) H ds vs → dg ds ρ P →
  (∀ σ' ρ', EnvOk c t σ' H ρ' → σ'.length = σ.length → (∀ j, j ∉ is → σ'[j]? = σ[j]? ∧ ρ'[j]? = ρ[j]?) → Far c t σ' = Far c t σ → P ρ' → Q σ' H) → g vs σ H Q
def dgName (i : Nat) : DG := fun d ρ P => P (ρ.set i (some d))
theorem sg_name (i : Nat) (hi : c.own i = false) : SG c [i] (gName i) (dgName i) := fun t σ H ρ v d P Q h r q k =>
  k _ _ (h.put hi fun d' e => ⟨v, rfl, by cases e; exact r⟩) (List.length_set ..) (fun j hj => ⟨List.getElem?_set_ne fun z => hj (by rw [z]; exact List.mem_singleton_self _), List.getElem?_set_ne fun z => hj (by rw [z]; exact List.mem_singleton_self _)⟩)
    (funext fun a => propext (far_set hi)) q
def dgNil : DGs := fun ds ρ P => match ds with
  | [] => P ρ
  | _ => False
def dgCons (g : DG) (r : DGs) : DGs := fun ds ρ P => match ds with
  | d :: ds => g d ρ fun ρ1 => r ds ρ1 P
  | [] => False
theorem sgs_nil : SGs c [] gNil dgNil := fun t σ H ρ vs ds P Q h r q k => by
  cases r with
  | nil => exact ⟨rfl, k σ ρ h rfl (fun _ _ => ⟨rfl, rfl⟩) rfl q⟩
  | cons _ _ => exact False.elim q
theorem sgs_cons {is js : List Nat} {g : TG} {gs : TGs} {dg : DG} {dgs : DGs} (h1 : SG c is g dg) (h2 : SGs c js gs dgs) : SGs c (is ++ js) (gCons g gs) (dgCons dg dgs) := fun t σ H ρ vs ds P Q h r q k => by
  cases r with
  | nil => exact False.elim q
  | cons a b =>
    refine ⟨_, _, rfl, h1 t σ H ρ _ _ _ _ h a q fun σ1 ρ1 e1 l1 s1 f1 q1 => ?_⟩
    refine h2 t σ1 H ρ1 _ _ _ _ e1 (by rw [f1]; exact b) q1 fun σ2 ρ2 e2 l2 s2 f2 q2 => ?_
    exact k σ2 ρ2 e2 (l2.trans l1) (fun j hj => ⟨((s2 j fun z => hj (List.mem_append_right _ z)).1).trans (s1 j fun z => hj (List.mem_append_left _ z)).1, ((s2 j fun z => hj (List.mem_append_right _ z)).2).trans (s1 j fun z => hj (List.mem_append_left _ z)).2⟩) (f2.trans f1) q2
/-- a tuple taken apart -/
def dgTup (n : Nat) (g : DGs) : DG := fun d ρ P => match d with
  | .tup xs => xs.length = n ∧ g xs ρ P
  | _ => False
theorem sg_tup {is : List Nat} {n : Nat} {g : TGs} {dg : DGs} (h1 : SGs c is g dg) : SG c is (gTup c.K n g) (dgTup n dg) := fun t σ H ρ v d P Q h r q k => by
  cases d with
  | tup xs =>
    obtain ⟨a, vs, rfl, _, ha, rs⟩ := r.seqT
    exact ⟨a, vs, rfl, .of ha, by rw [← rs.length]; exact q.1, h1 t σ H ρ vs xs _ _ h rs q.2 k⟩
  | _ => exact False.elim q
def dAsg (a : DE) (g : DG) : DS := fun De ρ => a ρ fun d ρ1 => g d ρ1 De.nx
theorem ss_asg {is : List Nat} {g : TG} {dg : DG} (ha : SV c ta da) (hg : SG c is g dg) : SS c (tAsg ta g) (dAsg da dg) := fun t σ H ρ De E h q n r b k =>
  ha t σ H ρ _ _ h q fun v d H1 ρ1 h1 r1 q1 => hg t σ H1 ρ1 v d _ _ h1 r1 q1 fun σ' ρ' h' _ _ _ q' => n σ' H1 ρ' h' q'
/-! a, b = x, y -/
def dPar (i j : Nat) (a : DA) : DS := fun De ρ => a ρ fun ds ρ1 => match ds with
  | [d, e] => De.nx ((ρ1.set i (some d)).set j (some e))
  | _ => False
theorem ss_par {m : Nat} {ta : TA} {da : DA} (i j : Nat) (hi : c.own i = false) (hj : c.own j = false) (ha : SA c m ta da) : SS c (tPar i j ta) (dPar i j da) := fun t σ H ρ De E h q n r b k =>
  ha t σ H ρ _ _ h q fun vs ds H1 ρ1 h1 rs m1 q1 => by
    cases rs with
    | nil => exact False.elim q1
    | cons a rs => cases rs with
      | nil => exact False.elim q1
      | cons b rs => cases rs with
        | cons d rs => exact False.elim q1
        | nil =>
          refine ⟨_, _, rfl, n _ H1 _ ?_ q1⟩
          have h2 := h1.put (x := some _) (y := some _) hi fun d' e => ⟨_, rfl, by cases e; exact a⟩
          exact h2.put hj fun d' e => ⟨_, rfl, by cases e; rw [show Far c t (σ.set i _) = Far c t σ from funext fun a => propext (far_set hi)]; exact b⟩
def dPar3 (i j l : Nat) (a : DA) : DS := fun De ρ => a ρ fun ds ρ1 => match ds with
  | [d, e, f] => De.nx (((ρ1.set i (some d)).set j (some e)).set l (some f))
  | _ => False
theorem ss_par3 {m : Nat} {ta : TA} {da : DA} (i j l : Nat) (hi : c.own i = false) (hj : c.own j = false) (hl : c.own l = false) (ha : SA c m ta da) : SS c (tPar3 i j l ta) (dPar3 i j l da) := fun t σ H ρ De E h q n r b k =>
  ha t σ H ρ _ _ h q fun vs ds H1 ρ1 h1 rs m1 q1 => by
    cases rs with
    | nil => exact False.elim q1
    | cons a rs => cases rs with
      | nil => exact False.elim q1
      | cons b rs => cases rs with
        | nil => exact False.elim q1
        | cons d rs => cases rs with
          | cons d rs => exact False.elim q1
          | nil =>
            refine ⟨_, _, _, rfl, n _ H1 _ ?_ q1⟩
            have h2 := h1.put (x := some _) (y := some _) hi fun d' e => ⟨_, rfl, by cases e; exact a⟩
            have h3 := h2.put (x := some _) (y := some _) hj fun d' e => ⟨_, rfl, by cases e; rw [show Far c t (σ.set i _) = Far c t σ from funext fun a => propext (far_set hi)]; exact b⟩
            exact h3.put hl fun d' e => ⟨_, rfl, by
              cases e
              rw [show ∀ τ : L2.St, Far c t (τ.set j _) = Far c t τ from fun τ => funext fun a => propext (far_set hj), show Far c t (σ.set i _) = Far c t σ from funext fun a => propext (far_set hi)]
              exact d⟩
end
end PD

end
section
set_option Elab.async false
set_option linter.all false
set_option maxRecDepth 100000
namespace L2
open PySem PySem.Spec PyProof.Rows
/-- a list or a tuple, walked -/
def iSeq (K : PySem.W.Frag) (tl : TE) : TI := fun σ H R => tl σ H fun x H1 => ∃ a, x = .ref a ∧ (((∃ xs, SqL K H1 a xs) ∧ R (Itl K a) H1) ∨ ((∃ xs, SqT K H1 a xs) ∧ R (Itt K a) H1))
theorem pi_seq {X : Cx} {tg l : Expr} {tl : TE} (hl : PE X l tl) : PI X tg l (iSeq X.K tl) := by
  refine ⟨fun pins s σ H R I h => ?_⟩
  refine thn (hl.run pins s σ H _ I h) fun v s1 ⟨x, H1, I1, r1, q1⟩ => ?_
  obtain ⟨a, e, q⟩ := q1
  subst e
  cases r1
  rcases q with ⟨⟨xs, hq⟩, q⟩ | ⟨⟨xs, hq⟩, q⟩
  · obtain ⟨its, rv, p, hz⟩ := I1.list hq
    refine wpAny_pyIter_list p.isList ?_
    refine ⟨s1.heap.objs.size, [s1.heap.objs.size], _, _, H1, rfl, I1.kept (t' := s1.toks) fun b o e => Heap.get?_push_of_some _ e, turn_list a _, ⟨_, Heap.get?_push_size _ rfl, rfl, rfl⟩, fun b hb => ?_, q⟩
    have e : b = s1.heap.objs.size := by simpa using hb
    subst e
    exact I1.fpOk (Nat.le_refl _) (I1.hok.fresh (Nat.le_refl _))
  · obtain ⟨its, rv, p, hz⟩ := I1.tuple hq
    refine wpAny_pyIter_tuple (show s1.heap.IsTuple a its.toArray from p) ?_
    refine ⟨s1.heap.objs.size, [s1.heap.objs.size], _, _, H1, rfl, I1.kept (t' := s1.toks) fun b o e => Heap.get?_push_of_some _ e, turn_tuple a _, ⟨_, Heap.get?_push_size _ rfl, rfl, rfl⟩, fun b hb => ?_, q⟩
    have e : b = s1.heap.objs.size := by simpa using hb
    subst e
    exact I1.fpOk (Nat.le_refl _) (I1.hok.fresh (Nat.le_refl _))
end L2
namespace PD
open PySem PySem.Spec PyProof.Rows L2 RZ

section
variable {c : C0} {t : Tm} {σ : L2.St} {H H' : Hp} {ρ : Env}
variable {te ta tb tc : TE} {de da db dc : DE} {tt tu : TT} {dt du : DT} {ts tv : TS} {ds dv : DS}

/-! ### while -/
def dWhile (a : DT) (b : DS) : DS := fun De ρ => ∃ W : Nat → Env → Prop, (∃ m, W m ρ) ∧ ∀ m ρ1, W m ρ1 → a ρ1 fun k ρ2 =>
  sel k (b { De with nx := fun ρ3 => ∃ m', m' < m ∧ W m' ρ3, ct := fun ρ3 => ∃ m', m' < m ∧ W m' ρ3, bk := De.nx } ρ2) (De.nx ρ2)
theorem ss_while (ht : ST c tt dt) (hb : SS c ts ds) : SS c (tWhile tt ts) (dWhile dt ds) := fun t σ H ρ De E h q n r b k => by
  obtain ⟨W, ⟨m0, w0⟩, turn⟩ := q
  refine ⟨fun m σ H => ∃ ρ, EnvOk c t σ H ρ ∧ W m ρ, ⟨m0, ρ, h, w0⟩, fun m σ1 H1 ⟨ρ1, h1, w1⟩ => ?_⟩
  refine ht t σ1 H1 ρ1 _ _ h1 (turn m ρ1 w1) fun x H2 ρ2 h2 q2 => ?_
  cases x with
  | true =>
    refine (if_pos rfl).mpr ⟨fun σ' H' => ∃ m', m' < m ∧ ∃ ρ, EnvOk c t σ' H' ρ ∧ W m' ρ, fun _ _ z => z, ?_⟩
    exact hb t σ1 H2 ρ2 _ _ h2 q2 (fun σ' H' ρ' e ⟨m', l, w⟩ => ⟨m', l, ρ', e, w⟩) r n (fun σ' H' ρ' e ⟨m', l, w⟩ => ⟨m', l, ρ', e, w⟩)
  | false => exact (if_neg (fun z => by cases z)).mpr (n σ1 H2 ρ2 h2 q2)
/-! ### what is walked -/
/-- a value is held besides, whatever the slots do -/
theorem EnvOk.pin {d : D} {v : V} (h : EnvOk c t σ H ρ) (r : Rp c.K (Far c t σ) H d v) : EnvOk c ⟨(d, v) :: t.vals, t.hold⟩ σ H ρ :=
  { h with tv := fun p hp => (List.mem_cons.mp hp).elim (fun e => by rw [e]; exact r) fun hp => h.tv p hp }
theorem EnvOk.unpin {d : D} {v : V} (h : EnvOk c ⟨(d, v) :: t.vals, t.hold⟩ σ H ρ) : EnvOk c t σ H ρ := { h with tv := fun p hp => h.tv p (List.mem_cons_of_mem _ hp) }
theorem EnvOk.pinned {d : D} {v : V} (h : EnvOk c ⟨(d, v) :: t.vals, t.hold⟩ σ H ρ) : Rp c.K (Far c t σ) H d v := h.tv (d, v) List.mem_cons_self
/-- t2 holds what t holds (its objects may be others) -/
def Sub (t t2 : Tm) : Prop := ∀ p ∈ t.vals, p ∈ t2.vals
theorem Sub.refl (t : Tm) : Sub t t := fun _ h => h
theorem Sub.cons {t t2 : Tm} {x : D × V} {hl : List (Addr × HO)} (h : Sub t t2) : Sub t ⟨x :: t2.vals, hl⟩ := fun p hp => List.mem_cons_of_mem _ (h p hp)
theorem EnvOk.sub {t2 : Tm} (h : EnvOk c t2 σ H ρ) (s : Sub t t2) (e : t2.hold = t.hold) : EnvOk c t σ H ρ := by
  obtain ⟨vs, hs⟩ := t
  obtain ⟨vs2, hs2⟩ := t2
  cases e
  exact { h with tv := fun p hp => h.tv p (s p hp) }
def ItOk (c : C0) (t' : Tm) (J : It) (items : List D) : Prop := ∀ t σ H ρ, Sub t' t → EnvOk c t σ H ρ →
  (∀ i, i < items.length → J.go i H) ∧ (∀ i x H', J.yld i H x H' → i < items.length → ∃ d, items[i]? = some d ∧ EnvOk c t σ H' ρ ∧ Rp c.K (Far c t σ) H' d x) ∧ J.stop items.length H
abbrev DI := Env → (List D → Env → Prop) → Prop
def SI (c : C0) (wi : TI) (di : DI) : Prop := ∀ (t : Tm) (σ : L2.St) (H : Hp) (ρ : Env) (P : List D → Env → Prop) (R : It → Hp → Prop), EnvOk c t σ H ρ → di ρ P →
  (∀ t' J items H' ρ', t'.hold = t.hold → Sub t t' → EnvOk c t' σ H' ρ' → ItOk c t' J items → P items ρ' → R J H') → wi σ H R
theorem itl_ok {t' : Tm} {a : Addr} {xs : List D} (f : ∀ t σ H ρ, Sub t' t → EnvOk c t σ H ρ → ∃ vs, SqL c.K H a vs ∧ RpL c.K (Far c t σ) H xs vs) : ItOk c t' (Itl c.K a) xs := fun t σ H ρ s h => by
  obtain ⟨vs, hs, rs⟩ := f t σ H ρ s h
  refine ⟨fun i hi => ?_, fun i x H' y hi => ?_, vs, hs, Nat.le_of_eq rs.length.symm⟩
  · obtain ⟨v, e, r⟩ := rs.got (List.getElem?_eq_getElem hi)
    exact ⟨vs, v, hs, e⟩
  · obtain ⟨rfl, y⟩ := y
    obtain ⟨d, e, r⟩ := rs.get (y vs hs)
    exact ⟨d, e, h, r⟩
theorem itt_ok {t' : Tm} {a : Addr} {xs : List D} (f : ∀ t σ H ρ, Sub t' t → EnvOk c t σ H ρ → ∃ vs, SqT c.K H a vs ∧ RpL c.K (Far c t σ) H xs vs) : ItOk c t' (Itt c.K a) xs := fun t σ H ρ s h => by
  obtain ⟨vs, hs, rs⟩ := f t σ H ρ s h
  refine ⟨fun i hi => ?_, fun i x H' y hi => ?_, vs, hs, Nat.le_of_eq rs.length.symm⟩
  · obtain ⟨v, e, r⟩ := rs.got (List.getElem?_eq_getElem hi)
    exact ⟨vs, v, hs, e⟩
  · obtain ⟨rfl, y⟩ := y
    obtain ⟨d, e, r⟩ := rs.get (y vs hs)
    exact ⟨d, e, h, r⟩
/-- the items of a list, a tuple -/
def dSeqI (a : DE) : DI := fun ρ P => a ρ fun d ρ1 => match d with
  | .lst xs => P xs ρ1
  | .tup xs => P xs ρ1
  | .scr ns => P (ns.map D.int) ρ1
  | _ => False
theorem si_seq (ha : SV c ta da) : SI c (iSeq c.K ta) (dSeqI da) := fun t σ H ρ P R h q k =>
  ha t σ H ρ _ _ h q fun v d H1 ρ1 h1 r1 q1 => by
    have un : Sub t ⟨(d, v) :: t.vals, t.hold⟩ := (Sub.refl t).cons
    cases d with
    | lst xs =>
      obtain ⟨a, vs, rfl, _, hs, _⟩ := r1.seqL
      refine ⟨a, rfl, .inl ⟨⟨vs, .of hs⟩, k ⟨(_, _) :: t.vals, t.hold⟩ _ xs H1 ρ1 rfl un (h1.pin r1) (itl_ok fun t2 σ H ρ s h => ?_) q1⟩⟩
      obtain ⟨a', vs, e, _, hs, rs⟩ := (h.tv _ (s _ List.mem_cons_self)).seqL
      cases e
      exact ⟨vs, .of hs, rs⟩
    | tup xs =>
      obtain ⟨a, vs, rfl, _, hs, _⟩ := r1.seqT
      refine ⟨a, rfl, .inr ⟨⟨vs, .of hs⟩, k ⟨(_, _) :: t.vals, t.hold⟩ _ xs H1 ρ1 rfl un (h1.pin r1) (itt_ok fun t2 σ H ρ s h => ?_) q1⟩⟩
      obtain ⟨a', vs, e, _, hs, rs⟩ := (h.tv _ (s _ List.mem_cons_self)).seqT
      cases e
      exact ⟨vs, .of hs, rs⟩
    | scr ns =>
      obtain ⟨a, rfl, hs⟩ := r1.seqS
      refine ⟨a, rfl, .inl ⟨⟨_, hs⟩, k ⟨(_, _) :: t.vals, t.hold⟩ _ _ H1 ρ1 rfl un (h1.pin r1) (itl_ok fun t2 σ H ρ s h => ?_) q1⟩⟩
      obtain ⟨a', e, hs⟩ := (h.tv _ (s _ List.mem_cons_self)).seqS
      cases e
      exact ⟨_, hs, .of_ints ns⟩
    | _ => exact False.elim q1
/-- range -/
def rgD (lo : Int) (n : Nat) : List D := (List.range n).map fun i => .int (lo + (i : Nat))
theorem rgD_length (lo : Int) (n : Nat) : (rgD lo n).length = n := by unfold rgD; rw [List.length_map, List.length_range]
theorem rgD_get {lo : Int} {n i : Nat} (h : i < n) : (rgD lo n)[i]? = some (.int (lo + (i : Nat))) := by
  unfold rgD; rw [List.getElem?_map, List.getElem?_range h]; rfl
theorem rgD_got {lo : Int} {n i : Nat} {d : D} (h : (rgD lo n)[i]? = some d) : i < n ∧ d = .int (lo + (i : Nat)) := by
  have hi : i < n := by
    have := (List.getElem?_eq_some_iff.mp h).1
    rwa [rgD_length] at this
  rw [rgD_get hi] at h
  exact ⟨hi, (Option.some.inj h).symm⟩
theorem itr_ok {t' : Tm} {lo : Int} {n : Nat} : ItOk c t' (Itr lo n) (rgD lo n) := fun t σ H ρ s h => by
  rw [rgD_length]
  refine ⟨fun i hi => hi, fun i x H' y hi => ?_, Nat.le_refl _⟩
  obtain ⟨rfl, rfl⟩ := y
  exact ⟨_, rgD_get hi, h, .int _⟩
def dRange1 (a : DE) : DI := fun ρ P => a ρ fun d ρ1 => match d with
  | .int n => (-(2 ^ 62) ≤ n ∧ n < 2 ^ 62) ∧ P (rgD 0 n.toNat) ρ1
  | _ => False
def dRange2 (a b : DE) : DI := fun ρ P => a ρ fun d ρ1 => b ρ1 fun e ρ2 => match d, e with
  | .int m, .int n => (-(2 ^ 62) ≤ m ∧ m < 2 ^ 62 ∧ -(2 ^ 62) ≤ n ∧ n < 2 ^ 62) ∧ P (rgD m (n - m).toNat) ρ2
  | _, _ => False
theorem si_range1 (ha : SV c ta da) : SI c (iRng1 (tCons ta tNil)) (dRange1 da) := fun t σ H ρ P R h q k =>
  ha t σ H ρ _ _ h q fun v d H1 ρ1 h1 r1 q1 => by
    cases d with
    | int n =>
      cases r1
      exact ⟨n, rfl, q1.1.1, q1.1.2, k t _ _ H1 ρ1 rfl (.refl t) h1 itr_ok q1.2⟩
    | _ => exact False.elim q1
theorem si_range2 (ha : SV c ta da) (hb : SV c tb db) : SI c (iRng2 (tCons ta (tCons tb tNil))) (dRange2 da db) := fun t σ H ρ P R h q k => by
  refine se_two (P := fun d e ρ2 => match d, e with
    | .int m, .int n => (-(2 ^ 62) ≤ m ∧ m < 2 ^ 62 ∧ -(2 ^ 62) ≤ n ∧ n < 2 ^ 62) ∧ P (rgD m (n - m).toNat) ρ2
    | _, _ => False) ha.se hb.se h q fun x y dx dy H' ρ' h' rx ry q' => ?_
  cases dx with
  | int m => cases dy with
    | int n => exact ⟨m, n, by rw [rx.int, ry.int], q'.1, k t _ _ H' ρ' rfl (.refl t) h' itr_ok q'.2⟩
    | _ => exact False.elim q'
  | _ => exact False.elim q'
/-- zip of two tuples -/
def pairs : List D → List D → List D
  | x :: xs, y :: ys => .tup [x, y] :: pairs xs ys
  | _, _ => []
theorem pairs_get : ∀ {xs ys : List D} {i : Nat} {x y : D}, xs[i]? = some x → ys[i]? = some y → (pairs xs ys)[i]? = some (.tup [x, y])
  | x :: xs, y :: ys, 0, _, _, h1, h2 => by simp at h1 h2; subst h1; subst h2; rfl
  | x :: xs, y :: ys, i + 1, _, _, h1, h2 => pairs_get (xs := xs) (ys := ys) (i := i) (by simpa using h1) (by simpa using h2)
  | [], _, _, _, _, h1, _ => by simp at h1
  | _ :: _, [], _, _, _, _, h2 => by simp at h2
theorem pairs_length : ∀ xs ys : List D, (pairs xs ys).length = min xs.length ys.length
  | [], _ => by simp [pairs]
  | x :: xs, [] => by simp [pairs]
  | x :: xs, y :: ys => by rw [pairs, List.length_cons, pairs_length xs ys, List.length_cons, List.length_cons]; omega
theorem itz_ok {t' : Tm} {a b : Addr} {xs ys : List D} (f : ∀ t σ H ρ, Sub t' t → EnvOk c t σ H ρ → ∃ vs ws, SqT c.K H a vs ∧ SqT c.K H b ws ∧ RpL c.K (Far c t σ) H xs vs ∧ RpL c.K (Far c t σ) H ys ws) : ItOk c t' (ItzT c.K a b) (pairs xs ys) := fun t σ H ρ s h => by
  obtain ⟨vs, ws, hs, hs2, rs, rs2⟩ := f t σ H ρ s h
  rw [pairs_length]
  refine ⟨fun i hi => ?_, fun i x H' y hi => ?_, vs, ws, hs, hs2, ?_⟩
  · obtain ⟨v, e, r⟩ := rs.got (List.getElem?_eq_getElem (show i < xs.length by omega))
    obtain ⟨w, e2, r2⟩ := rs2.got (List.getElem?_eq_getElem (show i < ys.length by omega))
    exact ⟨vs, ws, v, w, hs, hs2, e, e2⟩
  · obtain ⟨T, x1, y1, rfl, hT, rfl, f1, f2⟩ := y
    obtain ⟨d, e, r⟩ := rs.get (f1 vs hs)
    obtain ⟨d2, e2, r2⟩ := rs2.get (f2 ws hs2)
    exact ⟨_, pairs_get e e2, h.new hT, .tup (h.far hT) upd_same (.cons (r.grow (upd_grow hT)) (.cons (r2.grow (upd_grow hT)) .nil))⟩
  · rw [← rs.length, ← rs2.length]; omega
def dZipT (a b : DE) : DI := fun ρ P => a ρ fun d ρ1 => b ρ1 fun e ρ2 => match d, e with
  | .tup xs, .tup ys => P (pairs xs ys) ρ2
  | _, _ => False
theorem si_zipT (ha : SV c ta da) (hb : SV c tb db) : SI c (iZipA c.K (tCons ta (tCons tb tNil))) (dZipT da db) := fun t σ H ρ P R h q k => by
  refine se_two (P := fun d e ρ2 => match d, e with
    | .tup xs, .tup ys => P (pairs xs ys) ρ2
    | _, _ => False) ha.se hb.se h q fun x y dx dy H' ρ' h' rx ry q' => ?_
  cases dx with
  | tup xs => cases dy with
    | tup ys =>
      have rx := rx.rp trivial
      have ry := ry.rp trivial
      obtain ⟨a, vs, rfl, _, hs, rs⟩ := rx.seqT
      obtain ⟨b, ws, rfl, _, hs2, rs2⟩ := ry.seqT
      refine ⟨a, b, vs, ws, rfl, .inr ⟨.of hs, .of hs2, k ⟨(.tup xs, .ref a) :: (.tup ys, .ref b) :: t.vals, t.hold⟩ _ _ H' ρ' rfl (Sub.cons (t2 := ⟨(.tup ys, .ref b) :: t.vals, t.hold⟩) (Sub.cons (.refl t))) ?_ (itz_ok fun t2 σ H ρ s h => ?_) q'⟩⟩
      · exact EnvOk.pin (t := ⟨(.tup ys, .ref b) :: t.vals, t.hold⟩) (h'.pin ry) rx
      · obtain ⟨_, vs, e, _, hs, rs⟩ := (h.tv _ (s _ List.mem_cons_self)).seqT
        obtain ⟨_, ws, e2, _, hs2, rs2⟩ := (h.tv _ (s _ (List.mem_cons_of_mem _ List.mem_cons_self))).seqT
        cases e; cases e2
        exact ⟨vs, ws, .of hs, .of hs2, rs, rs2⟩
    | _ => exact False.elim q'
  | _ => exact False.elim q'

/-! ### for -/
def dFor (di : DI) (g : DG) (b : DS) : DS := fun De ρ => di ρ fun items ρ1 => ∃ W : Nat → Env → Prop, W 0 ρ1 ∧
  (∀ i d ρ2, items[i]? = some d → W i ρ2 → g d ρ2 fun ρ3 => b { De with nx := W (i + 1), ct := W (i + 1), bk := De.nx } ρ3) ∧ ∀ ρ2, W items.length ρ2 → De.nx ρ2
theorem ss_for {wi : TI} {di : DI} {g : TG} {dg : DG} {is : List Nat} (hi : SI c wi di) (hg : SG c is g dg) (hb : SS c ts ds) : SS c (tFor wi g ts) (dFor di dg ds) := fun t σ H ρ De E h q n r b k => by
  refine hi t σ H ρ _ _ h q fun t' J items H1 ρ1 e0 sb h1 it q1 => ?_
  obtain ⟨W, w0, turn, done⟩ := q1
  have un : ∀ σ1 H1 ρ1, EnvOk c t' σ1 H1 ρ1 → EnvOk c t σ1 H1 ρ1 := fun _ _ _ h => h.sub sb e0
  refine ⟨fun i m σ H => m = items.length - i ∧ i ≤ items.length ∧ ∃ ρ, EnvOk c t' σ H ρ ∧ W i ρ, ⟨items.length, by simp, Nat.zero_le _, ρ1, h1, w0⟩, ?_⟩
  rintro i m σ2 H2 ⟨rfl, hi, ρ2, h2, w2⟩
  obtain ⟨go, yld, stop⟩ := it t' σ2 H2 ρ2 (.refl _) h2
  by_cases hlt : i < items.length
  · refine .inr ⟨go i hlt, fun σ H => ∃ ρ, EnvOk c t' σ H ρ ∧ W (i + 1) ρ, fun σ' H' ⟨ρ', h', w'⟩ => ⟨items.length - (i + 1), by omega, rfl, hlt, ρ', h', w'⟩, fun x H3 y => ?_⟩
    obtain ⟨d, e, h3, r3⟩ := yld i x H3 y hlt
    refine hg t' σ2 H3 ρ2 x d _ _ h3 r3 (turn i d ρ2 e w2) fun σ4 ρ4 h4 _ _ _ q4 => ?_
    exact hb t' σ4 H3 ρ4 _ _ h4 q4 (fun σ' H' ρ' h' w => ⟨ρ', h', w⟩) (fun v d σ' H' ρ' h' r' q' => r v d σ' H' ρ' (un _ _ _ h') (r'.hold e0) q') (fun σ' H' ρ' h' q' => n σ' H' ρ' (un _ _ _ h') q') (fun σ' H' ρ' h' w => ⟨ρ', h', w⟩)
  · have e : i = items.length := by omega
    subst e
    exact .inl ⟨stop, n σ2 H2 ρ2 (un _ _ _ h2) (done ρ2 w2)⟩
end
end PD

end
section
set_option Elab.async false
set_option linter.all false
set_option maxRecDepth 100000
namespace PD
open PySem PySem.Spec PyProof.Rows L2 RZ

section
variable {c : C0} {t : Tm} {σ : L2.St} {H H' : Hp} {ρ : Env}
variable {te ta tb tc : TE} {de da db dc : DE} {tt tu : TT} {dt du : DT} {ts tv : TS} {ds dv : DS}

/-! ### comprehensions -/
def wipeD (ρ : Env) : List Nat → Env
  | [] => ρ
  | v :: vs => (wipeD ρ vs).set v none
/-- the slots vs as they were -/
def backD (vs : List Nat) (ρ0 ρ : Env) : Env := match vs with
  | [] => ρ
  | v :: vs => (backD vs ρ0 ρ).set v (ρ0[v]?.join)
def backS (vs : List Nat) (σ0 σ : L2.St) : L2.St := match vs with
  | [] => σ
  | v :: vs => (backS vs σ0 σ).set v (σ0[v]?.join)
theorem backS_len (σ0 σ : L2.St) : ∀ vs : List Nat, (backS vs σ0 σ).length = σ.length
  | [] => rfl
  | v :: vs => by rw [backS, List.length_set, backS_len σ0 σ vs]
theorem backS_eq {σ0 σ : L2.St} {vs : List Nat} (hl : σ.length = σ0.length) (h : ∀ j, j ∉ vs → σ[j]? = σ0[j]?) : backS vs σ0 σ = σ0 := by
  have key : ∀ (vs : List Nat) (j : Nat), (backS vs σ0 σ)[j]? = if j ∈ vs then σ0[j]? else σ[j]? := by
    intro vs
    induction vs with
    | nil => intro j; rw [backS, if_neg (by simp)]
    | cons v vs ih =>
      intro j
      rw [backS]
      by_cases e : v = j
      · subst e
        rw [if_pos List.mem_cons_self]
        by_cases hlt : v < (backS vs σ0 σ).length
        · rw [List.getElem?_set_self hlt]
          rw [backS_len, hl] at hlt
          rw [List.getElem?_eq_getElem hlt]; rfl
        · rw [List.getElem?_eq_none (by rw [List.length_set]; omega)]
          rw [backS_len, hl] at hlt
          rw [List.getElem?_eq_none (by omega)]
      · rw [List.getElem?_set_ne e, ih j]
        by_cases m : j ∈ vs
        · rw [if_pos m, if_pos (List.mem_cons_of_mem _ m)]
        · rw [if_neg m, if_neg (fun z => (List.mem_cons.mp z).elim (fun z => e z.symm) m)]
  refine List.ext_getElem? fun j => ?_
  rw [key vs j]
  by_cases m : j ∈ vs
  · rw [if_pos m]
  · rw [if_neg m, h j m]
theorem EnvOk.wiped (h : EnvOk c t σ H ρ) : ∀ vs : List Nat, (∀ v ∈ vs, c.own v = false) → EnvOk c t (wipe σ vs) H (wipeD ρ vs) ∧ Far c t (wipe σ vs) = Far c t σ
  | [], _ => ⟨h, rfl⟩
  | v :: vs, hv => by
    obtain ⟨h1, f1⟩ := EnvOk.wiped h vs fun u hu => hv u (List.mem_cons_of_mem _ hu)
    have ho := hv v List.mem_cons_self
    exact ⟨h1.put ho (fun d e => nomatch e), (funext fun a => propext (far_set ho)).trans f1⟩
/-- the slots' values are held besides -/
theorem EnvOk.pinAll (h : EnvOk c t σ H ρ) : ∀ vs : List Nat, (∀ v ∈ vs, c.own v = false) → ∃ t2 : Tm, t2.hold = t.hold ∧ Sub t t2 ∧ EnvOk c t2 σ H ρ ∧
    ∀ t3 σ1 H1 ρ1, Sub t2 t3 → EnvOk c t3 σ1 H1 ρ1 → ∀ v ∈ vs, ∀ d, ρ[v]? = some (some d) → ∃ u, σ[v]? = some (some u) ∧ Rp c.K (Far c t3 σ1) H1 d u
  | [], _ => ⟨t, rfl, .refl t, h, fun _ _ _ _ _ _ v hv => absurd hv (by simp)⟩
  | v :: vs, hv => by
    obtain ⟨t2, e2, s2, h2, f2⟩ := EnvOk.pinAll h vs fun u hu => hv u (List.mem_cons_of_mem _ hu)
    cases hz : ρ[v]? with
    | none => exact ⟨t2, e2, s2, h2, fun t3 σ1 H1 ρ1 s h u hu d e => (List.mem_cons.mp hu).elim (fun z => by subst z; rw [hz] at e; cases e) fun hu => f2 t3 σ1 H1 ρ1 s h u hu d e⟩
    | some o => cases o with
      | none => exact ⟨t2, e2, s2, h2, fun t3 σ1 H1 ρ1 s h u hu d e => (List.mem_cons.mp hu).elim (fun z => by subst z; rw [hz] at e; cases e) fun hu => f2 t3 σ1 H1 ρ1 s h u hu d e⟩
      | some d0 =>
        obtain ⟨u0, e0, r0⟩ := h2.val v d0 hz (hv v List.mem_cons_self)
        refine ⟨⟨(d0, u0) :: t2.vals, t2.hold⟩, e2, s2.cons, h2.pin r0, fun t3 σ1 H1 ρ1 s h u hu d e => ?_⟩
        rcases List.mem_cons.mp hu with z | hu
        · subst z
          rw [hz] at e; cases e
          exact ⟨u0, e0, h.tv _ (s _ List.mem_cons_self)⟩
        · exact f2 t3 σ1 H1 ρ1 (fun p hp => s p (List.mem_cons_of_mem _ hp)) h u hu d e
theorem EnvOk.backed {ρ5 : Env} {σ2 : L2.St} (h : EnvOk c t σ2 H ρ5) : ∀ vs : List Nat, (∀ v ∈ vs, c.own v = false) → (∀ v ∈ vs, ∀ d, ρ[v]? = some (some d) → ∃ u, σ[v]? = some (some u) ∧ Rp c.K (Far c t σ2) H d u) →
    EnvOk c t (backS vs σ σ2) H (backD vs ρ ρ5) ∧ Far c t (backS vs σ σ2) = Far c t σ2
  | [], _, _ => ⟨h, rfl⟩
  | v :: vs, hv, f => by
    obtain ⟨h1, f1⟩ := EnvOk.backed h vs (fun u hu => hv u (List.mem_cons_of_mem _ hu)) fun u hu => f u (List.mem_cons_of_mem _ hu)
    have ho := hv v List.mem_cons_self
    refine ⟨h1.put ho fun d e => ?_, (funext fun a => propext (far_set ho)).trans f1⟩
    cases hz : ρ[v]? with
    | none => rw [hz] at e; cases e
    | some o =>
      rw [hz] at e
      have e' : o = some d := e
      subst e'
      obtain ⟨u, e1, r⟩ := f v List.mem_cons_self d hz
      exact ⟨u, by rw [e1]; rfl, by rw [f1]; exact r⟩
theorem wipe_in {σ : L2.St} {j : Nat} : ∀ {vs : List Nat}, j ∈ vs → j < σ.length → (wipe σ vs)[j]? = some none
  | v :: vs, h, hl => by
    rw [wipe]
    by_cases e : v = j
    · subst e
      exact List.getElem?_set_self (by rw [wipe_length]; exact hl)
    · rw [List.getElem?_set_ne e]
      exact wipe_in ((List.mem_cons.mp h).resolve_left fun z => e z.symm) hl
theorem wipe_eq {σ σ2 : L2.St} {vs : List Nat} (hl : σ2.length = σ.length) (h : ∀ j, j ∉ vs → σ2[j]? = σ[j]?) : wipe σ2 vs = wipe σ vs := by
  refine List.ext_getElem? fun j => ?_
  by_cases m : j ∈ vs
  · by_cases hlt : j < σ.length
    · rw [wipe_in m hlt, wipe_in m (by rw [hl]; exact hlt)]
    · rw [List.getElem?_eq_none (by rw [wipe_length]; omega), List.getElem?_eq_none (by rw [wipe_length]; omega)]
  · rw [wipe_out m, wipe_out m, h j m]

def dLc (di : DI) (g : DG) (a : DT) (b : DE) (vs : List Nat) : DE := fun ρ P => di ρ fun items ρ1 => ∃ W : Nat → List D → Env → Prop, W 0 [] ρ1 ∧
  (∀ i d acc ρ2, items[i]? = some d → W i acc ρ2 → g d (wipeD ρ2 vs) fun ρ3 => a ρ3 fun k ρ4 =>
    sel k (b ρ4 fun y ρ5 => acc.length < sizeLine ∧ W (i + 1) (acc ++ [y]) (backD vs ρ2 ρ5)) (W (i + 1) acc (backD vs ρ2 ρ4))) ∧ ∀ acc ρ2, W items.length acc ρ2 → P (.lst acc) ρ2
def dYes : DT := fun ρ P => P true ρ
theorem st_yes : ST c tYes dYes := fun t σ H ρ P Q h q k => k true H ρ h q
/-- the items so far, held -/
def Kept (t : Tm) (acc : List D) (avs : List V) : Prop := acc.length = avs.length ∧ ∀ (j : Nat) (d : D) (v : V), acc[j]? = some d → avs[j]? = some v → (d, v) ∈ t.vals
theorem Kept.rp {K : PySem.W.Frag} {A : Addr → Prop} : ∀ {acc : List D} {avs : List V}, Kept t acc avs → (∀ p ∈ t.vals, Rp K A H p.1 p.2) → RpL K A H acc avs
  | [], [], _, _ => .nil
  | [], _ :: _, k, _ => by cases k.1
  | _ :: _, [], k, _ => by cases k.1
  | d :: acc, v :: avs, k, h => .cons (h _ (k.2 0 d v rfl rfl)) (Kept.rp (acc := acc) (avs := avs) ⟨Nat.succ.inj k.1, fun j d v e1 e2 => k.2 (j + 1) d v e1 e2⟩ h)
theorem Kept.mono {t2 : Tm} {acc : List D} {avs : List V} (k : Kept t acc avs) (s : Sub t t2) : Kept t2 acc avs := ⟨k.1, fun j d v e1 e2 => s _ (k.2 j d v e1 e2)⟩
theorem Kept.snoc {acc : List D} {avs : List V} {d : D} {v : V} {hl : List (Addr × HO)} (k : Kept t acc avs) : Kept ⟨(d, v) :: t.vals, hl⟩ (acc ++ [d]) (avs ++ [v]) := by
  refine ⟨by rw [List.length_append, List.length_append, k.1]; rfl, fun j d' v' e1 e2 => ?_⟩
  by_cases h : j < acc.length
  · rw [List.getElem?_append_left h] at e1
    rw [List.getElem?_append_left (by rw [← k.1]; exact h)] at e2
    exact List.mem_cons_of_mem _ (k.2 j d' v' e1 e2)
  · have hj : j = acc.length := by
      have := (List.getElem?_eq_some_iff.mp e1).1
      rw [List.length_append] at this
      have : ([d] : List D).length = 1 := rfl
      omega
    subst hj
    rw [List.getElem?_append_right (Nat.le_refl _), Nat.sub_self] at e1
    rw [k.1, List.getElem?_append_right (Nat.le_refl _), Nat.sub_self] at e2
    cases e1; cases e2
    exact List.mem_cons_self
theorem sfl_lc {wi : TI} {di : DI} {g : TG} {dg : DG} {is vs : List Nat} (hi : SI c wi di) (hg : SG c is g dg) (ht : ST c tt dt) (he : SV c ta da) (hv' : (vs.all fun v => !c.own v) = true) (hs' : (is.all fun j => vs.contains j) = true) :
    SFL c (tLc wi g tt ta vs) (dLc di dg dt da vs) := fun t σ H ρ P Q h q k => by
  have hv : ∀ v ∈ vs, c.own v = false := fun v m => by simpa using List.all_eq_true.mp hv' v m
  have hs : ∀ j ∈ is, j ∈ vs := fun j m => by simpa using List.all_eq_true.mp hs' j m
  refine hi t σ H ρ _ _ h q fun t' J items H1 ρ1 e0 sb h1 it q1 D hD => ?_
  obtain ⟨W, w0, turn, done⟩ := q1
  have nD : ¬ Far c t' σ D := h1.far hD
  refine ⟨fun i m H => m = items.length - i ∧ i ≤ items.length ∧ ∃ ρ acc avs t3, t3.hold = t'.hold ∧ Sub t' t3 ∧ Kept t3 acc avs ∧ EnvOk c (t3.add D (.lst avs)) σ H ρ ∧ W i acc ρ,
    ⟨items.length, by simp, Nat.zero_le _, ρ1, [], [], t', rfl, .refl t', ⟨rfl, fun j d v e _ => by simp at e⟩, h1.add hD, w0⟩, ?_⟩
  rintro i m H2 ⟨rfl, hi, ρ2, acc, avs, t3, e3, s3, k3, h2, w2⟩
  have nD3 : ¬ Far c t3 σ D := by rw [Far.hold e3]; exact nD
  obtain ⟨go, yld, stop⟩ := it (t3.add D (.lst avs)) σ H2 ρ2 s3 h2
  by_cases hlt : i < items.length
  · refine .inr ⟨go i hlt, fun H => ∃ ρ acc avs t3, t3.hold = t'.hold ∧ Sub t' t3 ∧ Kept t3 acc avs ∧ EnvOk c (t3.add D (.lst avs)) σ H ρ ∧ W (i + 1) acc ρ, fun H' z => ⟨items.length - (i + 1), by omega, rfl, hlt, z⟩, fun x H3 y => ?_⟩
    obtain ⟨d, e, h3, r3⟩ := yld i x H3 y hlt
    obtain ⟨t4, e4, s4, h4, f4⟩ := h3.pinAll vs hv
    obtain ⟨h5, f5⟩ := h4.wiped vs hv
    have r5 : Rp c.K (Far c t4 (wipe σ vs)) H3 d x := by rw [f5, Far.hold e4]; exact r3
    refine hg t4 (wipe σ vs) H3 (wipeD ρ2 vs) x d _ _ h5 r5 (turn i d acc ρ2 e w2) fun σ6 ρ6 h6 l6 a6 f6 q6 => ?_
    have out : ∀ j, j ∉ vs → σ6[j]? = σ[j]? := fun j hj => ((a6 j fun z => hj (hs j z)).1).trans (wipe_out hj)
    have len6 : σ6.length = σ.length := l6.trans (wipe_length σ vs)
    refine ⟨wipe_eq len6 out, ht t4 σ6 H3 ρ6 _ _ h6 q6 fun b H7 ρ7 h7 q7 => ?_⟩
    -- back to the slots as they were
    have home : ∀ {H8 : Hp} {ρ8 : Env}, EnvOk c t4 σ6 H8 ρ8 → EnvOk c (t3.add D (.lst avs)) σ H8 (backD vs ρ2 ρ8) := fun {H8 ρ8} h8 => by
      obtain ⟨h9, f9⟩ := h8.backed (ρ := ρ2) (σ := σ) vs hv fun v hv' d' e' => f4 t4 σ6 H8 ρ8 (.refl _) h8 v hv' d' e'
      rw [backS_eq len6 out] at h9
      exact h9.sub s4 e4
    cases b with
    | false => exact (if_neg (fun z => by cases z)).mpr ⟨_, acc, avs, t3, e3, s3, k3, home h7, q7⟩
    | true =>
      refine (if_pos rfl).mpr (he t4 σ6 H7 ρ7 _ _ h7 q7 fun y dy H8 ρ8 h8 r8 q8 => ?_)
      have h9 := home h8
      have hD8 : H8 D = some (.lst avs) := (h9.th (D, .lst avs) List.mem_cons_self).1
      have ff : Far c t4 σ6 = Far c (t3.add D (.lst avs)) σ := by rw [f6, f5, Far.hold e4]
      rw [ff] at r8
      refine ⟨avs, hD8, by rw [← k3.1]; exact q8.1, _, acc ++ [dy], avs ++ [y], ⟨(dy, y) :: t3.vals, t3.hold⟩, e3, s3.cons, k3.snoc, ?_, q8.2⟩
      have h10 := EnvOk.pin (t := t3.add D (.lst avs)) h9 r8
      exact EnvOk.chg (t := ⟨(dy, y) :: t3.vals, t3.hold⟩) (p := D) (o := .lst avs) (o' := .lst (avs ++ [y])) h10 nD3
  · have e : i = items.length := by omega
    subst e
    refine .inl ⟨stop, ?_⟩
    have nDt : ¬ Far c t σ D := by rw [← Far.hold e0]; exact nD
    have h8 : EnvOk c (t.add D (.lst avs)) σ H2 ρ2 := EnvOk.sub (t := t.add D (.lst avs)) h2 (fun p hp => s3 p (sb p hp)) (by show (D, HO.lst avs) :: t3.hold = (D, HO.lst avs) :: t.hold; rw [e3, e0])
    have ra : RpL c.K (Far c (t3.add D (.lst avs)) σ) H2 acc avs := k3.rp fun p hp => h2.tv p hp
    refine k D avs acc H2 ρ2 nDt h8 ?_ (done acc ρ2 w2)
    have ff : Far c (t3.add D (.lst avs)) σ = Far c (t.add D (.lst avs)) σ := Far.hold (by show (D, HO.lst avs) :: t3.hold = (D, HO.lst avs) :: t.hold; rw [e3, e0])
    rw [ff] at ra
    exact ra
end
end PD

end
section
set_option Elab.async false
set_option linter.all false
set_option maxRecDepth 100000
namespace PD
open PySem PySem.Spec PyProof.Rows L2 RZ

/-! ### what a def promises over data -/
abbrev FP := List D → (D → Prop) → (Ex → Prop) → Prop
abbrev FB := List D → (D → D → Prop) → (Ex → Prop) → Prop
/-- a def of n parameters that changes nothing -/
def spP (K : PySem.W.Frag) (cl : Ex → Addr) (T : List (Addr × Str)) (n : Nat) (F : FP) : Sp := fun vs H Q E => ∃ (z : Addr → Prop) (args : List D) (P : D → Prop) (W : Ex → Prop), args.length = n ∧ LamX.Tabs T H ∧ (∀ a, z a → ∃ o, H a = some o ∧ Pn o) ∧ RpL K z H args vs ∧ F args P W ∧
  (∀ v d H', Gr T H H' → Rp K z H' d v → P d → Q v H') ∧ ∀ x H', Gr T H H' → W x → E (.ref (cl x)) none H'
/-- .. whose first argument is an object that it changes -/
def spB (K : PySem.W.Frag) (cl : Ex → Addr) (T : List (Addr × Str)) (n : Nat) (F : FB) : Sp := fun vs H Q E => ∃ (z : Addr → Prop) (b : Addr) (bx : D) (args : List D) (ws : List V) (P : D → D → Prop) (W : Ex → Prop), vs = .ref b :: ws ∧ args.length + 1 = n ∧ z b ∧ LamX.Tabs T H ∧ (∀ a, z a → ∃ o, H a = some o ∧ Pn o) ∧
  OwnAt K z H b bx ∧ RpL K z H args ws ∧ F (bx :: args) P W ∧
  (∀ v d bx' H', (∀ a o, H a = some o → Pn o → a ≠ b → H' a = some o) → LamX.Tabs T H' → Rp K z H' d v → OwnAt K z H' b bx' → P d bx' → Q v H') ∧ ∀ x H', (∀ a o, H a = some o → Pn o → a ≠ b → H' a = some o) → LamX.Tabs T H' → W x → E (.ref (cl x)) none H'

section
variable {c : C0} {t : Tm} {σ : L2.St} {H H' : Hp} {ρ : Env}
variable {te ta tb tc : TE} {de da db dc : DE}
/-- behind a call that has changed l, the object of the slot j -/
theorem EnvOk.boxed {j : Nat} {l : Addr} {d d' : D} (h : EnvOk c t σ H ρ) (hj : c.own j = true) (hd : ρ[j]? = some (some d)) (hl : σ[j]? = some (some (.ref l)))
    (fr : ∀ a o, H a = some o → Pn o → a ≠ l → H' a = some o) (tb : LamX.Tabs c.T H') (new : OwnAt c.K (Far c t σ) H' l d') : EnvOk c t σ H' (ρ.set j (some d')) := by
  have fl : Far c t σ l := .inr (.inr ⟨j, hj, hl⟩)
  have keep : ∀ a o', ¬ Far c t σ a → H a = some o' → Pn o' → ¬ Far c t σ a ∧ H' a = some o' := fun a o' na e pn => ⟨na, fr a o' e pn fun z => na (by rw [z]; exact fl)⟩
  have hlen : j < ρ.length := (List.getElem?_eq_some_iff.mp hd).1
  obtain ⟨l', e1, x, bz⟩ := h.ownv j d hd hj
  rw [hl] at e1; cases e1
  refine ⟨by rw [List.length_set]; exact h.len, fun a o' e pn n => ?_, tb, fun a f => ?_, fun i di e n => ?_, fun i di e n => ?_, fun i n e => ?_, h.dist, h.bx, fun p hp => (h.tv p hp).move keep, fun p hp => ?_⟩
  · have hne : a ≠ l := fun z => by
      subst z
      rcases bz with z | z
      · exact n z
      · exact z o' e pn
    exact fr a o' (h.frame a o' e pn n) pn hne
  · by_cases z : a = l
    · subst z; exact new.there
    · obtain ⟨o', e, pn⟩ := h.trk a f
      exact ⟨o', fr a o' e pn z, pn⟩
  · have hij : j ≠ i := fun z => by subst z; rw [hj] at n; cases n
    rw [List.getElem?_set_ne hij] at e
    obtain ⟨v, e1, r⟩ := h.val i di e n
    exact ⟨v, e1, r.move keep⟩
  · by_cases hij : j = i
    · subst hij
      rw [List.getElem?_set_self hlen] at e
      cases e
      exact ⟨l, hl, new, bz⟩
    · rw [List.getElem?_set_ne hij] at e
      obtain ⟨l2, e1, x2, z2⟩ := h.ownv i di e n
      have hne : l2 ≠ l := fun z => by subst z; exact hij (h.dist j i _ hj n hl e1)
      exact ⟨l2, e1, x2.move (fun o' q pn => fr _ _ q pn hne) keep, z2⟩
  · by_cases hij : j = i
    · subst hij
      rw [List.getElem?_set_self hlen] at e; cases e
    · rw [List.getElem?_set_ne hij] at e
      exact h.ownn i n e
  · obtain ⟨a, b, e, pn⟩ := h.th p hp
    have hne : p.1 ≠ l := fun z => b j hj (by rw [z]; exact hl)
    exact ⟨fr _ _ a pn hne, b, e, pn⟩

/-- E takes the errors of W -/
def TakesE (c : C0) (E : L2.XK) (W : Ex → Prop) : Prop := ∀ x H', (∀ a o, c.h0 a = some o → Pn o → c.box ≠ some a → H' a = some o) → LamX.Tabs c.T H' → W x → E (.ref (c.cl x)) none H'
theorem takes_no : TakesE c E0 (fun _ => False) := fun _ _ _ _ w => w.elim
def noX : Ex → Prop := fun _ => False
theorem takes_noX : TakesE c E0 noX := fun _ _ _ _ w => w.elim
def dCall (F : FP) (W : Ex → Prop) (a : DA) : DE := fun ρ P => a ρ fun ds ρ1 => F ds (fun d => P d ρ1) W
theorem sv_call {F : FP} {n : Nat} {E : L2.XK} {W : Ex → Prop} {ta : TA} {da : DA} (he : TakesE c E W) (ha : SA c n ta da) : SV c (tCall (spP c.K c.cl c.T n F) [] E ta) (dCall F W da) := fun t σ H ρ P Q h q k =>
  ha t σ H ρ _ _ h q fun vs ds H1 ρ1 h1 r1 n1 q1 => by
    rw [List.append_nil]
    refine ⟨Far c t σ, ds, _, W, by rw [r1.length]; exact n1, h1.tabs, h1.trk, r1, q1, fun v d H2 g r2 p2 => k v d H2 ρ1 (h1.grow g) r2 p2, fun x H2 g w => he x H2 (fun a o e pn nb => g.1 a o (h1.frame a o e pn nb) pn) (g.2 h1.tabs) w⟩
theorem sv_call0 {F : FP} {E : L2.XK} {W : Ex → Prop} (he : TakesE c E W) : SV c (tCall (spP c.K c.cl c.T 0 F) [] E tNil) (dCall F W dNil) := sv_call he sa_nil
/-- .. with a slot's object -/
def dCallB (F : FB) (W : Ex → Prop) (j : Nat) (a : DA) : DE := fun ρ P => match ρ[j]? with
  | some (some _) => a ρ fun ds ρ1 => match ρ1[j]? with
    | some (some bx) => F (bx :: ds) (fun d bx' => P d (ρ1.set j (some bx'))) W
    | _ => False
  | _ => False
theorem sv_callB {F : FB} {n : Nat} {E : L2.XK} {W : Ex → Prop} {ta : TA} {da : DA} (j : Nat) (hj : c.own j = true) (he : TakesE c E W) (ha : SA c n ta da) : SV c (tCall (spB c.K c.cl c.T (n + 1) F) [] E (tCons (tVar j) ta)) (dCallB F W j da) := fun t σ H ρ P Q h q k => by
  unfold dCallB at q
  split at q
  · rename_i d0 hd0
    obtain ⟨l, e0, x0, bz⟩ := h.ownv j _ hd0 hj
    refine ⟨_, e0, ha t σ H ρ _ _ h q fun vs ds H1 ρ1 h1 r1 n1 q1 => ?_⟩
    show spB c.K c.cl c.T (n + 1) F ((V.ref l :: vs) ++ []) H1 Q E
    rw [List.append_nil]
    have q1 : (match ρ1[j]? with
      | some (some bx) => F (bx :: ds) (fun d bx' => P d (ρ1.set j (some bx'))) W
      | _ => False) := q1
    split at q1
    · rename_i bx hbx
      obtain ⟨l1, e1, x1, bz1⟩ := h1.ownv j _ hbx hj
      rw [e0] at e1; cases e1
      refine ⟨Far c t σ, l, bx, ds, vs, _, W, rfl, by rw [r1.length, n1], .inr (.inr ⟨j, hj, e0⟩), h1.tabs, h1.trk, x1, r1, q1, fun v d bx' H2 fr tb r2 o2 p2 => k v d H2 _ (h1.boxed hj hbx e0 fr tb o2) r2 p2, fun x H2 fr tb w => he x H2 (fun a o e pn nb => ?_) tb w⟩
      refine fr a o (h1.frame a o e pn nb) pn fun z => ?_
      subst z
      rcases bz1 with z | z
      · exact nb z
      · exact z o e pn
    · exact False.elim q1
  · exact False.elim q
end

/-! ### defs -/
def startD (n : Nat) (args : List D) : Env := args.map some ++ List.replicate (n - args.length) none
section
variable {P : Program} {w : World} {K : PySem.W.Frag} {mg : Str → Option Value} {base : Heap} {cl : Ex → Addr} {T : List (Addr × Str)}
variable {x qual : Str} {st : Stmt} {f : Addr} {fd : FuncData} {N ps : List Str} {k : Nat}
theorem start_get {A : Addr → Prop} {H : Hp} {args : List D} {vs : List V} {i : Nat} {d : D} (r : RpL K A H args vs) (e : (startD N.length args)[i]? = some (some d)) : i < args.length ∧ ∃ v, (L2.start N vs)[i]? = some (some v) ∧ Rp K A H d v := by
  unfold startD at e
  by_cases h : i < args.length
  · rw [List.getElem?_append_left (by rw [List.length_map]; exact h), List.getElem?_map] at e
    cases e1 : args[i]? with
    | none => rw [e1] at e; cases e
    | some d1 =>
      rw [e1] at e
      cases e
      obtain ⟨v, e2, r2⟩ := r.got e1
      refine ⟨h, v, ?_, r2⟩
      unfold L2.start
      rw [List.getElem?_append_left (by rw [List.length_map, ← r.length]; exact h), List.getElem?_map, e2]; rfl
  · rw [List.getElem?_append_right (by rw [List.length_map]; omega)] at e
    have := List.eq_of_mem_replicate (List.mem_of_getElem? e)
    cases this
theorem start_len {n : Nat} {args : List D} {vs : List V} (h : args.length = vs.length) : (L2.start N vs).length = (startD N.length args).length := by
  unfold L2.start startD
  rw [List.length_append, List.length_append, List.length_map, List.length_map, List.length_replicate, List.length_replicate, h]
theorem start_none {args : List D} {vs : List V} {i : Nat} (h : args.length = vs.length) (hi : args.length ≤ i) (e : (startD N.length args)[i]? = some none) : (L2.start N vs)[i]? = some none := by
  have hl : i < (startD N.length args).length := (List.getElem?_eq_some_iff.mp e).1
  unfold startD at hl
  rw [List.length_append, List.length_map, List.length_replicate] at hl
  unfold L2.start
  rw [List.getElem?_append_right (by rw [List.length_map, ← h]; exact hi), List.length_map, List.getElem?_replicate, if_pos (by rw [← h]; omega)]
theorem start_some {vs : List V} {i : Nat} {v : V} (e : (L2.start N vs)[i]? = some (some v)) : i < vs.length := by
  unfold L2.start at e
  by_cases h : i < vs.length
  · exact h
  · rw [List.getElem?_append_right (by rw [List.length_map]; omega)] at e
    have := List.eq_of_mem_replicate (List.mem_of_getElem? e)
    cases this
theorem Fun.okN {sp : Sp} (F : Fun K x qual st f fd) (S : FnScope N ps (defScope st)) (len : ∀ vs H Q E, sp vs H Q E → vs.length = ps.length)
    (hbody : ∀ (cdv : Value) (A : Around) (outer : List PySem.Env) (s : Shared) (H : Hp) (vs : List V) (Q : VK) (E : XK), Room k (A.deeper (envOfC qual (defScope st) s.heap.objs.size f cdv)) → sp vs H Q E →
      ∃ t, PSs (cxOf (L2N.CX P w) P w K mg base N qual (defScope st) f cdv A outer s H E) (defBody st) t ∧ t { nx := fun _ H' => Q .non H', rt := Q } (L2.start N vs) H) : FnOk P w K mg base (L2N.CX P w) (k + 1) f fd ps sp := by
  obtain ⟨oc, od, kV, doc, pm, an, cdv, ct, osl, rfl, lk, hcd⟩ := F.ex
  exact fn_of lk hcd S len fun A outer s H vs Q E hr hsp => hbody cdv A outer s H vs Q E hr hsp
/-- what a def gives back -/
def retD (ρ : Env) (d : D) : D := deref ρ d
theorem pure_len {Fs : FP} {n : Nat} {vs : List V} {H : Hp} {Q : VK} {E : L2.XK} (h : spP K cl T n Fs vs H Q E) : vs.length = n := by
  obtain ⟨z, args, P, W, hl, _, hz, r, _⟩ := h
  rw [← r.length]; exact hl
theorem pure_run (own : Nat → Bool) (hown : ∀ i, i < ps.length → own i = false) {Fs : FP} {ds : (Ex → Prop) → DS} {ts : TS} {E : L2.XK} {vs : List V} {H : Hp} {Q : VK}
    (hs : ∀ z h0 dw, TakesE ⟨K, z, none, h0, own, E, dw, cl, T⟩ E dw → SS ⟨K, z, none, h0, own, E, dw, cl, T⟩ ts (ds dw))
    (spec : ∀ args P W, args.length = ps.length → Fs args P W → ds W ⟨fun _ => P .non, fun d ρ => P (retD ρ d), fun _ => False, fun _ => False⟩ (startD N.length args))
    (h : spP K cl T ps.length Fs vs H Q E) : ts { nx := fun _ H' => Q .non H', rt := Q } (L2.start N vs) H := by
    obtain ⟨z, args, P', W, hl, ht, hz, r, hF, hQ, hE⟩ := h
    have nown : ∀ i, i < ps.length → own i = true → False := fun i h e => by rw [hown i h] at e; cases e
    have far0 : ∀ a, Far ⟨K, z, none, H, own, E, W, cl, T⟩ ⟨[], []⟩ (L2.start N vs) a ↔ z a := fun a => by
      constructor
      · rintro (f | ⟨o, f⟩ | ⟨i, hi, e⟩)
        · exact f
        · cases f
        · have := start_some e
          rw [← r.length, hl] at this
          exact (nown i this hi).elim
      · exact .inl
    have farE : Far ⟨K, z, none, H, own, E, W, cl, T⟩ ⟨[], []⟩ (L2.start N vs) = z := funext fun a => propext (far0 a)
    have env : EnvOk ⟨K, z, none, H, own, E, W, cl, T⟩ ⟨[], []⟩ (L2.start N vs) H (startD N.length args) := by
      refine ⟨start_len (n := 0) r.length, fun a o e _ _ => e, ht, fun a f => hz a ((far0 a).mp f), fun i d e hi => ?_, fun i d e hi => ?_, fun i hi e => ?_, fun i j l hi _ e _ => ?_, fun b e => (nomatch e), fun p hp => (nomatch hp), fun p hp => (nomatch hp)⟩
      · rw [farE]
        exact (start_get r e).2
      · have := (start_get r e).1
        rw [hl] at this
        exact (nown i this hi).elim
      · refine start_none r.length (Nat.le_of_not_lt fun h => ?_) e
        rw [hl] at h
        exact (nown i h hi).elim
      · have := start_some e
        rw [← r.length, hl] at this
        exact (nown i this hi).elim
    refine hs z H W (fun x H' g tb w => hE x H' ⟨fun a o e pn => g a o e pn (fun z => nomatch z), fun _ => tb⟩ w) ⟨[], []⟩ _ H _ _ _ env (spec args P' W hl hF) (fun σ' H' ρ' h' p => hQ .non .non H' ⟨fun a o e pn => h'.frame a o e pn (fun z => nomatch z), fun _ => h'.tabs⟩ .non p) (fun v d σ' H' ρ' h' r' p => ?_) (fun _ _ _ _ z => z.elim) (fun _ _ _ _ z => z.elim)
    have g : Gr T H H' := ⟨fun a o e pn => h'.frame a o e pn (fun z => nomatch z), fun _ => h'.tabs⟩
    have toZ : ∀ a o, ¬ Far ⟨K, z, none, H, own, E, W, cl, T⟩ ⟨[], []⟩ σ' a → H' a = some o → Pn o → ¬ z a ∧ H' a = some o := fun a o na e _ => ⟨fun f => na (.inl f), e⟩
    rcases r' with r' | ⟨i, rfl, hi, e⟩
    · have ed : retD ρ' d = d := by
        cases d with
        | own i => cases r'
        | _ => rfl
      have p : P' (retD ρ' d) := p
      rw [ed] at p
      exact hQ v d H' g (r'.move toZ) p
    · cases hd : ρ'[i]? with
      | none =>
        have l1 := List.getElem?_eq_none_iff.mp hd
        have l2 := (List.getElem?_eq_some_iff.mp e).1
        have := h'.len
        omega
      | some o => cases o with
        | none =>
          have := h'.ownn i hi hd
          rw [e] at this; cases this
        | some d =>
          have ed : retD ρ' (.own i) = d := by unfold retD deref; simp only [hd]
          have p : P' (retD ρ' (.own i)) := p
          rw [ed] at p
          obtain ⟨l, e1, ⟨o, ho, x⟩, bz⟩ := h'.ownv i d hd hi
          rw [e] at e1; cases e1
          have h0 : ∀ o, H l = some o → Pn o → False := bz.resolve_left (fun z => nomatch z)
          have nz : ¬ z l := fun f => by
            obtain ⟨o, eo, pn⟩ := hz l f
            exact h0 o eo pn
          cases d with
          | lst xs =>
            obtain ⟨vs', rfl, rs⟩ := x
            exact hQ _ _ H' g (.lst nz ho (rs.move toZ)) p
          | dct ks xs =>
            obtain ⟨vs', rfl, le, rs⟩ := x
            exact hQ _ _ H' g (.dct nz ho le (rs.move toZ)) p
          | _ => exact False.elim x

theorem fn_pure (F : Fun K x qual st f fd) (S : FnScope N ps (defScope st)) (own : Nat → Bool) (hown : ∀ i, i < ps.length → own i = false) {Fs : FP} (ds : (Ex → Prop) → DS)
    (body : ∀ (cdv : Value) (A : Around) (outer : List PySem.Env) (s : Shared) (H : Hp) (E : L2.XK), Room k (A.deeper (envOfC qual (defScope st) s.heap.objs.size f cdv)) →
      ∃ ts, PSs (cxOf (L2N.CX P w) P w K mg base N qual (defScope st) f cdv A outer s H E) (defBody st) ts ∧ ∀ z h0 dw, TakesE ⟨K, z, none, h0, own, E, dw, cl, T⟩ E dw → SS ⟨K, z, none, h0, own, E, dw, cl, T⟩ ts (ds dw))
    (spec : ∀ args P W, args.length = ps.length → Fs args P W → ds W ⟨fun _ => P .non, fun d ρ => P (retD ρ d), fun _ => False, fun _ => False⟩ (startD N.length args)) :
    FnOk P w K mg base (L2N.CX P w) (k + 1) f fd ps (spP K cl T ps.length Fs) := by
  exact Fun.okN F S (fun vs H Q E h => pure_len h) (fun cdv A outer s H vs Q E hr h => by
    obtain ⟨ts, hts, hs⟩ := body cdv A outer s H E hr
    exact ⟨ts, hts, pure_run own hown hs spec h⟩)

/-- .. whose first argument is changed -/
theorem box_len {Fs : FB} {n : Nat} {vs : List V} {H : Hp} {Q : VK} {E : L2.XK} (h : spB K cl T n Fs vs H Q E) : vs.length = n := by
  obtain ⟨z, b, bx, args, ws, P, W, rfl, hl, hz, _, hz2, ob, r, _⟩ := h
  rw [List.length_cons, ← r.length]; exact hl
theorem box_run (own : Nat → Bool) (hown : ∀ i, i < ps.length → own i = (i == 0)) (h0 : 0 < ps.length) {Fs : FB} {ds : (Ex → Prop) → DS} {ts : TS} {E : L2.XK} {vs : List V} {H : Hp} {Q : VK}
    (hs : ∀ z b h0 dw, TakesE ⟨K, z, some b, h0, own, E, dw, cl, T⟩ E dw → SS ⟨K, z, some b, h0, own, E, dw, cl, T⟩ ts (ds dw))
    (spec : ∀ bx args P W, args.length + 1 = ps.length → Fs (bx :: args) P W → ds W ⟨fun ρ => ∃ b, ρ[0]? = some (some b) ∧ P .non b, fun d ρ => ∃ b, ρ[0]? = some (some b) ∧ NotOwn d ∧ P d b, fun _ => False, fun _ => False⟩ (startD N.length (bx :: args)))
    (h : spB K cl T ps.length Fs vs H Q E) : ts { nx := fun _ H' => Q .non H', rt := Q } (L2.start N vs) H := by
    obtain ⟨z, b, bx, args, ws, P', W, rfl, hl, hzb, ht, hz, ob, r, hF, hQ, hE⟩ := h
    have own0 : own 0 = true := hown 0 h0
    have ownS : ∀ i, 0 < i → i < ps.length → own i = false := fun i h1 h2 => by
      rw [hown i h2]
      cases i with
      | zero => exact absurd h1 (Nat.lt_irrefl _)
      | succ i => rfl
    have nownS : ∀ i, 0 < i → i < ps.length → own i = true → False := fun i h1 h2 e => by rw [ownS i h1 h2] at e; cases e
    have hlen : (bx :: args).length = (V.ref b :: ws).length := by rw [List.length_cons, List.length_cons, r.length]
    have s0 : (L2.start N (V.ref b :: ws))[0]? = some (some (.ref b)) := rfl
    have d0 : (startD N.length (bx :: args))[0]? = some (some bx) := rfl
    have own_only : ∀ i v, own i = true → (L2.start N (V.ref b :: ws))[i]? = some (some v) → i = 0 := fun i v hi e => by
      have := start_some e
      rw [← hlen, List.length_cons, hl] at this
      by_cases z : 0 < i
      · rw [ownS i z this] at hi; cases hi
      · omega
    have far0 : ∀ a, Far ⟨K, z, some b, H, own, E, W, cl, T⟩ ⟨[], []⟩ (L2.start N (V.ref b :: ws)) a ↔ z a := fun a => by
      constructor
      · rintro (f | ⟨o, f⟩ | ⟨i, hi, e⟩)
        · exact f
        · cases f
        · have := own_only i _ hi e
          subst this
          rw [s0] at e; cases e
          exact hzb
      · exact .inl
    have farE : Far ⟨K, z, some b, H, own, E, W, cl, T⟩ ⟨[], []⟩ (L2.start N (V.ref b :: ws)) = z := funext fun a => propext (far0 a)
    -- the arguments behind the first
    have argS : ∀ i d, (startD N.length (bx :: args))[i + 1]? = some (some d) → i < args.length ∧ ∃ v, (L2.start N (V.ref b :: ws))[i + 1]? = some (some v) ∧ Rp K z H d v := fun i d e => by
      unfold startD at e
      have e : (args.map some ++ List.replicate (N.length - (bx :: args).length) none)[i]? = some (some d) := e
      by_cases h : i < args.length
      · rw [List.getElem?_append_left (by rw [List.length_map]; exact h), List.getElem?_map] at e
        cases e1 : args[i]? with
        | none => rw [e1] at e; cases e
        | some d1 =>
          rw [e1] at e
          cases e
          obtain ⟨v, e2, r2⟩ := r.got e1
          refine ⟨h, v, ?_, r2⟩
          unfold L2.start
          show (ws.map some ++ List.replicate (N.length - (V.ref b :: ws).length) none)[i]? = some (some v)
          rw [List.getElem?_append_left (by rw [List.length_map, ← r.length]; exact h), List.getElem?_map, e2]; rfl
      · rw [List.getElem?_append_right (by rw [List.length_map]; omega)] at e
        have := List.eq_of_mem_replicate (List.mem_of_getElem? e)
        cases this
    have env : EnvOk ⟨K, z, some b, H, own, E, W, cl, T⟩ ⟨[], []⟩ (L2.start N (V.ref b :: ws)) H (startD N.length (bx :: args)) := by
      refine ⟨start_len (n := 0) hlen, fun a o e _ _ => e, ht, fun a f => hz a ((far0 a).mp f), fun i d e hi => ?_, fun i d e hi => ?_, fun i hi e => ?_, fun i j l hi hj e1 e2 => (own_only i _ hi e1).trans (own_only j _ hj e2).symm, fun b' e => ?_, fun p hp => (nomatch hp), fun p hp => (nomatch hp)⟩
      · rw [farE]
        cases i with
        | zero => exact absurd (own0.symm.trans hi) (by decide)
        | succ i => exact (argS i d e).2
      · rw [farE]
        cases i with
        | zero =>
          rw [d0] at e; cases e
          exact ⟨b, s0, ob, .inl rfl⟩
        | succ i =>
          have := (argS i d e).1
          exact (nownS (i + 1) (Nat.succ_pos _) (by omega) hi).elim
      · cases i with
        | zero => rw [d0] at e; cases e
        | succ i =>
          refine start_none hlen (Nat.le_of_not_lt fun h => ?_) e
          rw [List.length_cons] at h
          exact (nownS (i + 1) (Nat.succ_pos _) (by omega) hi).elim
      · cases e
        exact ⟨own0, s0⟩
    have fin : ∀ (σ' : L2.St) (H' : Hp) (ρ' : Env) (d : D) (v : V) (bx' : D), EnvOk ⟨K, z, some b, H, own, E, W, cl, T⟩ ⟨[], []⟩ σ' H' ρ' → ρ'[0]? = some (some bx') → Rp K z H' d v → P' d bx' → Q v H' := fun σ' H' ρ' d v bx' h' e0 r' p => by
      obtain ⟨l, e1, x1, _⟩ := h'.ownv 0 bx' e0 own0
      obtain ⟨_, e2⟩ := h'.bx b rfl
      rw [e1] at e2; cases e2
      have toZ : ∀ a o, ¬ Far ⟨K, z, some b, H, own, E, W, cl, T⟩ ⟨[], []⟩ σ' a → H' a = some o → Pn o → ¬ z a ∧ H' a = some o := fun a o na e _ => ⟨fun f => na (.inl f), e⟩
      exact hQ v d bx' H' (fun a o e pn n => h'.frame a o e pn fun z => n (Option.some.inj z).symm) h'.tabs r' (x1.move (fun _ q _ => q) toZ) p
    refine hs z b H W (fun x H' g tb w => hE x H' (fun a o e pn n => g a o e pn fun z => n (Option.some.inj z).symm) tb w) ⟨[], []⟩ _ H _ _ _ env (spec bx args P' W hl hF) (fun σ' H' ρ' h' ⟨b', e0, p⟩ => fin σ' H' ρ' .non .non b' h' e0 .non p) (fun v d σ' H' ρ' h' r' p => ?_) (fun _ _ _ _ z => z.elim) (fun _ _ _ _ z => z.elim)
    obtain ⟨b', e0, nd, p⟩ := p
    have r2 := r'.rp nd
    exact fin σ' H' ρ' d v b' h' e0 (r2.move fun a o na e _ => ⟨fun f => na (.inl f), e⟩) p
theorem fn_box (F : Fun K x qual st f fd) (S : FnScope N ps (defScope st)) (own : Nat → Bool) (hown : ∀ i, i < ps.length → own i = (i == 0)) (h0 : 0 < ps.length) {Fs : FB} (ds : (Ex → Prop) → DS)
    (body : ∀ (cdv : Value) (A : Around) (outer : List PySem.Env) (s : Shared) (H : Hp) (E : L2.XK), Room k (A.deeper (envOfC qual (defScope st) s.heap.objs.size f cdv)) →
      ∃ ts, PSs (cxOf (L2N.CX P w) P w K mg base N qual (defScope st) f cdv A outer s H E) (defBody st) ts ∧ ∀ z b h0 dw, TakesE ⟨K, z, some b, h0, own, E, dw, cl, T⟩ E dw → SS ⟨K, z, some b, h0, own, E, dw, cl, T⟩ ts (ds dw))
    (spec : ∀ bx args P W, args.length + 1 = ps.length → Fs (bx :: args) P W → ds W ⟨fun ρ => ∃ b, ρ[0]? = some (some b) ∧ P .non b, fun d ρ => ∃ b, ρ[0]? = some (some b) ∧ NotOwn d ∧ P d b, fun _ => False, fun _ => False⟩ (startD N.length (bx :: args))) :
    FnOk P w K mg base (L2N.CX P w) (k + 1) f fd ps (spB K cl T ps.length Fs) := by
  exact Fun.okN F S (fun vs H Q E h => box_len h) (fun cdv A outer s H vs Q E hr h => by
    obtain ⟨ts, hts, hs⟩ := body cdv A outer s H E hr
    exact ⟨ts, hts, box_run own hown h0 hs spec h⟩)
end
end PD

end
section
set_option Elab.async false
set_option linter.all false
set_option maxRecDepth 100000
namespace PD
open PySem PySem.Spec PyProof.Rows L2 RZ

abbrev subP := i2' fun i j => D.int (i - j)
abbrev mulP := i2 MulOk fun i j => D.int (i * j)
abbrev divP := i2 DivOk fun i j => D.int (i / j)
abbrev divNP := i2 CDivN fun i j => D.int (i.fdiv j)
abbrev modP := i2 (fun _ j => 0 < j) fun i j => D.int (i % j)
abbrev shlP := i2 CPow fun i j => D.int (i * 2 ^ j.toNat)
abbrev powP := i2 CPow fun i j => D.int (i ^ j.toNat)
abbrev negP := u1 fun i => D.int (-i)
abbrev ltP := i2' fun i j => D.bl (decide (i < j))
abbrev leP := i2' fun i j => D.bl (decide (i ≤ j))
abbrev gtP := i2' fun i j => D.bl (decide (j < i))
abbrev geP := i2' fun i j => D.bl (decide (j ≤ i))
theorem units65 {k : Nat} {A : Around} (hr : Room k A) : A.units + 65 < cLine := by
  have := hr.un
  omega

section
variable {c : C0} {t : Tm} {σ : L2.St} {H H' : Hp} {ρ : Env}
variable {te ta tb tc : TE} {de da db dc : DE} {tt tu : TT} {dt du : DT} {ts tv : TS} {ds dv : DS}
theorem se_if (ht : ST c tt dt) (ha : SE c ta da) (hb : SE c tb db) : SE c (tIf tt ta tb) (dIf dt da db) := fun t σ H ρ P Q h q k =>
  ht t σ H ρ _ _ h q fun b H1 ρ1 h1 q1 => by
    cases b with
    | true => exact (if_pos rfl).mpr (ha t σ H1 ρ1 _ _ h1 q1 k)
    | false => exact (if_neg (fun z => by cases z)).mpr (hb t σ H1 ρ1 _ _ h1 q1 k)
/-- raise -/
def dRaise (W : Ex → Prop) (x : Ex) : DS := fun _ _ => W x
theorem ss_raise (x : Ex) {E : L2.XK} {W : Ex → Prop} (he : TakesE c E W) : SS c (fun _ σ H => E (.ref (c.cl x)) none H) (dRaise W x) := fun t σ H ρ De En h q n r b k => he x H h.frame h.tabs q
/-- n.bit_length() -/
def dBits (a : DE) : DE := fun ρ P => a ρ fun d ρ1 => match d with
  | .int i => P (.int (Builtin.Int.intBits i : Nat)) ρ1
  | _ => False
theorem sv_bits (ha : SV c ta da) : SV c (tBits ta) (dBits da) := fun t σ H ρ P Q h q k =>
  ha t σ H ρ _ _ h q fun v d H1 ρ1 h1 r1 q1 => by
    cases d with
    | int i => cases r1; exact ⟨i, rfl, k _ _ H1 ρ1 h1 (.int _) q1⟩
    | _ => exact False.elim q1
/-- is True, is False, of bools -/
def isBP (_ : Env) (x y : D) (k : D → Prop) : Prop := match x, y with
  | .bl a, .bl b => k (.bl (decide (a = b)))
  | _, _ => False
def notBP (_ : Env) (x y : D) (k : D → Prop) : Prop := match x, y with
  | .bl a, .bl b => k (.bl (!decide (a = b)))
  | _, _ => False
theorem sr_isB : SR2 c rIsB isBP := fun t σ H ρ x y dx dy P Q h rx ry q k => by
  cases dx with
  | bl a => cases dy with
    | bl b => exact ⟨a, b, rx.bl, ry.bl, k _ _ H h (.bl _) q⟩
    | _ => exact False.elim q
  | _ => exact False.elim q
theorem sr_notB : SR2 c rNotB notBP := fun t σ H ρ x y dx dy P Q h rx ry q k => by
  cases dx with
  | bl a => cases dy with
    | bl b => exact ⟨a, b, rx.bl, ry.bl, k _ _ H h (.bl _) q⟩
    | _ => exact False.elim q
  | _ => exact False.elim q
/-- in a tuple -/
def inTP (ρ : Env) (x y : D) (k : D → Prop) : Prop := match y with
  | .tup ys => okN 60 (deref ρ x) = true ∧ okNs 59 ys = true ∧ k (.bl (ys.any fun z => eqD z (deref ρ x)))
  | _ => False
def niTP (ρ : Env) (x y : D) (k : D → Prop) : Prop := match y with
  | .tup ys => okN 60 (deref ρ x) = true ∧ okNs 59 ys = true ∧ k (.bl (!ys.any fun z => eqD z (deref ρ x)))
  | _ => False
theorem sr_inT : SR2 c (rInT c.K) inTP := fun t σ H ρ x y dx dy P Q h rx ry q k => by
  cases dy with
  | tup ys =>
    obtain ⟨q1, o, q2⟩ := q
    obtain ⟨a, vs, rfl, _, ha, r⟩ := (ry.rp trivial).seqT
    have o2 : okN 60 (.tup ys) = true := by rw [okN]; exact o
    have e : toPy (.tup ys) = .tuple (toPys ys) := by rw [toPy]
    refine ⟨_, toPys ys, rx.dp h q1, .tup (.of ha) (r.dp o), okN_shaped (by decide) q1, by rw [← e]; exact okN_shaped (by decide) o2, ?_⟩
    rw [any_ds]
    exact k _ _ H h (.bl _) q2
  | _ => exact False.elim q
theorem sr_niT : SR2 c (rNotInT c.K) niTP := fun t σ H ρ x y dx dy P Q h rx ry q k => by
  cases dy with
  | tup ys =>
    obtain ⟨q1, o, q2⟩ := q
    obtain ⟨a, vs, rfl, _, ha, r⟩ := (ry.rp trivial).seqT
    have o2 : okN 60 (.tup ys) = true := by rw [okN]; exact o
    have e : toPy (.tup ys) = .tuple (toPys ys) := by rw [toPy]
    refine ⟨_, toPys ys, rx.dp h q1, .tup (.of ha) (r.dp o), okN_shaped (by decide) q1, by rw [← e]; exact okN_shaped (by decide) o2, ?_⟩
    rw [any_ds]
    exact k _ _ H h (.bl _) q2
  | _ => exact False.elim q

end
end PD
/-! the rules that name the written part, K by name -/
namespace L2
open PySem PySem.Spec PyProof.Rows RZ
section
variable {X : Cx} {K : PySem.W.Frag}
theorem op_add4K (h : X.K = K) : OpR X (binaryOp .Add) (PD.rAdd4 K) := h ▸ PD.op_add4
theorem op_eqDK (h : X.K = K) (hu : X.A.units + 64 < cLine) : OpR X (compareOp .Eq) (rEqD K) := h ▸ op_eqD hu
theorem op_neDK (h : X.K = K) (hu : X.A.units + 64 < cLine) : OpR X (compareOp .NotEq) (rNeD K) := h ▸ op_neD hu
theorem op_inDK (h : X.K = K) (hu : X.A.units + 65 < cLine) : OpR X (compareOp .In) (rInD K) := h ▸ op_inD hu
theorem op_notInDK (h : X.K = K) (hu : X.A.units + 65 < cLine) : OpR X (compareOp .NotIn) (rNotInD K) := h ▸ op_notInD hu
theorem op_inTK (h : X.K = K) (hu : X.A.units + 65 < cLine) : OpR X (compareOp .In) (PD.rInT K) := h ▸ PD.op_inT hu
theorem op_notInTK (h : X.K = K) (hu : X.A.units + 65 < cLine) : OpR X (compareOp .NotIn) (PD.rNotInT K) := h ▸ PD.op_notInT hu
theorem ix_seqK (h : X.K = K) : IxR X (rIx K) := h ▸ ix_seq
def rSl2 (K : PySem.W.Frag) : V → Option Int → Option Int → Hp → VK → Prop := fun x lo hi H Q => rSlA K x lo hi H Q ∨ rSlL K x lo hi H Q
theorem sl_K (h : X.K = K) : SlR X (rSl2 K) := h ▸ SlR.or sl_tupA sl_list
def rLenK (K : PySem.W.Frag) : List V → Hp → VK → Prop := fun xs H Q => ∃ p ys, xs = [.ref p] ∧ (SqL K H p ys ∨ SqT K H p ys) ∧ Q (.int ys.length) H
theorem call_lenK (h : X.K = K) : CallR X (.builtin "len") (rLenK K) := h ▸ call_len_seq
def rListK (K : PySem.W.Frag) : List V → Hp → VK → Prop := fun xs H Q => ∃ p ys, xs = [.ref p] ∧ (SqL K H p ys ∨ SqT K H p ys) ∧ ∀ l, H l = none → Q (.ref l) (upd H l (.lst ys))
theorem call_listK (h : X.K = K) : CallR X (.type "list") (rListK K) := h ▸ call_list_of
theorem cr_sumK (h : X.K = K) (hc : X.calm = true) : CallR X (.builtin "sum") (rSum K) := h ▸ cr_sum hc
theorem cr_allK (h : X.K = K) (hc : X.calm = true) : CallR X (.builtin "all") (rAll K) := h ▸ cr_all hc
theorem cr_anyK (h : X.K = K) (hc : X.calm = true) : CallR X (.builtin "any") (rAny K) := h ▸ cr_any hc
theorem call_isi_K (h : X.K = K) : CallR X (.builtin "isinstance") (rIsi K) := h ▸ call_isi
theorem pe_tupleK {a : Expr} {ta : TE} {p pos : Pos} (h : X.K = K) (hg : Gl X "tuple") (hm : X.mg "tuple" = none) (ha : PE X a ta) (na : starEach [a] X.env = (false, eval a X.env) :: starEach [] X.env := by rfl) :
    PE X (.Call (.Name "tuple" p) [a] [] pos) (tThen ta (kTup K)) := h ▸ pe_tupleOf hg hm ha na
theorem pi_seqK {tg l : Expr} {tl : TE} (h : X.K = K) (hl : PE X l tl) : PI X tg l (iSeq K tl) := h ▸ pi_seq hl
theorem pi_zipK {e e2 : Expr} {ta : TA} {p pos tpos : Pos} {elts : List Expr} {kk : Nat} (h : X.K = K) (hg : Gl X "zip") (hm : X.mg "zip" = none) (ha : PA X [e, e2] ta)
    (hs : starEach [e, e2] X.env = (false, eval e X.env) :: starEach [e2] X.env := by rfl) (hpl : (backTo pos (starEach [e2] X.env)).any (·.1) = false := by rfl) :
    PI X (.Tuple elts kk tpos) (.Call (.Name "zip" p) [e, e2] [] pos) (iZipA K ta) := h ▸ pi_zipA hg hm ha hs hpl
theorem pg_tupK {es : List Expr} {k : Nat} {t : TGs} {n : Nat} {pos : Pos} (h0 : X.K = K) (hc : X.calm = true) (h : PGs X es t)
    (hn : (assignEach es X.env).length = n := by rfl) (hst : (assignEach es X.env).findIdx? (·.1) = none := by rfl) : PG X (.Tuple es k pos) (gTup K n t) := h0 ▸ pg_tup hc h hn hst
theorem pe_appK {o e : Expr} {to te : TE} {apos cpos : Pos} (h : X.K = K) (ho : PE X o to) (he : PE X e te) (hbase : attributeBase o "append" X.env (eval o X.env) = eval o X.env := by rfl)
    (hfew : ((backTo cpos (starEach [e] X.env)).all (fun x => !x.1) && (backToKw cpos (keywordEach [] X.env)).all (fun x => x.1.isSome)
      && decide (([e] : List Expr).length + ([] : List Keyword).length + (if ([] : List Keyword).isEmpty then 0 else 1) < 30)) = true := by rfl)
    (hline : (apos.endLine == cpos.line) = true := by rfl) (hs : starEach [e] X.env = (false, eval e X.env) :: starEach [] X.env := by rfl) (hplain : (backTo cpos (starEach [] X.env)).any (·.1) = false := by rfl) :
    PE X (.Call (.Attribute o "append" apos) [e] [] cpos) (tBM K "list" rAppend to (tCons te tNil)) := by
  subst h
  exact pe_bm PySem.F.plainAttrs_list PySem.F.slot_list_append PySem.F.type_list_append mt_append ho (pa_cons he pa_nil hs) hbase hfew hline hs hplain
end
end L2
namespace PD
open PySem PySem.Spec PyProof.Rows L2 RZ
section
variable {c : C0} {ta : TE} {da : DE}
theorem sr_len : SRL c (rLenK c.K) lenP := sr_len0
theorem sr_list : SRL c (rListK c.K) listP := sr_list0
theorem sv_sl {tl th : TO} {dl dh : DO} (ha : SE c ta da) (hl : SO c tl dl) (hh : SO c th dh) : SV c (tSl (rSl2 c.K) ta tl th) (dSl da dl dh) := sv_sl0 ha hl hh
theorem sf_list (ha : SE c ta da) : SF c (tCB (rListK c.K) (tCons ta tNil)) (dCB listP (dCons da dNil)) := sf_list0 ha
end
end PD
namespace PD
open PySem PySem.Spec PyProof.Rows L2
theorem bt_len : bootBuiltins "len" = some (.builtin "len") := by decide +kernel
theorem bt_abs : bootBuiltins "abs" = some (.builtin "abs") := by decide +kernel
theorem bt_max : bootBuiltins "max" = some (.builtin "max") := by decide +kernel
theorem bt_min : bootBuiltins "min" = some (.builtin "min") := by decide +kernel
theorem bt_sum : bootBuiltins "sum" = some (.builtin "sum") := by decide +kernel
theorem bt_all : bootBuiltins "all" = some (.builtin "all") := by decide +kernel
theorem bt_any : bootBuiltins "any" = some (.builtin "any") := by decide +kernel
theorem bt_isinstance : bootBuiltins "isinstance" = some (.builtin "isinstance") := by decide +kernel
theorem bt_sorted : bootBuiltins "sorted" = some (.builtin "sorted") := by decide +kernel
theorem bt_repr : bootBuiltins "repr" = some (.builtin "repr") := by decide +kernel
theorem bt_int : bootBuiltins "int" = some (.type "int") := by decide +kernel
theorem bt_str : bootBuiltins "str" = some (.type "str") := by decide +kernel
theorem bt_bool : bootBuiltins "bool" = some (.type "bool") := by decide +kernel
theorem bt_list : bootBuiltins "list" = some (.type "list") := by decide +kernel
theorem bt_tuple : bootBuiltins "tuple" = some (.type "tuple") := by decide +kernel
theorem bt_set : bootBuiltins "set" = some (.type "set") := by decide +kernel
theorem bt_range : bootBuiltins "range" = some (.type "range") := by decide +kernel
theorem bt_zip : bootBuiltins "zip" = some (.type "zip") := by decide +kernel
theorem bt_enumerate : bootBuiltins "enumerate" = some (.type "enumerate") := by decide +kernel
end PD

end
section
set_option Elab.async false
set_option linter.all false
set_option maxRecDepth 100000
/-! sorted of a list or a tuple of alike data -/
namespace PD
open PySem PySem.Spec PyProof.Rows L2 RZ PySem.W

theorem each_of_vals {H : Hp} {h : Heap} : ∀ {bs : List (V × PyData)} {its : List Value}, Vals (bs.map (·.1)) its → EachIs (fun v b => RelV b.1 v) its bs
  | [], _, .nil => .nil
  | _ :: _, _, .cons a r => .cons a (each_of_vals (H := H) (h := h) r)
theorem vals_of_each : ∀ {bs : List (V × PyData)} {its : List Value}, EachIs (fun v b => RelV b.1 v) its bs → Vals (bs.map (·.1)) its
  | _, _, .nil => .nil
  | _, _, .cons a r => .cons a (vals_of_each r)
theorem each_reads {X : Cx} {pins : List (Addr × Obj)} {σ : L2.St} {H : Hp} {s : Shared} (I : Inv X pins σ H s) : ∀ {bs : List (V × PyData)} {its : List Value}, (∀ b ∈ bs, Dp X.K H b.1 b.2) → Vals (bs.map (·.1)) its → EachIs (fun v b => ∃ as, Reads s.heap v b.2 as) its bs
  | [], _, _, .nil => .nil
  | b :: bs, _, hd, .cons a r => .cons (Dp.reads I b.2 b.1 _ (hd b List.mem_cons_self) a) (each_reads I (fun c hc => hd c (List.mem_cons_of_mem _ hc)) r)

def rSortX (K : PySem.W.Frag) : List V → Hp → VK → Prop := fun vs H Q => ∃ (a : Addr) (bs : List (V × PyData)), vs = [V.ref a] ∧ (SqL K H a (bs.map (·.1)) ∨ SqT K H a (bs.map (·.1))) ∧ (∀ b ∈ bs, Dp K H b.1 b.2) ∧ AllAlike (bs.map (·.2)) ∧ Sortable (bs.map (·.2)) ∧ (∀ b ∈ bs, b.2.depth ≤ 60) ∧
  ∀ p, H p = none → Q (.ref p) (upd H p (.lst ((bs.mergeSort (dataLe false (·.2))).map (·.1))))
section
variable {X : Cx}
theorem sort_of_collected {pins : List (Addr × Obj)} {σ : L2.St} {H : Hp} {s : Shared} {a : Addr} {bs : List (V × PyData)} {Q : VK} (hu : X.A.units + 65 < cLine) (I : Inv X pins σ H s) (hc : ∀ (Q : List Value → Shared → Prop) (E : Value → Shared → Prop),
    (∀ h' (out : List Value), (∀ b o, s.heap.get? b = some o → h'.get? b = some o) → Vals (bs.map (·.1)) out → Q out { s with heap := h' }) → wpAny (model X.prog X.w) X.A.in1 (collect (.ref a)) Q E s)
    (hd : ∀ b ∈ bs, Dp X.K H b.1 b.2) (hal : AllAlike (bs.map (·.2))) (hk : Sortable (bs.map (·.2))) (hL : bs.length ≤ sizeLine) (hdp : ∀ b ∈ bs, b.2.depth ≤ 60)
    (q : ∀ p, H p = none → Q (.ref p) (upd H p (.lst ((bs.mergeSort (dataLe false (·.2))).map (·.1))))) :
    wpAny (model X.prog X.w) X.A (call (.builtin "sorted") [.ref a]) (EP X pins σ Q) X.xe s := by
  refine Calls.call_function_entry PyProof.Rows.kind_sorted PyProof.Rows.plain_sorted PyProof.Rows.entry_sorted (PyProof.Rows.args_sorted1 _) ?_
  unfold Builtin.«sorted»
  refine wpAny_bind (m := checkCount "sorted" 1 1 _) (wpAny_pure ?_)
  refine wpAny_bind (hc _ _ fun h' its hk' rv => ?_)
  have I1 : Inv X pins σ H { s with heap := h' } := I.kept (t' := s.toks) hk'
  have e : EachIs (fun v (b : V × PyData) => RelV b.1 v) its bs := each_of_vals (H := H) (h := h') rv
  have er := each_reads I1 hd rv
  have hl : its.length = bs.length := by rw [← rv.length, List.length_map]
  refine wpAny_bind (wpAny_newList ?_ (by rw [hl]; exact hL))
  have hoL : (h'.push (seqObj "list" its.toArray 0)).get? h'.objs.size = some (seqObj "list" its.toArray 0) := Heap.get?_push_size _ rfl
  show wpAny _ _ _ _ _ { s with heap := h'.push (seqObj "list" its.toArray 0) }
  have old : ∀ b o, h'.get? b = some o → (sortingHeap (h'.push (seqObj "list" its.toArray 0)) h'.objs.size its).get? b = some o := fun b o q =>
    sortingHeap_old (Nat.ne_of_lt (Heap.lt_size q)) (Heap.get?_push_of_some _ q)
  have er' : EachIs (fun v b => ∃ as, Reads (sortingHeap (h'.push (seqObj "list" its.toArray 0)) h'.objs.size its) v b.2 as) its bs := er.mono fun _ _ ⟨as, r⟩ => ⟨as, PyProof.Rows.Reads.keeps old r⟩
  refine wpAny_bind (wpAny_holding (wpAny_call_entry PyProof.Rows.slot_list_sort ⟨_, hoL, rfl⟩ PyProof.Rows.entry_list_sort
    (list_sort_vals (κ := dataKind (sortingHeap (h'.push (seqObj "list" its.toArray 0)) h'.objs.size its) (bs.map (·.2))) (s := { s with heap := h'.push (seqObj "list" its.toArray 0) }) hoL
      (SortsAt.data (s := { s with heap := sortingHeap (h'.push (seqObj "list" its.toArray 0)) h'.objs.size its }) (each_map (R := fun v d => ∃ as, Reads (sortingHeap (h'.push (seqObj "list" its.toArray 0)) h'.objs.size its) v d as) (fun b : V × PyData => b.2) er') hal hk (fun d hd' => ?_)) (by rw [hl]; exact hL) ⟨_, rfl, ?_⟩)
    (PyProof.Rows.args_list_sort _)))
  · obtain ⟨b, hb, rfl⟩ := List.mem_map.mp hd'
    have := hdp b hb
    have hu' : X.A.in1.in1.units ≤ X.A.units + 2 := Nat.le_refl _
    omega
  · have eo := sortVals_data (enc := fun b : V × PyData => b.2) false e er' hal
    obtain ⟨ep, he'⟩ := PyProof.Rows.sortedHeap_at (vs := its) (out := (sortVals (dataKind (sortingHeap (h'.push (seqObj "list" its.toArray 0)) h'.objs.size its) (bs.map (·.2))) false its its).toArray) hoL
    refine wpAny_pure ⟨_, rfl, .ref h'.objs.size, upd H h'.objs.size (.lst ((bs.mergeSort (dataLe false (·.2))).map (·.1))), I1.laid (t' := s.toks) (fun b u e => ?_) (Nat.le_refl _)
      (show ObjOk X.prog X.w _ _ _ (.lst _) from ⟨by rw [List.length_map, List.length_mergeSort]; exact hL, _, ep, vals_of_each eo, he'⟩), rfl, q _ (I1.hok.fresh (Nat.le_refl _))⟩
    have hb : b < h'.objs.size := Heap.lt_size e
    rw [PyProof.Rows.sortedHeap_old (Nat.ne_of_lt hb) (by rw [size_push']; exact Nat.lt_succ_of_lt hb)]
    exact Heap.get?_push_of_some _ e
theorem cr_sortX (hu : X.A.units + 65 < cLine) : CallR X (.builtin "sorted") (rSortX X.K) := by
  intro pins s σ H vs us Q I r h
  obtain ⟨a, bs, rfl, hs, hd, hal, hk, hdp, q⟩ := h
  rw [Vals.ref1 r]
  rcases hs with hs | hs
  · obtain ⟨its, rv, hl, hz⟩ := I.list hs
    rw [List.length_map] at hz
    obtain ⟨o, n, ho, hc, _, hdt⟩ := hl
    refine sort_of_collected hu I (fun Q E k => ?_) hd hal hk hz hdp q
    refine wpAny_collect_seq a (.inl rfl) ho hc hdt (fun h' hk' => k h' _ hk' (by simpa using rv)) (by rw [List.size_toArray, ← rv.length, List.length_map]; exact hz)
  · obtain ⟨its, rv, hl, hz⟩ := I.tuple hs
    rw [List.length_map] at hz
    obtain ⟨o, ho, hc, n, hdt⟩ := hl
    refine sort_of_collected hu I (fun Q E k => ?_) hd hal hk hz hdp q
    refine wpAny_collect_seq a (.inr rfl) ho hc hdt (fun h' hk' => k h' _ hk' (by simpa using rv)) (by rw [List.size_toArray, ← rv.length, List.length_map]; exact hz)
theorem cr_sortedK {K : PySem.W.Frag} (h : X.K = K) (hu : X.A.units + 65 < cLine) : CallR X (.builtin "sorted") (rSortX K) := h ▸ cr_sortX hu
end

/-! ### over data -/
/-- d stands before e, or is alike in the order -/
def leD (d e : D) : Prop := dataLt (toPy e) (toPy d) = false
def SortOk (xs : List D) : Prop := okNs 59 xs = true ∧ AllAlike (toPys xs) ∧ Sortable (toPys xs)
def sortedP (ρ : Env) (xs : List D) (k : D → Prop) : Prop := match xs with
  | [x] => onS ρ x fun ds => SortOk ds ∧ ∀ es, es.Perm ds → es.Pairwise leD → k (.lst es)
  | _ => False
theorem toPys_map : ∀ ds : List D, toPys ds = ds.map toPy
  | [] => by rw [toPys]; rfl
  | d :: ds => by rw [toPys, toPys_map ds]; rfl
theorem rp_zip {K : PySem.W.Frag} {A : Addr → Prop} {H : Hp} : ∀ {ds : List D} {vs : List V}, RpL K A H ds vs → (vs.zip ds).map (·.1) = vs ∧ (vs.zip ds).map (·.2) = ds ∧ ∀ b ∈ vs.zip ds, Rp K A H b.2 b.1
  | [], [], .nil => ⟨rfl, rfl, fun b hb => by cases hb⟩
  | d :: ds, v :: vs, .cons a r => by
    obtain ⟨h1, h2, h3⟩ := rp_zip r
    refine ⟨by simp [h1], by simp [h2], fun b hb => ?_⟩
    rcases List.mem_cons.mp hb with e | hb
    · rw [e]; exact a
    · exact h3 b hb
theorem rpL_of {K : PySem.W.Frag} {A : Addr → Prop} {H : Hp} : ∀ {bs : List (V × D)}, (∀ b ∈ bs, Rp K A H b.2 b.1) → RpL K A H (bs.map (·.2)) (bs.map (·.1))
  | [], _ => .nil
  | b :: bs, h => .cons (h b List.mem_cons_self) (rpL_of fun c hc => h c (List.mem_cons_of_mem _ hc))
theorem okNs_mem {n : Nat} : ∀ {ds : List D} {d : D}, okNs n ds = true → d ∈ ds → okN n d = true
  | [], _, _, h => by cases h
  | x :: xs, d, o, h => by
    rw [okNs, Bool.and_eq_true] at o
    rcases List.mem_cons.mp h with rfl | h
    · exact o.1
    · exact okNs_mem o.2 h
theorem leD_sorted (bs : List (V × D)) : ((bs.mergeSort (dataLe false fun b => toPy b.2)).map (·.2)).Pairwise leD := by
  refine List.pairwise_map.mpr ?_
  refine (List.pairwise_mergeSort (le := dataLe false fun b : V × D => toPy b.2) (fun a b c h1 h2 => ?_) (fun a b => ?_) bs).imp fun {a b} h => ?_
  · have h1 : dataLt (toPy b.2) (toPy a.2) = false := by
      have : (!dataLt (toPy b.2) (toPy a.2)) = true := h1
      simpa using this
    have h2 : dataLt (toPy c.2) (toPy b.2) = false := by
      have : (!dataLt (toPy c.2) (toPy b.2)) = true := h2
      simpa using this
    have := KeyOrd.kle_trans (O := listOrd itemOrd) h1 h2
    show (!dataLt (toPy c.2) (toPy a.2)) = true
    rw [show dataLt (toPy c.2) (toPy a.2) = false from this]; rfl
  · show ((!dataLt (toPy b.2) (toPy a.2)) || (!dataLt (toPy a.2) (toPy b.2))) = true
    cases h : dataLt (toPy b.2) (toPy a.2) with
    | false => rfl
    | true =>
      have := KeyOrd.klt_asymm (O := listOrd itemOrd) h
      rw [show dataLt (toPy a.2) (toPy b.2) = false from this]; rfl
  · have : (!dataLt (toPy b.2) (toPy a.2)) = true := h
    show dataLt (toPy b.2) (toPy a.2) = false
    simpa using this
section
variable {c : C0} {t : Tm} {σ : L2.St} {H H' : Hp} {ρ : Env}
theorem mergeSort_map_snd {le : PyData → PyData → Bool} : ∀ bs : List (V × D), (((bs.map fun b => (b.1, toPy b.2)).mergeSort fun a b => le a.2 b.2).map (·.1)) = ((bs.mergeSort fun a b => le (toPy a.2) (toPy b.2)).map (·.1)) := fun bs => by
  rw [← List.map_mergeSort (r := fun a b => le (toPy a.2) (toPy b.2)) (fun a _ b _ => rfl), List.map_map]
  rfl
theorem sr_sorted0 : SRL c (rSortX c.K) sortedP := fun t σ H ρ xs ds P Q h r q k => by
  cases r with
  | nil => exact False.elim q
  | cons rx rr => cases rr with
    | cons _ _ => exact False.elim q
    | nil =>
      obtain ⟨ds, a, vs, rfl, hs, rs, ⟨o, hal, hso⟩, q⟩ := onS_ok h rx q
      obtain ⟨z1, z2, z3⟩ := rp_zip rs
      have e1 : ((vs.zip ds).map fun b => (b.1, toPy b.2)).map (·.1) = vs := by rw [List.map_map]; exact z1
      have e2 : ((vs.zip ds).map fun b => (b.1, toPy b.2)).map (·.2) = toPys ds := by
        rw [toPys_map, ← z2, List.map_map, List.map_map]; simp only [z2]; rfl
      refine ⟨a, (vs.zip ds).map fun b => (b.1, toPy b.2), rfl, by rw [e1]; exact hs, fun b hb => ?_, by rw [e2]; exact hal, by rw [e2]; exact hso, fun b hb => ?_, fun p hp => ?_⟩
      · obtain ⟨b, hc, rfl⟩ := List.mem_map.mp hb
        have hm : b.2 ∈ ds := by rw [← z2]; exact List.mem_map.mpr ⟨b, hc, rfl⟩
        exact (z3 b hc).dp (okNs_mem o hm)
      · obtain ⟨b, hc, rfl⟩ := List.mem_map.mp hb
        have hm : b.2 ∈ ds := by rw [← z2]; exact List.mem_map.mpr ⟨b, hc, rfl⟩
        exact Nat.le_succ_of_le (okN_shape (okNs_mem o hm)).2
      · have em := mergeSort_map_snd (le := dataLe false id) (vs.zip ds)
        have e3 : (((vs.zip ds).map fun b => (b.1, toPy b.2)).mergeSort (dataLe false (·.2))).map (·.1) = ((vs.zip ds).mergeSort (dataLe false fun b => toPy b.2)).map (·.1) := em
        rw [e3]
        have pm := List.mergeSort_perm (vs.zip ds) (dataLe false fun b : V × D => toPy b.2)
        have rl : RpL c.K (Far c t σ) H (((vs.zip ds).mergeSort (dataLe false fun b => toPy b.2)).map (·.2)) (((vs.zip ds).mergeSort (dataLe false fun b => toPy b.2)).map (·.1)) := rpL_of fun b hb => z3 b (pm.mem_iff.mp hb)
        refine k _ (.lst (((vs.zip ds).mergeSort (dataLe false fun b => toPy b.2)).map (·.2))) _ (h.new hp) (.lst (h.far hp) upd_same (rl.grow (upd_grow hp))) (q _ ?_ (leD_sorted _))
        have := pm.map (·.2)
        rw [z2] at this
        exact this
theorem sr_sortedX : SRL c (rSortX c.K) sortedP := sr_sorted0
end
end PD

end
section
set_option Elab.async false
set_option linter.all false
set_option maxRecDepth 100000
/-! tuple * int from 1 on; a tuple read backwards -/
namespace PD
open PySem PySem.Spec PyProof.Rows L2 RZ HT

theorem tuple_mul1 (l : Addr) (items : Array Value) (n : Nat) (sl : Array (Option Value)) (u : Tok) (dd : Option Addr) :
    Meets (Builtin.«tuple.__mul__» ⟨[.ref l, .int 1 u], []⟩) (fun _ R s => s.heap.get? l = some { cls := .type "tuple", dict := dd, data := .seq items n, slots := sl } ∧ R (.ok (.ret (Value.ref l))) s) :=
  .of_wp fun prog w A R s h => by
    obtain ⟨hp, g, d, tk, os⟩ := s
    obtain ⟨hl, h⟩ := h
    have f1 := AutoSeq1.idx_int
    wp_walk using wpAny_loadPart' hl
    repeat (first
      | (refine wpAny_ite_false (by decide) ?_; wp_walk using wpAny_loadPart' hl)
      | (refine wpAny_ite_true (by simp) ?_; wp_walk using wpAny_loadPart' hl))
    exact ⟨_, rfl, h⟩
/-- t * k, k from 1 on -/
def rRep1 (K : PySem.W.Frag) : R2 := fun x y H Q => ∃ l k xs, x = .ref l ∧ y = .int k ∧ SqT K H l xs ∧ xs ≠ [] ∧ 1 ≤ k ∧ k ≤ 1000 ∧ xs.length ≤ 1000 ∧ (k = 1 → Q (.ref l) H) ∧ (k ≠ 1 → ∀ p, H p = none → Q (.ref p) (upd H p (.tup (List.replicate k.toNat xs).flatten)))
section
variable {X : Cx}
theorem op_rep1 : OpR X (binaryOp .Mult) (rRep1 X.K) := by
  intro pins s σ H x y v u Q I rx ry h
  obtain ⟨l, k, xs, rfl, rfl, hT, hne, h1, h2, hz, q1, q2⟩ := h
  by_cases hk : k = 1
  · subst hk
    cases rx
    obtain ⟨t, rfl⟩ := ry
    obtain ⟨its, r, ⟨⟨cls, dd, data, sl⟩, ho, hc, n, hd⟩, hs⟩ := I.tuple hT
    simp only at hc hd
    subst hc hd
    refine wpAny_binaryOp_repeat_ref (T := "tuple") (U := "int") (by decide) ⟨_, ho, rfl⟩ (fun s' => typeIs_int s' 1 t) noFill_tuple_mul F.fills_int_mul F.slot_int_rmul repeat_tuple F.slot_int_index.lookup
      (call_meets F.slot_int_rmul (typeIs_int s 1 t) F.entry_int_rmul (F.args_int_rmul_2 _ _) (int_rmul_tuple 1 t l its.toArray n dd sl)
        ⟨ho, rfl, ⟨_, ho, rfl⟩, call_meets F.slot_tuple_mul ⟨_, ho, rfl⟩ F.entry_tuple_mul (F.args_tuple_mul_2 _ _) (tuple_mul1 l its.toArray n sl t dd) ⟨ho, ?_⟩⟩)
    exact ⟨.ref l, H, I, rfl, q1 rfl⟩
  · exact op_repT pins s σ H _ _ v u Q I rx ry ⟨l, k, xs, rfl, rfl, hT, hne, by omega, h2, hz, q2 hk⟩
end
/-! ### t[::-1] -/
section
variable {prog : Program} {w : World} {A : Around} {E : Value → Shared → Prop} {s : Shared}
theorem sliceApplied_rev {sl : Addr} {vl vu vs : Value} {n : Nat} {Q : Int × Int × Nat → Shared → Prop} (hs : s.heap.IsSliceOf sl vl vu vs) (pl : IsPart vl none) (pu : IsPart vu none) (ps : IsPart vs (some (-1)))
    (h : Q ((n : Int) - 1, -1, n) s) : wpAny (model prog w) A (Builtin.Slice.sliceApplied (.ref sl) (pure (n : Int))) Q E s := by
  obtain ⟨os, hos, hcs, hds⟩ := id hs
  unfold Builtin.Slice.sliceApplied Builtin.Slice.sliceFields
  refine wpAny_bind (wpAny_bind (wpAny_field hos hds (x := vl) rfl (wpAny_bind (wpAny_field hos hds (x := vu) rfl (wpAny_bind (wpAny_field hos hds (x := vs) rfl (wpAny_pure ?_)))))))
  refine wpAny_bind (slicePart_ ps ?_)
  show wpAny _ _ (if ((-1 : Int) == 0) = true then _ else _) _ _ s
  rw [if_neg (by decide)]
  refine wpAny_bind (slicePart_ pl (wpAny_bind (slicePart_ pu (wpAny_bind (wpAny_pure ?_)))))
  show wpAny _ _ (pure ((n : Int) - 1, (-1 : Int), Builtin.Slice.slicePlaces ((n : Int) - 1) (-1) (-1))) _ _ s
  have e : Builtin.Slice.slicePlaces ((n : Int) - 1) (-1) (-1) = n := by
    unfold Builtin.Slice.slicePlaces
    rw [if_neg (by decide)]
    by_cases h0 : (n : Int) - 1 > -1
    · rw [if_pos h0, show (-(-1 : Int)) = 1 by decide, Int.ediv_one]; omega
    · rw [if_neg h0]; omega
  rw [e]
  exact wpAny_pure h
theorem pick_rev (xs : Array Value) : ((List.range xs.size).filterMap fun (k : Nat) => xs[((xs.size : Int) - 1 + (k : Int) * (-1)).toNat]?).toArray = xs.toList.reverse.toArray := by
  have e : (fun (k : Nat) => xs[((xs.size : Int) - 1 + (k : Int) * (-1)).toNat]?) = (fun k => xs[k]?) ∘ fun (k : Nat) => ((xs.size : Int) - 1 + (k : Int) * (-1)).toNat := rfl
  have e2 : (List.range xs.size).map (fun (k : Nat) => ((xs.size : Int) - 1 + (k : Int) * (-1)).toNat) = (List.range xs.size).map fun k => xs.size - 1 - k := by
    refine List.map_congr_left fun k hk => ?_
    have := List.mem_range.mp hk
    omega
  rw [e, ← List.filterMap_map, e2, PySem.W.krv_range, List.filterMap_reverse, PySem.W.krv_all]
theorem getItem_tuple_rev {t sl : Addr} {items : Array Value} {vl vu vs : Value} {Q : Value → Shared → Prop} (ht : IsTup s.heap t items) (hs : s.heap.IsSliceOf sl vl vu vs) (pl : IsPart vl none) (pu : IsPart vu none) (ps : IsPart vs (some (-1)))
    (h : Q (.ref s.heap.objs.size) { s with heap := s.heap.push { cls := .type "tuple", data := .seq items.toList.reverse.toArray } })
    (hsz : items.size ≤ sizeLine) : wpAny (model prog w) A (getItem (.ref t) (.ref sl)) Q E s := by
  have htake : sizeOk (.seq items.toList.reverse.toArray) := by
    show items.toList.reverse.toArray.size ≤ sizeLine
    rw [List.size_toArray, List.length_reverse, Array.length_toList]
    exact hsz
  obtain ⟨os, hos, hcs, hds⟩ := id hs
  have hTs : s.TypeIs (.ref sl) "slice" := ⟨os, hos, hcs⟩
  unfold getItem
  try with_reducible refine wpAny_holding ?_
  first | refine wpAny_bind (wpAny_pure ?_) | skip
  refine wpAny_bind (wpAny_sequenceKey ht.typeIs (by decide) ?_)
  refine wpAny_bind (wpAny_callSpecial?_slot (name := Str.ofString "__getitem__") ht.typeIs PyProof.Rows.slot_tuple_getitem
    (wpAny_call_entry PyProof.Rows.slot_tuple_getitem ht.typeIs entry_tuple_getitem ?_ (args_tuple_getitem _ _)))
  show wpAny _ _ (Builtin.Tuple.tupleItemsOf (.ref t) >>= _) _ _ s
  refine wpAny_bind (tupleItemsOf_ ht ?_)
  refine wpAny_bind (wpAny_typeOf hTs ?_)
  rw [if_pos (by decide)]
  refine wpAny_bind (sliceApplied_rev hs pl pu ps ?_)
  have hno : ¬ ((((items.size : Int) - 1) == 0 && (-1 : Int) == 1 && items.size == items.size) = true) := by
    intro q
    rw [Bool.and_eq_true, Bool.and_eq_true] at q
    exact absurd q.1.2 (by decide)
  show wpAny _ _ (if (((items.size : Int) - 1) == 0 && (-1 : Int) == 1 && items.size == items.size) = true then _ else _) _ _ s
  rw [if_neg hno, pick_rev]
  first
    | exact wpAny_bind (m := Builtin.Tuple.tupleExact _) (wpAny_newObj_type (wpAny_pure ⟨_, rfl, wpAny_pure h⟩) htake)
    | exact wpAny_bind (m := Builtin.Tuple.tupleExact _) (wpAny_newObj_type (wpAny_bind (wpAny_pure (wpAny_pure ⟨_, rfl, wpAny_pure h⟩))) htake)
    | exact wpAny_bind (wpAny_bind (m := Builtin.Tuple.tupleExact _) (wpAny_newObj_type (wpAny_pure (wpAny_pure ⟨_, rfl, wpAny_pure h⟩)) htake))
    | exact wpAny_bind (wpAny_bind (m := Builtin.Tuple.tupleExact _) (wpAny_newObj_type (wpAny_pure ⟨_, rfl, wpAny_pure h⟩) htake))
end
def tRevT (K : PySem.W.Frag) (te : TE) : TE := fun σ H Q => te σ H fun x H1 => ∃ a xs, x = .ref a ∧ SqT K H1 a xs ∧ ∀ p, H1 p = none → Q (.ref p) (upd H1 p (.tup xs.reverse))
section
variable {X : Cx}
theorem pe_revT {e : Expr} {te : TE} {k : Nat} {p1 p2 p3 pos : Pos} (he : PE X e te) : PE X (.Subscript e (.Slice none none (some (.UnaryOp .USub (.Constant (.int 1) k p1) p2)) p3) pos) (tRevT X.K te) := by
  refine ⟨fun pins s σ H Q I h => ?_⟩
  refine Subscript_ (thn (he.run pins s σ H _ I h) fun v s1 ⟨x, H1, I1, r1, q1⟩ => ?_)
  obtain ⟨a, xs, ex, hx, q⟩ := q1
  subst ex
  cases r1
  have hst : PO X (some (.UnaryOp .USub (.Constant (.int 1) k p1) p2)) (tPart (tUn (rU fun i => .int (-i)) (tC (.int 1)))) := po_some (pe_un un_neg pe_int)
  refine wpAny_Slice (thn (po_none.run pins s1 σ H1 (fun o H2 => o = none ∧ H2 = H1) I1 ⟨rfl, rfl⟩) fun vl s2 ⟨l, H2, I2, pl, el, e2⟩ => ?_)
  subst el e2
  refine thn (po_none.run pins s2 σ H2 (fun o H3 => o = none ∧ H3 = H2) I2 ⟨rfl, rfl⟩) fun vu s3 ⟨u, H3, I3, pu, eu, e3⟩ => ?_
  subst eu e3
  refine thn (hst.run pins s3 σ H3 (fun o H4 => o = some (-1) ∧ H4 = H3) I3 ⟨1, rfl, -1, rfl, rfl, rfl⟩) fun vs s4 ⟨o, H4, I4, ps, eo, e4⟩ => ?_
  subst eo e4
  have I5 : Inv X pins σ H4 { s4 with heap := s4.heap.push { cls := .type "slice", data := .fields #[vl, vu, vs] } } := I4.kept (t' := s4.toks) fun b ob q => Heap.get?_push_of_some _ q
  obtain ⟨its, r, ht, hz⟩ := I5.tuple hx
  have hlen := r.length
  show wpAny (model X.prog X.w) X.A (subscriptTail e (.Slice none none (some (.UnaryOp .USub (.Constant (.int 1) k p1) p2)) p3) (.ref a) (.ref s4.heap.objs.size)) (EP X pins σ Q) X.xe { s4 with heap := s4.heap.push { cls := .type "slice", data := .fields #[vl, vu, vs] } }
  refine tail_any (ops := [.ref a, .ref s4.heap.objs.size]) ht.typeIs (PyProof.Rows.slot_tuple_getitem.lookup) ?_ (by with_unfolding_all rfl)
  refine getItem_tuple_rev ht (Heap.IsSliceOf.new _ vl vu vs) pl pu ps ?_ (by rw [List.size_toArray]; omega)
  refine ⟨.ref _, _, I5.laid (t' := s4.toks) (o := .tup xs.reverse) (fun b ob q => Heap.get?_push_of_some _ q) (Nat.le_refl _) ?_, rfl, q _ (I5.hok.fresh (Nat.le_refl _))⟩
  exact ⟨by rw [List.length_reverse]; exact hz, _, r.reverse, IsTup.new _ _⟩
end
section
variable {K : PySem.W.Frag} {X : Cx}
theorem op_rep1K (h : X.K = K) : OpR X (binaryOp .Mult) (rRep1 K) := h ▸ op_rep1
theorem pe_revTK (h : X.K = K) {e : Expr} {te : TE} {k : Nat} {p1 p2 p3 pos : Pos} (he : PE X e te) : PE X (.Subscript e (.Slice none none (some (.UnaryOp .USub (.Constant (.int 1) k p1) p2)) p3) pos) (tRevT K te) := h ▸ pe_revT he
end
/-! over data -/
def repP (ρ : Env) (x y : D) (k : D → Prop) : Prop := match x, y with
  | .tup xs, .int n => xs ≠ [] ∧ 1 ≤ n ∧ n ≤ 1000 ∧ xs.length ≤ 1000 ∧ k (.tup (List.replicate n.toNat xs).flatten)
  | _, _ => False
def dRev (a : DE) : DE := fun ρ P => a ρ fun d ρ1 => match d with
  | .tup xs => P (.tup xs.reverse) ρ1
  | _ => False
section
variable {c : C0} {te : TE} {de : DE}
theorem sr_rep1 : SR2 c (rRep1 c.K) repP := fun t σ H ρ x y dx dy P Q h rx ry q k => by
  cases dx with
  | tup xs => cases dy with
    | int n =>
      obtain ⟨h1, h2, h3, h4, q⟩ := q
      have rx' : Rp c.K (Far c t σ) H (.tup xs) x := rx.rp trivial
      obtain ⟨a, vs, rfl, na, ha, rs⟩ := rx'.seqT
      refine ⟨a, n, vs, rfl, ry.int, .of ha, fun e => h1 ?_, h2, h3, by rw [← rs.length]; exact h4, fun e => ?_, fun _ p hp => ?_⟩
      · subst e; cases rs; rfl
      · subst e
        have e1 : (List.replicate (1 : Int).toNat xs).flatten = xs := by simp
        rw [e1] at q
        exact k _ _ H h (.tup na ha rs) q
      · exact k _ _ _ (h.new hp) (.tup (h.far hp) upd_same ((rs.rep _).grow (upd_grow hp))) q
    | _ => exact False.elim q
  | _ => exact False.elim q
theorem sv_rev (he : SE c te de) : SV c (tRevT c.K te) (dRev de) := fun t σ H ρ P Q h q k =>
  he t σ H ρ _ _ h q fun v d H1 ρ1 h1 r1 q1 => by
    cases d with
    | tup xs =>
      obtain ⟨a, vs, rfl, na, ha, rs⟩ := (r1.rp trivial).seqT
      exact ⟨a, vs, rfl, .of ha, fun p hp => k _ _ _ ρ1 (h1.new hp) (.tup (h1.far hp) upd_same (rs.reverse.grow (upd_grow hp))) q1⟩
    | _ => exact False.elim q1
end
end PD

end
section
set_option Elab.async false
set_option linter.all false
set_option maxRecDepth 100000
set_option maxHeartbeats 1000000
/-! walking a list, unpacking a pair, a list comprehension: where an exception is handled -/
namespace PD
open PySem PySem.Spec PyProof.Rows L2 RZ HotX

section
variable {prog : Program} {w : World} {A : Around} {E : Value → Shared → Prop} {s : Shared}
theorem HotAt.ext {x1 : Addr} {h h' : Heap} (t : HotAt A x1 h) (k : ∀ o, h.get? x1 = some o → h'.get? x1 = some o) : HotAt A x1 h' := by
  obtain ⟨a, o, vs, b, c, d⟩ := t
  exact ⟨a, o, vs, k o b, c, d⟩
theorem next_tuple_end_hot {it t x1 : Addr} {i : Nat} {items} {Q : Option Value → Shared → Prop} (hot : HotAt A x1 s.heap) (hx1 : x1 ≠ it)
    (hit : IsTupIter s.heap it t i) (ht : IsTup s.heap t items) (hx : items[i]? = none)
    (hQ : ∀ h', Heap.ExtBut it s.heap h' → Q none { s with heap := h' }) : wpAny (model prog w) A (pyNext (.ref it)) Q E s := by
  obtain ⟨o, ho, hc, hd⟩ := id hit
  obtain ⟨ol, hol, _, nl, hdl⟩ := ht
  obtain ⟨hh, o1, vs1, h1, d1, c1⟩ := hot
  unfold pyNext
  refine wpAny_bind (wpAny_attempt (wpAny_callSpecial?_slot (name := Str.ofString "__next__") hit.typeIs slot_tupleiter_next
    (wpAny_call_entry slot_tupleiter_next hit.typeIs entry_tupleiter_next ?_ (args_tupleiter_next _))))
  show wpAny _ _ (field (.ref it) 0 >>= _) _ _ s
  refine wpAny_bind (wpAny_field ho hd (x := .ref t) rfl ?_)
  show wpAny _ _ (if (Value.ref t == Value.none) = true then _ else _) _ _ s
  rw [if_neg (show ¬ ((Value.ref t == Value.none) = true) from Bool.false_ne_true)]
  show wpAny _ _ (field (.ref it) 1 >>= _) _ _ s
  refine wpAny_bind (wpAny_field ho hd (x := .int i 0) rfl ?_)
  show wpAny _ _ (seqItems? (.ref t) >>= _) _ _ s
  refine wpAny_bind (wpAny_seqItems hol hdl ?_)
  simp only [Int.toNat_natCast, hx]
  refine wpAny_bind (wpAny_rule (wpAny_bind (wpAny_setField ho hd (by simp) ?_)))
  show wpAny _ _ (newExc (.type "StopIteration") [] >>= _) _ _ _
  refine wpAny_bind ?_
  simp only [newExc, newTuple]
  refine wpAny_bind (wpAny_newObj_type ?_ (by size_fits))
  refine wpAny_bind (m := firstArgMember _ _) (wpAny_of_eq (a := Value.none) (by first | rfl | (simp only [firstArgMember]; rfl)) ?_)
  refine wpAny_newObj_type ?_ (by size_fits)
  have h2 := (Heap.get?_update_other s.heap (Obj.mapFields (·.setIfInBounds 0 Value.none)) (Ne.symm hx1)).trans h1
  refine raiseNew_hot ⟨hh, o1, vs1, Heap.get?_push_of_some _ (Heap.get?_push_of_some _ h2), d1, c1⟩ (Nat.ne_of_lt (Heap.lt_size (Heap.get?_push_of_some _ h2))) (Heap.get?_push_size _ rfl) rfl (by first | (simp; done) | (simp; omega) | (simp only [Array.size_append]; simp; omega)) ?_
  refine wpAny_bind (wpAny_isInstance (T := "StopIteration") (b := true) ⟨_, Heap.get?_update_self _ (Heap.get?_push_size _ rfl) rfl, rfl⟩ isSubtype_stop ?_)
  refine wpAny_pure (hQ _ fun b o hb e => ?_)
  have e' := (Heap.get?_update_other s.heap (Obj.mapFields (·.setIfInBounds 0 Value.none)) (Ne.symm hb)).trans e
  rw [Heap.get?_update_other _ _ (Nat.ne_of_gt (Heap.lt_size (Heap.get?_push_of_some _ e')))]
  exact Heap.get?_push_of_some _ (Heap.get?_push_of_some _ e')
theorem next_list_end_hot {it l x1 : Addr} {i : Nat} {items} {Q : Option Value → Shared → Prop} (hot : HotAt A x1 s.heap) (hx1 : x1 ≠ it)
    (hit : s.heap.IsListIter it l i) (hl : s.heap.IsList l items) (hx : items[i]? = none)
    (hQ : ∀ h', Heap.ExtBut it s.heap h' → Q none { s with heap := h' }) : wpAny (model prog w) A (pyNext (.ref it)) Q E s := by
  obtain ⟨o, ho, hc, hd⟩ := id hit
  obtain ⟨ol, hol, _, nl, hdl⟩ := hl
  obtain ⟨hh, o1, vs1, h1, d1, c1⟩ := hot
  unfold pyNext
  refine wpAny_bind (wpAny_attempt (wpAny_callSpecial?_slot (name := Str.ofString "__next__") hit.typeIs slot_listiter_next
    (wpAny_call_entry slot_listiter_next hit.typeIs entry_listiter_next ?_ (args_listiter_next _))))
  show wpAny _ _ (field (.ref it) 0 >>= _) _ _ s
  refine wpAny_bind (wpAny_field ho hd (x := .ref l) rfl ?_)
  show wpAny _ _ (if (Value.ref l == Value.none) = true then _ else _) _ _ s
  rw [if_neg (show ¬ ((Value.ref l == Value.none) = true) from Bool.false_ne_true)]
  show wpAny _ _ (field (.ref it) 1 >>= _) _ _ s
  refine wpAny_bind (wpAny_field ho hd (x := .int i 0) rfl ?_)
  show wpAny _ _ (seqItems? (.ref l) >>= _) _ _ s
  refine wpAny_bind (wpAny_seqItems hol hdl ?_)
  simp only [Int.toNat_natCast, hx]
  refine wpAny_bind (wpAny_rule (wpAny_bind (wpAny_setField ho hd (by simp) ?_)))
  show wpAny _ _ (newExc (.type "StopIteration") [] >>= _) _ _ _
  refine wpAny_bind ?_
  simp only [newExc, newTuple]
  refine wpAny_bind (wpAny_newObj_type ?_ (by size_fits))
  refine wpAny_bind (m := firstArgMember _ _) (wpAny_of_eq (a := Value.none) (by first | rfl | (simp only [firstArgMember]; rfl)) ?_)
  refine wpAny_newObj_type ?_ (by size_fits)
  have h2 := (Heap.get?_update_other s.heap (Obj.mapFields (·.setIfInBounds 0 Value.none)) (Ne.symm hx1)).trans h1
  refine raiseNew_hot ⟨hh, o1, vs1, Heap.get?_push_of_some _ (Heap.get?_push_of_some _ h2), d1, c1⟩ (Nat.ne_of_lt (Heap.lt_size (Heap.get?_push_of_some _ h2))) (Heap.get?_push_size _ rfl) rfl (by first | (simp; done) | (simp; omega) | (simp only [Array.size_append]; simp; omega)) ?_
  refine wpAny_bind (wpAny_isInstance (T := "StopIteration") (b := true) ⟨_, Heap.get?_update_self _ (Heap.get?_push_size _ rfl) rfl, rfl⟩ isSubtype_stop ?_)
  refine wpAny_pure (hQ _ fun b o hb e => ?_)
  have e' := (Heap.get?_update_other s.heap (Obj.mapFields (·.setIfInBounds 0 Value.none)) (Ne.symm hb)).trans e
  rw [Heap.get?_update_other _ _ (Nat.ne_of_gt (Heap.lt_size (Heap.get?_push_of_some _ e')))]
  exact Heap.get?_push_of_some _ (Heap.get?_push_of_some _ e')
theorem unpackItems_hot {t x1 : Addr} {items : Array Value} {Q : List Value → Shared → Prop} (hot : HotAt A x1 s.heap) (ht : IsTup s.heap t items)
    (hQ : ∀ h', Heap.ExtBut s.heap.objs.size s.heap h' → Q items.toList { s with heap := h' }) : wpAny (model prog w) A (unpackItems (.ref t) items.size none) Q E s := by
  have hlt : t ≠ s.heap.objs.size := by obtain ⟨o, ho, _⟩ := ht; exact Nat.ne_of_lt (Heap.lt_size ho)
  have hx1 : x1 ≠ s.heap.objs.size := by obtain ⟨_, o, vs, ho, _⟩ := hot; exact Nat.ne_of_lt (Heap.lt_size ho)
  unfold unpackItems
  refine wpAny_bind ?_
  · unfold notIterableAtAll
    refine wpAny_bind (wpAny_specialOf ht.typeIs slot_tuple_iter.lookup ?_)
    refine wpAny_pure ?_
    simp only [Bool.false_eq_true, if_false]
    refine wpAny_bind (wpAny_holding (iter_tuple ht ?_))
    refine wpAny_bind (wpAny_holding (draw_tuple hlt items.size 0 _ _ ⟨_, Heap.get?_push_size _ rfl, rfl, rfl⟩ (ht.push _) (by omega) fun h₁ hit₁ hs₁ => ?_))
    have hall : List.take items.size (List.drop 0 items.toList) = items.toList := by
      rw [List.drop_zero]; exact List.take_of_length_le (by simp)
    rw [hall]
    rw [if_neg (by simp)]
    have ht₁ : IsTup h₁ t items := (ht.push _).extBut hs₁.extBut hlt
    have hot₁ : HotAt A x1 h₁ := HotAt.ext hot fun o e => hs₁.extBut x1 o hx1 (Heap.get?_push_of_some _ e)
    refine wpAny_bind (wpAny_holding (next_tuple_end_hot (s := { s with heap := h₁ }) hot₁ hx1 hit₁ ht₁ (by simp) fun h₂ he₂ => ?_))
    simp only [Option.isSome_none, Bool.false_eq_true, if_false]
    refine wpAny_pure (hQ h₂ fun b o hb e => he₂ b o hb (hs₁.extBut b o hb (Heap.get?_push_of_some _ e)))
theorem unpack_hot {t x1 : Addr} {items : Array Value} {targets : List (Bool × (Value → Sem Unit))} {Q : Unit → Shared → Prop} (hot : HotAt A x1 s.heap) (ht : IsTup s.heap t items)
    (hn : targets.length = items.size) (hstar : targets.findIdx? (·.1) = none)
    (h : ∀ h', Heap.ExtBut s.heap.objs.size s.heap h' → wpAny (model prog w) A (assignInOrder (targets.map (·.2)) items.toList) Q E { s with heap := h' }) :
    wpAny (model prog w) A (unpack (.ref t) targets) Q E s := by
  unfold unpack
  rw [hn, hstar]
  exact wpAny_bind (wpAny_holding (unpackItems_hot hot ht h))
end
/-- the context bears a handled error whose context is None -/
def HotX (X : Cx) : Prop := ∀ (pins : List (Addr × Obj)) (σ : L2.St) (H : Hp) (s : Shared), Inv X pins σ H s → ∃ x1, HotAt X.A x1 s.heap
theorem pg_tupH {X : Cx} {es : List Expr} {k : Nat} {t : TGs} {n : Nat} {pos : Pos} (hc : HotX X) (h : PGs X es t)
    (hn : (assignEach es X.env).length = n := by rfl) (hst : (assignEach es X.env).findIdx? (·.1) = none := by rfl) : PG X (.Tuple es k pos) (gTup X.K n t) := by
  refine ⟨fun pins s σ H v u Q I r hw => ?_⟩
  obtain ⟨a, xs, e1, hq, hl, hw⟩ := hw
  subst e1
  cases r
  obtain ⟨its, rv, ht, hz⟩ := I.tuple hq
  obtain ⟨x1, hot⟩ := hc pins σ H s I
  rw [assign_Tuple]
  refine wpAny_bind (wpAny_standAt (unpack_hot hot ht (by simp [hn, ← hl, rv.length]) hst fun h' hx => ?_))
  have I1 : Inv X pins σ H { s with heap := h' } := I.kept (t' := s.toks) fun b o e => hx b o (Nat.ne_of_lt (Heap.lt_size e)) e
  exact h.run pins _ σ H xs _ Q I1 (by simpa using rv) hw
/-- a suite's context -/
theorem hot_suite {X : Cx} {a : Addr} {oe : Obj} {cls : Value} {d : Option Addr} {pn : List (Addr × Obj)} (hz : L2N.Zn cls d oe) (hd : ∃ vs, oe.data = .fields vs) : L2H.HotC (X.suite a ((a, oe) :: pn)) := by
  obtain ⟨vs, hd⟩ := hd
  exact ⟨(a, oe), ⟨rfl, vs, hd, hz.2.2 vs hd⟩, List.mem_cons_self⟩
/-- a block's context within it -/
theorem hot_blk {X : Cx} {pins : List (Addr × Obj)} {σ : L2.St} {H : Hp} {s : Shared} {scope : Scope} {cenv : PySem.Env} {fp : List Addr} (hc : L2H.HotC X) (I : Inv X pins σ H s) (hf : ∀ b ∈ fp, FpOk X pins H b) : HotX (X.blk s H scope cenv fp) := by
  obtain ⟨p, ⟨hh, v1, e1, c1⟩, hp⟩ := hc
  obtain ⟨g1, g2, g3, g4, _⟩ := I.pin p (List.mem_append_left _ hp)
  intro pins' σ' H' s' I'
  have nfp : p.1 ∉ fp := fun z => (hf p.1 z).2.2.2.2.2 p (List.mem_append_left _ hp) rfl
  have nst : p.1 ∉ frs X.stack := fun z => by
    rcases List.mem_cons.mp (I.stkSub _ z) with e | e
    · exact g3 e
    · exact g4 e
  exact ⟨p.1, hh, p.2, v1, I'.base.keep p.1 p.2 g1 g2 nst nfp, e1, c1⟩
/-- a list comprehension over a list -/
theorem lc_hot {X : Cx} {pins : List (Addr × Obj)} {s : Shared} {σ : L2.St} {H : Hp} {Q : VK} {elt tg iter : Expr} {ifs : List Expr} {scope : Scope} {own : List (Str × Nat)} {pos pos' : Pos} {tl : TE} {g : TG} {tt : TT} {te : TE} {use : Option (Value → Sem Unit)} {Qf : Value → Shared → Prop}
    (hc : L2H.HotC X) (hN : X.N.Nodup) (I : Inv X pins σ H s) (hi : PE X iter tl) (ok : BlkOk X.N X.env.scope scope own)
    (hg : ∀ (s : Shared) (H : Hp) (C : Addr) (cl : List (Str × Addr)) (fp : List Addr), HotX (X.blk s H scope (compEnvC scope cl C X.env) fp) → PG (X.blk s H scope (compEnvC scope cl C X.env) fp) tg g) (ht : ∀ (s : Shared) (H : Hp) (C : Addr) (cl : List (Str × Addr)) (fp : List Addr), PTs (X.blk s H scope (compEnvC scope cl C X.env) fp) ifs tt)
    (he : ∀ (s : Shared) (H : Hp) (C : Addr) (cl : List (Str × Addr)) (fp : List Addr), PE (X.blk s H scope (compEnvC scope cl C X.env) fp) elt te) (hs : ∀ x, foldedSetIterable iter X.env x = pure x)
    (h : tLc (iList X.K tl) g tt te (own.map (·.2)) σ H Q)
    (hRR : ∀ D C s' m H', Inv X pins σ H' s' → Q (.ref D) H' → s'.heap.Ns C m → FpOk X pins H' C → compPost (model X.prog X.w) X.A X.xe use Qf (.ref D) C (.ok .next) s') :
    wpAny (model X.prog X.w) X.A (comprehension (.ListComp elt [⟨tg, iter, ifs, 0⟩] scope pos) scope X.env pos' (newList []) false (eval iter X.env) use) Qf X.xe s := by
  have hfree : ∀ y ∈ scope.names, y.2 = .free → ∃ c, X.env.cells.lookup y.1 = some c := fun y hy e => by
    rcases ok.free y hy e with k | k
    · exact I.ok.has _ (.inl k)
    · exact I.ok.has _ (.inr k)
  refine wpAny_comprehension_free (use := use) rfl hs (closure_ok hfree) ok.kind (fun y hy e => by rw [ok.uniq y hy, e])
    (thn (hi.run pins s σ H _ I h) fun xv s1 hx => ?_)
  obtain ⟨xv', H2, I1, rx, a, exv, ⟨xs, hsq⟩, q⟩ := hx
  subst exv
  cases rx
  obtain ⟨its, rv, p, hzL⟩ := I1.list hsq
  refine wpAny_pyIter_list p.isList ?_
  generalize hit0 : s1.heap.objs.size = it
  generalize hs2 : ({ s1 with heap := s1.heap.push { cls := .type "list_iterator", data := .fields #[.ref a, .int 0 0] } } : Shared) = s2
  have I2 : Inv X pins σ H2 s2 := by
    rw [← hs2]
    exact I1.kept (t' := s1.toks) fun b o e => Heap.get?_push_of_some _ e
  have st2 : s2.heap.IsListIter it a 0 := by
    rw [← hs2, ← hit0]
    exact ⟨_, Heap.get?_push_size _ rfl, rfl, rfl⟩
  have f2 : ∀ b ∈ [it], FpOk X pins H2 b := fun b hb => by
    have e : b = s1.heap.objs.size := by rw [hit0]; simpa using hb
    subst e
    exact I1.fpOk (Nat.le_refl _) (I1.hok.fresh (Nat.le_refl _))
  generalize hfp : [it] = fp at f2
  have T : Turn X.prog X.w X.K tg (Itl X.K a) fp it (fun i h => h.IsListIter it a i) := hfp ▸ turn_list a it
  generalize htn : (fun (i : Nat) (h : Heap) => h.IsListIter it a i) = tn at T
  have st2 : tn 0 s2.heap := by rw [← htn]; exact st2
  have Tn : ∀ i h, tn i h → h.IsListIter it a i := fun i h z => by rw [← htn] at z; exact z
  refine wpAny_newObj_type (newEnv_comp ?_) (by show 0 ≤ sizeLine; decide)
  generalize hD : s2.heap.objs.size = D
  have hDn : H2 D = none := I2.hok.fresh (Nat.le_of_eq hD)
  obtain ⟨W, ⟨m0, w0⟩, turn⟩ := q D hDn
  -- the new list
  generalize hs3 : ({ s2 with heap := s2.heap.push { cls := .type "list", data := .seq ([] : List Value).toArray } } : Shared) = s3
  have I3 : Inv X pins σ (upd H2 D (.lst [])) s3 := by
    rw [← hs3]
    refine I2.laid (t' := s2.toks) (fun b o e => Heap.get?_push_of_some _ e) (Nat.le_of_eq hD) ⟨Nat.zero_le _, [], 0, .nil, ?_⟩
    rw [← hD]
    exact Heap.get?_push_size _ rfl
  have h3 : s3.heap = s2.heap.push { cls := .type "list", data := .seq ([] : List Value).toArray } := by rw [← hs3]
  have sz : ∀ b ∈ fp, b < s2.heap.objs.size := fun b hb => by
    obtain ⟨o, e, _⟩ := T.obj _ _ st2 b hb
    exact Heap.lt_size e
  have f3 : ∀ b ∈ fp, FpOk X pins (upd H2 D (.lst [])) b ∧ b < s3.heap.objs.size := fun b hb => by
    have hlt := sz b hb
    refine ⟨⟨?_, (f2 b hb).2⟩, by rw [h3, Heap.size_push]; exact Nat.lt_succ_of_lt hlt⟩
    rw [upd_ne (by rw [← hD]; exact Nat.ne_of_lt hlt)]
    exact (f2 b hb).1
  have st3 : tn 0 s3.heap := T.keep _ _ _ st2 fun b _ o e => by rw [h3]; exact Heap.get?_push_of_some _ e
  have I4 := block_start I3 ok hN f3
  have hx0 := hot_blk (scope := scope) (cenv := compEnvC scope (cellsFrom (s3.heap.objs.size + 1) scope.names (cloFrom X.env.cells scope.names [])) s3.heap.objs.size X.env) hc I3 (fun b hb => (f3 b hb).1)
  have pg := hg s3 (upd H2 D (.lst [])) s3.heap.objs.size (cellsFrom (s3.heap.objs.size + 1) scope.names (cloFrom X.env.cells scope.names [])) fp hx0
  have pt := ht s3 (upd H2 D (.lst [])) s3.heap.objs.size (cellsFrom (s3.heap.objs.size + 1) scope.names (cloFrom X.env.cells scope.names [])) fp
  have pe := he s3 (upd H2 D (.lst [])) s3.heap.objs.size (cellsFrom (s3.heap.objs.size + 1) scope.names (cloFrom X.env.cells scope.names [])) fp
  show codeAny _ _ (.compStart (.ListComp elt [⟨tg, iter, ifs, 0⟩] scope pos) 0 (.ref it) (.ref D) (compEnvC scope (cellsFrom (s3.heap.objs.size + 1) scope.names (cloFrom X.env.cells scope.names [])) s3.heap.objs.size X.env)) (compPost (model X.prog X.w) X.A X.xe use Qf (.ref D) s3.heap.objs.size) { s3 with heap := pushCells (s3.heap.push { cls := .type "dict", data := .dict #[] }) scope.names }
  have nfp : ∀ b ∈ fp, (upd H2 D (.lst [])) b = none := fun b hb => (f3 b hb).1.1
  generalize hce : compEnvC scope (cellsFrom (s3.heap.objs.size + 1) scope.names (cloFrom X.env.cells scope.names [])) s3.heap.objs.size X.env = ce at I4 pg pt pe hx0 ⊢
  have cL : ce.locals = s3.heap.objs.size := by subst hce; rfl
  generalize hH3 : upd H2 D (.lst []) = H3 at I3 I4 pg pt pe w0 nfp f3 hx0
  generalize hs4 : ({ s3 with heap := pushCells (s3.heap.push { cls := .type "dict", data := .dict #[] }) scope.names } : Shared) = s4 at I4 ⊢
  have st4 : tn 0 s4.heap := T.keep _ _ _ st3 fun b _ o e => by rw [← hs4]; exact pushCells_keeps _ _ _ _ (Heap.get?_push_of_some _ e)
  have stat : ∀ {σ' : L2.St} {H' : Hp} {s' : Shared}, Inv (X.blk s3 H3 scope ce fp) [] σ' H' s' → (∀ b ∈ fp, H' b = none) → ∀ b ∈ fp, FpOk (X.blk s3 H3 scope ce fp) [] H' b := fun {σ' H' s'} I' hn b hb =>
    ⟨hn b hb, (I'.ok.exf b hb).1, I'.ok.exfs b hb, .inl hb, fun x c e => (I'.ok.exf b hb).2 x c e, fun p hp => absurd (show p ∈ ([] : List (Addr × Obj)) ++ [] from hp) (by simp)⟩
  have loop : codeAny (model X.prog X.w) X.A (.compLoop (.ListComp elt [⟨tg, iter, ifs, 0⟩] scope pos) 0 (.ref it) (.ref D) ce) (compPost (model X.prog X.w) X.A X.xe use Qf (.ref D) s3.heap.objs.size) s4 := by
    refine compLoop_any (fun n s' => ∃ i H', Inv (X.blk s3 H3 scope ce fp) [] (wipe σ (own.map (·.2))) H' s' ∧ tn i s'.heap ∧ (∀ b ∈ fp, H' b = none) ∧ W i n H') ?_ m0 ⟨0, H3, I4, st4, nfp, w0⟩
    rintro n s5 ⟨i, H5, I5, st5, n5, w5⟩
    rcases turn i n H5 w5 with ⟨stop, qq⟩ | ⟨go, Nx, hNx, step⟩
    · obtain ⟨xs5, hq5, hle⟩ := stop
      obtain ⟨its5, rv5, p5, _⟩ := I5.list hq5
      have hl5 := rv5.length
      obtain ⟨x1, hot5⟩ := hx0 [] _ H5 s5 I5
      have itm : it ∈ fp := T.mem
      obtain ⟨f0, f1, f2', f3', f4, f5⟩ := stat I5 n5 it itm
      have hx1 : x1 ≠ it := fun z => by
        obtain ⟨_, o, vs, e1, e2, e3⟩ := hot5
        obtain ⟨oi, e4, _, e5⟩ := Tn _ _ st5
        rw [z, e4] at e1
        cases e1
        rw [e5] at e2
        cases e2
        simp at e3
      refine next_list_end_hot hot5 hx1 (Tn _ _ st5) p5.isList (by simp; omega) fun h6 eb => ?_
      have I6 : Inv (X.blk s3 H3 scope ce fp) [] (wipe σ (own.map (·.2))) H5 { s5 with heap := h6 } := I5.turned (t' := s5.toks) (fun b o hb e => eb b o hb e) f0 f1 f3' f4 f5
      generalize ({ s5 with heap := h6 } : Shared) = s6 at I6
      -- back in the def's context
      have I7 : Inv X pins σ H5 s6 := I3.call' (ch := fp) I6.os I6.base I6.hok I6.bare fun b hb => ⟨(f3 b hb).1.2.2.2.1, (f3 b hb).1.2.1, (f3 b hb).1.2.2.2.2.1, (f3 b hb).1.2.2.2.2.2⟩
      have nC : H5 s3.heap.objs.size = none := by
        have z : H5 ce.locals = none := I6.free
        rw [cL] at z
        exact z
      obtain ⟨m, hn, _⟩ := I6.loc
      have hn : s6.heap.Ns ce.locals m := hn
      rw [cL] at hn
      exact hRR D s3.heap.objs.size s6 m H5 I7 qq hn (I3.fpOk (Nat.le_refl _) nC)
    · have ti : wpAny (model X.prog X.w) X.A (pyNext (.ref it)) (fun r s1 => ∃ u, r = some u ∧ wpAny (model X.prog X.w) X.A (letOwnedTupleGo tg (.ref it) u) (fun _ s2 => ∃ x H', Inv (X.blk s3 H3 scope ce fp) [] (wipe σ (own.map (·.2))) H' s2 ∧ RelV x u ∧ (Itl X.K a).yld i H5 x H' ∧ tn (i + 1) s2.heap ∧ ∀ b ∈ fp, H' b = none) (fun _ _ => False) s1) (fun _ _ => False) s5 := by
        obtain ⟨xs5, x5, hq5, hx5⟩ := go
        obtain ⟨its5, rv5, p5, hz5⟩ := I5.list hq5
        obtain ⟨u5, hu5, ru5⟩ := rv5.get hx5
        obtain ⟨f0, f1, f2', f3', f4, f5⟩ := stat I5 n5 it T.mem
        refine wpAny_pyNext_list_item (Tn _ _ st5) p5.isList (x := u5) (by simpa using hu5) fun h' st' sb => ?_
        have I6 : Inv (X.blk s3 H3 scope ce fp) [] (wipe σ (own.map (·.2))) H5 { s5 with heap := h' } := I5.turned (t' := s5.toks) (fun b o hb e => (sb.2 b hb).trans e) f0 f1 f3' f4 f5
        obtain ⟨o, e, c, d⟩ := id st'
        exact ⟨u5, rfl, go_of (s := { s5 with heap := h' }) e c d (by decide) ⟨x5, H5, I6, ru5, ⟨rfl, fun ys hy => by rw [I5.list_inj hy hq5]; exact hx5⟩, by rw [← htn]; exact st', n5⟩⟩
      refine thnF ti fun r s6 ⟨u, hr, h6⟩ => ?_
      subst hr
      refine thnF h6 fun _ s7 ⟨x, H7, I7, r7, y7, st7, n7⟩ => ?_
      have I7' := I7.pinned (stat I7 n7) (T.obj _ _ st7)
      refine thnF (pg.run _ s7 _ H7 x u _ I7' r7 (step x H7 y7)) fun _ s8 ⟨σ8, H8, I8, hw8, q8⟩ => ?_
      refine thnF (pt.run _ s8 σ8 H8 _ I8 q8) fun b s9 ⟨H9, I9, q9⟩ => ?_
      -- the turn's end
      have fin : ∀ {s' : Shared} {H' : Hp}, Inv (X.blk s3 H3 scope ce fp) ([] ++ pinsAt fp s7.heap) σ8 H' s' → Nx H' → ∃ m, m < n ∧ ∃ i H', Inv (X.blk s3 H3 scope ce fp) [] (wipe σ (own.map (·.2))) H' s' ∧ tn i s'.heap ∧ (∀ b ∈ fp, H' b = none) ∧ W i m H' := fun {s' H'} I' nx => by
        obtain ⟨m', hm, w'⟩ := hNx H' nx
        have pin' : ∀ b ∈ fp, ∀ o, s7.heap.get? b = some o → s'.heap.get? b = some o ∧ H' b = none := fun b hb o e =>
          let z := I'.pin (b, o) (List.mem_append_right _ (List.mem_append_right _ (mem_pinsAt hb e)))
          ⟨z.1, z.2.1⟩
        have hl : (wipe σ (own.map (·.2))).length = σ8.length := by rw [← hw8, wipe_length]
        refine ⟨m', hm, i + 1, H', (I'.unpinned (pins := [])).weak hl (fun j v e => ?_), T.keep _ _ _ st7 fun b hb o e => (pin' b hb o e).1, fun b hb => ?_, w'⟩
        · rw [← hw8] at e
          exact (wipe_some e).1
        · obtain ⟨o, e, _⟩ := T.obj _ _ st7 b hb
          exact (pin' b hb o e).2
      cases b with
      | false =>
        simp only [Bool.false_eq_true, if_false] at q9 ⊢
        exact fin I9 q9
      | true =>
        simp only [if_true] at q9 ⊢
        refine thnF (pe.run _ s9 σ8 H9 _ I9 q9) fun z s10 ⟨yv, H10, I10, r10, acc, hD10, hz10, nx⟩ => ?_
        exact app_ok (X := X.blk s3 H3 scope ce fp) I10 hD10 hz10 r10 fun s11 I11 => fin I11 nx
  exact codeAny_compStart_list loop (T.self X.A 0 _ _ _ st4 loop)
/-- name = [..] on one line, the name a local -/
theorem ps_setLcH {X : Cx} {i : Nat} {y : Str} {py : Pos} {elt tg iter : Expr} {ifs : List Expr} {scope : Scope} {own : List (Str × Nat)} {pos spos : Pos} {tl : TE} {g : TG} {tt : TT} {te : TE} (hc : L2H.HotC X) (hN : X.N.Nodup) (hy : X.N[i]? = some y) (hyl : X.env.scope.names.lookup y = some .local)
    (hsw : swapsWith (.ListComp elt [⟨tg, iter, ifs, 0⟩] scope pos) (some (.Name y py)) spos.line X.env = pure true) (hi : PE X iter tl) (ok : BlkOk X.N X.env.scope scope own)
    (hg : ∀ (s : Shared) (H : Hp) (C : Addr) (cl : List (Str × Addr)) (fp : List Addr), HotX (X.blk s H scope (compEnvC scope cl C X.env) fp) → PG (X.blk s H scope (compEnvC scope cl C X.env) fp) tg g) (ht : ∀ (s : Shared) (H : Hp) (C : Addr) (cl : List (Str × Addr)) (fp : List Addr), PTs (X.blk s H scope (compEnvC scope cl C X.env) fp) ifs tt)
    (he : ∀ (s : Shared) (H : Hp) (C : Addr) (cl : List (Str × Addr)) (fp : List Addr), PE (X.blk s H scope (compEnvC scope cl C X.env) fp) elt te) (hs : ∀ x, foldedSetIterable iter X.env x = pure x := by intro _; rfl) :
    PS X (.Assign [.Name y py] (.ListComp elt [⟨tg, iter, ifs, 0⟩] scope pos) spos) (tAsg (tLc (iList X.K tl) g tt te (own.map (·.2))) (gName i)) := by
  refine ⟨fun pins s σ H D I h => ?_⟩
  rw [exec_Assign_Name_used _ _ _ _ hsw]
  refine wpAny_bind (wpAny_standAt (wpAny_bind ?_))
  show wpAny _ X.A (do let _ ← comprehension (.ListComp elt [⟨tg, iter, ifs, 0⟩] scope pos) scope X.env (firstIterPos [⟨tg, iter, ifs, 0⟩] pos) (newList []) false (eval iter X.env) (some (assign (.Name y py) X.env))) _ _ s
  have h : tLc (iList X.K tl) g tt te (own.map (·.2)) σ H (fun x H1 => gName i x σ H1 D.nx) := h
  refine wpAny_bind (thn (lc_hot (Qf := fun _ s' => SP X pins D .next s') hc hN I hi ok hg ht he hs h fun L C s' m H' I' q hn f => ?_) fun _ s' hq => wpAny_pure (wpAny_pure hq))
  show wpAny _ _ (assign (.Name y py) X.env (.ref L)) _ _ _
  refine wpAny_assign_Name (store_ok2 (v := V.ref L) I' hN hy (.inl hyl) rfl (fun s2 I2 ⟨a, sb, ha⟩ => ?_) (.inr hyl))
  obtain ⟨f0, f1, f2, f3, f4, f5⟩ := f
  have haC : C ≠ a := by
    rcases ha with z | z
    · rw [z]; exact f1
    · exact fun e => f4 y a z e.symm
  refine ⟨m, hn.sameBut sb haC, fun h3 sb3 => ?_⟩
  exact ⟨_, H', I2.turned (t' := s2.toks) (fun b o hb e => (sb3.2 b hb).trans e) f0 f1 f3 f4 f5, q⟩
end PD

end
section
set_option Elab.async false
set_option linter.all false
set_option maxRecDepth 100000
set_option maxHeartbeats 1000000
/-! a lambda without parameters handed to a def that catches: errors whose context is None -/
namespace PD
open PySem PySem.Spec PyProof.Rows L2 RZ LamX

/-- the context of the lambda's body -/
def lamCxN (X : Cx) (A : Around) (outer : List PySem.Env) (s : Shared) (H : Hp) (E : L2.XK) (scope : Scope) (f c' : Addr) : Cx :=
  (lamCx X A outer s H E scope f c').wish fun e s' => wpAny (model X.prog X.w) (A.deeper (lamEnv X scope s.heap.objs.size f c')) (leaving (lamEnv X scope s.heap.objs.size f c') e) (fun _ s'' => L2N.CX X.prog X.w outer H s E e s'') (fun e' s'' => L2N.CX X.prog X.w outer H s E e' s'') s'
section
variable {X : Cx} {pins : List (Addr × Obj)} {σ : L2.St} {H : Hp} {s : Shared}
theorem pe_actN {CXg : CXT} {Eg : L2.XK} {Ng : List Str} {qg : Str} {sg : Scope} {g f c' : Addr} {cdg pm ctv : Value} {params : Arguments} {body : Expr} {scope : Scope} {k i : Nat} {a : Str} {pn : List (Addr × Obj)} {xe : Value → Shared → Prop} {W : WX} {tb : L2.XK → TE} {p1 p2 : Pos}
    (I : Inv X pins σ H s) (L : LamS X.env.scope scope) (hf : s.heap.get? f = some (PySem.W.kla_obj "<lambda>" (X.env.qual ++ "<lambda>") params body scope (cloFrom X.env.cells scope.names []) pm c' ctv)) (hfn : H f = none) (hfr : f ∉ frs X.stack)
    (hbind : bindArgs (PySem.W.kla_fn "<lambda>" (X.env.qual ++ "<lambda>") params body scope (cloFrom X.env.cells scope.names []) pm (.ref c') ctv) ⟨[], []⟩ = pure [])
    (tk : L2N.Takes ((cxOf CXg X.prog X.w X.K X.mg X.base Ng qg sg g cdg X.A X.stack s H Eg).tr pn xe) W) (hr : Room (k + 1) (X.A.deeper (envOfC qg sg s.heap.objs.size g cdg)))
    (hbody : ∀ (A : Around) (outer : List PySem.Env) (s : Shared) (H : Hp) (E : L2.XK), Room k (A.deeper (lamEnv X scope s.heap.objs.size f c')) → PE (lamCxN X A outer s H E scope f c') body (tb E))
    (hN : Ng[i]? = some a) (hv : Vis sg a) (hd : (a == ("__debug__" : Str)) = false := by decide) (hcd : (a == ("__classdict__" : Str)) = false := by decide) :
    PE ((cxOf CXg X.prog X.w X.K X.mg X.base Ng qg sg g cdg X.A X.stack s H Eg).tr pn xe) (.Call (.Name a p1) [] [] p2)
      (fun σZ HZ Q => ∃ E : L2.XK, σZ[i]? = some (some (.ref f)) ∧ HZ c' = some (CodeO c' (X.env.qual ++ "<lambda>")) ∧ (∀ cls d H', E cls d H' → W cls d σZ H') ∧ tb E σ HZ Q) := by
  refine ⟨fun pinsZ sZ σZ HZ Q IZ h => ?_⟩
  obtain ⟨E, hs, hc, hW, ht⟩ := h
  refine wpAny_Call_Name_kw (thn ((pe_var (pos := p1) (i := i) hN hv hd hcd).run pinsZ sZ σZ HZ (fun v H1 => v = .ref f ∧ H1 = HZ) IZ ⟨.ref f, hs, rfl, rfl⟩) fun u s1 ⟨v, H1, I1, r1, q1⟩ => ?_)
  obtain ⟨ev, eH⟩ := q1
  subst ev
  rw [eH] at I1
  obtain rfl : u = Value.ref f := r1
  have of1 : s1.heap.get? f = some (PySem.W.kla_obj "<lambda>" (X.env.qual ++ "<lambda>") params body scope (cloFrom X.env.cells scope.names []) pm c' ctv) := I1.base.keep f _ hf hfn hfr (fun z => nomatch (show f ∈ ([] : List Addr) from z))
  refine PySem.W.callWith_F0 ⟨_, _, _, _, of1⟩ ?_
  have un : Un (frs X.stack) [] H HZ s.heap s1.heap := I1.base
  obtain ⟨⟨oc, vs, t, hoc, hdc, hvc⟩, _, _⟩ := I1.hok c' _ hc
  have rc : codeAny (model X.prog X.w) (X.A.deeper (envOfC qg sg s.heap.objs.size g cdg)) (.call (.ref f) ⟨[], []⟩) (CR (L2N.CX X.prog X.w) (envOfC qg sg s.heap.objs.size g cdg :: X.stack) X.prog X.w HZ s1 Q E) s1 := by
    refine PySem.W.kla_callFunE hr.depth of1 rfl L.co L.gen rfl ⟨c', oc, vs, t, rfl, hoc, hdc, hvc⟩ ?_
    rw [hbind]
    refine wpAny_pure (wpAny_newFunctionEnv (fun y hy => (L.own y hy).2) (fun y hy => absurd hy (by simp)) (fun h₁ hns hsb => ⟨I1.nolimit.fresh _ hsb, ?_⟩) L.kind)
    show codeAny _ _ (.expr body (lamEnv X scope s1.heap.objs.size f c')) _ _
    have kp : ∀ b o, s1.heap.get? b = some o → h₁.get? b = some o := fun b o e => hsb.extBut b o (Nat.ne_of_lt (Heap.lt_size e)) (Heap.get?_push_of_some _ e)
    have J0 : Inv (lamCx X (X.A.deeper (envOfC qg sg s.heap.objs.size g cdg)) (envOfC qg sg s.heap.objs.size g cdg :: X.stack) s1 HZ E scope f c') [] σ HZ { s1 with heap := h₁, toks := s1.toks + ([] : List (Str × Value)).length } :=
      lam_start2 I L I1.env0 hr.hd un hns kp
    have J : Inv (lamCxN X (X.A.deeper (envOfC qg sg s.heap.objs.size g cdg)) (envOfC qg sg s.heap.objs.size g cdg :: X.stack) s1 HZ E scope f c') [] σ HZ { s1 with heap := h₁, toks := s1.toks + ([] : List (Str × Value)).length } := J0.wish _
    refine PySem.W.kla_codeExpr (wpAny_mono ((hbody _ _ s1 HZ E (hr.deeper _)).run [] _ _ HZ Q J ht) (fun v s' hq => ?_) fun e s' hq => hq)
    obtain ⟨w', H', J', rv, q⟩ := hq
    exact ⟨w', H', J'.os, J'.bare, J'.base, J'.hok, rv, q⟩
  refine wpAny_call (codeAny_mono rc fun r s' hq => ?_)
  cases r with
  | error e => exact tk e s' (L2N.XE.of_call I1 (fun cls d H' h => hW cls d H' h) hq)
  | ok fl =>
    cases fl with
    | ret u => exact I1.after hq
    | next => exact False.elim hq
    | brk => exact False.elim hq
    | cont => exact False.elim hq
end
/-- the def that calls what it got: a calls it; TT: what it makes of the lambda's reading -/
def GivesToN (P : Program) (w : World) (K : PySem.W.Frag) (mg : Str → Option Value) (base : Heap) (A : Around) (st : List PySem.Env) (Ng : List Str) (x : Str) (sg : Scope) (g : Addr) (cdg : Value) (bg : List Stmt) (a : Str) (k : Nat) (q : Str) (TT : (L2.XK → Hp → VK → Prop) → Hp → VK → Prop) : Prop :=
  ∀ (f c' : Addr) (s : Shared) (H : Hp) (Q : VK) (tl : L2.XK → Hp → VK → Prop), Room k (A.deeper (envOfC x sg s.heap.objs.size g cdg)) →
    (∀ (W : WX) (pn : List (Addr × Obj)) (xe : Value → Shared → Prop) (p1 p2 : Pos), L2N.Takes ((cxOf C8.CX0 P w K mg base Ng x sg g cdg A st s H C8.E0).tr pn xe) W →
      PE ((cxOf C8.CX0 P w K mg base Ng x sg g cdg A st s H C8.E0).tr pn xe) (.Call (.Name a p1) [] [] p2) (fun σZ HZ Q => ∃ E : L2.XK, σZ[0]? = some (some (.ref f)) ∧ HZ c' = some (CodeO c' q) ∧ (∀ cls d H', E cls d H' → W cls d σZ H') ∧ tl E HZ Q)) →
    H c' = some (CodeO c' q) → TT tl H Q →
    ∃ t, PSs (cxOf C8.CX0 P w K mg base Ng x sg g cdg A st s H C8.E0).nox bg t ∧ t { nx := fun _ H' => Q .non H', rt := Q } (L2.start Ng [.ref f]) H
section
variable {X : Cx}
/-- x(lambda: body) -/
theorem pe_lamcallN {T : List (Addr × Str)} {TT : (L2.XK → Hp → VK → Prop) → Hp → VK → Prop} {x a : Str} {g c P : Addr} {k : Nat} {pg : Arguments} {bg : List Stmt} {sg : Scope} {dV kV doc pm cdv ct oc : Value} {an od : Option Addr} {osl : Array (Option Value)} {Ng : List Str}
    {params : Arguments} {body : Expr} {scope : Scope} {t : L2.XK → TE} {p lpos pos : Pos} (hg : Gl X x) (hm : X.mg x = some (.ref g)) (hk : PySem.W.keepIn X.K (.ref g) = true)
    (lk : X.K.lookup g = some ⟨oc, od, .func (PySem.W.fnOf x x pg bg sg dV kV doc pm an cdv ct), osl⟩) (hcg : PySem.W.codeIn X.K cdv x = true) (hb : L2.Binds X.K (PySem.W.fnOf x x pg bg sg dV kV doc pm an cdv ct) [a] []) (Sg : FnScope Ng [a] sg) (hNg : Ng[0]? = some a) (hva : Vis sg a)
    (hG : GivesToN X.prog X.w X.K X.mg X.base X.A X.stack Ng x sg g cdv bg a (k + 1) (X.env.qual ++ "<lambda>") TT)
    (TB : TabB X.base X.mg c P) (hcode : X.env.code = .ref c) (hmT : (P, X.env.qual ++ "<lambda>") ∈ T) (hu : ∀ p ∈ T, p.1 = P → p.2 = X.env.qual ++ "<lambda>") (hr : Room (k + 2) X.A) (L : LamS X.env.scope scope) (hdef : defaultsOf params X.env = ([], []))
    (hbind : ∀ (q : Str) (cl : List (Str × Addr)) (pm cv ctv : Value), bindArgs (PySem.W.kla_fn "<lambda>" q params body scope cl pm cv ctv) ⟨[], []⟩ = pure [])
    (hbody : ∀ (A : Around) (outer : List PySem.Env) (s : Shared) (H : Hp) (E : L2.XK) (f c' : Addr), Room k (A.deeper (lamEnv X scope s.heap.objs.size f c')) → PE (lamCxN X A outer s H E scope f c') body (t E))
    (hdb : (x == ("__debug__" : Str)) = false := by decide) (hd : (a == ("__debug__" : Str)) = false := by decide) (hcd : (a == ("__classdict__" : Str)) = false := by decide) :
    PE X (.Call (.Name x p) [.Lambda params body scope lpos] [] pos) (tLam T TT t) := by
  refine ⟨fun pins s σ H Q I h => ?_⟩
  obtain ⟨hT, h⟩ := h
  refine wpAny_Call_Name_kw (ld_glob I hg hm ?_ hdb)
  refine PySem.W.callWith_K (h₀ := X.base) I.ok.mod.kin hk ?_ (by rfl) (by rfl)
  show wpAny _ _ (spliced ((false, eval (.Lambda params body scope lpos) X.env) :: backTo pos (starEach [] X.env))) _ _ s
  refine Calls.spliced_cons (lam_make2 I TB hcode hmT hu hT hdef (L.has I.ok) fun f c' pm' ctv H1 s' I1 eN T1 hf hfn hfr hco => ?_)
  refine Calls.spliced_nil ⟨I1.kIn, ?_⟩
  have rc : codeAny (model X.prog X.w) X.A (.call (.ref g) ⟨[.ref f], []⟩) (CR C8.CX0 X.stack X.prog X.w H1 s' Q C8.E0) s' := by
    refine run_ofS (N := Ng) (ps := [a]) (us := [.ref f]) (vs := [.ref f]) lk hcg Sg hr I1.env0 (hb s' [.ref f] I1.kIn rfl) (.cons rfl .nil) rfl fun hr' => ?_
    obtain ⟨t', ht', hq'⟩ := hG f c' s' H1 Q (fun E H' Q' => t E σ H' Q') hr' (fun W pn xe p1 p2 tk => pe_actN (i := 0) I1 L hf hfn hfr (hbind _ _ _ _ _) tk hr' (fun A outer s H E hr2 => hbody A outer s H E f c' hr2) hNg hva hd hcd) hco (h H1 eN T1)
    exact ⟨t', ht'.nox, hq'⟩
  refine wpAny_call (codeAny_mono rc fun r s2 hq => ?_)
  cases r with
  | error e => exact (show False from hq).elim
  | ok fl =>
    cases fl with
    | ret u => exact I1.after hq
    | next => exact False.elim hq
    | brk => exact False.elim hq
    | cont => exact False.elim hq
end
end PD

end
section
set_option Elab.async false
set_option linter.all false
set_option maxRecDepth 100000
/-! is True, is False of anything; the signs of a text; join -/
namespace PD
open PySem PySem.Spec PyProof.Rows L2 RZ

/-- no built-in -/
def PlV : V → Prop
  | .non => True
  | .bl _ => True
  | .int _ => True
  | .str _ => True
  | .ref _ => True
  | _ => False
def rIsB2 : R2 := fun x y H Q => ∃ b : Bool, y = .bl b ∧ PlV x ∧ Q (.bl (decide (x = .bl b))) H
def rNotB2 : R2 := fun x y H Q => ∃ b : Bool, y = .bl b ∧ PlV x ∧ Q (.bl (!decide (x = .bl b))) H
theorem plain_bool {x : V} {v : Value} (b : Bool) (p : PlV x) (r : RelV x v) : plainIs v (.bool b) = true := by
  cases x <;> first
    | exact False.elim p
    | (cases (show v = _ from r); rfl)
    | (obtain ⟨t, rfl⟩ := (show ∃ t, v = _ from r); rfl)
section
variable {X : Cx}
theorem is_bool {x : V} {v : Value} {b : Bool} (pl : PlV x) (r : RelV x v) : (v = .bool b) ↔ x = .bl b := by
  cases x <;> first
    | exact False.elim pl
    | (cases (show v = _ from r); simp; done)
    | (obtain ⟨t, rfl⟩ := (show ∃ t, v = _ from r); simp; done)
theorem op_isB2 : OpR X (compareOp .Is) rIsB2 := by
  intro pins s σ H x y v u Q I rx ry h
  obtain ⟨b, rfl, pl, q⟩ := h
  cases (show u = Value.bool b from ry)
  by_cases e : x = .bl b
  · subst e
    cases (show v = Value.bool b from rx)
    exact wpAny_is_self rfl ⟨.bl true, H, I, rfl, by simpa using q⟩
  · exact wpAny_is_other (plain_bool _ pl rx) (fun z => e ((is_bool pl rx).mp z)) ⟨.bl false, H, I, rfl, by simpa [e] using q⟩
theorem op_notB2 : OpR X (compareOp .IsNot) rNotB2 := by
  intro pins s σ H x y v u Q I rx ry h
  obtain ⟨b, rfl, pl, q⟩ := h
  cases (show u = Value.bool b from ry)
  by_cases e : x = .bl b
  · subst e
    cases (show v = Value.bool b from rx)
    exact wpAny_isNot_self rfl ⟨.bl false, H, I, rfl, by simpa using q⟩
  · exact wpAny_isNot_other (plain_bool _ pl rx) (fun z => e ((is_bool pl rx).mp z)) ⟨.bl true, H, I, rfl, by simpa [e] using q⟩
end
def isB (b : Bool) : D → Bool
  | .bl a => a == b
  | _ => false
def isB2P (_ : Env) (x y : D) (k : D → Prop) : Prop := match y with
  | .bl b => k (.bl (isB b x))
  | _ => False
def notB2P (_ : Env) (x y : D) (k : D → Prop) : Prop := match y with
  | .bl b => k (.bl (!isB b x))
  | _ => False
section
variable {c : C0} {t : Tm} {σ : L2.St} {H H' : Hp} {ρ : Env}
theorem RpO.isB {d : D} {v : V} {b : Bool} (r : RpO c t σ H d v) (h : EnvOk c t σ H ρ) : decide (v = .bl b) = isB b d := by
  rcases r with r | ⟨i, rfl, hi, e⟩
  · cases r <;> first
      | rfl
      | exact decide_eq_false (fun z => by cases z)
      | (rename_i a; cases a <;> cases b <;> rfl)
  · cases hd : ρ[i]? with
    | none =>
      have l1 := List.getElem?_eq_none_iff.mp hd
      have l2 := (List.getElem?_eq_some_iff.mp e).1
      have := h.len
      omega
    | some o =>
      cases o with
      | none =>
        have := h.ownn i hi hd
        rw [e] at this; cases this
      | some d =>
        obtain ⟨l, e1, _⟩ := h.ownv i d hd hi
        rw [e] at e1; cases e1
        exact decide_eq_false (fun z => by cases z)
theorem RpO.plv {d : D} {v : V} (r : RpO c t σ H d v) (h : EnvOk c t σ H ρ) : PlV v := by
  rcases r with r | ⟨i, rfl, hi, e⟩
  · cases r <;> trivial
  · cases hd : ρ[i]? with
    | none =>
      have l1 := List.getElem?_eq_none_iff.mp hd
      have l2 := (List.getElem?_eq_some_iff.mp e).1
      have := h.len
      omega
    | some o =>
      cases o with
      | none =>
        have := h.ownn i hi hd
        rw [e] at this; cases this
      | some d =>
        obtain ⟨l, e1, _⟩ := h.ownv i d hd hi
        rw [e] at e1; cases e1
        trivial
theorem sr_isB2 : SR2 c rIsB2 isB2P := fun t σ H ρ x y dx dy P Q h rx ry q k => by
  cases dy with
  | bl b =>
    refine ⟨b, ry.bl, rx.plv h, ?_⟩
    rw [rx.isB h]
    exact k _ _ H h (.bl _) q
  | _ => exact False.elim q
theorem sr_notB2 : SR2 c rNotB2 notB2P := fun t σ H ρ x y dx dy P Q h rx ry q k => by
  cases dy with
  | bl b =>
    refine ⟨b, ry.bl, rx.plv h, ?_⟩
    rw [rx.isB h]
    exact k _ _ H h (.bl _) q
  | _ => exact False.elim q
/-! the signs of a text -/
def signs (x : Str) : List D := x.cps.toList.map fun c => .str ⟨#[c]⟩
def dStrI (a : DE) : DI := fun ρ P => a ρ fun d ρ1 => match d with
  | .str x => P (signs x) ρ1
  | _ => False
theorem si_str {ta : TE} {da : DE} (ha : SV c ta da) : SI c (iStr ta) (dStrI da) := fun t σ H ρ P R h q k =>
  ha t σ H ρ _ _ h q fun v d H1 ρ1 h1 r1 q1 => by
    cases d with
    | str x =>
      cases r1
      refine ⟨x, rfl, k t _ _ H1 ρ1 rfl (.refl t) h1 (fun t2 σ H ρ s h => ?_) q1⟩
      have el : (signs x).length = x.cps.size := by unfold signs; rw [List.length_map, Array.length_toList]
      rw [el]
      refine ⟨fun i hi => hi, fun i y H' z hi => ?_, Nat.le_refl _⟩
      obtain ⟨rfl, c', hc, rfl⟩ := z
      refine ⟨_, ?_, h, .str _⟩
      unfold signs
      rw [List.getElem?_map, Array.getElem?_toList, hc]; rfl
    | _ => exact False.elim q1
/-- x.join(ys) -/
def rJoin (K : PySem.W.Frag) : V → List V → Hp → VK → Prop := fun x xs H Q => ∃ a p, ∃ ys : List Str, x = .str a ∧ xs = [.ref p] ∧ (SqL K H p (ys.map V.str) ∨ SqT K H p (ys.map V.str)) ∧
      (ys.map (·.length)).sum + ys.length * a.length ≤ 16777216 ∧ Q (.str (Txt.join a ys)) H
theorem pe_joinK {K : PySem.W.Frag} {X : Cx} {o e : Expr} {to te : TE} {apos pos : Pos} (h : X.K = K) (ho : PE X o to) (he : PE X e te) (hs : starEach [e] X.env = [(false, eval e X.env)] := by rfl) (hbase : attributeBase o "join" X.env (eval o X.env) = eval o X.env := by rfl) (hline : (apos.endLine == pos.line) = true := by rfl) :
    PE X (.Call (.Attribute o "join" apos) [e] [] pos) (tM1 (rJoin K) to te) := h ▸ pe_join ho he hs hbase hline
theorem RpL.strs {K : PySem.W.Frag} {A : Addr → Prop} {H : Hp} : ∀ {ns : List Str} {vs : List V}, RpL K A H (ns.map D.str) vs → vs = ns.map V.str
  | [], _, .nil => rfl
  | _ :: _, _, .cons (.str _) b => congrArg (_ :: ·) (RpL.strs b)
def dJoin (a b : DE) : DE := fun ρ P => a ρ fun x ρ1 => match x with
  | .str s => b ρ1 fun y ρ2 => ∃ ys : List Str, (match y with
    | .lst l => l = ys.map D.str
    | _ => False) ∧ (ys.map (·.length)).sum + ys.length * s.length ≤ 16777216 ∧ P (.str (Txt.join s ys)) ρ2
  | _ => False
theorem sv_join {ta tb : TE} {da db : DE} (ha : SV c ta da) (hb : SV c tb db) : SV c (tM1 (rJoin c.K) ta tb) (dJoin da db) := fun t σ H ρ P Q h q k => by
  refine ha t σ H ρ _ _ h q fun v d H1 ρ1 h1 r1 q1 => ?_
  cases d with
  | str s =>
    cases r1
    refine ⟨⟨s, rfl⟩, hb t σ H1 ρ1 _ _ h1 q1 fun u e H2 ρ2 h2 r2 q2 => ?_⟩
    obtain ⟨ys, hy, hz, q2⟩ := q2
    cases e with
    | lst l =>
      have hy : l = ys.map D.str := hy
      subst hy
      obtain ⟨a, vs, rfl, _, ha2, rs⟩ := r2.seqL
      obtain rfl := rs.strs
      exact ⟨s, a, ys, rfl, rfl, .inl (.of ha2), hz, k _ _ H2 ρ2 h2 (.str _) q2⟩
    | _ => exact False.elim hy
  | _ => exact False.elim q1
end
theorem join_single : ∀ l : List Nat, Str.join (Str.ofString "") (l.map fun c => (⟨#[c]⟩ : Str)) = ⟨l.toArray⟩
  | [] => by
    show Str.empty = _
    rfl
  | [c] => rfl
  | c :: d :: l => by
    have ih := join_single (d :: l)
    show (⟨#[c]⟩ : Str) ++ Str.ofString "" ++ Str.join (Str.ofString "") ((d :: l).map fun c => (⟨#[c]⟩ : Str)) = _
    rw [ih]
    show (⟨(#[c] ++ (Str.ofString "").cps) ++ (d :: l).toArray⟩ : Str) = _
    have e : (Str.ofString "").cps = #[] := by decide +kernel
    rw [e]
    simp
/-- the signs of a text joined -/
theorem signs_join (x : Str) : ∃ ys : List Str, signs x = ys.map D.str ∧ Txt.join (Str.ofString "") ys = x ∧ (ys.map (·.length)).sum + ys.length * (Str.ofString "").length = x.length := by
  refine ⟨x.cps.toList.map fun c => ⟨#[c]⟩, ?_, ?_, ?_⟩
  · unfold signs; rw [List.map_map]; rfl
  · rw [TL.join_eq, join_single]
  · have e : (Str.ofString "").length = 0 := by decide +kernel
    rw [e, Nat.mul_zero, Nat.add_zero, List.map_map]
    have e2 : ((fun s : Str => s.length) ∘ fun c => (⟨#[c]⟩ : Str)) = fun _ : Nat => 1 := by funext c; rfl
    rw [e2]
    show _ = x.cps.size
    rw [← Array.length_toList]
    generalize x.cps.toList = l
    induction l with
    | nil => rfl
    | cons a l ih => rw [List.map_cons, List.sum_cons, ih, List.length_cons]; omega
end PD

end
section
set_option Elab.async false
set_option linter.all false
set_option maxRecDepth 100000
/-! what is told of a lambda: its value read, or the error's name -/
namespace PD
open PySem PySem.Spec PyProof.Rows L2 RZ LamX

theorem Pn.nt {o : HO} (h : Pn o) : ∀ ps, o ≠ .tbl ps := fun ps e => by subst e; exact h
def exNm : Ex → Str
  | .form => "form"
  | .range => "range"
/-- told: (0, what is read), or (1, the error's name) -/
def TTold (K : PySem.W.Frag) (cl : Ex → Addr) (T : List (Addr × Str)) (Fr : FP) : (L2.XK → Hp → VK → Prop) → Hp → VK → Prop := fun tl H Q => ∀ (E' : L2.XK) (Q' : VK),
  (∀ x H', LamX.Tabs T H' → (∀ H'' p, Gr T H' H'' → (∀ o, H' p = some o → Pn o → False) → H'' p = some (.tup [.int 1, .str (exNm x)]) → Q (.ref p) H'') → E' (.ref (cl x)) none H') →
  (∀ v H', spP K cl T 1 Fr [v] H' (fun w H'' => ∀ p, H'' p = none → Q (.ref p) (upd H'' p (.tup [.int 0, w]))) E0 → Q' v H') → tl E' H Q'
def wipeO (own : Nat → Bool) (ρ : Env) : Env := ρ.mapIdx fun i x => if own i then none else x
theorem wipeO_len (own : Nat → Bool) (ρ : Env) : (wipeO own ρ).length = ρ.length := by unfold wipeO; rw [List.length_mapIdx]
theorem wipeO_get {own : Nat → Bool} {ρ : Env} {i : Nat} {d : D} (h : (wipeO own ρ)[i]? = some (some d)) : own i = false ∧ ρ[i]? = some (some d) := by
  unfold wipeO at h
  rw [List.getElem?_mapIdx] at h
  cases e : ρ[i]? with
  | none => rw [e] at h; cases h
  | some x =>
    rw [e] at h
    have h : (if own i then none else x) = some d := Option.some.inj h
    cases ho : own i with
    | true => rw [ho] at h; cases h
    | false => rw [ho] at h; exact ⟨rfl, congrArg some h⟩
def dTold (Fr : FP) (own : Nat → Bool) (db : (Ex → Prop) → DE) : DE := fun ρ P => db (fun x => P (.tup [.int 1, .str (exNm x)]) ρ) (wipeO own ρ) fun d _ => Fr [d] (fun e => P (.tup [.int 0, e]) ρ) noX
section
variable {K : PySem.W.Frag} {z : Addr → Prop} {bx : Option Addr} {h0 : Hp} {own : Nat → Bool} {ew : L2.XK} {dw : Ex → Prop} {cl : Ex → Addr} {T : List (Addr × Str)} {Fr : FP}
theorem sv_told {tb : L2.XK → TE} {db : (Ex → Prop) → DE} (hb : ∀ z h0 E W, TakesE ⟨K, z, none, h0, fun _ => false, E, W, cl, T⟩ E W → SV ⟨K, z, none, h0, fun _ => false, E, W, cl, T⟩ (tb E) (db W)) :
    SV ⟨K, z, bx, h0, own, ew, dw, cl, T⟩ (tLam T (TTold K cl T Fr) tb) (dTold Fr own db) := fun t σ H ρ P Q h q k => by
  refine ⟨h.tabs, fun H1 eN t1 E' Q' hE hQ => ?_⟩
  have h1 : EnvOk ⟨K, z, bx, h0, own, ew, dw, cl, T⟩ t σ H1 ρ := h.grow ⟨fun a o e pn => eN a o e pn.nt, fun _ => t1⟩
  generalize hc : (⟨K, z, bx, h0, own, ew, dw, cl, T⟩ : C0) = c at h h1 k
  have ecK : c.K = K := by rw [← hc]
  have ecT : c.T = T := by rw [← hc]
  have eco : c.own = own := by rw [← hc]
  have far : ∀ a, Far ⟨K, Far c t σ, none, H1, fun _ => false, E', fun x => P (.tup [.int 1, .str (exNm x)]) ρ, cl, T⟩ ⟨[], []⟩ σ a ↔ Far c t σ a := fun a => by
    constructor
    · rintro (f | ⟨o, f⟩ | ⟨i, hi, _⟩)
      · exact f
      · cases f
      · cases hi
    · exact .inl
  have farE : Far ⟨K, Far c t σ, none, H1, fun _ => false, E', fun x => P (.tup [.int 1, .str (exNm x)]) ρ, cl, T⟩ ⟨[], []⟩ σ = Far c t σ := funext fun a => propext (far a)
  have hl : EnvOk ⟨K, Far c t σ, none, H1, fun _ => false, E', fun x => P (.tup [.int 1, .str (exNm x)]) ρ, cl, T⟩ ⟨[], []⟩ σ H1 (wipeO own ρ) := by
    refine ⟨by rw [wipeO_len]; exact h1.len, fun a o e _ _ => e, t1, fun a f => h1.trk a ((far a).mp f), fun i d e _ => ?_, fun i d e hi => (nomatch hi), fun i hi => (nomatch hi), fun i j l hi => (nomatch hi), fun b e => (nomatch e), fun p hp => (nomatch hp), fun p hp => (nomatch hp)⟩
    obtain ⟨ho, e⟩ := wipeO_get e
    rw [farE]
    obtain ⟨v, e1, r⟩ := h1.val i d e (by rw [eco]; exact ho)
    exact ⟨v, e1, by rw [← ecK]; exact r⟩
  refine hb (Far c t σ) H1 E' (fun x => P (.tup [.int 1, .str (exNm x)]) ρ) (fun x H' fr tb w => hE x H' tb fun H'' p g fresh ep => ?_) ⟨[], []⟩ σ H1 (wipeO own ρ) _ Q' hl q (fun v d H2 ρ2 h2 r2 q2 => hQ v H2 ?_)
  · have g1 : Gr T H1 H'' := ⟨fun a o e pn => g.1 a o (fr a o e pn (fun z => nomatch z)) pn, fun _ => g.2 tb⟩
    have h3 : EnvOk c t σ H'' ρ := h1.grow (by rw [ecT]; exact g1)
    have np : ¬ Far c t σ p := fun f => by
      obtain ⟨o, eo, pn⟩ := h1.trk p f
      exact fresh o (fr p o eo pn (fun z => nomatch z)) pn
    exact k _ (.tup [.int 1, .str (exNm x)]) H'' ρ h3 (.tup np ep (.cons (.int 1) (.cons (.str _) .nil))) w
  · rw [farE] at r2
    have g2 : Gr T H1 H2 := ⟨fun a o e pn => h2.frame a o e pn (fun z => nomatch z), fun _ => h2.tabs⟩
    have h2' : EnvOk c t σ H2 ρ := h1.grow (by rw [ecT]; exact g2)
    refine ⟨Far c t σ, [d], _, noX, rfl, h2.tabs, h2'.trk, .cons r2 .nil, q2, fun w e H3 g3 r3 p3 p hp => ?_, fun _ _ _ w => w.elim⟩
    have h3 : EnvOk c t σ H3 ρ := h2'.grow (by rw [ecT]; exact g3)
    exact k _ (.tup [.int 0, e]) _ ρ (h3.new hp) (.tup (h3.far hp) upd_same (.cons (.int 0) (.cons (by rw [ecK]; exact r3.grow (upd_grow hp)) .nil))) p3
end

/-! ### the suite that tells the error's name -/
section
variable {c : C0} {ta : TE} {da : DE}
/-- the items of a list -/
def dLstI (a : DE) : DI := fun ρ P => a ρ fun d ρ1 => match d with
  | .lst xs => P xs ρ1
  | _ => False
theorem si_lst (ha : SV c ta da) : SI c (iList c.K ta) (dLstI da) := fun t σ H ρ P R h q k =>
  ha t σ H ρ _ _ h q fun v d H1 ρ1 h1 r1 q1 => by
    have un : Sub t ⟨(d, v) :: t.vals, t.hold⟩ := (Sub.refl t).cons
    cases d with
    | lst xs =>
      obtain ⟨a, vs, rfl, _, hs, _⟩ := r1.seqL
      refine ⟨a, rfl, ⟨vs, .of hs⟩, k ⟨(_, _) :: t.vals, t.hold⟩ _ xs H1 ρ1 rfl un (h1.pin r1) (itl_ok fun t2 σ H ρ s h => ?_) q1⟩
      obtain ⟨a', vs, e, _, hs, rs⟩ := (h.tv _ (s _ List.mem_cons_self)).seqL
      cases e
      exact ⟨vs, .of hs, rs⟩
    | _ => exact False.elim q1
/-- isinstance(e, c) -/
def isEP (K : PySem.W.Frag) (C a : Addr) (_ : Env) (xs : List D) (k : D → Prop) : Prop := ∃ (cc : Addr) (b : Bool), xs = [.fn a, .fn cc] ∧ PySem.W.kitOne K (.ref C) (.ref cc) = some b ∧ k (.bl b)
theorem sr_isE {C a : Addr} : SRL c (rIsE c.K C a) (isEP c.K C a) := fun t σ H ρ xs ds P Q h r q k => by
  obtain ⟨cc, b, rfl, e, q⟩ := q
  cases r with
  | cons r1 r2 => cases r2 with
    | cons r2 r3 =>
      cases r3
      have e1 := r1.rp trivial
      have e2 := r2.rp trivial
      cases e1
      cases e2
      exact ⟨_, .ref cc, b, rfl, fun u hu => hu, e, k _ _ H h (.bl b) q⟩
end
def exEq : Ex → Ex → Bool
  | .form, .form => true
  | .range, .range => true
  | _, _ => false
/-- the facts of an own error's class -/
structure ExF (K : PySem.W.Frag) (cl : Ex → Addr) (pe : Addr) (x : Ex) : Prop where
  c : L2.ExcC K (cl x)
  m : PySem.W.exmOne K (.ref (cl x)) (.ref pe) = some true
  k : ∀ y, PySem.W.kitOne K (.ref (cl x)) (.ref (cl y)) = some (exEq x y)
theorem pss_ex {X : Cx} {α : Type} {p : α → Prop} {ts : α → TS} {sts : List Stmt} (h : ∀ x, p x → PSs X sts (ts x)) : PSs X sts (fun D σ H => ∃ x, p x ∧ ts x D σ H) := ⟨fun pins s σ H D I q => by
  obtain ⟨x, hp, q⟩ := q
  exact (h x hp).run pins s σ H D I q⟩
/-- words = [word for word, is_so in [("form", isinstance(e, form)), ("range", isinstance(e, range))] if is_so]; return (1, words[0] if len(words) == 1 else "wrong") -/
def tSuite (K : PySem.W.Frag) (cl : Ex → Addr) (C a : Addr) : TS :=
  tSeq (tAsg (tLc (iList K (tLst (tCons (tTup (tCons (tC (.str "form")) (tCons (tCB (rIsE K C a) (tCons (tVar 1) (tCons (tC (.ref (cl .form))) tNil))) tNil))) (tCons (tTup (tCons (tC (.str "range")) (tCons (tCB (rIsE K C a) (tCons (tVar 1) (tCons (tC (.ref (cl .range))) tNil))) tNil))) tNil))))
      (gTup K 2 (gCons (gName 3) (gCons (gName 4) gNil))) (tTest (tVar 4)) (tVar 3) [3, 4]) (gName 2))
    (tRet (tTup (tCons (tC (.int 1)) (tCons (tIf (tTest (tOp (rEqD K) (tCB (rLenK K) (tCons (tVar 2) tNil)) (tC (.int 1)))) (tOp (rIx K) (tVar 2) (tC (.int 0))) (tC (.str "wrong"))) tNil))))
def dSuite (K : PySem.W.Frag) (cl : Ex → Addr) (C a : Addr) : DS :=
  dSeq (dSet 2 (dLc (dLstI (dLst (dCons (dTup (dCons (dC (.str "form")) (dCons (dCB (isEP K C a) (dCons (dVar 1) (dCons (dC (.fn (cl .form))) dNil))) dNil))) (dCons (dTup (dCons (dC (.str "range")) (dCons (dCB (isEP K C a) (dCons (dVar 1) (dCons (dC (.fn (cl .range))) dNil))) dNil))) dNil))))
      (dgTup 2 (dgCons (dgName 3) (dgCons (dgName 4) dgNil))) (dTest (dVar 4)) (dVar 3) [3, 4]))
    (dRet (dTup (dCons (dC (.int 1)) (dCons (dIf (dTest (dOp eqP (dCB lenP (dCons (dVar 2) dNil)) (dC (.int 1)))) (dOp ixP (dVar 2) (dC (.int 0))) (dC (.str "wrong"))) dNil))))
section
variable {K : PySem.W.Frag} {z : Addr → Prop} {bx : Option Addr} {h0 : Hp} {ew : L2.XK} {dw : Ex → Prop} {cl : Ex → Addr} {T : List (Addr × Str)}
theorem ss_suite {C a : Addr} : SS ⟨K, z, bx, h0, fun _ => false, ew, dw, cl, T⟩ (tSuite K cl C a) (dSuite K cl C a) :=
  ss_seq (ss_set 2 rfl (SFL.v (sfl_lc (vs := [3, 4]) (si_lst (sv_lst (sa_cons (sv_tup (sa_cons sv_str (sa_cons (sv_cb sr_isE (sao_cons (SV.se (sv_var 1 rfl)) (sao_cons (SV.se sv_fn) sao_nil))) sa_nil))) (sa_cons (sv_tup (sa_cons sv_str (sa_cons (sv_cb sr_isE (sao_cons (SV.se (sv_var 1 rfl)) (sao_cons (SV.se sv_fn) sao_nil))) sa_nil))) sa_nil))))
      (sg_tup (sgs_cons (sg_name 3 rfl) (sgs_cons (sg_name 4 rfl) sgs_nil))) (st_test (sv_var 4 rfl)) (sv_var 3 rfl) rfl rfl)))
    (ss_ret (SV.se (sv_tup (sa_cons sv_int (sa_cons (sv_if (st_testO (sv_op sr_eq (SV.se (sv_cb sr_len (sao_cons (SV.se (sv_var 2 rfl)) sao_nil))) (SV.se sv_int))) (sv_op sr_ix (SV.se (sv_var 2 rfl)) (SV.se sv_int)) sv_str) sa_nil)))))
end
def suiteAcc (x : Ex) : Nat → List D
  | 0 => []
  | 1 => if exEq x .form then [.str "form"] else []
  | _ => [.str (exNm x)]
theorem suite_ok {K : PySem.W.Frag} {cl : Ex → Addr} {pe f a : Addr} {x : Ex} (F : ExF K cl pe x) {De : DEnds} (h : ∀ ρ, De.rt (.tup [.int 1, .str (exNm x)]) ρ) :
    dSuite K cl (cl x) a De [some (.fn f), some (.fn a), none, none, none] := by
  have hk := F.k
  simp only [dSuite, dSeq, dSet, dLc, dLstI, dLst, dCons, dTup, dC, dCB, isEP, dVar, dNil, List.getElem?_cons_zero, List.getElem?_cons_succ]
  refine ⟨_, _, rfl, hk .form, _, _, rfl, hk .range, ?_⟩
  have hz : (0 : Nat) < sizeLine := by decide
  refine ⟨fun i acc ρ => ρ = [some (.fn f), some (.fn a), none, none, none] ∧ acc = suiteAcc x i, ⟨rfl, rfl⟩, ?_, ?_⟩
  · rintro i d acc ρ2 e ⟨rfl, w⟩
    subst w
    match i, e with
    | 0, e =>
      cases e
      cases x <;> simp [dgTup, dgCons, dgNil, dgName, wipeD, backD, dTest, dVar, sel, suiteAcc, exEq, exNm, hz]
    | 1, e =>
      cases e
      cases x <;> simp [dgTup, dgCons, dgNil, dgName, wipeD, backD, dTest, dVar, sel, suiteAcc, exEq, exNm, hz]
    | i + 2, e => simp at e
  · rintro acc ρ2 ⟨rfl, w⟩
    subst w
    simp [dRet, dIf, dTest, dOp, eqP, lenP, ixP, onS, onL, deref, okN, okNs, eqD_int, sel, dC, dTup, dCons, dNil, dCB, dVar, suiteAcc]
    exact h _
end PD

end
section
set_option Elab.async false
set_option linter.all false
set_option maxRecDepth 100000
/-! told(lambda: body) in a def whose code object and table are known -/
namespace PD
open PySem PySem.Spec PyProof.Rows L2 RZ LamX

/-- a def whose code object stands at c -/
structure FunC (K : PySem.W.Frag) (x qual : Str) (st : Stmt) (f c : Addr) (fd : FuncData) : Prop where
  ex : ∃ (oc : Value) (od : Option Addr) (kV doc pm : Value) (an : Option Addr) (ct : Value) (osl : Array (Option Value)),
    fd = PySem.W.fnOf x qual (defArgs st) (defBody st) (defScope st) .none kV doc pm an (.ref c) ct ∧ K.lookup f = some ⟨oc, od, .func fd, osl⟩ ∧ PySem.W.codeIn K (.ref c) qual = true
  kp : PySem.W.keepIn K (.ref f) = true
theorem FunC.fn {K : PySem.W.Frag} {x qual : Str} {st : Stmt} {f c : Addr} {fd : FuncData} (F : FunC K x qual st f c fd) : Fun K x qual st f fd := by
  obtain ⟨oc, od, kV, doc, pm, an, ct, osl, h⟩ := F.ex
  exact ⟨⟨oc, od, kV, doc, pm, an, .ref c, ct, osl, h⟩, F.kp⟩
section
variable {P : Program} {w : World} {K : PySem.W.Frag} {mg : Str → Option Value} {base : Heap} {cl : Ex → Addr} {T : List (Addr × Str)}
variable {x qual : Str} {st : Stmt} {f c : Addr} {fd : FuncData} {N ps : List Str} {k : Nat}
theorem FunC.okN {sp : Sp} (F : FunC K x qual st f c fd) (S : FnScope N ps (defScope st)) (len : ∀ vs H Q E, sp vs H Q E → vs.length = ps.length)
    (hbody : ∀ (A : Around) (outer : List PySem.Env) (s : Shared) (H : Hp) (vs : List V) (Q : VK) (E : L2.XK), Room k (A.deeper (envOfC qual (defScope st) s.heap.objs.size f (.ref c))) → sp vs H Q E →
      ∃ t, PSs (cxOf (L2N.CX P w) P w K mg base N qual (defScope st) f (.ref c) A outer s H E) (defBody st) t ∧ t { nx := fun _ H' => Q .non H', rt := Q } (L2.start N vs) H) : FnOk P w K mg base (L2N.CX P w) (k + 1) f fd ps sp := by
  obtain ⟨oc, od, kV, doc, pm, an, ct, osl, rfl, lk, hcd⟩ := F.ex
  exact fn_of lk hcd S len fun A outer s H vs Q E hr hsp => hbody A outer s H vs Q E hr hsp
/-- fn_pure, the code object known -/
theorem fn_pureC (F : FunC K x qual st f c fd) (S : FnScope N ps (defScope st)) (own : Nat → Bool) (hown : ∀ i, i < ps.length → own i = false) {Fs : FP} (ds : (Ex → Prop) → DS)
    (body : ∀ (A : Around) (outer : List PySem.Env) (s : Shared) (H : Hp) (E : L2.XK), Room k (A.deeper (envOfC qual (defScope st) s.heap.objs.size f (.ref c))) →
      ∃ ts, PSs (cxOf (L2N.CX P w) P w K mg base N qual (defScope st) f (.ref c) A outer s H E) (defBody st) ts ∧ ∀ z h0 dw, TakesE ⟨K, z, none, h0, own, E, dw, cl, T⟩ E dw → SS ⟨K, z, none, h0, own, E, dw, cl, T⟩ ts (ds dw))
    (spec : ∀ args P W, args.length = ps.length → Fs args P W → ds W ⟨fun _ => P .non, fun d ρ => P (retD ρ d), fun _ => False, fun _ => False⟩ (startD N.length args)) :
    FnOk P w K mg base (L2N.CX P w) (k + 1) f fd ps (spP K cl T ps.length Fs) := by
  exact FunC.okN F S (fun vs H Q E h => pure_len h) (fun A outer s H vs Q E hr h => by
    obtain ⟨ts, hts, hs⟩ := body A outer s H E hr
    exact ⟨ts, hts, pure_run own hown hs spec h⟩)
/-- fn_box, the code object known -/
theorem fn_boxC (F : FunC K x qual st f c fd) (S : FnScope N ps (defScope st)) (own : Nat → Bool) (hown : ∀ i, i < ps.length → own i = (i == 0)) (h0 : 0 < ps.length) {Fs : FB} (ds : (Ex → Prop) → DS)
    (body : ∀ (A : Around) (outer : List PySem.Env) (s : Shared) (H : Hp) (E : L2.XK), Room k (A.deeper (envOfC qual (defScope st) s.heap.objs.size f (.ref c))) →
      ∃ ts, PSs (cxOf (L2N.CX P w) P w K mg base N qual (defScope st) f (.ref c) A outer s H E) (defBody st) ts ∧ ∀ z b h0 dw, TakesE ⟨K, z, some b, h0, own, E, dw, cl, T⟩ E dw → SS ⟨K, z, some b, h0, own, E, dw, cl, T⟩ ts (ds dw))
    (spec : ∀ bx args P W, args.length + 1 = ps.length → Fs (bx :: args) P W → ds W ⟨fun ρ => ∃ b, ρ[0]? = some (some b) ∧ P .non b, fun d ρ => ∃ b, ρ[0]? = some (some b) ∧ NotOwn d ∧ P d b, fun _ => False, fun _ => False⟩ (startD N.length (bx :: args))) :
    FnOk P w K mg base (L2N.CX P w) (k + 1) f fd ps (spB K cl T ps.length Fs) := by
  exact FunC.okN F S (fun vs H Q E h => box_len h) (fun A outer s H vs Q E hr h => by
    obtain ⟨ts, hts, hs⟩ := body A outer s H E hr
    exact ⟨ts, hts, box_run own hown h0 hs spec h⟩)
end
section
variable {X : Cx}
theorem pe_told {T : List (Addr × Str)} {TT : (L2.XK → Hp → VK → Prop) → Hp → VK → Prop} {x a : Str} {st : Stmt} {g c Pt : Addr} {fd : FuncData} {k : Nat} {Ng : List Str} {params : Arguments} {body : Expr} {scope : Scope} {t : L2.XK → TE} {p lpos pos : Pos}
    (F : Fun X.K x x st g fd) (hb : L2.Binds X.K fd [a] []) (Sg : FnScope Ng [a] (defScope st)) (hG : ∀ cdv, GivesToN X.prog X.w X.K X.mg X.base X.A X.stack Ng x (defScope st) g cdv (defBody st) a (k + 1) (X.env.qual ++ "<lambda>") TT)
    (hbody : ∀ (A : Around) (outer : List PySem.Env) (s : Shared) (H : Hp) (E : L2.XK) (f c' : Addr), Room k (A.deeper (lamEnv X scope s.heap.objs.size f c')) → PE (lamCxN X A outer s H E scope f c') body (t E))
    (hg : Gl X x) (hm : X.mg x = some (.ref g)) (hr : Room (k + 2) X.A)
    (TB : TabB X.base X.mg c Pt) (hcode : X.env.code = .ref c) (hmT : (Pt, X.env.qual ++ "<lambda>") ∈ T) (hu : ∀ p ∈ T, p.1 = Pt → p.2 = X.env.qual ++ "<lambda>")
    (hNg : Ng[0]? = some a) (hva : Vis (defScope st) a) (L : LamS X.env.scope scope) (hdef : defaultsOf params X.env = ([], []))
    (hbind : ∀ (q : Str) (cl : List (Str × Addr)) (pm cv ctv : Value), bindArgs (PySem.W.kla_fn "<lambda>" q params body scope cl pm cv ctv) ⟨[], []⟩ = pure [])
    (hdb : (x == ("__debug__" : Str)) = false := by decide) (hd : (a == ("__debug__" : Str)) = false := by decide) (hcd : (a == ("__classdict__" : Str)) = false := by decide) :
    PE X (.Call (.Name x p) [.Lambda params body scope lpos] [] pos) (tLam T TT t) := by
  obtain ⟨oc, od, kV, doc, pm, an, cdv, ct, osl, rfl, lk, hcg⟩ := F.ex
  exact pe_lamcallN hg hm F.kp lk hcg hb Sg hNg hva (hG cdv) TB hcode hmT hu hr L hdef hbind hbody hdb hd hcd
end
end PD

end
section
set_option Elab.async false
set_option linter.all false
set_option maxRecDepth 100000
/-! a def that gives a new list -/
namespace PD
open PySem PySem.Spec PyProof.Rows L2 RZ LamX

def spN (K : PySem.W.Frag) (cl : Ex → Addr) (T : List (Addr × Str)) (n : Nat) (F : FP) : Sp := fun vs H Q E => ∃ (z : Addr → Prop) (args : List D) (P : D → Prop), args.length = n ∧ LamX.Tabs T H ∧ (∀ a, z a → ∃ o, H a = some o ∧ Pn o) ∧ RpL K z H args vs ∧ F args P noX ∧
  ∀ p o d H', Gr T H H' → (∀ o, H p = some o → Pn o → False) → H' p = some o → OwnC K (fun a => a = p ∨ z a) H' o d → P d → Q (.ref p) H'
section
variable {c : C0} {t : Tm} {σ : L2.St} {H H' : Hp} {ρ : Env} {ta : TA} {da : DA}
theorem EnvOk.addLate {p : Addr} {o : HO} (h : EnvOk c t σ H ρ) (g : Gr c.T H H') (hp : ∀ o, H p = some o → Pn o → False) (e : H' p = some o) (pn : Pn o) : EnvOk c (t.add p o) σ H' ρ := by
  have keep : ∀ a o', ¬ Far c t σ a → H a = some o' → Pn o' → ¬ Far c (t.add p o) σ a ∧ H' a = some o' := fun a o' na e2 q => by
    have hne : a ≠ p := fun z => hp o' (by rw [← z]; exact e2) q
    exact ⟨fun f => (far_add.mp f).elim hne na, g.1 _ _ e2 q⟩
  have np : ¬ Far c t σ p := fun f => by
    obtain ⟨o', e', q⟩ := h.trk p f
    exact hp o' e' q
  have h1 := h.grow g
  refine ⟨h.len, h1.frame, h1.tabs, fun a f => ?_, fun i d e n => ?_, fun i d e n => ?_, h.ownn, h.dist, h.bx, fun q hq => (h.tv q hq).move keep, fun q hq => ?_⟩
  · rcases far_add.mp f with rfl | f
    · exact ⟨o, e, pn⟩
    · exact h1.trk a f
  · obtain ⟨v, e1, r⟩ := h.val i d e n
    exact ⟨v, e1, r.move keep⟩
  · obtain ⟨l, e1, x, z⟩ := h.ownv i d e n
    exact ⟨l, e1, x.move (fun o q pn => g.1 _ _ q pn) keep, z⟩
  · rcases List.mem_cons.mp hq with e' | hq
    · subst e'
      refine ⟨e, fun i hi e => np (.inr (.inr ⟨i, hi, e⟩)), fun o' e' q => ?_, pn⟩
      by_cases hb : c.box = some p
      · obtain ⟨a, b⟩ := h.bx p hb
        exact np (.inr (.inr ⟨0, a, b⟩))
      · exact hp o' (h.frame p o' e' q hb) q
    · exact h1.th q hq
theorem sf_callN {F : FP} {n : Nat} {E : L2.XK} (ha : SA c n ta da) : SF c (tCall (spN c.K c.cl c.T n F) [] E ta) (dCall F noX da) := fun t σ H ρ P Q h q k =>
  ha t σ H ρ _ _ h q fun vs ds H1 ρ1 h1 r1 n1 q1 => by
    rw [List.append_nil]
    refine ⟨Far c t σ, ds, _, by rw [r1.length]; exact n1, h1.tabs, h1.trk, r1, q1, fun p o d H2 g fresh e x p2 => k p o d H2 ρ1 (fun f => ?_) (h1.addLate g fresh e x.pn) (x.move fun a u na ea _ => ⟨fun f => na ((far_add.mp f).elim .inl .inr), ea⟩) p2⟩
    obtain ⟨o', e', q⟩ := h1.trk p f
    exact fresh o' e' q
end
section
variable {P : Program} {w : World} {K : PySem.W.Frag} {mg : Str → Option Value} {base : Heap} {cl : Ex → Addr} {T : List (Addr × Str)}
variable {x qual : Str} {st : Stmt} {f : Addr} {fd : FuncData} {N ps : List Str} {k : Nat}
theorem fn_new (F : Fun K x qual st f fd) (S : FnScope N ps (defScope st)) {Fs : FP} {de : DE}
    (body : ∀ (cdv : Value) (A : Around) (outer : List PySem.Env) (s : Shared) (H : Hp) (E : L2.XK), Room k (A.deeper (envOfC qual (defScope st) s.heap.objs.size f cdv)) →
      ∃ te, PSs (cxOf (L2N.CX P w) P w K mg base N qual (defScope st) f cdv A outer s H E) (defBody st) (tRet te) ∧ ∀ z h0, SF ⟨K, z, none, h0, fun _ => false, E, noX, cl, T⟩ te de)
    (spec : ∀ args P, args.length = ps.length → Fs args P noX → de (startD N.length args) fun d _ => P d) :
    FnOk P w K mg base (L2N.CX P w) (k + 1) f fd ps (spN K cl T ps.length Fs) := by
  refine Fun.okN F S (fun vs H Q E h => ?_) (fun cdv A outer s H vs Q E hr h => ?_)
  · obtain ⟨z, args, P, hl, _, hz, r, _⟩ := h
    rw [← r.length]; exact hl
  obtain ⟨te, hte, hs⟩ := body cdv A outer s H E hr
  refine ⟨_, hte, ?_⟩
  obtain ⟨z, args, P', hl, ht, hz, r, hF, hQ⟩ := h
  have far0 : ∀ a, Far ⟨K, z, none, H, fun _ => false, E, noX, cl, T⟩ ⟨[], []⟩ (L2.start N vs) a ↔ z a := fun a => by
    constructor
    · rintro (f | ⟨o, f⟩ | ⟨i, hi, e⟩)
      · exact f
      · cases f
      · cases hi
    · exact .inl
  have farE : Far ⟨K, z, none, H, fun _ => false, E, noX, cl, T⟩ ⟨[], []⟩ (L2.start N vs) = z := funext fun a => propext (far0 a)
  have env : EnvOk ⟨K, z, none, H, fun _ => false, E, noX, cl, T⟩ ⟨[], []⟩ (L2.start N vs) H (startD N.length args) := by
    refine ⟨start_len (n := 0) r.length, fun a o e _ _ => e, ht, fun a f => hz a ((far0 a).mp f), fun i d e hi => ?_, fun i d e hi => (nomatch hi), fun i hi => (nomatch hi), fun i j l hi => (nomatch hi), fun b e => (nomatch e), fun p hp => (nomatch hp), fun p hp => (nomatch hp)⟩
    rw [farE]
    exact (start_get r e).2
  refine hs z H ⟨[], []⟩ _ H _ _ _ env (spec args P' hl hF) fun p o d H' ρ' np h' x p1 => ?_
  obtain ⟨e1, _, e3, pn⟩ := h'.th (p, o) List.mem_cons_self
  refine hQ p o d H' ⟨fun a o e pn => h'.frame a o e pn (fun z => nomatch z), fun _ => h'.tabs⟩ e3 e1 (x.move fun a u na ea _ => ⟨?_, ea⟩) p1
  rintro (z1 | z1)
  · exact na (far_add.mpr (.inl z1))
  · exact na (far_add.mpr (.inr ((far0 a).mpr z1)))
/-- a def that is never called -/
theorem fn_none {F : FP} (hF : ∀ args P W, ¬ F args P W) {n : Nat} (hn : ps.length = n) : FnOk P w K mg base (L2N.CX P w) k f fd ps (spP K cl T n F) :=
  ⟨fun vs H Q E h => by rw [hn]; exact pure_len h, fun A outer s H args us vs Q E _ _ _ _ h => by
    obtain ⟨z, args, P, W, hl, _, hz, r, hF', _⟩ := h
    exact (hF _ _ _ hF').elim⟩
theorem takes_lam {X : Cx} {A : Around} {outer : List PySem.Env} {s : Shared} {H : Hp} {E : L2.XK} {scope : Scope} {f c' : Addr} : L2N.Takes (lamCxN X A outer s H E scope f c') (fun cls d _ H => E cls d H) := L2N.takes_of rfl rfl rfl rfl
end
end PD
namespace PD
open PySem PySem.Spec PyProof.Rows L2 RZ LamX
def toldTs (K : PySem.W.Frag) (cl : Ex → Addr) : Addr → Value → Option Addr → TS := fun a cls d D σ H => ∃ x : Ex, (cls = .ref (cl x) ∧ d = none) ∧ tSuite K cl (cl x) a D σ H
def toldTb (K : PySem.W.Frag) (cl : Ex → Addr) (T : List (Addr × Str)) (Fr : FP) (f c' : Addr) (q : Str) (tl : L2.XK → Hp → VK → Prop) : WX → TS := fun W =>
  tRet (tTup (tCons (tC (.int 0)) (tCons (tCall (spP K cl T 1 Fr) [] E0 (tCons (fun σZ HZ Q => ∃ E : L2.XK, σZ[0]? = some (some (.ref f)) ∧ HZ c' = some (CodeO c' q) ∧ (∀ cls d H', E cls d H' → W cls d σZ H') ∧ tl E HZ Q) tNil)) tNil)))
theorem told_end {K : PySem.W.Frag} {cl : Ex → Addr} {T : List (Addr × Str)} {pe : Addr} {Fr : FP} (FF : ∀ x, ExF K cl pe x) {tl : L2.XK → Hp → VK → Prop} {f c' : Addr} {q : Str} {H : Hp} {Q : VK} (hc : H c' = some (CodeO c' q)) (h : TTold K cl T Fr tl H Q) :
    toldTb K cl T Fr f c' q tl (wAs K (.ref pe) 1 (toldTs K cl) (fun _ _ _ _ => False) { nx := fun _ H' => Q .non H', rt := Q }) { nx := fun _ H' => Q .non H', rt := Q } [some (.ref f), none, none, none, none] H := by
  show ∃ E : L2.XK, _ ∧ _ ∧ _ ∧ _
  refine ⟨fun cls d H' => wAs K (.ref pe) 1 (toldTs K cl) (fun _ _ _ _ => False) { nx := fun _ H' => Q .non H', rt := Q } cls d [some (.ref f), none, none, none, none] H', rfl, hc, fun _ _ _ h => h, ?_⟩
  refine h _ _ (fun x H' tb hQ => ?_) (fun v H' hv => ?_)
  · refine ⟨true, (FF x).m, fun _ a na => ⟨x, ⟨rfl, rfl⟩, ?_⟩, fun z => by cases z⟩
    have far : ∀ b, Far ⟨K, fun a => ∃ o, H' a = some o ∧ Pn o, none, H', fun _ => false, E0, noX, cl, T⟩ ⟨[], []⟩ [some (.ref f), some (.ref a), none, none, none] b ↔ ∃ o, H' b = some o ∧ Pn o := fun b => by
      constructor
      · rintro (f | ⟨o, f⟩ | ⟨i, hi, _⟩)
        · exact f
        · cases f
        · cases hi
      · exact .inl
    have env : EnvOk ⟨K, fun a => ∃ o, H' a = some o ∧ Pn o, none, H', fun _ => false, E0, noX, cl, T⟩ ⟨[], []⟩ [some (.ref f), some (.ref a), none, none, none] H' [some (.fn f), some (.fn a), none, none, none] := by
      refine ⟨rfl, fun a o e _ _ => e, tb, fun b hb => (far b).mp hb, fun i d e _ => ?_, fun i d e hi => (nomatch hi), fun i hi => (nomatch hi), fun i j l hi => (nomatch hi), fun b e => (nomatch e), fun p hp => (nomatch hp), fun p hp => (nomatch hp)⟩
      match i, e with
      | 0, e => cases e; exact ⟨_, rfl, .fn f⟩
      | 1, e => cases e; exact ⟨_, rfl, .fn a⟩
      | 2, e => cases e
      | 3, e => cases e
      | 4, e => cases e
      | i + 5, e => cases e
    refine ss_suite ⟨[], []⟩ _ H' _ ⟨fun _ => False, fun d _ => d = .tup [.int 1, .str (exNm x)], fun _ => False, fun _ => False⟩ _ env (suite_ok (FF x) fun _ => rfl) (fun _ _ _ _ z => z.elim) (fun v d σ' H'' ρ' h' r p => ?_) (fun _ _ _ _ z => z.elim) (fun _ _ _ _ z => z.elim)
    have p : d = .tup [.int 1, .str (exNm x)] := p
    subst p
    obtain ⟨b, vs, rfl, nb, hb, rs⟩ := (r.rp trivial).seqT
    cases rs with
    | cons r1 rs => cases rs with
      | cons r2 rs =>
        cases rs
        cases r1
        cases r2
        refine hQ H'' b ⟨fun a o e pn => h'.frame a o e pn (fun z => nomatch z), fun _ => h'.tabs⟩ (fun o e pn => nb (.inl ⟨o, e, pn⟩)) hb
  · show spP K cl T 1 Fr ([v] ++ []) H' _ _
    rw [List.append_nil]
    obtain ⟨z, args, P, W, h1, h2, h3, h4, h5, h6, h7⟩ := hv
    exact ⟨z, args, P, W, h1, h2, h3, h4, h5, fun v d H' g r p => ⟨show 2 ≤ sizeLine by rw [sizeLine_eq]; omega, h6 v d H' g r p⟩, h7⟩
theorem passN {X : Cx} {P : Program} {w : World} : Passes (L2N.CX P w) X E0 := fun _ _ _ _ _ _ _ c => by
  obtain ⟨_, _, _, _, _, _, _, _, _, _, _, _, z⟩ := c
  exact z.elim
theorem Rp.notOwn {K : PySem.W.Frag} {A : Addr → Prop} {H : Hp} {d : D} {v : V} (r : Rp K A H d v) : NotOwn d := by
  cases r <;> trivial
/-- a, b, c = x, y, [] : the third a slot's own -/
def dPar_vvo (i j l : Nat) (a b : DE) : DS := fun De ρ => a ρ fun d ρ1 => b ρ1 fun e ρ2 => l < ρ2.length ∧ De.nx (((ρ2.set i (some d)).set j (some e)).set l (some (.lst [])))
theorem ss_par_vvo {c : C0} {ta tb : TE} {da db : DE} (i j l : Nat) (hi : c.own i = false) (hj : c.own j = false) (hl : c.own l = true) (hb0 : c.box = none ∨ l ≠ 0) (ha : SV c ta da) (hb : SV c tb db) :
    SS c (tPar3 i j l (tCons ta (tCons tb (tCons (tLst tNil) tNil)))) (dPar_vvo i j l da db) := fun t σ H ρ De E h q n r b k => by
  refine ha t σ H ρ _ _ h q fun v d H1 ρ1 h1 r1 q1 => ?_
  obtain ⟨t', e, h1', back⟩ := h1.push (.inl r1)
  refine hb t' σ H1 ρ1 _ _ h1' q1 fun v2 d2 H2 ρ2 h2 r2 q2 => ?_
  obtain ⟨h3, r3⟩ := back H2 ρ2 h2
  have r3 := r3.rp r1.notOwn
  rw [Far.hold e] at r2
  refine ⟨Nat.zero_le _, fun p hp => ⟨_, _, _, rfl, n _ _ _ ?_ q2.2⟩⟩
  have h4 := h3.put (x := some _) (y := some _) hi fun d' e => ⟨_, rfl, by cases e; exact r3⟩
  have h5 := h4.put (x := some _) (y := some _) hj fun d' e => ⟨_, rfl, by cases e; rw [show Far c t (σ.set i _) = Far c t σ from funext fun a => propext (far_set hi)]; exact r2⟩
  exact h5.putNew hl hb0 (by rw [List.length_set, List.length_set]; exact q2.1) hp ⟨[], rfl, .nil⟩
theorem FunC.mk1 {K : PySem.W.Frag} {x qual : Str} {st : Stmt} {f c : Addr} {oc : Value} {od an : Option Addr} {osl : Array (Option Value)} {kV doc pm ct : Value} (l : K.lookup f = some ⟨oc, od, .func (PySem.W.fnOf x qual (defArgs st) (defBody st) (defScope st) .none kV doc pm an (.ref c) ct), osl⟩)
    (cc : PySem.W.codeIn K (.ref c) qual = true) (k : PySem.W.keepIn K (.ref f) = true) : ∃ fd, FunC K x qual st f c fd := ⟨_, ⟨⟨oc, od, kV, doc, pm, an, ct, osl, rfl, l, cc⟩, k⟩⟩
/-- the script as data -/
theorem rp_script {K : PySem.W.Frag} {H : Hp} {a : Addr} {ns : List Int} (h : SqL K H a (ns.map V.int)) : Rp K (fun _ => False) H (.scr ns) (.ref a) := by
  rcases h with (h | ⟨o, h⟩) | h
  · exact .slst ns id h
  · exact .frz ns id h
  · exact .klst ns h
/-- the law's promise, asked of the script -/
theorem law_asked {K : PySem.W.Frag} {cl : Ex → Addr} {T : List (Addr × Str)} {F : FP} {H : Hp} {a : Addr} {ns : List Int} (hT : LamX.Tabs T H) (h : SqL K H a (ns.map V.int)) (hF : ∀ P W, P (.bl true) → F [.scr ns] P W) : spP K cl T 1 F [.ref a] H (fun v _ => v = .bl true) fun _ _ _ => False :=
  ⟨fun _ => False, [.scr ns], fun d => d = .bl true, noX, rfl, hT, fun _ z => z.elim, .cons (rp_script h) .nil, hF _ _ rfl, fun v d H' _ r e => by subst e; cases r; rfl, fun _ _ _ w => w.elim⟩
theorem no_errorN {P : Program} {w : World} {H : Hp} {s s' : Shared} {e : Value} (c : L2N.CX P w [] H s (fun _ _ _ => False) e s') : False := by
  obtain ⟨a, B, H', cls, d, _, _, _, _, _, _, _, z⟩ := c
  exact z
end PD

end
section
set_option Elab.async false
set_option linter.all false
set_option maxRecDepth 100000
set_option maxHeartbeats 1000000
/-! repr; a local name called that holds a def; the law's end where no guard stands around -/
namespace PD
open PySem PySem.Spec PyProof.Rows L2 RZ LamX

/-! ### repr of a list of data -/
def rReprX (K : PySem.W.Frag) : List V → Hp → VK → Prop := fun vs H Q => ∃ (a : Addr) (d : PyData), vs = [V.ref a] ∧ Dp K H (.ref a) d ∧ d.showable = true ∧ d.hasDict = false ∧ d.depth ≤ 60 ∧ d.shown.length ≤ sizeLine ∧ Q (.str d.shown) H
theorem cr_reprX {X : Cx} (hg : X.A.guards = some []) (hu : X.A.units + 65 < cLine) : CallR X (.builtin "repr") (rReprX X.K) := by
  intro pins s σ H vs us Q I r h
  obtain ⟨a, d, rfl, hd, hs, hn, hdp, hz, q⟩ := h
  rw [Vals.ref1 r]
  obtain ⟨as, rd⟩ := Dp.reads I d _ _ hd rfl
  refine repr_of_reads' rd hs (PyData.noDict_hsm hn) hg (by omega) (fun _ _ e => e) (fun h' u tk hk => ?_) hz
  exact ⟨.str d.shown, H, I.kept hk, ⟨_, rfl⟩, q⟩
theorem cr_reprK {X : Cx} {K : PySem.W.Frag} (h : X.K = K) (hg : X.A.guards = some []) (hu : X.A.units + 65 < cLine) : CallR X (.builtin "repr") (rReprX K) := h ▸ cr_reprX hg hu
/-- what repr tells of a list -/
def reprP (_ : Env) (xs : List D) (k : D → Prop) : Prop := match xs with
  | [.lst ds] => okN 60 (.lst ds) = true ∧ (toPy (.lst ds)).showable = true ∧ (toPy (.lst ds)).shown.length ≤ sizeLine ∧ k (.str (toPy (.lst ds)).shown)
  | _ => False
theorem sr_reprX {c : C0} : SRL c (rReprX c.K) reprP := fun t σ H ρ xs ds P Q h r q k => by
  cases r with
  | nil => exact False.elim q
  | cons rx rr => cases rr with
    | cons _ _ =>
      unfold reprP at q
      split at q
      · rename_i e
        cases e
      · exact False.elim q
    | nil =>
      rename_i d v
      cases d with
      | lst es =>
        obtain ⟨o, hs, hz, q⟩ := q
        have r0 := rx.rp trivial
        obtain ⟨a, vs, rfl, _, _, _⟩ := r0.seqL
        exact ⟨a, _, rfl, r0.dp o, hs, PyData.hasDict_of_canLay _ (okN_shape o).1, (okN_shape o).2, hz, k _ _ H h (.str _) q⟩
      | _ => exact False.elim q

/-! ### a slot's def called -/
def tCallH (i : Nat) (S : Addr → Sp → Prop) (E : L2.XK) (t : TA) : TE := fun σ H Q => ∃ (f : Addr) (sp : Sp), σ[i]? = some (some (.ref f)) ∧ S f sp ∧ t σ H fun vs H1 => sp vs H1 Q E
theorem pe_callH {X : Cx} {CX : CXT} {k i : Nat} {E : L2.XK} {x : Str} {p pos : Pos} {e : Expr} {es : List Expr} {t : TA} {S : Addr → Sp → Prop}
    (hS : ∀ f sp, S f sp → ∃ (fd : FuncData) (ps : List Str), FnOk X.prog X.w X.K X.mg X.base CX k f fd ps sp ∧ PySem.W.keepIn X.K (.ref f) = true ∧ Binds X.K fd ps []) (hr : Room k X.A) (hN : X.N[i]? = some x) (hv : Vis X.env.scope x) (hx : Passes CX X E) (ha : PA X (e :: es) t)
    (hdb : (x == ("__debug__" : Str)) = false := by decide) (hcd : (x == ("__classdict__" : Str)) = false := by decide)
    (he : starEach (e :: es) X.env = (false, eval e X.env) :: starEach es X.env := by rfl) (hpl : (backTo pos (starEach es X.env)).any (·.1) = false := by rfl) : PE X (.Call (.Name x p) (e :: es) [] pos) (tCallH i S E t) := by
  refine ⟨fun pins s σ H Q I h => ?_⟩
  obtain ⟨f, sp, h1, h2, h3⟩ := h
  obtain ⟨fd, ps, F, hk, hb⟩ := hS f sp h2
  have same : (fun (vs : List V) (H1 : Hp) => sp (vs ++ []) H1 Q E) = fun vs H1 => sp vs H1 Q E := funext fun vs => by rw [List.append_nil]
  refine (pe_callL (dvs := []) F hr hN hv hk hb .nil hx ha hdb hcd he hpl).run pins s σ H Q I ⟨h1, ?_⟩
  rw [same]
  exact h3
/-- the defs that the slot may hold, each with its promise -/
def HeldIn (K : PySem.W.Frag) (cl : Ex → Addr) (T : List (Addr × Str)) (n : Nat) (Fs : List (Addr × FP)) : Addr → Sp → Prop := fun f sp => ∃ F, (f, F) ∈ Fs ∧ sp = spP K cl T n F
def dCallH (i : Nat) (Fs : List (Addr × FP)) (W : Ex → Prop) (r : DA) : DE := fun ρ P => ∃ (f : Addr) (F : FP), ρ[i]? = some (some (.fn f)) ∧ (f, F) ∈ Fs ∧ r ρ fun ds ρ1 => F ds (fun d => P d ρ1) W
theorem sv_callH {c : C0} {Fs : List (Addr × FP)} {n i : Nat} {E : L2.XK} {W : Ex → Prop} {ta : TA} {da : DA} (hi : c.own i = false) (he : TakesE c E W) (ha : SA c n ta da) : SV c (tCallH i (HeldIn c.K c.cl c.T n Fs) E ta) (dCallH i Fs W da) := fun t σ H ρ P Q h q k => by
  obtain ⟨f, F, h1, h2, q⟩ := q
  obtain ⟨v, e, r⟩ := h.val i _ h1 hi
  cases r
  refine ⟨f, _, e, ⟨F, h2, rfl⟩, ?_⟩
  exact ha t σ H ρ _ _ h q fun vs ds H1 ρ1 h1 r1 n1 q1 =>
    ⟨Far c t σ, ds, _, W, by rw [r1.length]; exact n1, h1.tabs, h1.trk, r1, q1, fun v d H2 g r2 p2 => k v d H2 ρ1 (h1.grow g) r2 p2, fun x H2 g w => he x H2 (fun a o e pn nb => g.1 a o (h1.frame a o e pn nb) pn) (g.2 h1.tabs) w⟩
theorem held_all {P : Program} {w : World} {K : PySem.W.Frag} {mg : Str → Option Value} {base : Heap} {CX : CXT} {k n : Nat} {cl : Ex → Addr} {T : List (Addr × Str)} {Fs : List (Addr × FP)}
    (h : ∀ p ∈ Fs, ∃ (fd : FuncData) (ps : List Str), FnOk P w K mg base CX k p.1 fd ps (spP K cl T n p.2) ∧ PySem.W.keepIn K (.ref p.1) = true ∧ Binds K fd ps []) :
    ∀ f sp, HeldIn K cl T n Fs f sp → ∃ (fd : FuncData) (ps : List Str), FnOk P w K mg base CX k f fd ps sp ∧ PySem.W.keepIn K (.ref f) = true ∧ Binds K fd ps [] := fun f sp ⟨F, hm, e⟩ => by
  subst e
  exact h _ hm

/-! ### a def that is called where no guard stands -/
def FnOkG (P : Program) (w : World) (K : PySem.W.Frag) (mg : Str → Option Value) (base : Heap) (CX : CXT) (k : Nat) (f : Addr) (fd : FuncData) (ps : List Str) (sp : Sp) : Prop :=
  ∀ (A : Around) (outer : List PySem.Env) (s : Shared) (H : Hp) (args : Args) (us : List Value) (vs : List V) (Q : VK) (E : L2.XK), A.guards = some [] → Room k A → Env0 P w K mg base A outer s H → BindsTo s fd args (ps.zip us) → Vals vs us → sp vs H Q E →
    codeAny (model P w) A (.call (.ref f) args) (CR CX outer P w H s Q E) s
theorem FnOk.toG {P : Program} {w : World} {K : PySem.W.Frag} {mg : Str → Option Value} {base : Heap} {CX : CXT} {k : Nat} {f : Addr} {fd : FuncData} {ps : List Str} {sp : Sp} (F : FnOk P w K mg base CX k f fd ps sp) : FnOkG P w K mg base CX k f fd ps sp :=
  fun A outer s H args us vs Q E _ => F.run A outer s H args us vs Q E
section
variable {P : Program} {w : World} {K : PySem.W.Frag} {mg : Str → Option Value} {base : Heap} {cl : Ex → Addr} {T : List (Addr × Str)}
variable {x qual : Str} {st : Stmt} {f c : Addr} {fd : FuncData} {N ps : List Str} {k : Nat}
theorem deeper_guards {A : Around} (h : A.guards = some []) (env : PySem.Env) : (A.deeper env).guards = some [] := by
  first | exact h | simpa [Around.deeper] using h
theorem fn_pureG (F : FunC K x qual st f c fd) (S : FnScope N ps (defScope st)) (own : Nat → Bool) (hown : ∀ i, i < ps.length → own i = false) {Fs : FP} (ds : (Ex → Prop) → DS)
    (body : ∀ (A : Around) (outer : List PySem.Env) (s : Shared) (H : Hp) (E : L2.XK), (A.deeper (envOfC qual (defScope st) s.heap.objs.size f (.ref c))).guards = some [] → Room k (A.deeper (envOfC qual (defScope st) s.heap.objs.size f (.ref c))) →
      ∃ ts, PSs (cxOf (L2N.CX P w) P w K mg base N qual (defScope st) f (.ref c) A outer s H E) (defBody st) ts ∧ ∀ z h0 dw, TakesE ⟨K, z, none, h0, own, E, dw, cl, T⟩ E dw → SS ⟨K, z, none, h0, own, E, dw, cl, T⟩ ts (ds dw))
    (spec : ∀ args P W, args.length = ps.length → Fs args P W → ds W ⟨fun _ => P .non, fun d ρ => P (retD ρ d), fun _ => False, fun _ => False⟩ (startD N.length args)) :
    FnOkG P w K mg base (L2N.CX P w) (k + 1) f fd ps (spP K cl T ps.length Fs) := by
  obtain ⟨oc, od, kV, doc, pm, an, ct, osl, rfl, lk, hcd⟩ := F.ex
  intro A outer s H args us vs Q E hg hr e0 hb hv hsp
  refine run_ofS lk hcd S hr e0 hb hv (pure_len hsp) fun hr' => ?_
  obtain ⟨ts, hts, hs⟩ := body A outer s H E (deeper_guards hg _) hr'
  exact ⟨ts, hts, pure_run own hown hs spec hsp⟩
end

/-! ### the law asked, no guard around -/
section
variable {P : Program} {w : World} {K : PySem.W.Frag} {mg mb : Str → Option Value} {CX : CXT} {k : Nat} {fa a : Addr} {cs : List (Addr × Addr)} {fd : FuncData} {x : Str} {sp : Sp} {s₁ : Shared} {vs : List Value} {ns : List Int}
abbrev tabO : Obj := { cls := .none, data := .fields #[] }
abbrev scrO (vs : List Value) : Obj := { cls := .type "list", data := .seq vs.toArray }
/-- what is tracked at first: the tables, and the script where the module does not know it -/
def lawHp (K : PySem.W.Frag) (a : Addr) (vs : List Value) (ns : List Int) (ts : List Addr) : Hp := fun b =>
  if b ∈ ts then some (.tbl #[]) else if b = a then (if (K.lookup a).isSome = true then none else some (.frz (scrO vs) (.lst (ns.map V.int)))) else none
theorem lawHp_tab {ts : List Addr} {b : Addr} (h : b ∈ ts) : lawHp K a vs ns ts b = some (.tbl #[]) := if_pos h
theorem lawHp_off {ts : List Addr} {b : Addr} (h : b ∉ ts) (h2 : b ≠ a) : lawHp K a vs ns ts b = none := (if_neg h).trans (if_neg h2)
theorem lawHp_scr {ts : List Addr} (h : a ∉ ts) : lawHp K a vs ns ts a = if (K.lookup a).isSome = true then none else some (.frz (scrO vs) (.lst (ns.map V.int))) := (if_neg h).trans (if_pos rfl)
/-- an object that is no table and no list is not tracked -/
theorem lawHp_none {ts : List Addr} (hT : ∀ b ∈ ts, s₁.heap.get? b = some tabO) (ha : s₁.heap.get? a = some (scrO vs)) {b : Addr} {o : Obj} (e : s₁.heap.get? b = some o) (h1 : o.data ≠ tabO.data) (h2 : o.data ≠ (scrO vs).data) : lawHp K a vs ns ts b = none :=
  lawHp_off (fun m => h1 (by rw [Option.some.inj (e.symm.trans (hT b m))])) (fun m => h2 (by rw [m] at e; rw [Option.some.inj (e.symm.trans ha)]))
theorem law_callG (inK : K.In s₁.heap) (nsG : s₁.heap.Ns mainGlobals mg) (nsB : s₁.heap.Ns builtinsNs mb) (boot : ∀ y : Str, y ≠ "__name__" → mb y = bootBuiltins y) (lim : s₁.heap.NoLimit) (g0 : s₁.gens = #[])
    (tabs : ∀ p ∈ cs, s₁.heap.get? p.2 = some tabO) (tabsK : ∀ p ∈ cs, K.lookup p.2 = none) (heads : ∀ p ∈ cs, PySem.W.CodeHd s₁.heap p.1 p.2)
    (bmain : ∃ (bm : Addr) (ob : Obj), mg "__builtins__" = some (.ref bm) ∧ bm ≠ builtinsNs ∧ s₁.heap.get? bm = some ob ∧ ob.cls = .type "module" ∧ ob.dict = some builtinsNs ∧ ob.data = .plain)
    (hscr : s₁.heap.get? a = some (scrO vs)) (hints : IntsAre vs ns) (short : ns.length ≤ sizeLine) (room : Room k callerA)
    (F : ∀ base : Heap, K.In base → base.Ns mainGlobals mg → (∀ p ∈ cs, TabB base mg p.1 p.2) → FnOkG P w K mg base CX k fa fd [x] sp) (binds : ∀ (s : Shared) (u : Value), BindsTo s fd ⟨[u], []⟩ [(x, u)])
    (asked : ∀ H : Hp, (∀ p ∈ cs, H p.2 = some (.tbl #[])) → SqL K H a (ns.map V.int) → sp [.ref a] H (fun v _ => v = .bl true) fun _ _ _ => False)
    (noErr : ∀ H e s', CX [] H s₁ (fun _ _ _ => False) e s' → False) :
    codeAny (model P w) callerA (.call (.ref fa) ⟨[.ref a], []⟩) (fun r s' => r = .ok (.ret (.bool true)) ∧ OldK s₁.heap s'.heap ∧ s'.os = s₁.os ∧ AllBare s'.gens) s₁ := by
  have relI := vals_ints hints
  have nvs : vs.length = ns.length := hints.length
  -- the tables' places
  have tT : ∀ b ∈ cs.map (·.2), s₁.heap.get? b = some tabO := fun b m => by
    obtain ⟨p, mp, rfl⟩ := List.mem_map.mp m
    exact tabs p mp
  have tM : ∀ p ∈ cs, p.2 ∈ cs.map (·.2) := fun p m => List.mem_map.mpr ⟨p, m, rfl⟩
  have scrT : a ∉ cs.map (·.2) := fun m => by
    have z := congrArg Obj.data (Option.some.inj (hscr.symm.trans (tT a m)))
    cases z
  generalize eH : lawHp K a vs ns (cs.map (·.2)) = H
  have Htab : ∀ p ∈ cs, H p.2 = some (.tbl #[]) := fun p m => by rw [← eH]; exact lawHp_tab (tM p m)
  have Hno : ∀ {b : Addr} {o : Obj}, s₁.heap.get? b = some o → o.data ≠ tabO.data → o.data ≠ (scrO vs).data → H b = none := fun e h1 h2 => by rw [← eH]; exact lawHp_none tT hscr e h1 h2
  have Hsome : ∀ {b : Addr} {u : HO}, H b = some u → (b ∈ cs.map (·.2) ∧ u = .tbl #[]) ∨ (b = a ∧ K.lookup a = none ∧ u = .frz (scrO vs) (.lst (ns.map V.int))) := fun {b u} e => by
    rw [← eH] at e
    by_cases m : b ∈ cs.map (·.2)
    · rw [lawHp_tab m] at e
      exact .inl ⟨m, (Option.some.inj e).symm⟩
    · by_cases m2 : b = a
      · subst m2
        rw [lawHp_scr m] at e
        cases q : K.lookup b with
        | none =>
          rw [q] at e
          exact .inr ⟨rfl, rfl, (Option.some.inj e).symm⟩
        | some o =>
          rw [q] at e
          cases e
      · rw [lawHp_off m m2] at e
        cases e
  have ok : HOk P w H s₁.heap := fun b u e => by
    rcases Hsome e with ⟨m, rfl⟩ | ⟨rfl, _, rfl⟩
    · exact tT b m
    · exact ⟨hscr, by rw [List.length_map]; exact short, vs, _, relI, hscr⟩
  have seqA : SqL K H a (ns.map V.int) := by
    cases q : K.lookup a with
    | some o =>
      have e := (inK a o q).symm.trans hscr
      cases e
      exact .inr ⟨_, vs.toArray, _, q, rfl, rfl, rfl, by rw [List.size_toArray, nvs]; exact short, by simpa using relI⟩
    | none => exact .inl (.inr ⟨scrO vs, by rw [← eH, lawHp_scr scrT, q]; rfl⟩)
  -- the heap without what is tracked
  have dictOff : ∀ {b : Addr} {o : Obj} {es : Array DictEntry} {ep : Nat}, s₁.heap.get? b = some o → o.data = .dict es ep → H b = none := fun e d => Hno e (by rw [d]; exact fun z => nomatch z) (by rw [d]; exact fun z => nomatch z)
  have nsOff : ∀ {b : Addr} {m : Str → Option Value}, s₁.heap.Ns b m → (hidT s₁.heap H).Ns b m := fun ⟨o, es, ep, e, d, r⟩ => ⟨o, es, ep, hidT_get e (dictOff e d), d, r⟩
  have inB : K.In (hidT s₁.heap H) := fun b o e => hidT_get (inK b o e) (by
    cases q : H b with
    | none => rfl
    | some u =>
      rcases Hsome q with ⟨m, _⟩ | ⟨m, z, _⟩
      · obtain ⟨p, mp, ep⟩ := List.mem_map.mp m
        rw [← ep, tabsK p mp] at e
        cases e
      · rw [m, z] at e
        cases e)
  have md : L2.Mod K mg (hidT s₁.heap H) := ⟨inB, nsOff nsG, ⟨mb, nsOff nsB, boot⟩, by obtain ⟨mc, l1, l2⟩ := lim; exact ⟨mc, nsOff l1, l2⟩⟩
  have tabB : ∀ p ∈ cs, TabB (hidT s₁.heap H) mg p.1 p.2 := fun p mp => by
    refine ⟨?_, ?_, fun z => ?_⟩
    · obtain ⟨o, us, file, tf, flags, tg, inF, text, tt, c1, c0, c2, c3, more⟩ := heads p mp
      refine ⟨o, us, file, tf, flags, tg, inF, text, tt, hidT_get c1 (Hno c1 ?_ ?_), c0, c2, c3, more⟩
      · rw [c2]
        intro z
        cases z
        simp at c3
      · rw [c2]
        exact fun z => nomatch z
    · obtain ⟨bm, ob, b1, b2, b3, b4, b5, b6⟩ := bmain
      refine ⟨bm, ob, b1, b2, fun z => ?_, fun z => ?_, hidT_get b3 (Hno b3 ?_ ?_), b4, b5, b6⟩
      · obtain ⟨o, es, ep, e, d, _⟩ := nsG
        subst z
        have z := congrArg Obj.data (Option.some.inj (e.symm.trans b3))
        rw [d, b6] at z
        cases z
      · subst z
        have z := congrArg Obj.data (Option.some.inj (b3.symm.trans (tabs p mp)))
        rw [b6] at z
        cases z
      · rw [b6]
        exact fun z => nomatch z
      · rw [b6]
        exact fun z => nomatch z
    · obtain ⟨o, es, ep, e, d, _⟩ := nsG
      rw [z] at e
      have z := congrArg Obj.data (Option.some.inj (e.symm.trans (tabs p mp)))
      rw [d] at z
      cases z
  have start : Env0 P w K mg (hidT s₁.heap H) callerA [] s₁ H := ⟨rfl, md, fun b o e => of_hidT e, Nat.le_of_eq (hidT_size _ _), trivial, fun b m => (nomatch (show b ∈ ([] : List Addr) from m)), ok, .of_eq g0⟩
  refine codeAny_mono (F _ inB (nsOff nsG) tabB callerA [] s₁ H ⟨[.ref a], []⟩ [.ref a] [.ref a] _ _ rfl room start (binds s₁ (.ref a)) (.cons rfl .nil) (asked H Htab seqA)) fun r s' told => ?_
  match r, told with
  | .error e, told => exact (noErr H e s' told).elim
  | .ok (.ret u), told =>
    obtain ⟨v, H', sameOs, bare, un, ok', rel, hv⟩ := told
    have hv : v = .bl true := hv
    subst hv
    have eu : u = Value.bool true := rel
    subst eu
    have stays : ∀ b o, b ∉ cs.map (·.2) → s₁.heap.get? b = some o → s'.heap.get? b = some o := fun b o m e => by
      cases q : H b with
      | none => exact un.keep b o e q (fun z => nomatch (show b ∈ ([] : List Addr) from z)) (fun z => nomatch z)
      | some u =>
        rcases Hsome q with ⟨m2, _⟩ | ⟨rfl, _, rfl⟩
        · exact (m m2).elim
        · obtain ⟨e2, _⟩ := ok' _ _ (un.frzs _ _ _ q)
          rw [← e, hscr, e2]
    have grew : ∀ b ∈ cs.map (·.2), ∃ (p : Addr × Addr) (more : Array Value), p ∈ cs ∧ p.2 = b ∧ s'.heap.get? b = some { cls := .none, data := .fields (#[] ++ more) } := fun b m => by
      obtain ⟨p, mp, e⟩ := List.mem_map.mp m
      obtain ⟨more, z⟩ := un.tbls p.2 #[] (Htab p mp)
      exact ⟨p, more, mp, e, by rw [← e]; exact ok' p.2 _ z⟩
    refine ⟨rfl, ⟨fun b o e => ?_, fun b o e => ?_⟩, sameOs, bare⟩
    · by_cases m : b ∈ cs.map (·.2)
      · obtain ⟨p, more, mp, ep, hm⟩ := grew b m
        have eo : tabO = o := Option.some.inj ((tT b m).symm.trans e)
        subst eo
        rw [← ep] at hm ⊢
        exact .inr (.inl ⟨((heads p mp).tab (tabs p mp)).isCodeTable, rfl, #[], more, rfl, hm⟩)
      · exact .inl (stays b o m e)
    · by_cases m : b ∈ cs.map (·.2)
      · obtain ⟨p, more, mp, ep, hm⟩ := grew b m
        exact ⟨_, hm⟩
      · exact ⟨o, stays b o m e⟩
  | .ok .next, told => exact False.elim told
  | .ok .brk, told => exact False.elim told
  | .ok .cont, told => exact False.elim told
end
/-- what is known of the law's def at the head's heap, no guard around -/
def LawAtG (l : PySem.W.OpenLaw) (w : World) (K : PySem.W.Frag) (CX : CXT) (k n : Nat) (x : Str) (mg : Str → Option Value) (fa : Addr) (h : Heap) : Prop :=
  ∃ (fd : FuncData) (cs : List (Addr × Addr)) (sp : Sp), (∀ p ∈ cs, h.get? p.2 = some tabO) ∧ (∀ p ∈ cs, K.lookup p.2 = none) ∧ (∀ p ∈ cs, PySem.W.CodeHd h p.1 p.2) ∧ (∀ (s : Shared) (u : Value), BindsTo s fd ⟨[u], []⟩ [(x, u)]) ∧
    (∀ (H : Hp) (a : Addr) (ns : List Int), ns.length ≤ n → (∀ z ∈ ns, Builtin.Int.intBits z ≤ 1048576) → (∀ p ∈ cs, H p.2 = some (.tbl #[])) → SqL K H a (ns.map V.int) → sp [.ref a] H (fun v _ => v = .bl true) fun _ _ _ => False) ∧
    ∀ base : Heap, K.In base → base.Ns mainGlobals mg → (∀ p ∈ cs, TabB base mg p.1 p.2) → FnOkG l.prog w K mg base CX k fa fd [x] sp
theorem walk_ofG {l : PySem.W.OpenLaw} {n k : Nat} {q : Program} {loose : List Str} {XP : (Str → Option Value) → Heap → Prop} {YP : World → Heap → Prop} {d : DefRec} {K : Params → PySem.W.Frag} {CX : World → CXT} {x : Str}
    (most : l.most = some n) (fits : n ≤ sizeLine) (plain : d.params.defaults = []) (room : Room k callerA) (inY : ∀ (w : World) (h : Heap), YP w h → (K w.params).In h)
    (F : ∀ (w : World) (mg : Str → Option Value) (fa : Addr) (h : Heap), YP w h → (K w.params).In h → h.Ns mainGlobals mg → mg d.name = some (.ref fa) → LawAtG l w (K w.params) (CX w) k n x mg fa h)
    (noErr : ∀ (w : World) (H : Hp) (s : Shared) (e : Value) (s' : Shared), CX w [] H s (fun _ _ _ => False) e s' → False) :
    PySem.W.WalkO q loose XP YP l.row.toRowW d [] (fun f vs => PySem.call f vs) :=
  Att.attach_callB most plain fun w s₀ s₁ mg mb fa o pm cd doc a vs ns G Y ho hd hcd hmg hobj hints hlen hbits hg => by
    have inK := inY w _ Y
    obtain ⟨fd, cs, sp, t1, t2, t3, hb, asked, ok⟩ := F w mg fa _ Y inK G.T.g hmg
    exact law_callG inK G.T.g G.T.b G.T.builtins G.T.nolimit hg t1 t2 t3 G.T.bmain hobj hints (Nat.le_trans hlen fits) room ok hb (fun H h1 h2 => asked H a ns hlen hbits h1 h2) fun H e s' => noErr w H s₁ e s'
end PD

end
section
set_option Elab.async false
set_option linter.all false
set_option maxRecDepth 100000
/-! what repr tells of rows of numbers: its signs are sound, and it is short -/
namespace PD
open PySem
theorem strOk_app {a b : Str} (ha : PyData.strOk a = true) (hb : PyData.strOk b = true) : PyData.strOk (a ++ b) = true := by
  unfold PyData.strOk at *
  show (a.cps ++ b.cps).all _ = true
  rw [Array.all_append, ha, hb]
  rfl
theorem strOk_of (s : String) : PyData.strOk (Str.ofString s) = true := by
  unfold PyData.strOk
  rw [Str.ofString_eq_toList]
  simp only [List.all_toArray, List.all_map, List.all_eq_true, Function.comp_apply, decide_eq_true_eq]
  intro c _
  have h := c.valid
  show c.val.toNat < _
  rcases h with h | h
  · have : c.val.toNat < 0xd800 := h
    omega
  · have : c.val.toNat < 0x110000 := h.2
    omega
theorem strOk_from : ∀ (ts : List Str) (k : Nat) (acc : Str), PyData.strOk acc = true → (∀ t ∈ ts, PyData.strOk t = true) → PyData.strOk (textFrom k acc ts) = true
  | [], _, _, h, _ => h
  | t :: ts, k, acc, h, ht => by
    rw [textFrom]
    exact strOk_from ts (k + 1) _ (strOk_app (strOk_app h (strOk_of _)) (ht t List.mem_cons_self)) fun u hu => ht u (List.mem_cons_of_mem _ hu)
theorem strOk_join (sep : Str) (hs : PyData.strOk sep = true) : ∀ ts : List Str, (∀ t ∈ ts, PyData.strOk t = true) → PyData.strOk (Str.join sep ts) = true
  | [], _ => by rw [Str.join]; decide +kernel
  | [x], h => by rw [Str.join]; exact h x List.mem_cons_self
  | x :: y :: r, h => by
    rw [Str.join]
    · exact strOk_app (strOk_app (h x List.mem_cons_self) hs) (strOk_join sep hs (y :: r) fun t ht => h t (List.mem_cons_of_mem _ ht))
    · intro z; cases z

mutual
def isRow : PyData → Bool
  | .int i => decide (i.natAbs.log2 < 1900)
  | .list xs => isRows xs
  | .tuple xs => isRows xs
  | _ => false
def isRows : List PyData → Bool
  | [] => true
  | x :: xs => isRow x && isRows xs
end
mutual
theorem row_ok : ∀ d : PyData, isRow d = true → PyData.strOk d.shown = true ∧ d.showable = true ∧ d.leavesShort 2000 = true
  | .int i, h => by
    rw [isRow] at h
    have h := of_decide_eq_true h
    refine ⟨?_, ?_, ?_⟩
    · rw [PyData.shown]; exact strOk_of _
    · rw [PyData.showable]; exact decide_eq_true (by omega)
    · rw [PyData.leavesShort]
      refine decide_eq_true ?_
      have := int_text_length_le (k := 1900) (by decide) h
      show (Str.ofString (toString i)).length ≤ 2000
      rw [ofString_length]
      omega
  | .list xs, h => by
    rw [isRow] at h
    obtain ⟨h1, h2, h3⟩ := rows_ok xs h
    refine ⟨?_, ?_, ?_⟩
    · rw [PyData.shown]
      exact strOk_app (strOk_from _ _ _ (strOk_of _) h1) (strOk_of _)
    · rw [PyData.showable]; exact h2
    · rw [PyData.leavesShort]; exact h3
  | .tuple xs, h => by
    rw [isRow] at h
    obtain ⟨h1, h2, h3⟩ := rows_ok xs h
    refine ⟨?_, ?_, ?_⟩
    · rw [PyData.shown]
      exact strOk_app (strOk_app (strOk_of _) (strOk_join _ (strOk_of _) _ h1)) (strOk_of _)
    · rw [PyData.showable]; exact h2
    · rw [PyData.leavesShort]; exact h3
  | .none, h => by rw [isRow] at h <;> first | cases h | (intros; contradiction)
  | .bool _, h => by rw [isRow] at h <;> first | cases h | (intros; contradiction)
  | .str _, h => by rw [isRow] at h <;> first | cases h | (intros; contradiction)
  | .dict _, h => by rw [isRow] at h <;> first | cases h | (intros; contradiction)
theorem rows_ok : ∀ xs : List PyData, isRows xs = true → (∀ t ∈ PyData.shownAll xs, PyData.strOk t = true) ∧ PyData.showableAll xs = true ∧ PyData.leavesShortAll 2000 xs = true
  | [], _ => ⟨fun t h => (by rw [PyData.shownAll] at h; cases h), by rw [PyData.showableAll], by rw [PyData.leavesShortAll]⟩
  | x :: xs, h => by
    rw [isRows, Bool.and_eq_true] at h
    obtain ⟨a1, a2, a3⟩ := row_ok x h.1
    obtain ⟨b1, b2, b3⟩ := rows_ok xs h.2
    refine ⟨fun t ht => ?_, by rw [PyData.showableAll, a2, b2]; rfl, by rw [PyData.leavesShortAll, a3, b3]; rfl⟩
    rw [PyData.shownAll] at ht
    rcases List.mem_cons.mp ht with rfl | ht
    · exact a1
    · exact b1 t ht
end
theorem row_fits {d : PyData} (h : isRow d = true) (hw : d.weight ≤ 8000) : d.shown.length ≤ sizeLine := by
  have := PyData.shown_le 2000 (by decide) d (row_ok d h).2.2
  have h2 : (2000 + 2) * d.weight ≤ 2002 * 8000 := Nat.mul_le_mul_left _ hw
  rw [sizeLine_eq]
  omega
/-- repr of a list of rows -/
theorem repr_rows {ρ : Env} {ds : List D} {k : D → Prop} (o : okN 60 (.lst ds) = true) (h : isRow (toPy (.lst ds)) = true) (hw : (toPy (.lst ds)).weight ≤ 8000) (hk : k (.str (toPy (.lst ds)).shown)) : reprP ρ [.lst ds] k :=
  ⟨o, (row_ok _ h).2.1, row_fits h hw, hk⟩
theorem neP_shown {ρ : Env} {d : PyData} {k : D → Prop} (h : isRow d = true) (hk : k (.bl false)) : neP ρ (.str d.shown) (.str d.shown) k := by
  have o : okN 60 (.str d.shown) = true := by rw [okN]; exact (row_ok d h).1
  refine ⟨o, o, ?_⟩
  rw [show deref ρ (.str d.shown) = .str d.shown from rfl, eqD_refl o]
  exact hk
end PD

end
section
set_option Elab.async false
set_option linter.all false
set_option maxRecDepth 100000
/-! readings over data, evaluated -/
namespace PD
open PySem PySem.Spec PyProof.Rows L2 RZ
section
variable {ρ : Env} {P : D → Env → Prop} {De : DEnds} {d : D} {a b e : DE}
@[simp] theorem dC_e : dC d ρ P = P d ρ := rfl
@[simp] theorem dVar_e {i : Nat} : dVar i ρ P = match ρ[i]? with | some (some d) => P d ρ | _ => False := rfl
@[simp] theorem dOwn_e {i : Nat} : dOwn i ρ P = match ρ[i]? with | some (some _) => P (.own i) ρ | _ => False := rfl
@[simp] theorem dOp_e {f : Env → D → D → (D → Prop) → Prop} : dOp f a b ρ P = a ρ fun x ρ1 => b ρ1 fun y ρ2 => f ρ2 x y fun z => P z ρ2 := rfl
@[simp] theorem dUn_e {f : Env → D → (D → Prop) → Prop} : dUn f a ρ P = a ρ fun x ρ1 => f ρ1 x fun z => P z ρ1 := rfl
@[simp] theorem dNil_e {Q : List D → Env → Prop} : dNil ρ Q = Q [] ρ := rfl
@[simp] theorem dCons_e {r : DA} {Q : List D → Env → Prop} : dCons a r ρ Q = a ρ fun d ρ1 => r ρ1 fun ds ρ2 => Q (d :: ds) ρ2 := rfl
@[simp] theorem dTup_e {r : DA} : dTup r ρ P = r ρ fun ds ρ1 => P (.tup ds) ρ1 := rfl
@[simp] theorem dLst_e {r : DA} : dLst r ρ P = r ρ fun ds ρ1 => P (.lst ds) ρ1 := rfl
@[simp] theorem dCB_e {f : Env → List D → (D → Prop) → Prop} {r : DA} : dCB f r ρ P = r ρ fun ds ρ1 => f ρ1 ds fun z => P z ρ1 := rfl
@[simp] theorem dCall_e {F : FP} {W : Ex → Prop} {r : DA} : dCall F W r ρ P = r ρ fun ds ρ1 => F ds (fun d => P d ρ1) W := rfl
@[simp] theorem dCallB_e {F : FB} {W : Ex → Prop} {j : Nat} {r : DA} : dCallB F W j r ρ P = match ρ[j]? with
  | some (some _) => r ρ fun ds ρ1 => match ρ1[j]? with
    | some (some bx) => F (bx :: ds) (fun d bx' => P d (ρ1.set j (some bx'))) W
    | _ => False
  | _ => False := rfl
@[simp] theorem dSeq_e {s t : DS} : dSeq s t De ρ = s { De with nx := fun ρ1 => t De ρ1 } ρ := rfl
@[simp] theorem dNext_e : dNext De ρ = De.nx ρ := rfl
@[simp] theorem dBreak_e : dBreak De ρ = De.bk ρ := rfl
@[simp] theorem dCont_e : dCont De ρ = De.ct ρ := rfl
@[simp] theorem dDrop_e : dDrop a De ρ = a ρ fun _ ρ1 => De.nx ρ1 := rfl
@[simp] theorem dRet_e : dRet a De ρ = a ρ De.rt := rfl
@[simp] theorem dRetN_e : dRetN De ρ = De.rt .non ρ := rfl
@[simp] theorem dIfS_e {t : DT} {s u : DS} : dIfS t s u De ρ = t ρ fun k ρ1 => sel k (s De ρ1) (u De ρ1) := rfl
@[simp] theorem dSet_e {i : Nat} : dSet i a De ρ = a ρ fun d ρ1 => De.nx (ρ1.set i (some d)) := rfl
@[simp] theorem dSetO_e {i : Nat} : dSetO i a De ρ = a ρ fun d ρ1 => i < ρ1.length ∧ De.nx (ρ1.set i (some d)) := rfl
@[simp] theorem dAug_e {i : Nat} {f : Int → Int → Int} : dAug i f a De ρ = match ρ[i]? with
  | some (some (.int x)) => a ρ fun d ρ1 => match d with
    | .int y => De.nx (ρ1.set i (some (.int (f x y))))
    | _ => False
  | _ => False := rfl
@[simp] theorem dRaise_e {W : Ex → Prop} {x : Ex} : dRaise W x De ρ = W x := rfl
@[simp] theorem dAsg_e {g : DG} : dAsg a g De ρ = a ρ fun d ρ1 => g d ρ1 De.nx := rfl
@[simp] theorem dPar_e {i j : Nat} {r : DA} : dPar i j r De ρ = r ρ fun ds ρ1 => match ds with
  | [d, e] => De.nx ((ρ1.set i (some d)).set j (some e))
  | _ => False := rfl
@[simp] theorem dPar3_e {i j l : Nat} {r : DA} : dPar3 i j l r De ρ = r ρ fun ds ρ1 => match ds with
  | [d, e, f] => De.nx (((ρ1.set i (some d)).set j (some e)).set l (some f))
  | _ => False := rfl
@[simp] theorem dPar_vvo_e {i j l : Nat} : dPar_vvo i j l a b De ρ = a ρ fun d ρ1 => b ρ1 fun e ρ2 => l < ρ2.length ∧ De.nx (((ρ2.set i (some d)).set j (some e)).set l (some (.lst []))) := rfl
@[simp] theorem dgName_e {i : Nat} {Q : Env → Prop} : dgName i d ρ Q = Q (ρ.set i (some d)) := rfl
@[simp] theorem dgTup_e {n : Nat} {g : DGs} {xs : List D} {Q : Env → Prop} : dgTup n g (.tup xs) ρ Q = (xs.length = n ∧ g xs ρ Q) := rfl
@[simp] theorem dgCons_e {g : DG} {r : DGs} {x : D} {xs : List D} {Q : Env → Prop} : dgCons g r (x :: xs) ρ Q = g x ρ fun ρ1 => r xs ρ1 Q := rfl
@[simp] theorem dgNil_e {Q : Env → Prop} : dgNil [] ρ Q = Q ρ := rfl
@[simp] theorem dTest_e {Q : Bool → Env → Prop} : dTest a ρ Q = a ρ fun d ρ1 => match d with | .bl b => Q b ρ1 | _ => False := rfl
@[simp] theorem dAnd_e {t u : DT} {Q : Bool → Env → Prop} : dAnd t u ρ Q = t ρ fun k ρ1 => sel k (u ρ1 Q) (Q false ρ1) := rfl
@[simp] theorem dOr_e {t u : DT} {Q : Bool → Env → Prop} : dOr t u ρ Q = t ρ fun k ρ1 => sel k (Q true ρ1) (u ρ1 Q) := rfl
@[simp] theorem dNot_e {t : DT} {Q : Bool → Env → Prop} : dNot t ρ Q = t ρ fun k ρ1 => Q (!k) ρ1 := rfl
@[simp] theorem dYes_e {Q : Bool → Env → Prop} : dYes ρ Q = Q true ρ := rfl
@[simp] theorem dIf_e {t : DT} : dIf t a b ρ P = t ρ fun k ρ1 => sel k (a ρ1 P) (b ρ1 P) := rfl
@[simp] theorem dAndV_e : dAndV a b ρ P = a ρ fun d ρ1 => match d with | .bl k => sel k (b ρ1 P) (P (.bl false) ρ1) | _ => False := rfl
@[simp] theorem dOrV_e : dOrV a b ρ P = a ρ fun d ρ1 => match d with | .bl k => sel k (P (.bl true) ρ1) (b ρ1 P) | _ => False := rfl
@[simp] theorem dNotV_e : dNotV a ρ P = a ρ fun d ρ1 => match d with | .bl k => P (.bl (!k)) ρ1 | _ => False := rfl
@[simp] theorem dIsi_e {p : D → Bool} : dIsi p a ρ P = a ρ fun d ρ1 => (tyD d).isSome = true ∧ P (.bl (p d)) ρ1 := rfl
@[simp] theorem dBits_e : dBits a ρ P = a ρ fun d ρ1 => match d with | .int i => P (.int (Builtin.Int.intBits i : Nat)) ρ1 | _ => False := rfl
@[simp] theorem dTuple_e : dTuple a ρ P = a ρ fun d ρ1 => tupleP ρ1 d fun z => P z ρ1 := rfl
@[simp] theorem dSeqI_e {Q : List D → Env → Prop} : dSeqI a ρ Q = a ρ fun d ρ1 => match d with
  | .lst xs => Q xs ρ1
  | .tup xs => Q xs ρ1
  | .scr ns => Q (ns.map D.int) ρ1
  | _ => False := rfl
@[simp] theorem sel_t {p q : Prop} : sel true p q = p := rfl
@[simp] theorem sel_f {p q : Prop} : sel false p q = q := rfl
@[simp] theorem i2_e {C : Int → Int → Prop} {g : Int → Int → D} {i j : Int} {k : D → Prop} : i2 C g ρ (.int i) (.int j) k = (C i j ∧ k (g i j)) := rfl
@[simp] theorem i2'_e {g : Int → Int → D} {i j : Int} {k : D → Prop} : i2' g ρ (.int i) (.int j) k = k (g i j) := rfl
@[simp] theorem u1_e {g : Int → D} {i : Int} {k : D → Prop} : u1 g ρ (.int i) k = k (g i) := rfl
@[simp] theorem eqP_int {i j : Int} {k : D → Prop} : eqP ρ (.int i) (.int j) k = k (.bl (decide (i = j))) := by
  unfold eqP deref
  simp only [okN, true_and, eqD_int]
@[simp] theorem neP_int {i j : Int} {k : D → Prop} : neP ρ (.int i) (.int j) k = k (.bl (!decide (i = j))) := by
  unfold neP deref
  simp only [okN, true_and, eqD_int]
end
end PD
namespace PD
open PySem PySem.Spec PyProof.Rows L2 RZ
section
variable {ρ : Env} {k : D → Prop} {P : D → Env → Prop} {a b e : DE}
@[simp] theorem addP_int {i j : Int} : addP ρ (.int i) (.int j) k = k (.int (i + j)) := rfl
@[simp] theorem addP_tup {i j : List D} : addP ρ (.tup i) (.tup j) k = (i.length + j.length ≤ sizeLine ∧ k (.tup (i ++ j))) := rfl
@[simp] theorem addP_lst {i j : List D} : addP ρ (.lst i) (.lst j) k = (i.length + j.length ≤ sizeLine ∧ k (.lst (i ++ j))) := rfl
@[simp] theorem dChain_e {f f' : Env → D → D → (D → Prop) → Prop} : dChain f f' a b e ρ P = a ρ fun x ρ1 => b ρ1 fun y ρ2 => f ρ2 x y fun z => match z with
  | .bl k => sel k (e ρ2 fun w ρ3 => f' ρ3 y w fun z => P z ρ3) (P (.bl false) ρ2)
  | _ => False := rfl
@[simp] theorem lenP_lst {xs : List D} : lenP ρ [.lst xs] k = k (.int xs.length) := rfl
@[simp] theorem lenP_tup {xs : List D} : lenP ρ [.tup xs] k = k (.int xs.length) := rfl
@[simp] theorem lenP_scr {ns : List Int} : lenP ρ [.scr ns] k = k (.int (ns.map D.int).length) := rfl
@[simp] theorem absP_int {i : Int} : absP ρ [.int i] k = k (.int i.natAbs) := rfl
@[simp] theorem intP_int {i : Int} : intP ρ [.int i] k = k (.int i) := rfl
@[simp] theorem isN_P {x : D} : isNP false ρ x .non k = k (.bl (isN x)) := rfl
@[simp] theorem notN_P {x : D} : isNP true ρ x .non k = k (.bl (!isN x)) := rfl
@[simp] theorem isB2_P {x : D} {b : Bool} : isB2P ρ x (.bl b) k = k (.bl (isB b x)) := rfl
@[simp] theorem tuple_lst {xs : List D} : tupleP ρ (.lst xs) k = k (.tup xs) := rfl
@[simp] theorem retD_int {i : Int} : retD ρ (.int i) = .int i := rfl
@[simp] theorem retD_bl {i : Bool} : retD ρ (.bl i) = .bl i := rfl
@[simp] theorem retD_non : retD ρ .non = .non := rfl
@[simp] theorem retD_str {i : Str} : retD ρ (.str i) = .str i := rfl
@[simp] theorem retD_tup {i : List D} : retD ρ (.tup i) = .tup i := rfl
@[simp] theorem retD_lst {i : List D} : retD ρ (.lst i) = .lst i := rfl
theorem sel_imp {c : Bool} {p q : Prop} (h1 : c = true → p) (h2 : c = false → q) : sel c p q := sel_of h1 h2
end
/-- how much of what is passed is there -/
theorem args1 {args : List D} (h : args.length = 1) : ∃ a, args = [a] := by
  match args, h with
  | [a], _ => exact ⟨a, rfl⟩
end PD
namespace PD
open PySem L2
section
variable {ρ : Env} {k : D → Prop}
theorem atI_nat {α : Type} {xs : List α} {j : Nat} {z : α} (h : xs[j]? = some z) : atI xs (j : Int) = some z := by
  have hl := (List.getElem?_eq_some_iff.mp h).1
  unfold atI ixN
  simp [hl]
  exact (List.getElem?_eq_some_iff.mp h).2
theorem ixP_tup {xs : List D} {j : Nat} {z : D} (h : xs[j]? = some z) : ixP ρ (.tup xs) (.int (j : Int)) k = k z := by
  unfold ixP onS
  simp only [atI_nat h]
theorem ixP_lst {xs : List D} {j : Nat} {z : D} (h : xs[j]? = some z) : ixP ρ (.lst xs) (.int (j : Int)) k = k z := by
  unfold ixP onS
  simp only [atI_nat h]
theorem ixP_scr {ns : List Int} {j : Nat} {z : Int} (h : ns[j]? = some z) : ixP ρ (.scr ns) (.int (j : Int)) k = k (.int z) := by
  unfold ixP onS
  simp only [atI_nat (show (ns.map D.int)[j]? = some (.int z) by rw [List.getElem?_map, h]; rfl)]
@[simp] theorem ixP_t0 {x : D} {xs : List D} : ixP ρ (.tup (x :: xs)) (.int 0) k = k x := ixP_tup (j := 0) rfl
@[simp] theorem ixP_t1 {x y : D} {xs : List D} : ixP ρ (.tup (x :: y :: xs)) (.int 1) k = k y := ixP_tup (j := 1) rfl
@[simp] theorem ixP_l0 {x : D} {xs : List D} : ixP ρ (.lst (x :: xs)) (.int 0) k = k x := ixP_lst (j := 0) rfl
@[simp] theorem ixP_l1 {x y : D} {xs : List D} : ixP ρ (.lst (x :: y :: xs)) (.int 1) k = k y := ixP_lst (j := 1) rfl
end
end PD
namespace PD
open PySem L2
section
variable {ρ : Env} {De : DEnds} {a : DE}
@[simp] theorem dApp_e {i : Nat} : dApp i a De ρ = match ρ[i]? with
  | some (some (.lst xs)) => a ρ fun d ρ1 => match ρ1[i]? with
    | some (some (.lst xs)) => xs.length < sizeLine ∧ De.nx (ρ1.set i (some (.lst (xs ++ [d]))))
    | _ => False
  | _ => False := rfl
end
end PD
namespace PD
open PySem L2
theorem sel_y {b : Bool} {p q : Prop} (h : b = true) (hp : p) : sel b p q := by subst h; exact hp
theorem sel_n {b : Bool} {p q : Prop} (h : b = false) (hq : q) : sel b p q := by subst h; exact hq
theorem okNs_ints {n : Nat} : ∀ ns : List Int, okNs n (ns.map D.int) = true
  | [] => by rw [List.map_nil, okNs]
  | x :: ns => by rw [List.map_cons, okNs, okN, okNs_ints ns]; rfl
theorem toPys_ints (ns : List Int) : toPys (ns.map D.int) = ns.map PyData.int := by
  rw [toPys_map, List.map_map]
  refine List.map_congr_left fun x _ => ?_
  show toPy (.int x) = _
  rw [toPy]
theorem leD_int {a b : Int} : leD (.int a) (.int b) ↔ a ≤ b := by
  unfold leD
  rw [toPy, toPy, PySem.W.dataLt_int]
  simp
theorem sortOk_ints (ns : List Int) : SortOk (ns.map D.int) := by
  refine ⟨okNs_ints ns, ?_, ?_⟩
  · rw [toPys_ints]
    intro d hd e he
    obtain ⟨x, _, rfl⟩ := List.mem_map.mp hd
    obtain ⟨y, _, rfl⟩ := List.mem_map.mp he
    simp [PySem.W.alike]
  · rw [toPys_ints]
    refine .inr fun d hd => ?_
    obtain ⟨x, _, rfl⟩ := List.mem_map.mp hd
    exact ⟨(fun z => nomatch z), fun xs z => nomatch z⟩
theorem perm_ints {es : List D} {ns : List Int} (h : es.Perm (ns.map D.int)) : ∃ ns' : List Int, es = ns'.map D.int ∧ ns'.Perm ns := by
  let g : D → Int := fun d => match d with | .int i => i | _ => 0
  refine ⟨es.map g, ?_, ?_⟩
  · rw [List.map_map]
    have e : ∀ d ∈ es, (D.int ∘ g) d = d := fun d hd => by
      obtain ⟨x, _, rfl⟩ := List.mem_map.mp (h.mem_iff.mp hd)
      rfl
    rw [List.map_congr_left e, List.map_id']
  · have := h.map g
    rw [List.map_map] at this
    have e : g ∘ D.int = id := rfl
    rw [e, List.map_id] at this
    exact this
theorem sorted_ints {ρ : Env} {d : D} {ns : List Int} {k : D → Prop} (hd : d = .lst (ns.map D.int) ∨ d = .tup (ns.map D.int)) (h : ∀ ns' : List Int, ns'.Perm ns → ns'.Pairwise (· ≤ ·) → k (.lst (ns'.map D.int))) : sortedP ρ [d] k := by
  have key : SortOk (ns.map D.int) ∧ ∀ es : List D, es.Perm (ns.map D.int) → es.Pairwise leD → k (.lst es) := by
    refine ⟨sortOk_ints ns, fun es hp hs => ?_⟩
    obtain ⟨ns', rfl, hp'⟩ := perm_ints hp
    exact h ns' hp' ((List.pairwise_map.mp hs).imp fun {a b} z => leD_int.mp z)
  rcases hd with rfl | rfl
  · exact key
  · exact key
end PD
namespace PD
open PySem L2
section
variable {ρ : Env} {k : D → Prop}
@[simp] theorem ixP_own0 {x : D} {xs : List D} : ixP (some (.lst (x :: xs)) :: ρ) (.own 0) (.int 0) k = k x := by
  show (match atI (x :: xs) ((0 : Nat) : Int) with | some z => k z | none => False) = _
  rw [atI_nat (z := x) rfl]
@[simp] theorem ixP_own1 {x y : D} {xs : List D} : ixP (some (.lst (x :: y :: xs)) :: ρ) (.own 0) (.int 1) k = k y := by
  show (match atI (x :: y :: xs) ((1 : Nat) : Int) with | some z => k z | none => False) = _
  rw [atI_nat (z := y) rfl]
end
theorem bits_le {x y : Nat} (h : x ≤ y) : Builtin.Int.intBits (x : Int) ≤ Builtin.Int.intBits (y : Int) := by
  unfold Builtin.Int.intBits
  by_cases h0 : x = 0
  · subst h0; simp
  · have h1 : y ≠ 0 := by omega
    have e1 : ((x : Int) == 0) = false := by simpa using h0
    have e2 : ((y : Int) == 0) = false := by simpa using h1
    rw [e1, e2]
    show x.log2 + 1 ≤ y.log2 + 1
    have : x.log2 < y.log2 + 1 := (Nat.log2_lt h0).mpr (Nat.lt_of_le_of_lt h Nat.lt_log2_self)
    omega
theorem bits_abs (i : Int) : Builtin.Int.intBits (i.natAbs : Int) = Builtin.Int.intBits i := by
  unfold Builtin.Int.intBits
  by_cases h0 : i = 0
  · subst h0; rfl
  · have e1 : (i == 0) = false := by simpa using h0
    have e2 : ((i.natAbs : Int) == 0) = false := by simp [h0]
    rw [e1, e2]
    rfl
end PD

end
section
set_option Elab.async false
set_option linter.all false
/-! plain numbers: forms of two unknowns -/
namespace NT
/-- reduced -/
def Red (a b c : Int) : Prop := 0 < a ∧ -a ≤ b ∧ b ≤ a ∧ a ≤ c ∧ (0 ≤ b ∨ (-a < b ∧ a < c))
theorem sq_nn (x : Int) : 0 ≤ x * x := by
  rcases Int.le_total 0 x with h | h
  · exact Int.mul_nonneg h h
  · have := Int.mul_nonneg (show 0 ≤ -x by omega) (show 0 ≤ -x by omega)
    grind
/-- p p - P R + r r, P = |p|, R = |r| -/
theorem norm_pos {P R : Int} (h : P ≠ 0 ∨ R ≠ 0) : 1 ≤ P * P - P * R + R * R := by
  refine Classical.byContradiction fun hn => ?_
  have h1 := sq_nn (2 * P - R)
  have h2 := sq_nn (2 * R - P)
  have hR : 0 ≤ R * R := sq_nn R
  have hP : 0 ≤ P * P := sq_nn P
  have e1 : (2 * P - R) * (2 * P - R) + 3 * (R * R) = 4 * (P * P - P * R + R * R) := by grind
  have e2 : (2 * R - P) * (2 * R - P) + 3 * (P * P) = 4 * (P * P - P * R + R * R) := by grind
  have zR : R * R = 0 := by omega
  have zP : P * P = 0 := by omega
  have := Int.mul_eq_zero.mp zR
  have := Int.mul_eq_zero.mp zP
  omega
theorem wred_min {a b c p r : Int} (h : 0 < a ∧ -a ≤ b ∧ b ≤ a ∧ a ≤ c) (hn : p ≠ 0 ∨ r ≠ 0) : a ≤ a * p * p + b * p * r + c * r * r := by
  obtain ⟨h0, h1, h2, h3⟩ := h
  have hr := sq_nn r
  have k1 : 0 ≤ (c - a) * (r * r) := Int.mul_nonneg (by omega) hr
  rcases Int.le_total 0 (p * r) with hs | hs
  · have k2 : 0 ≤ (b + a) * (p * r) := Int.mul_nonneg (by omega) hs
    have k3 : 0 ≤ a * (p * p - p * r + r * r - 1) := Int.mul_nonneg (by omega) (by have := norm_pos (P := p) (R := r) hn; omega)
    grind
  · have k2 : 0 ≤ (a - b) * (-(p * r)) := Int.mul_nonneg (by omega) (by omega)
    have k3 : 0 ≤ a * (p * p - p * (-r) + (-r) * (-r) - 1) := Int.mul_nonneg (by omega) (by have := norm_pos (P := p) (R := -r) (by omega); omega)
    grind
theorem red_min {a b c p r : Int} (h : Red a b c) (hn : p ≠ 0 ∨ r ≠ 0) : a ≤ a * p * p + b * p * r + c * r * r := wred_min ⟨h.1, h.2.1, h.2.2.1, h.2.2.2.1⟩ hn
/-- a form's first number is told again only at the rim -/
theorem red_rim {a b c p r : Int} (h : Red a b c) (hr : r ≠ 0) (e : a * p * p + b * p * r + c * r * r = a) : c = a := by
  obtain ⟨h0, h1, h2, h3, _⟩ := h
  refine Classical.byContradiction fun hc => ?_
  have hr2 : 1 ≤ r * r := by
    have h5 := sq_nn r
    have : r * r ≠ 0 := fun z => by have := Int.mul_eq_zero.mp z; omega
    omega
  have k1 : (c - a) * 1 ≤ (c - a) * (r * r) := Int.mul_le_mul_of_nonneg_left hr2 (by omega)
  have hm : a ≤ a * p * p + b * p * r + a * r * r := wred_min (a := a) (b := b) (c := a) ⟨h0, h1, h2, Int.le_refl _⟩ (.inr hr)
  grind
theorem red_uniq {a b c a' b' c' p q r s : Int} (h : Red a b c) (h' : Red a' b' c') (e1 : a' = a * p * p + b * p * r + c * r * r)
    (e2 : b' = 2 * a * p * q + b * (p * s + q * r) + 2 * c * r * s) (e3 : c' = a * q * q + b * q * s + c * s * s) (d : p * s - q * r = 1) : a = a' ∧ b = b' ∧ c = c' := by
  have hn : p ≠ 0 ∨ r ≠ 0 := by
    refine Classical.byContradiction fun z => ?_
    have hp : p = 0 := by omega
    have hr : r = 0 := by omega
    subst hp hr
    omega
  have hn' : s ≠ 0 ∨ -r ≠ 0 := by
    refine Classical.byContradiction fun z => ?_
    have hp : s = 0 := by omega
    have hr : r = 0 := by omega
    subst hp hr
    simp at d
  have m1 := red_min h hn
  have i1 : a = a' * s * s + b' * s * (-r) + c' * (-r) * (-r) := by
    have : (p * s - q * r) * (p * s - q * r) = 1 := by rw [d]; rfl
    rw [e1, e2, e3]
    grind
  have m2 := red_min h' hn'
  have ea : a = a' := by omega
  have dd : b' * b' - 4 * a' * c' = b * b - 4 * a * c := by
    have : (p * s - q * r) * (p * s - q * r) = 1 := by rw [d]; rfl
    rw [e1, e2, e3]
    grind
  obtain ⟨h0, h1, h2, h3, h4⟩ := h
  obtain ⟨g0, g1, g2, g3, g4⟩ := h'
  have cc : b = b' → c = c' := fun eb => by
    subst ea eb
    have : a * c' = a * c := by grind
    exact (Int.eq_of_mul_eq_mul_left (by omega) this).symm
  by_cases hr : r = 0
  · subst hr
    have e4 : b' = b + 2 * a * (p * q) := by
      have : p * s = 1 := by omega
      rw [e2]
      grind
    have hb : b' = b := by
      by_cases hz : p * q = 0
      · rw [e4, hz]; omega
      · exfalso
        rcases Int.lt_or_gt_of_ne hz with hz | hz
        · have := Int.mul_le_mul_of_nonneg_left (show p * q ≤ -1 by omega) (show 0 ≤ 2 * a by omega)
          omega
        · have := Int.mul_le_mul_of_nonneg_left (show 1 ≤ p * q by omega) (show 0 ≤ 2 * a by omega)
          omega
    exact ⟨ea, hb.symm, cc hb.symm⟩
  · have c1 : c = a := red_rim ⟨h0, h1, h2, h3, h4⟩ hr (e1.symm.trans ea.symm)
    have c2 : c' = a' := red_rim ⟨g0, g1, g2, g3, g4⟩ (show -r ≠ 0 by omega) (i1.symm.trans ea)
    have hb : (b' - b) * (b' + b) = 0 := by subst ea c1 c2; grind
    have : b = b' := by
      rcases Int.mul_eq_zero.mp hb with z | z <;> omega
    exact ⟨ea, this, cc this⟩
/-- how far from reduced -/
def redM (a b : Int) : Nat := 4 * a.toNat + (if -a < b ∧ b ≤ a then (if b < 0 then 1 else 0) else 2)
theorem mid_in {a b : Int} (h : 0 < a) : -a < b + 2 * a * ((a - b) / (2 * a)) ∧ b + 2 * a * ((a - b) / (2 * a)) ≤ a := by
  have h1 := Int.emod_add_mul_ediv (a - b) (2 * a)
  have h2 := Int.emod_nonneg (a - b) (show 2 * a ≠ 0 by omega)
  have h3 := Int.emod_lt_of_pos (a - b) (show 0 < 2 * a by omega)
  omega
theorem red_mid {a b : Int} (h : 0 < a) (hn : ¬ (-a < b ∧ b ≤ a)) : redM a (b + 2 * a * ((a - b) / (2 * a))) < redM a b := by
  have := mid_in (b := b) h
  unfold redM
  rw [if_pos this, if_neg hn]
  split <;> omega
theorem red_turn {a b c : Int} (h : 0 < a) (hc : 0 < c) (hi : -a < b ∧ b ≤ a) (hn : ¬ Red a b c) : redM c (-b) < redM a b := by
  unfold Red at hn
  unfold redM
  rw [if_pos hi]
  by_cases hca : c < a
  · have : (if -c < -b ∧ -b ≤ c then (if -b < 0 then 1 else 0) else 2) ≤ 2 := by
      split
      · split <;> omega
      · omega
    have e : c.toNat + 1 ≤ a.toNat := by omega
    omega
  · have e : c = a ∧ b < 0 := by omega
    obtain ⟨rfl, hb⟩ := e
    rw [if_pos hb, if_pos (by omega), if_neg (by omega)]
    omega
end NT

end
section
set_option Elab.async false
set_option linter.all false
/-! plain numbers: forms, steps, classes, bounds -/
namespace NT
structure F3 where
  a : Int
  b : Int
  c : Int
  deriving DecidableEq
structure M4 where
  p : Int
  q : Int
  r : Int
  s : Int
  deriving DecidableEq
def act (f : F3) (m : M4) : F3 := ⟨f.a * m.p * m.p + f.b * m.p * m.r + f.c * m.r * m.r, 2 * (f.a * m.p * m.q + f.c * m.r * m.s) + f.b * (m.p * m.s + m.q * m.r), f.a * m.q * m.q + f.b * m.q * m.s + f.c * m.s * m.s⟩
def mulM (m n : M4) : M4 := ⟨m.p * n.p + m.q * n.r, m.p * n.q + m.q * n.s, m.r * n.p + m.s * n.r, m.r * n.q + m.s * n.s⟩
def det (m : M4) : Int := m.p * m.s - m.q * m.r
def disc (f : F3) : Int := f.b * f.b - 4 * f.a * f.c
def invM (m : M4) : M4 := ⟨m.s, -m.q, -m.r, m.p⟩
def oneM : M4 := ⟨1, 0, 0, 1⟩
theorem act_one (f : F3) : act f oneM = f := by
  obtain ⟨a, b, c⟩ := f
  simp [act, oneM]
theorem act_mul (f : F3) (m n : M4) : act (act f m) n = act f (mulM m n) := by
  simp only [act, mulM, F3.mk.injEq]
  refine ⟨?_, ?_, ?_⟩ <;> grind
theorem det_mul (m n : M4) : det (mulM m n) = det m * det n := by
  simp only [det, mulM]
  grind
theorem disc_act (f : F3) (m : M4) : disc (act f m) = disc f * (det m * det m) := by
  simp only [disc, act, det]
  grind
theorem disc_act1 {f : F3} {m : M4} (h : det m = 1) : disc (act f m) = disc f := by
  rw [disc_act, h]; simp
theorem mul_inv {m : M4} (h : det m = 1) : mulM m (invM m) = oneM := by
  simp only [det] at h
  simp only [mulM, invM, oneM, M4.mk.injEq]
  refine ⟨?_, ?_, ?_, ?_⟩ <;> grind
theorem det_inv (m : M4) : det (invM m) = det m := by
  simp only [det, invM]
  grind
theorem act_inv {f : F3} {m : M4} (h : det m = 1) : act (act f m) (invM m) = f := by
  rw [act_mul, mul_inv h, act_one]
/-- of one class -/
def Eqv (f g : F3) : Prop := ∃ m, det m = 1 ∧ act f m = g
theorem Eqv.refl (f : F3) : Eqv f f := ⟨oneM, rfl, act_one f⟩
theorem Eqv.symm {f g : F3} (h : Eqv f g) : Eqv g f := by
  obtain ⟨m, d, rfl⟩ := h
  exact ⟨invM m, (det_inv m).trans d, act_inv d⟩
theorem Eqv.trans {f g h : F3} (a : Eqv f g) (b : Eqv g h) : Eqv f h := by
  obtain ⟨m, d, rfl⟩ := a
  obtain ⟨n, e, rfl⟩ := b
  exact ⟨mulM m n, by rw [det_mul, d, e]; rfl, (act_mul f m n).symm⟩
theorem Eqv.disc {f g : F3} (h : Eqv f g) : NT.disc g = NT.disc f := by
  obtain ⟨m, d, rfl⟩ := h
  exact disc_act1 d
def RedF (f : F3) : Prop := Red f.a f.b f.c
instance (a b c : Int) : Decidable (Red a b c) := by unfold Red; infer_instance
instance (f : F3) : Decidable (RedF f) := by unfold RedF; infer_instance
theorem eqv_red {f g : F3} (hf : RedF f) (hg : RedF g) (h : Eqv f g) : f = g := by
  obtain ⟨⟨p, q, r, s⟩, d, rfl⟩ := h
  obtain ⟨a, b, c⟩ := f
  obtain ⟨h1, h2, h3⟩ := red_uniq (p := p) (q := q) (r := r) (s := s) hf hg rfl (by simp only [act]; grind) rfl d
  rw [F3.mk.injEq]
  exact ⟨h1, h2, h3⟩
/-- the greatest common divisor of three -/
def g3 (f : F3) : Nat := Int.gcd (Int.gcd f.a f.b) f.c
theorem dvd_g3 {f : F3} {k : Nat} : k ∣ g3 f ↔ (k : Int) ∣ f.a ∧ (k : Int) ∣ f.b ∧ (k : Int) ∣ f.c := by
  unfold g3
  constructor
  · intro h
    have h1 : (k : Int) ∣ (Int.gcd f.a f.b : Int) := Int.dvd_trans (Int.natCast_dvd_natCast.mpr h) (Int.gcd_dvd_left ..)
    exact ⟨Int.dvd_trans h1 (Int.gcd_dvd_left ..), Int.dvd_trans h1 (Int.gcd_dvd_right ..), Int.dvd_trans (Int.natCast_dvd_natCast.mpr h) (Int.gcd_dvd_right ..)⟩
  · rintro ⟨h1, h2, h3⟩
    exact Int.dvd_gcd (Int.dvd_coe_gcd h1 h2) h3
theorem g3_act {f : F3} {m : M4} {k : Nat} (h : k ∣ g3 f) : k ∣ g3 (act f m) := by
  obtain ⟨⟨x, h1⟩, ⟨y, h2⟩, ⟨z, h3⟩⟩ := dvd_g3.mp h
  refine dvd_g3.mpr ⟨?_, ?_, ?_⟩ <;> simp only [act, h1, h2, h3]
  · exact ⟨x * m.p * m.p + y * m.p * m.r + z * m.r * m.r, by grind⟩
  · exact ⟨2 * (x * m.p * m.q + z * m.r * m.s) + y * (m.p * m.s + m.q * m.r), by grind⟩
  · exact ⟨x * m.q * m.q + y * m.q * m.s + z * m.s * m.s, by grind⟩
theorem Eqv.g3 {f g : F3} (h : Eqv f g) : NT.g3 g = NT.g3 f := by
  obtain ⟨m, _, e⟩ := id h
  obtain ⟨n, _, e2⟩ := h.symm
  refine Nat.dvd_antisymm ?_ ?_
  · rw [← e2]; exact g3_act (Nat.dvd_refl _)
  · rw [← e]; exact g3_act (Nat.dvd_refl _)
/-- first number times a value -/
theorem four_val (f : F3) (x y : Int) : 4 * f.a * (f.a * x * x + f.b * x * y + f.c * y * y) = (2 * f.a * x + f.b * y) * (2 * f.a * x + f.b * y) - disc f * (y * y) := by
  simp only [disc]
  grind
/-- values of a form are positive -/
theorem val_pos {f : F3} (ha : 0 < f.a) (hD : disc f < 0) {x y : Int} (hn : x ≠ 0 ∨ y ≠ 0) : 0 < f.a * x * x + f.b * x * y + f.c * y * y := by
  refine Classical.byContradiction fun hc => ?_
  have e := four_val f x y
  generalize hV : f.a * x * x + f.b * x * y + f.c * y * y = V at *
  generalize hX : 2 * f.a * x + f.b * y = X at *
  have h1 := sq_nn X
  have h2 := sq_nn y
  have h3 : 0 ≤ (-disc f - 1) * (y * y) := Int.mul_nonneg (by omega) h2
  have e3 : (-disc f - 1) * (y * y) = -(disc f * (y * y)) - y * y := by grind
  have h4 : 0 ≤ (4 * f.a) * (-V) := Int.mul_nonneg (by omega) (by omega)
  have e4 : (4 * f.a) * (-V) = -(4 * f.a * V) := by grind
  have hy : y * y = 0 := by omega
  have hy : y = 0 := by have := Int.mul_eq_zero.mp hy; omega
  have hx : X * X = 0 := by
    rw [hy] at *
    omega
  have hx : X = 0 := by have := Int.mul_eq_zero.mp hx; omega
  have hx : 2 * f.a * x = 0 := by
    rw [hy] at hX
    omega
  have := Int.mul_eq_zero.mp hx
  omega
theorem act_pos {f : F3} (ha : 0 < f.a) (hD : disc f < 0) {m : M4} (hd : det m = 1) : 0 < (act f m).a := by
  refine val_pos ha hD ?_
  refine Classical.byContradiction fun z => ?_
  have hp : m.p = 0 := by omega
  have hr : m.r = 0 := by omega
  simp [det, hp, hr] at hd
theorem c_pos {f : F3} (ha : 0 < f.a) (hD : disc f < 0) : 0 < f.c := by
  have := val_pos ha hD (x := 0) (y := 1) (by omega)
  simpa using this
/-! ### bounds -/
/-- fewer than k bits -/
def Bn (k : Nat) (x : Int) : Prop := x.natAbs < 2 ^ k
theorem Bn.mul {k l : Nat} {x y : Int} (hx : Bn k x) (hy : Bn l y) : Bn (k + l) (x * y) := by
  unfold Bn at *
  rw [Int.natAbs_mul, Nat.pow_add]
  exact Nat.mul_lt_mul'' hx hy
theorem Bn.add {k l : Nat} {x y : Int} (hx : Bn k x) (hy : Bn l y) : Bn (k + l + 1) (x + y) := by
  unfold Bn at *
  have h1 : 2 ^ k ≤ 2 ^ (k + l) := Nat.pow_le_pow_right (by decide) (by omega)
  have h2 : 2 ^ l ≤ 2 ^ (k + l) := Nat.pow_le_pow_right (by decide) (by omega)
  have := Int.natAbs_add_le x y
  rw [Nat.pow_succ]
  omega
theorem Bn.neg {k : Nat} {x : Int} (hx : Bn k x) : Bn k (-x) := by unfold Bn at *; rwa [Int.natAbs_neg]
theorem Bn.sub {k l : Nat} {x y : Int} (hx : Bn k x) (hy : Bn l y) : Bn (k + l + 1) (x - y) := by rw [Int.sub_eq_add_neg]; exact hx.add hy.neg
theorem Bn.mono {k l : Nat} {x : Int} (hx : Bn k x) (h : k ≤ l) : Bn l x := Nat.lt_of_lt_of_le hx (Nat.pow_le_pow_right (by decide) h)
theorem Bn.div {k : Nat} {x y : Int} (hx : Bn k x) (hy : 0 < y) : Bn (k + 1) (x / y) := by
  unfold Bn at *
  have h1 : (x / y).natAbs ≤ x.natAbs + 1 := by
    have e := Int.emod_add_mul_ediv x y
    have e1 := Int.emod_nonneg x (show y ≠ 0 by omega)
    have e2 := Int.emod_lt_of_pos x hy
    generalize x / y = z at *
    rcases Int.le_total 0 z with hz | hz
    · have := Int.mul_le_mul_of_nonneg_right (show 1 ≤ y by omega) hz
      omega
    · have := Int.mul_le_mul_of_nonneg_left (show z + 1 ≤ 1 by omega) (show 0 ≤ y by omega)
      by_cases hz0 : z = 0
      · subst hz0; simp
      · have h3 : 0 ≤ (y - 1) * (-(z + 1)) := Int.mul_nonneg (by omega) (by omega)
        have h4 : (y - 1) * (-(z + 1)) = -(y * z) - y + z + 1 := by grind
        omega
  have : 1 ≤ 2 ^ k := Nat.one_le_two_pow
  rw [Nat.pow_succ]
  omega
theorem Bn.lit {n : Int} (h : n.natAbs < 2 ^ 64 := by decide) : Bn 64 n := h
theorem Bn.of_le {k : Nat} {x : Int} {n : Nat} (h : x.natAbs ≤ n) (hn : n < 2 ^ k := by decide) : Bn k x := Nat.lt_of_le_of_lt h hn
/-- x x below M -/
theorem sq_le {x M : Int} (h : x * x ≤ M) : x.natAbs ≤ M.natAbs := by
  have h1 : x.natAbs * x.natAbs = (x * x).natAbs := (Int.natAbs_mul x x).symm
  have h2 : x.natAbs ≤ x.natAbs * x.natAbs := by
    rcases Nat.eq_zero_or_pos x.natAbs with z | z
    · omega
    · exact Nat.le_mul_of_pos_left _ z
  have h3 := sq_nn x
  omega
theorem val_bound {f : F3} {k v : Nat} (ha : 0 < f.a) (hD : disc f ≤ -1) (ba : Bn k f.a) (bb : Bn k f.b) {x y V : Int} (e : f.a * x * x + f.b * x * y + f.c * y * y = V) (bv : Bn v V) : Bn (k + v + 2) y ∧ Bn (2 * k + v + 4) x := by
  have e4 := four_val f x y
  rw [e] at e4
  have h1 := sq_nn (2 * f.a * x + f.b * y)
  have h2 := sq_nn y
  have h3 : 0 ≤ (-disc f - 1) * (y * y) := Int.mul_nonneg (by omega) h2
  have e3 : (-disc f - 1) * (y * y) = -(disc f * (y * y)) - y * y := by grind
  have hy : y * y ≤ 4 * f.a * V := by omega
  have ht : (2 * f.a * x + f.b * y) * (2 * f.a * x + f.b * y) ≤ 4 * f.a * V := by omega
  have b4 : (4 * f.a * V).natAbs < 2 ^ (k + v + 2) := by
    rw [Int.natAbs_mul, Int.natAbs_mul, Nat.pow_add, Nat.pow_add, Nat.mul_comm, Nat.mul_comm (2 ^ k), Nat.mul_comm _ (2 ^ 2), Nat.mul_comm (4 : Int).natAbs]
    unfold Bn at *
    have : f.a.natAbs * V.natAbs < 2 ^ k * 2 ^ v := Nat.mul_lt_mul'' ba bv
    have e1 : V.natAbs * (f.a.natAbs * (4 : Int).natAbs) = 4 * (f.a.natAbs * V.natAbs) := by
      show V.natAbs * (f.a.natAbs * 4) = _
      grind
    rw [e1]
    have e2 : 2 ^ 2 * (2 ^ v * 2 ^ k) = 4 * (2 ^ k * 2 ^ v) := by
      show 4 * _ = _
      grind
    rw [e2]
    omega
  have by' : Bn (k + v + 2) y := Nat.lt_of_le_of_lt (sq_le hy) b4
  refine ⟨by', ?_⟩
  have bt : Bn (k + v + 2) (2 * f.a * x + f.b * y) := Nat.lt_of_le_of_lt (sq_le ht) b4
  have b2 : Bn (k + v + 2 + (k + (k + v + 2)) + 1) (2 * f.a * x + f.b * y - f.b * y) := bt.sub (bb.mul by')
  have hx : x.natAbs ≤ (2 * f.a * x + f.b * y - f.b * y).natAbs := by
    have e1 : 2 * f.a * x + f.b * y - f.b * y = 2 * f.a * x := by omega
    rw [e1, Int.natAbs_mul]
    exact Nat.le_mul_of_pos_left _ (by omega)
  unfold Bn at *
  have b3 : (f.b * y).natAbs < 2 ^ (k + (k + v + 2)) := by
    rw [Int.natAbs_mul, Nat.pow_add]
    exact Nat.mul_lt_mul'' bb by'
  have h5 : 2 ^ (k + v + 2) ≤ 2 ^ (k + (k + v + 2)) := Nat.pow_le_pow_right (by decide) (by omega)
  have h6 : 2 ^ (2 * k + v + 4) = 4 * 2 ^ (k + (k + v + 2)) := by
    have : 2 * k + v + 4 = 2 + (k + (k + v + 2)) := by omega
    rw [this, Nat.pow_add 2 2]
  have := Int.natAbs_sub_le (2 * f.a * x + f.b * y) (f.b * y)
  omega
end NT

end
section
set_option Elab.async false
set_option linter.all false
set_option maxRecDepth 100000
/-! k08: what the defs promise -/
namespace K08
open PySem PySem.Spec PyProof.Rows L2 RZ PD NT

def numIn (d : D) (lo hi : Int) : Bool := match d with
  | .int i => decide (lo ≤ i ∧ i ≤ hi)
  | _ => false
def Plain (d : D) : Prop := (tyD d).isSome = true ∧ isBool d = false
def F_is_number : FP := fun args P _ => ∃ d lo hi, args = [d, .int lo, .int hi] ∧ Plain d ∧ P (.bl (numIn d lo hi))
def fD (f : F3) : D := .tup [.int f.a, .int f.b, .int f.c]
def mD (m : M4) : D := .tup [.int m.p, .int m.q, .int m.r, .int m.s]
def Fb (k : Nat) (f : F3) : Prop := Bn k f.a ∧ Bn k f.b ∧ Bn k f.c
def Mb (k : Nat) (m : M4) : Prop := Bn k m.p ∧ Bn k m.q ∧ Bn k m.r ∧ Bn k m.s
/-- a form of two -/
def TwoF (f : F3) : Prop := 1 ≤ f.a ∧ -4000 ≤ disc f ∧ disc f ≤ -3 ∧ g3 f = 1
instance (f : F3) : Decidable (TwoF f) := by unfold TwoF; infer_instance
def StpM (m : M4) : Prop := (-10000 ≤ m.p ∧ m.p ≤ 10000) ∧ (-10000 ≤ m.q ∧ m.q ≤ 10000) ∧ (-10000 ≤ m.r ∧ m.r ≤ 10000) ∧ (-10000 ≤ m.s ∧ m.s ≤ 10000) ∧ det m = 1
instance (m : M4) : Decidable (StpM m) := by unfold StpM; infer_instance
def isTwo : D → Bool
  | .tup [.int a, .int b, .int c] => decide (TwoF ⟨a, b, c⟩)
  | _ => false
def isStp : D → Bool
  | .tup [.int p, .int q, .int r, .int s] => decide (StpM ⟨p, q, r, s⟩)
  | _ => false
/-- what may stand in what is asked -/
def TI (x : D) : Prop := Plain x ∧ okN 5 x = true ∧ ∀ i, x = .int i → Bn 70 i
def TryQ (d : D) : Prop := Plain d ∧ ∀ xs, d = .tup xs → xs.length ≤ 10 ∧ ∀ x ∈ xs, TI x
def gcdL (ns : List Int) : Nat := ns.foldl (fun g x => Nat.gcd g x.natAbs) 0
def F_divisor : FP := fun args P _ => ∃ ns : List Int, args = [.tup (ns.map D.int)] ∧ ns.length ≤ 10 ∧ (∀ i ∈ ns, Bn 100 i) ∧ P (.int (gcdL ns))
def F_disc : FP := fun args P _ => ∃ f, args = [fD f] ∧ Fb 100 f ∧ P (.int (disc f))
def F_check_two : FP := fun args P W => ∃ d, args = [d] ∧ TryQ d ∧ (isTwo d = true → P .non) ∧ (isTwo d = false → W .form)
def F_discriminant : FP := fun args P W => ∃ d, args = [d] ∧ TryQ d ∧ (∀ f, d = fD f → TwoF f → P (.int (disc f))) ∧ (isTwo d = false → W .form)
def F_made_by : FP := fun args P _ => ∃ f m, args = [fD f, mD m] ∧ Fb 100 f ∧ Mb 1000 m ∧ P (fD (act f m))
def F_one_step : FP := fun args P _ => ∃ m n, args = [mD m, mD n] ∧ Mb 1000 m ∧ Mb 1000 n ∧ P (mD (mulM m n))
/-- of a discriminant that may be asked -/
def Def2 (f : F3) : Prop := 1 ≤ f.a ∧ -4000 ≤ disc f ∧ disc f ≤ -3
def F_reduction : FP := fun args P _ => ∃ f, args = [fD f] ∧ Fb 72 f ∧ Def2 f ∧ ∀ g m, RedF g → det m = 1 → act f m = g → Mb 220 m → P (.tup [fD g, mD m])
def F_is_reduced : FP := fun args P _ => ∃ f, args = [fD f] ∧ 1 ≤ f.a ∧ P (.bl (decide (RedF f)))
def F_reduced : FP := fun args P W => ∃ d, args = [d] ∧ TryQ d ∧ (∀ f, d = fD f → TwoF f → ∀ g m, RedF g → det m = 1 → act f m = g → Mb 220 m → P (.tup [fD g, mD m])) ∧ (isTwo d = false → W .form)
def F_check_step : FP := fun args P W => ∃ d, args = [d] ∧ TryQ d ∧ (isStp d = true → P .non) ∧ (isStp d = false → W .range)
def F_stepped : FP := fun args P W => ∃ d e, args = [d, e] ∧ TryQ d ∧ TryQ e ∧ (∀ f m, d = fD f → e = mD m → TwoF f → StpM m → P (fD (act f m))) ∧ (isTwo d = false → W .form) ∧ (isTwo d = true → isStp e = false → W .range)
def F_same : FP := fun args P W => ∃ d e, args = [d, e] ∧ TryQ d ∧ TryQ e ∧ (∀ f g, d = fD f → e = fD g → TwoF f → TwoF g → (∀ m, det m = 1 → act f m = g → Mb 900 m → P (mD m)) ∧ (¬ Eqv f g → P .non)) ∧ ((isTwo d && isTwo e) = false → W .form)
def opF (f : F3) : F3 := ⟨f.a, -f.b, f.c⟩
def F_turned : FP := fun args P W => ∃ d, args = [d] ∧ TryQ d ∧ (∀ f, d = fD f → TwoF f → ∀ g, RedF g → Eqv (opF f) g → P (fD g)) ∧ (isTwo d = false → W .form)
/-! what is read is as it was -/
mutual
def rdN : Nat → D → Bool
  | _, .non => true
  | _, .bl _ => true
  | _, .int _ => true
  | _, .str s => decide (s.length ≤ 1000)
  | 0, .tup _ => false
  | n + 1, .tup xs => decide (xs.length ≤ 100000) && rdNs n xs
  | 0, .lst _ => false
  | n + 1, .lst xs => decide (xs.length ≤ 100000) && rdNs n xs
  | _, .fn _ => false
  | _, .own _ => false
  | _, .dct _ _ => false
  | _, .scr _ => false
def rdNs : Nat → List D → Bool
  | _, [] => true
  | n, x :: xs => rdN n x && rdNs n xs
end
def readN (n : Nat) : FP := fun args P _ => ∃ d, args = [d] ∧ rdN n d = true ∧ P d
def F__law_read : FP := readN 4
def ScrOk (ns : List Int) : Prop := ns.length ≤ 63 ∧ ∀ z ∈ ns, Builtin.Int.intBits z ≤ 1048576
def F__law_cell : FP := fun args P _ => ∃ ns : List Int, ∃ k : Nat, args = [.scr ns, .int k] ∧ ScrOk ns ∧ ∀ i : Int, Builtin.Int.intBits i ≤ 1048576 → P (.int i)
/-- the law's box: what is left, and the mixed number -/
def BoxOk (d : D) : Prop := ∃ a b : Nat, d = .lst [.int a, .int b] ∧ Builtin.Int.intBits a ≤ 1048576 ∧ b < 2 ^ 31
def F__law_stream : FP := fun args P _ => ∃ ns : List Int, ∃ k : Nat, args = [.scr ns, .int k] ∧ ScrOk ns ∧ ∀ d, BoxOk d → P d
def F__law_draw : FB := fun args P _ => ∃ bx, ∃ many : Nat, args = [bx, .int many] ∧ BoxOk bx ∧ 1 ≤ many ∧ many ≤ 2 ^ 30 ∧ ∀ (i : Nat) bx', BoxOk bx' → i < many → P (.int i) bx'
def F__law_common : FP := F_divisor
def F__law_discriminant : FP := F_disc
def F__law_is_two : FP := fun args P _ => ∃ d, args = [d] ∧ TryQ d ∧ P (.bl (isTwo d))
def F__law_stepped : FP := F_made_by
def F__law_is_reduced : FP := F_is_reduced
def F__law_reduced : FP := fun args P _ => ∃ f, args = [fD f] ∧ Fb 72 f ∧ Def2 f ∧ ∀ g, RedF g → Eqv f g → P (fD g)
/-- a reduced form of a discriminant, without a common divisor -/
def Cls (D : Int) (f : F3) : Prop := RedF f ∧ disc f = D ∧ g3 f = 1
def DiscOk (D : Int) : Prop := -4000 ≤ D ∧ D ≤ -3 ∧ D % 4 < 2
def lexF (f g : F3) : Prop := f.a < g.a ∨ (f.a = g.a ∧ f.b < g.b)
def F__law_classes : FP := fun args P _ => ∃ D : Int, args = [.int D] ∧ DiscOk D ∧ ∀ l : List F3, l.Pairwise lexF → (∀ f, f ∈ l ↔ Cls D f) → P (.lst (l.map fD))
def F__law_some_discriminant : FB := fun args P _ => ∃ bx, ∃ most : Nat, args = [bx, .int most] ∧ BoxOk bx ∧ 600 ≤ most ∧ most ≤ 4000 ∧ ∀ (D : Int) bx', BoxOk bx' → DiscOk D → -most ≤ D → P (.int D) bx'
def F__law_some_two : FB := fun args P _ => ∃ bx, ∃ D : Int, args = [bx, .int D] ∧ BoxOk bx ∧ DiscOk D ∧ ∀ f bx', BoxOk bx' → TwoF f → disc f = D → Fb 50 f → P (fD f) bx'
def F__law_no_two : FB := fun args P _ => ∃ bx, ∃ f, args = [bx, fD f] ∧ BoxOk bx ∧ Fb 60 f ∧ ∀ d bx', BoxOk bx' → TryQ d → P d bx'
def F__law_is_step : FP := fun args P _ => ∃ m, args = [mD m] ∧ Mb 1000 m ∧ P (.bl (decide (det m = 1)))
def F__law_right : FB := fun args P _ => ∃ bx, ∃ f g, args = [bx, fD f, fD g] ∧ TwoF f ∧ TwoF g ∧ Fb 69 f ∧ Fb 69 g ∧ P (.bl true) bx
def F_law : FP := fun args P _ => ∃ ns : List Int, args = [.scr ns] ∧ ns.length ≤ 63 ∧ (∀ z ∈ ns, Builtin.Int.intBits z ≤ 1048576) ∧ P (.bl true)
end K08

end
section
set_option Elab.async false
set_option maxHeartbeats 400000
set_option linter.all false
set_option maxRecDepth 100000
namespace K08
open PySem PySem.Spec PyProof.Rows L2 RZ PD

/-- is_number: slots told least most -/
def d_is_number (W : Ex → Prop) : DS :=
  (dRet (dAndV (dIsi isInt (dVar 0)) (dChain leP leP (dVar 1) (dVar 0) (dVar 2))))
/-- divisor: slots numbers found number left right -/
def d_divisor (W : Ex → Prop) : DS :=
  (dSeq (dSet 1 (dC (.int 0)))
  (dSeq (dFor (dSeqI (dVar 0)) (dgName 2)
  (dSeq (dPar 3 4 (dCons (dCB absP (dCons (dVar 2) dNil)) (dCons (dVar 1) dNil)))
  (dSeq (dWhile (dTest (dOp neP (dVar 4) (dC (.int 0))))
  (dPar 3 4 (dCons (dVar 4) (dCons (dOp modP (dVar 3) (dVar 4)) dNil))))
  (dSet 1 (dVar 3)))))
  (dRet (dVar 1))))
/-- disc: slots form -/
def d_disc (W : Ex → Prop) : DS :=
  (dRet (dOp subP (dOp mulP (dOp ixP (dVar 0) (dC (.int 1))) (dOp ixP (dVar 0) (dC (.int 1)))) (dOp mulP (dOp mulP (dC (.int 4)) (dOp ixP (dVar 0) (dC (.int 0)))) (dOp ixP (dVar 0) (dC (.int 2))))))
/-- check_two: slots form item -/
def d_check_two (W : Ex → Prop) : DS :=
  (dSeq (dIfS (dOr (dNot (dTest (dIsi isTup (dVar 0)))) (dOr (dTest (dOp neP (dCB lenP (dCons (dVar 0) dNil)) (dC (.int 3)))) (dNot (dTest (dCB allP (dCons (dLc (dSeqI (dVar 0)) (dgName 1) dYes (dIsi isInt (dVar 1)) [1]) dNil))))))
  (dRaise W .form)
  dNext)
  (dIfS (dOr (dTest (dOp ltP (dOp ixP (dVar 0) (dC (.int 0))) (dC (.int 1)))) (dOr (dNot (dTest (dChain leP leP (dC (.int (-4000))) (dCall F_disc W (dCons (dVar 0) dNil)) (dUn negP (dC (.int 3)))))) (dTest (dOp neP (dCall F_divisor W (dCons (dVar 0) dNil)) (dC (.int 1))))))
  (dRaise W .form)
  dNext))
/-- discriminant: slots form -/
def d_discriminant (W : Ex → Prop) : DS :=
  (dSeq (dDrop (dCall F_check_two W (dCons (dVar 0) dNil)))
  (dRet (dCall F_disc W (dCons (dVar 0) dNil))))
/-- made_by: slots form step a b c p q r s middle -/
def d_made_by (W : Ex → Prop) : DS :=
  (dSeq (dAsg (dVar 0) (dgTup 3 (dgCons (dgName 2) (dgCons (dgName 3) (dgCons (dgName 4) dgNil)))))
  (dSeq (dAsg (dVar 1) (dgTup 4 (dgCons (dgName 5) (dgCons (dgName 6) (dgCons (dgName 7) (dgCons (dgName 8) dgNil))))))
  (dSeq (dSet 9 (dOp addP (dOp mulP (dC (.int 2)) (dOp addP (dOp mulP (dOp mulP (dVar 2) (dVar 5)) (dVar 6)) (dOp mulP (dOp mulP (dVar 4) (dVar 7)) (dVar 8)))) (dOp mulP (dVar 3) (dOp addP (dOp mulP (dVar 5) (dVar 8)) (dOp mulP (dVar 6) (dVar 7))))))
  (dRet (dTup (dCons (dOp addP (dOp addP (dOp mulP (dOp mulP (dVar 2) (dVar 5)) (dVar 5)) (dOp mulP (dOp mulP (dVar 3) (dVar 5)) (dVar 7))) (dOp mulP (dOp mulP (dVar 4) (dVar 7)) (dVar 7))) (dCons (dVar 9) (dCons (dOp addP (dOp addP (dOp mulP (dOp mulP (dVar 2) (dVar 6)) (dVar 6)) (dOp mulP (dOp mulP (dVar 3) (dVar 6)) (dVar 8))) (dOp mulP (dOp mulP (dVar 4) (dVar 8)) (dVar 8))) dNil))))))))
/-- one_step: slots first second p q r s t u v w -/
def d_one_step (W : Ex → Prop) : DS :=
  (dSeq (dAsg (dVar 0) (dgTup 4 (dgCons (dgName 2) (dgCons (dgName 3) (dgCons (dgName 4) (dgCons (dgName 5) dgNil))))))
  (dSeq (dAsg (dVar 1) (dgTup 4 (dgCons (dgName 6) (dgCons (dgName 7) (dgCons (dgName 8) (dgCons (dgName 9) dgNil))))))
  (dRet (dTup (dCons (dOp addP (dOp mulP (dVar 2) (dVar 6)) (dOp mulP (dVar 3) (dVar 8))) (dCons (dOp addP (dOp mulP (dVar 2) (dVar 7)) (dOp mulP (dVar 3) (dVar 9))) (dCons (dOp addP (dOp mulP (dVar 4) (dVar 6)) (dOp mulP (dVar 5) (dVar 8))) (dCons (dOp addP (dOp mulP (dVar 4) (dVar 7)) (dOp mulP (dVar 5) (dVar 9))) dNil))))))))
/-- is_reduced: slots form a b c -/
def d_is_reduced (W : Ex → Prop) : DS :=
  (dSeq (dAsg (dVar 0) (dgTup 3 (dgCons (dgName 1) (dgCons (dgName 2) (dgCons (dgName 3) dgNil)))))
  (dRet (dAndV (dChain leP leP (dCB absP (dCons (dVar 2) dNil)) (dVar 1) (dVar 3)) (dOrV (dOp geP (dVar 2) (dC (.int 0))) (dChain ltP ltP (dUn negP (dVar 2)) (dVar 1) (dVar 3))))))
/-- reduction: slots form step a b c more -/
def d_reduction (W : Ex → Prop) : DS :=
  (dSeq (dSet 1 (dTup (dCons (dC (.int 1)) (dCons (dC (.int 0)) (dCons (dC (.int 0)) (dCons (dC (.int 1)) dNil))))))
  (dSeq (dWhile (dNot (dTest (dCall F_is_reduced W (dCons (dVar 0) dNil))))
  (dSeq (dAsg (dVar 0) (dgTup 3 (dgCons (dgName 2) (dgCons (dgName 3) (dgCons (dgName 4) dgNil)))))
  (dSeq (dSet 5 (dIf (dNot (dTest (dChain ltP leP (dUn negP (dVar 2)) (dVar 3) (dVar 2)))) (dTup (dCons (dC (.int 1)) (dCons (dOp divP (dOp subP (dVar 2) (dVar 3)) (dOp mulP (dC (.int 2)) (dVar 2))) (dCons (dC (.int 0)) (dCons (dC (.int 1)) dNil))))) (dTup (dCons (dC (.int 0)) (dCons (dUn negP (dC (.int 1))) (dCons (dC (.int 1)) (dCons (dC (.int 0)) dNil)))))))
  (dPar 0 1 (dCons (dCall F_made_by W (dCons (dVar 0) (dCons (dVar 5) dNil))) (dCons (dCall F_one_step W (dCons (dVar 1) (dCons (dVar 5) dNil))) dNil))))))
  (dRet (dTup (dCons (dVar 0) (dCons (dVar 1) dNil))))))
/-- reduced: slots form -/
def d_reduced (W : Ex → Prop) : DS :=
  (dSeq (dDrop (dCall F_check_two W (dCons (dVar 0) dNil)))
  (dRet (dCall F_reduction W (dCons (dVar 0) dNil))))
/-- check_step: slots step item -/
def d_check_step (W : Ex → Prop) : DS :=
  (dSeq (dIfS (dOr (dNot (dTest (dIsi isTup (dVar 0)))) (dTest (dOp neP (dCB lenP (dCons (dVar 0) dNil)) (dC (.int 4)))))
  (dRaise W .range)
  dNext)
  (dSeq (dIfS (dNot (dTest (dCB allP (dCons (dLc (dSeqI (dVar 0)) (dgName 1) dYes (dCall F_is_number noX (dCons (dVar 1) (dCons (dUn negP (dC (.int (10000)))) (dCons (dC (.int (10000))) dNil)))) [1]) dNil))))
  (dRaise W .range)
  dNext)
  (dIfS (dTest (dOp neP (dOp subP (dOp mulP (dOp ixP (dVar 0) (dC (.int 0))) (dOp ixP (dVar 0) (dC (.int 3)))) (dOp mulP (dOp ixP (dVar 0) (dC (.int 1))) (dOp ixP (dVar 0) (dC (.int 2))))) (dC (.int 1))))
  (dRaise W .range)
  dNext)))
/-- stepped: slots form step -/
def d_stepped (W : Ex → Prop) : DS :=
  (dSeq (dDrop (dCall F_check_two W (dCons (dVar 0) dNil)))
  (dSeq (dDrop (dCall F_check_step W (dCons (dVar 1) dNil)))
  (dRet (dCall F_made_by W (dCons (dVar 0) (dCons (dVar 1) dNil))))))
/-- same: slots form other first step second more p q r s -/
def d_same (W : Ex → Prop) : DS :=
  (dSeq (dDrop (dCall F_check_two W (dCons (dVar 0) dNil)))
  (dSeq (dDrop (dCall F_check_two W (dCons (dVar 1) dNil)))
  (dSeq (dAsg (dCall F_reduction W (dCons (dVar 0) dNil)) (dgTup 2 (dgCons (dgName 2) (dgCons (dgName 3) dgNil))))
  (dSeq (dAsg (dCall F_reduction W (dCons (dVar 1) dNil)) (dgTup 2 (dgCons (dgName 4) (dgCons (dgName 5) dgNil))))
  (dSeq (dAsg (dVar 5) (dgTup 4 (dgCons (dgName 6) (dgCons (dgName 7) (dgCons (dgName 8) (dgCons (dgName 9) dgNil))))))
  (dRet (dIf (dTest (dOp eqP (dVar 2) (dVar 4))) (dCall F_one_step W (dCons (dVar 3) (dCons (dTup (dCons (dVar 9) (dCons (dUn negP (dVar 7)) (dCons (dUn negP (dVar 8)) (dCons (dVar 6) dNil))))) dNil))) (dC .non))))))))
/-- turned: slots form -/
def d_turned (W : Ex → Prop) : DS :=
  (dSeq (dDrop (dCall F_check_two W (dCons (dVar 0) dNil)))
  (dRet (dOp ixP (dCall F_reduction W (dCons (dTup (dCons (dOp ixP (dVar 0) (dC (.int 0))) (dCons (dUn negP (dOp ixP (dVar 0) (dC (.int 1)))) (dCons (dOp ixP (dVar 0) (dC (.int 2))) dNil)))) dNil)) (dC (.int 0)))))
/-- _law_read: slots told sign part -/
def d__law_read (Fi : FP) (W : Ex → Prop) : DS :=
  (dSeq (dIfS (dOr (dTest (dOp (isNP false) (dVar 0) (dC .non))) (dOr (dTest (dOp isB2P (dVar 0) (dC (.bl true)))) (dTest (dOp isB2P (dVar 0) (dC (.bl false))))))
  (dRet (dVar 0))
  dNext)
  (dSeq (dIfS (dTest (dIsi isInt (dVar 0)))
  (dRet (dCB intP (dCons (dVar 0) dNil)))
  dNext)
  (dSeq (dIfS (dTest (dIsi isStr (dVar 0)))
  (dRet (dJoin (dC (.str "")) (dLc (dStrI (dVar 0)) (dgName 1) dYes (dVar 1) [1])))
  dNext)
  (dSeq (dIfS (dTest (dIsi isTup (dVar 0)))
  (dRet (dTuple (dLc (dSeqI (dVar 0)) (dgName 2) dYes (dCall Fi noX (dCons (dVar 2) dNil)) [2])))
  dNext)
  (dRet (dIf (dTest (dIsi isLst (dVar 0))) (dLc (dSeqI (dVar 0)) (dgName 2) dYes (dCall Fi noX (dCons (dVar 2) dNil)) [2]) (dC (.str "something else"))))))))
/-- _law_cell: slots script k -/
def d__law_cell (W : Ex → Prop) : DS :=
  (dRet (dIf (dTest (dOp ltP (dVar 1) (dCB lenP (dCons (dVar 0) dNil)))) (dCB intP (dCons (dOp ixP (dVar 0) (dVar 1)) dNil)) (dC (.int 0))))
/-- _law_stream: slots script k -/
def d__law_stream : DE :=
  (dLst (dCons (dCB absP (dCons (dCall F__law_cell noX (dCons (dVar 0) (dCons (dVar 1) dNil))) dNil)) (dCons (dOp addP (dOp modP (dCB absP (dCons (dCall F__law_cell noX (dCons (dVar 0) (dCons (dVar 1) dNil))) dNil)) (dC (.int 1000003))) (dC (.int 7))) dNil)))
/-- _law_draw: slots box many told -/
def d__law_draw (W : Ex → Prop) : DS :=
  (dSeq (dIfS (dTest (dOp gtP (dOp ixP (dOwn 0) (dC (.int 0))) (dC (.int 0))))
  (dSeq (dSet 2 (dOp modP (dOp ixP (dOwn 0) (dC (.int 0))) (dVar 1)))
  (dSeq (dSetIx 0 (dOp divP (dOp ixP (dOwn 0) (dC (.int 0))) (dVar 1)) (dC (.int 0)))
  (dRet (dCB intP (dCons (dVar 2) dNil)))))
  dNext)
  (dSeq (dSetIx 0 (dOp modP (dCB intP (dCons (dOp addP (dOp mulP (dOp ixP (dOwn 0) (dC (.int 1))) (dC (.int 48271))) (dC (.int 12345))) dNil)) (dC (.int 2147483647))) (dC (.int 1)))
  (dRet (dOp modP (dCB intP (dCons (dOp divP (dOp ixP (dOwn 0) (dC (.int 1))) (dC (.int 64))) dNil)) (dVar 1)))))
/-- _law_common: slots numbers told a b -/
def d__law_common (W : Ex → Prop) : DS :=
  (dSeq (dSet 1 (dC (.int 0)))
  (dSeq (dFor (dSeqI (dVar 0)) (dgName 2)
  (dSeq (dSet 3 (dCB absP (dCons (dVar 2) dNil)))
  (dWhile (dTest (dOp gtP (dVar 3) (dC (.int 0))))
  (dPar 1 3 (dCons (dVar 3) (dCons (dOp modP (dVar 1) (dVar 3)) dNil))))))
  (dRet (dVar 1))))
/-- _law_discriminant: slots form a b c -/
def d__law_discriminant (W : Ex → Prop) : DS :=
  (dSeq (dAsg (dVar 0) (dgTup 3 (dgCons (dgName 1) (dgCons (dgName 2) (dgCons (dgName 3) dgNil)))))
  (dRet (dOp subP (dOp mulP (dVar 2) (dVar 2)) (dOp mulP (dOp mulP (dC (.int 4)) (dVar 1)) (dVar 3)))))
/-- _law_is_two: slots x k -/
def d__law_is_two (W : Ex → Prop) : DS :=
  (dSeq (dIfS (dOr (dNot (dTest (dIsi isTup (dVar 0)))) (dOr (dTest (dOp neP (dCB lenP (dCons (dVar 0) dNil)) (dC (.int 3)))) (dTest (dOp gtP (dCB lenP (dCons (dLc (dSeqI (dVar 0)) (dgName 1) (dNot (dTest (dIsi isInt (dVar 1)))) (dVar 1) [1]) dNil)) (dC (.int 0))))))
  (dRet (dC (.bl false)))
  dNext)
  (dRet (dAndV (dOp geP (dOp ixP (dVar 0) (dC (.int 0))) (dC (.int 1))) (dAndV (dChain leP leP (dUn negP (dC (.int 4000))) (dCall F__law_discriminant W (dCons (dVar 0) dNil)) (dUn negP (dC (.int 3)))) (dOp eqP (dCall F__law_common W (dCons (dVar 0) dNil)) (dC (.int 1)))))))
/-- _law_stepped: slots form step a b c p q r s -/
def d__law_stepped (W : Ex → Prop) : DS :=
  (dSeq (dAsg (dVar 0) (dgTup 3 (dgCons (dgName 2) (dgCons (dgName 3) (dgCons (dgName 4) dgNil)))))
  (dSeq (dAsg (dVar 1) (dgTup 4 (dgCons (dgName 5) (dgCons (dgName 6) (dgCons (dgName 7) (dgCons (dgName 8) dgNil))))))
  (dRet (dTup (dCons (dOp addP (dOp addP (dOp mulP (dOp mulP (dVar 2) (dVar 5)) (dVar 5)) (dOp mulP (dOp mulP (dVar 3) (dVar 5)) (dVar 7))) (dOp mulP (dOp mulP (dVar 4) (dVar 7)) (dVar 7))) (dCons (dOp addP (dOp addP (dOp mulP (dOp mulP (dOp mulP (dC (.int 2)) (dVar 2)) (dVar 5)) (dVar 6)) (dOp mulP (dVar 3) (dOp addP (dOp mulP (dVar 5) (dVar 8)) (dOp mulP (dVar 6) (dVar 7))))) (dOp mulP (dOp mulP (dOp mulP (dC (.int 2)) (dVar 4)) (dVar 7)) (dVar 8))) (dCons (dOp addP (dOp addP (dOp mulP (dOp mulP (dVar 2) (dVar 6)) (dVar 6)) (dOp mulP (dOp mulP (dVar 3) (dVar 6)) (dVar 8))) (dOp mulP (dOp mulP (dVar 4) (dVar 8)) (dVar 8))) dNil)))))))
/-- _law_is_reduced: slots form a b c -/
def d__law_is_reduced (W : Ex → Prop) : DS :=
  (dSeq (dAsg (dVar 0) (dgTup 3 (dgCons (dgName 1) (dgCons (dgName 2) (dgCons (dgName 3) dgNil)))))
  (dRet (dAndV (dChain leP leP (dCB absP (dCons (dVar 2) dNil)) (dVar 1) (dVar 3)) (dOrV (dOp geP (dVar 2) (dC (.int 0))) (dAndV (dOp neP (dCB absP (dCons (dVar 2) dNil)) (dVar 1)) (dOp neP (dVar 1) (dVar 3)))))))
/-- _law_reduced: slots form a b c k -/
def d__law_reduced (W : Ex → Prop) : DS :=
  (dSeq (dAsg (dVar 0) (dgTup 3 (dgCons (dgName 1) (dgCons (dgName 2) (dgCons (dgName 3) dgNil)))))
  (dSeq (dWhile (dNot (dTest (dCall F__law_is_reduced W (dCons (dTup (dCons (dVar 1) (dCons (dVar 2) (dCons (dVar 3) dNil)))) dNil))))
  (dIfS (dOr (dTest (dOp gtP (dVar 1) (dVar 3))) (dAnd (dTest (dOp eqP (dVar 1) (dVar 3))) (dTest (dOp ltP (dVar 2) (dC (.int 0))))))
  (dPar3 1 2 3 (dCons (dVar 3) (dCons (dUn negP (dVar 2)) (dCons (dVar 1) dNil))))
  (dSeq (dSet 4 (dOp divP (dOp subP (dVar 1) (dVar 2)) (dOp mulP (dC (.int 2)) (dVar 1))))
  (dPar3 1 2 3 (dCons (dVar 1) (dCons (dOp addP (dVar 2) (dOp mulP (dOp mulP (dC (.int 2)) (dVar 1)) (dVar 4))) (dCons (dOp addP (dOp addP (dOp mulP (dOp mulP (dVar 1) (dVar 4)) (dVar 4)) (dOp mulP (dVar 2) (dVar 4))) (dVar 3)) dNil)))))))
  (dRet (dTup (dCons (dVar 1) (dCons (dVar 2) (dCons (dVar 3) dNil)))))))
/-- _law_classes: slots D found a b form -/
def d__law_classes (W : Ex → Prop) : DS :=
  (dSeq (dSetO 1 (dLst dNil))
  (dSeq (dFor (dRange2 (dC (.int 1)) (dC (.int 40))) (dgName 2)
  (dFor (dRange2 (dUn negP (dVar 2)) (dOp addP (dVar 2) (dC (.int 1)))) (dgName 3)
  (dIfS (dTest (dOp eqP (dOp modP (dOp subP (dOp mulP (dVar 3) (dVar 3)) (dVar 0)) (dOp mulP (dC (.int 4)) (dVar 2))) (dC (.int 0))))
  (dSeq (dSet 4 (dTup (dCons (dVar 2) (dCons (dVar 3) (dCons (dOp divP (dOp subP (dOp mulP (dVar 3) (dVar 3)) (dVar 0)) (dOp mulP (dC (.int 4)) (dVar 2))) dNil)))))
  (dIfS (dAnd (dTest (dCall F__law_is_reduced W (dCons (dVar 4) dNil))) (dTest (dOp eqP (dCall F__law_common W (dCons (dVar 4) dNil)) (dC (.int 1)))))
  (dApp 1 (dVar 4))
  dNext))
  dNext)))
  (dRet (dCB sortedP (dCons (dOwn 1) dNil)))))
/-- _law_some_discriminant: slots box most pick D -/
def d__law_some_discriminant (W : Ex → Prop) : DS :=
  (dSeq (dSet 2 (dCallB F__law_draw W 0 (dCons (dC (.int 4)) dNil)))
  (dSeq (dIfS (dTest (dOp eqP (dVar 2) (dC (.int 0))))
  (dSet 3 (dOp subP (dUn negP (dC (.int 3))) (dCallB F__law_draw W 0 (dCons (dC (.int 60)) dNil))))
  (dIfS (dTest (dOp eqP (dVar 2) (dC (.int 1))))
  (dSet 3 (dOp ixP (dLst (dCons (dUn negP (dC (.int 84))) (dCons (dUn negP (dC (.int 420))) (dCons (dUn negP (dC (.int 120))) (dCons (dUn negP (dC (.int 32))) (dCons (dUn negP (dC (.int 64))) (dCons (dUn negP (dC (.int 96))) (dCons (dUn negP (dC (.int 180))) (dCons (dUn negP (dC (.int 480))) (dCons (dUn negP (dC (.int 23))) (dCons (dUn negP (dC (.int 47))) (dCons (dUn negP (dC (.int 71))) (dCons (dUn negP (dC (.int 163))) (dCons (dUn negP (dC (.int 231))) (dCons (dUn negP (dC (.int 260))) (dCons (dUn negP (dC (.int 308))) (dCons (dUn negP (dC (.int 15))) dNil))))))))))))))))) (dCallB F__law_draw W 0 (dCons (dC (.int 16)) dNil))))
  (dSet 3 (dOp subP (dUn negP (dC (.int 3))) (dCallB F__law_draw W 0 (dCons (dOp subP (dVar 1) (dC (.int 2))) dNil))))))
  (dRet (dIf (dTest (dOp ltP (dOp modP (dVar 3) (dC (.int 4))) (dC (.int 2)))) (dVar 3) (dIf (dAnd (dTest (dOp leP (dOp subP (dOp addP (dVar 3) (dOp modP (dVar 3) (dC (.int 4)))) (dC (.int 1))) (dUn negP (dC (.int 3))))) (dTest (dOp ltP (dOp modP (dOp subP (dOp addP (dVar 3) (dOp modP (dVar 3) (dC (.int 4)))) (dC (.int 1))) (dC (.int 4))) (dC (.int 2))))) (dOp subP (dOp addP (dVar 3) (dOp modP (dVar 3) (dC (.int 4)))) (dC (.int 1))) (dOp mulP (dUn negP (dC (.int 4))) (dOp addP (dC (.int 1)) (dOp divP (dCB absP (dCons (dVar 3) dNil)) (dC (.int 8))))))))))
/-- _law_some_two: slots box D every form turn k -/
def d__law_some_two (W : Ex → Prop) : DS :=
  (dSeq (dSet 2 (dCall F__law_classes W (dCons (dVar 1) dNil)))
  (dSeq (dSet 3 (dOp ixP (dVar 2) (dCallB F__law_draw W 0 (dCons (dCB lenP (dCons (dVar 2) dNil)) dNil))))
  (dSeq (dFor (dRange1 (dCallB F__law_draw W 0 (dCons (dC (.int 4)) dNil))) (dgName 4)
  (dSeq (dSet 5 (dOp subP (dCallB F__law_draw W 0 (dCons (dC (.int 7)) dNil)) (dC (.int 3))))
  (dSet 3 (dCall F__law_stepped W (dCons (dVar 3) (dCons (dOp ixP (dLst (dCons (dTup (dCons (dC (.int 1)) (dCons (dVar 5) (dCons (dC (.int 0)) (dCons (dC (.int 1)) dNil))))) (dCons (dTup (dCons (dC (.int 1)) (dCons (dC (.int 0)) (dCons (dVar 5) (dCons (dC (.int 1)) dNil))))) (dCons (dTup (dCons (dC (.int 0)) (dCons (dC (.int 1)) (dCons (dUn negP (dC (.int 1))) (dCons (dVar 5) dNil))))) dNil)))) (dCallB F__law_draw W 0 (dCons (dC (.int 3)) dNil))) dNil))))))
  (dRet (dVar 3)))))
/-- _law_no_two: slots box form a b c bad -/
def d__law_no_two (W : Ex → Prop) : DS :=
  (dSeq (dAsg (dVar 1) (dgTup 3 (dgCons (dgName 2) (dgCons (dgName 3) (dgCons (dgName 4) dgNil)))))
  (dSeq (dSet 5 (dLst (dCons (dTup (dCons (dOp mulP (dC (.int 2)) (dVar 2)) (dCons (dOp mulP (dC (.int 2)) (dVar 3)) (dCons (dOp mulP (dC (.int 2)) (dVar 4)) dNil)))) (dCons (dTup (dCons (dUn negP (dVar 2)) (dCons (dVar 3) (dCons (dUn negP (dVar 4)) dNil)))) (dCons (dTup (dCons (dVar 2) (dCons (dVar 3) dNil))) (dCons (dTup (dCons (dVar 2) (dCons (dVar 3) (dCons (dVar 4) (dCons (dC (.int 0)) dNil))))) (dCons (dTup (dCons (dC (.int 0)) (dCons (dVar 3) (dCons (dVar 4) dNil)))) (dCons (dTup (dCons (dVar 2) (dCons (dVar 3) (dCons (dOp addP (dVar 4) (dC (.int 4000))) dNil)))) (dCons (dTup (dCons (dC (.int 1)) (dCons (dC (.int 2)) (dCons (dC (.int 1)) dNil)))) (dCons (dTup (dCons (dC (.int 1)) (dCons (dC (.int 3)) (dCons (dC (.int 1)) dNil)))) (dCons (dC (.int 3)) (dCons (dC (.str "form")) (dCons (dTup (dCons (dVar 2) (dCons (dC (.str "0")) (dCons (dVar 4) dNil)))) (dCons (dTup dNil) dNil))))))))))))))
  (dRet (dOp ixP (dVar 5) (dCallB F__law_draw W 0 (dCons (dCB lenP (dCons (dVar 5) dNil)) dNil))))))
/-- _law_is_step: slots x a -/
def d__law_is_step (W : Ex → Prop) : DS :=
  (dRet (dAndV (dIsi isTup (dVar 0)) (dAndV (dOp eqP (dCB lenP (dCons (dVar 0) dNil)) (dC (.int 4))) (dAndV (dOp eqP (dCB lenP (dCons (dLc (dSeqI (dVar 0)) (dgName 1) (dNot (dTest (dIsi isInt (dVar 1)))) (dVar 1) [1]) dNil)) (dC (.int 0))) (dOp eqP (dOp subP (dOp mulP (dOp ixP (dVar 0) (dC (.int 0))) (dOp ixP (dVar 0) (dC (.int 3)))) (dOp mulP (dOp ixP (dVar 0) (dC (.int 1))) (dOp ixP (dVar 0) (dC (.int 2))))) (dC (.int 1)))))))
/-- _law_right: slots box form other due told -/
def d__law_right (W : Ex → Prop) : DS :=
  (dSeq (dPar 3 4 (dCons (dCall F__law_reduced W (dCons (dVar 1) dNil)) (dCons (dTold F__law_read (fun i => i == 0) (fun W => (dCall F_reduced W (dCons (dVar 1) dNil)))) dNil)))
  (dSeq (dIfS (dTest (dOp neP (dTold F__law_read (fun i => i == 0) (fun W => (dCall F_check_two W (dCons (dVar 1) dNil)))) (dTup (dCons (dC (.int 0)) (dCons (dC .non) dNil)))))
  (dRet (dC (.bl false)))
  dNext)
  (dSeq (dIfS (dTest (dOp neP (dTold F__law_read (fun i => i == 0) (fun W => (dCall F_discriminant W (dCons (dVar 1) dNil)))) (dTup (dCons (dC (.int 0)) (dCons (dCall F__law_discriminant W (dCons (dVar 1) dNil)) dNil)))))
  (dRet (dC (.bl false)))
  dNext)
  (dSeq (dIfS (dOr (dTest (dOp neP (dOp ixP (dVar 4) (dC (.int 0))) (dC (.int 0)))) (dOr (dNot (dTest (dIsi isTup (dOp ixP (dVar 4) (dC (.int 1)))))) (dOr (dTest (dOp neP (dCB lenP (dCons (dOp ixP (dVar 4) (dC (.int 1))) dNil)) (dC (.int 2)))) (dOr (dTest (dOp neP (dOp ixP (dOp ixP (dVar 4) (dC (.int 1))) (dC (.int 0))) (dVar 3))) (dNot (dTest (dCall F__law_is_step W (dCons (dOp ixP (dOp ixP (dVar 4) (dC (.int 1))) (dC (.int 1))) dNil))))))))
  (dRet (dC (.bl false)))
  dNext)
  (dSeq (dIfS (dOr (dTest (dOp neP (dCall F__law_stepped W (dCons (dVar 1) (dCons (dOp ixP (dOp ixP (dVar 4) (dC (.int 1))) (dC (.int 1))) dNil))) (dVar 3))) (dTest (dOp neP (dTold F__law_read (fun i => i == 0) (fun W => (dCall F_turned W (dCons (dVar 1) dNil)))) (dTup (dCons (dC (.int 0)) (dCons (dCall F__law_reduced W (dCons (dTup (dCons (dOp ixP (dVar 1) (dC (.int 0))) (dCons (dUn negP (dOp ixP (dVar 1) (dC (.int 1)))) (dCons (dOp ixP (dVar 1) (dC (.int 2))) dNil)))) dNil)) dNil))))))
  (dRet (dC (.bl false)))
  dNext)
  (dSeq (dSet 4 (dTold F__law_read (fun i => i == 0) (fun W => (dCall F_same W (dCons (dVar 1) (dCons (dVar 2) dNil))))))
  (dSeq (dIfS (dTest (dOp neP (dCall F__law_reduced W (dCons (dVar 2) dNil)) (dVar 3)))
  (dRet (dOp eqP (dVar 4) (dTup (dCons (dC (.int 0)) (dCons (dC .non) dNil)))))
  dNext)
  (dRet (dAndV (dOp eqP (dOp ixP (dVar 4) (dC (.int 0))) (dC (.int 0))) (dAndV (dCall F__law_is_step W (dCons (dOp ixP (dVar 4) (dC (.int 1))) dNil)) (dOp eqP (dCall F__law_stepped W (dCons (dVar 1) (dCons (dOp ixP (dVar 4) (dC (.int 1))) dNil))) (dVar 2))))))))))))
/-- law: slots script turn box D form other more k near kept one two step bad call -/
def d_law (A : Nat → Addr) (W : Ex → Prop) : DS :=
  (dSeq (dFor (dRange1 (dC (.int 3))) (dgName 1)
  (dSeq (dSetO 2 (dCall F__law_stream noX (dCons (dVar 0) (dCons (dVar 1) dNil))))
  (dSeq (dSet 3 (dCallB F__law_some_discriminant W 2 (dCons (dC (.int 4000)) dNil)))
  (dSeq (dAsg (dTup (dCons (dCallB F__law_some_two W 2 (dCons (dVar 3) dNil)) (dCons (dCallB F__law_some_two W 2 (dCons (dVar 3) dNil)) (dCons (dCallB F__law_some_two W 2 (dCons (dCallB F__law_some_discriminant W 2 (dCons (dC (.int 4000)) dNil)) dNil)) dNil)))) (dgTup 3 (dgCons (dgName 4) (dgCons (dgName 5) (dgCons (dgName 6) dgNil)))))
  (dSeq (dSet 7 (dOp subP (dCallB F__law_draw W 2 (dCons (dC (.int 9)) dNil)) (dC (.int 4))))
  (dSeq (dSet 8 (dCall F__law_stepped W (dCons (dVar 4) (dCons (dOp ixP (dLst (dCons (dTup (dCons (dC (.int 1)) (dCons (dVar 7) (dCons (dC (.int 0)) (dCons (dC (.int 1)) dNil))))) (dCons (dTup (dCons (dC (.int 1)) (dCons (dC (.int 0)) (dCons (dVar 7) (dCons (dC (.int 1)) dNil))))) (dCons (dTup (dCons (dC (.int 0)) (dCons (dUn negP (dC (.int 1))) (dCons (dC (.int 1)) (dCons (dVar 7) dNil))))) dNil)))) (dCallB F__law_draw W 2 (dCons (dC (.int 3)) dNil))) dNil))))
  (dSeq (dSet 9 (dCB reprP (dCons (dLst (dCons (dVar 4) (dCons (dVar 5) (dCons (dVar 6) (dCons (dVar 8) dNil))))) dNil)))
  (dSeq (dFor (dSeqI (dLst (dCons (dTup (dCons (dVar 4) (dCons (dVar 5) dNil))) (dCons (dTup (dCons (dVar 4) (dCons (dVar 8) dNil))) (dCons (dTup (dCons (dVar 4) (dCons (dVar 6) dNil))) (dCons (dTup (dCons (dVar 8) (dCons (dVar 4) dNil))) (dCons (dTup (dCons (dVar 5) (dCons (dVar 5) dNil))) dNil))))))) (dgTup 2 (dgCons (dgName 10) (dgCons (dgName 11) dgNil)))
  (dIfS (dNot (dTest (dCallB F__law_right W 2 (dCons (dVar 10) (dCons (dVar 11) dNil)))))
  (dRet (dC (.bl false)))
  dNext))
  (dSeq (dSet 12 (dOp ixP (dLst (dCons (dTup (dCons (dC (.int 1)) (dCons (dVar 7) (dCons (dC (.int 0)) (dCons (dC (.int 1)) dNil))))) (dCons (dTup (dCons (dVar 7) (dCons (dUn negP (dC (.int 1))) (dCons (dC (.int 1)) (dCons (dC (.int 0)) dNil))))) (dCons (dTup (dCons (dC (.int 2)) (dCons (dC (.int 1)) (dCons (dC (.int 1)) (dCons (dC (.int 1)) dNil))))) (dCons (dTup (dCons (dC (.int 10000)) (dCons (dC (.int 9999)) (dCons (dC (.int 1)) (dCons (dC (.int 1)) dNil))))) dNil))))) (dCallB F__law_draw W 2 (dCons (dC (.int 4)) dNil))))
  (dSeq (dIfS (dTest (dOp neP (dTold F__law_read (fun i => i == 2) (fun W => (dCall F_stepped W (dCons (dVar 4) (dCons (dVar 12) dNil))))) (dTup (dCons (dC (.int 0)) (dCons (dCall F__law_stepped W (dCons (dVar 4) (dCons (dVar 12) dNil))) dNil)))))
  (dRet (dC (.bl false)))
  dNext)
  (dSeq (dFor (dSeqI (dLst (dCons (dTup (dCons (dC (.int 1)) (dCons (dC (.int 0)) (dCons (dC (.int 0)) (dCons (dUn negP (dC (.int 1))) dNil))))) (dCons (dTup (dCons (dC (.int 1)) (dCons (dC (.int 0)) (dCons (dC (.int 0)) (dCons (dC (.int 2)) dNil))))) (dCons (dTup (dCons (dC (.int 1)) (dCons (dC (.int 0)) (dCons (dC (.int 0)) dNil)))) (dCons (dTup (dCons (dC (.int 1)) (dCons (dC (.int 0)) (dCons (dC (.int 0)) (dCons (dC (.int 1)) (dCons (dC (.int 0)) dNil)))))) (dCons (dTup (dCons (dC (.int 1)) (dCons (dC (.int 10001)) (dCons (dC (.int 0)) (dCons (dC (.int 1)) dNil))))) (dCons (dC (.int 3)) (dCons (dC (.str "step")) (dCons (dTup (dCons (dC (.str "1")) (dCons (dC (.int 0)) (dCons (dC (.int 0)) (dCons (dC (.int 1)) dNil))))) (dCons (dTup (dCons (dC (.int 1)) (dCons (dC (.int 0)) (dCons (dUn negP (dC (.int 10001))) (dCons (dC (.int 1)) dNil))))) (dCons (dTup dNil) dNil)))))))))))) (dgName 13)
  (dIfS (dTest (dOp neP (dTold F__law_read (fun i => i == 2) (fun W => (dCall F_stepped W (dCons (dVar 4) (dCons (dVar 13) dNil))))) (dTup (dCons (dC (.int 1)) (dCons (dC (.str "range")) dNil)))))
  (dRet (dC (.bl false)))
  dNext))
  (dSeq (dSet 13 (dCallB F__law_no_two W 2 (dCons (dVar 4) dNil)))
  (dSeq (dIfS (dNot (dTest (dCall F__law_is_two W (dCons (dVar 13) dNil))))
  (dSeq (dFor (dSeqI (dLst (dCons (dC (.fn (A 3))) (dCons (dC (.fn (A 4))) (dCons (dC (.fn (A 9))) (dCons (dC (.fn (A 13))) dNil)))))) (dgName 14)
  (dIfS (dTest (dOp neP (dTold F__law_read (fun i => i == 2) (fun W => (dCallH 14 [(A 3, F_check_two), (A 4, F_discriminant), (A 9, F_reduced), (A 13, F_turned)] W (dCons (dVar 13) dNil)))) (dTup (dCons (dC (.int 1)) (dCons (dC (.str "form")) dNil)))))
  (dRet (dC (.bl false)))
  dNext))
  (dSeq (dIfS (dTest (dOp neP (dTold F__law_read (fun i => i == 2) (fun W => (dCall F_stepped W (dCons (dVar 13) (dCons (dC (.int 3)) dNil))))) (dTup (dCons (dC (.int 1)) (dCons (dC (.str "form")) dNil)))))
  (dRet (dC (.bl false)))
  dNext)
  (dFor (dSeqI (dLst (dCons (dTup (dCons (dVar 13) (dCons (dVar 4) dNil))) (dCons (dTup (dCons (dVar 4) (dCons (dVar 13) dNil))) dNil)))) (dgTup 2 (dgCons (dgName 10) (dgCons (dgName 11) dgNil)))
  (dIfS (dTest (dOp neP (dTold F__law_read (fun i => i == 2) (fun W => (dCall F_same W (dCons (dVar 10) (dCons (dVar 11) dNil))))) (dTup (dCons (dC (.int 1)) (dCons (dC (.str "form")) dNil)))))
  (dRet (dC (.bl false)))
  dNext))))
  dNext)
  (dIfS (dTest (dOp neP (dCB reprP (dCons (dLst (dCons (dVar 4) (dCons (dVar 5) (dCons (dVar 6) (dCons (dVar 8) dNil))))) dNil)) (dVar 9)))
  (dRet (dC (.bl false)))
  dNext))))))))))))))
  (dRet (dC (.bl true))))
end K08

end
section
set_option Elab.async false
set_option linter.all false
set_option maxRecDepth 100000
/-! k08: the readings keep the promises -/
namespace K08
open PySem L2 PD NT

theorem ixP_t2 {ρ : PD.Env} {k : D → Prop} {x y z : D} {xs : List D} : ixP ρ (.tup (x :: y :: z :: xs)) (.int 2) k = k z := ixP_tup (j := 2) rfl
theorem ixP_t3 {ρ : PD.Env} {k : D → Prop} {x y z w : D} {xs : List D} : ixP ρ (.tup (x :: y :: z :: w :: xs)) (.int 3) k = k w := ixP_tup (j := 3) rfl
theorem seq_of {s t : DS} {De : DEnds} {ρ : PD.Env} (N : PD.Env → Prop) (h2 : ∀ ρ, N ρ → t De ρ) (h1 : ∀ C : PD.Env → Prop, (∀ ρ, N ρ → C ρ) → s { De with nx := C } ρ) : dSeq s t De ρ := h1 _ h2
theorem bn_log {k : Nat} {x : Int} (h : Bn k x) : x.natAbs.log2 ≤ k := by
  by_cases h0 : x.natAbs = 0
  · rw [h0]; exact Nat.zero_le _
  · exact Nat.le_of_lt ((Nat.log2_lt h0).mpr h)
theorem mok {k l : Nat} {x y : Int} (hx : Bn k x) (hy : Bn l y) (h : k + l < 1000000) : PD.MulOk x y := by
  have := bn_log hx
  have := bn_log hy
  unfold PD.MulOk
  omega
theorem dok {l : Nat} {x y : Int} (h0 : 0 < y) (hy : Bn l y) (h : l < 9000) : PD.DivOk x y := ⟨h0, by have := bn_log hy; omega⟩
theorem size_big : 16777215 < sizeLine := by decide

theorem sp_is_number : ∀ args P W, args.length = 3 → F_is_number args P W → d_is_number W ⟨fun _ => P .non, fun d ρ => P (retD ρ d), fun _ => False, fun _ => False⟩ (startD 3 args) := by
  rintro args P W _ ⟨d, lo, hi, rfl, ⟨h1, h2⟩, hP⟩
  cases d <;> simp_all [d_is_number, startD, isInt, numIn, isBool]
  rename_i i
  by_cases h : lo ≤ i
  · simp_all
  · have e : decide (lo ≤ i) = false := decide_eq_false h
    have e2 : decide (lo ≤ i ∧ i ≤ hi) = false := decide_eq_false fun z => h z.1
    rw [e]
    simp only [h, false_and, decide_false] at hP
    exact hP
/-! ### the greatest common divisor -/
theorem take_snoc {α : Type} {xs : List α} {i : Nat} {d : α} (h : xs[i]? = some d) : xs.take (i + 1) = xs.take i ++ [d] := by
  rw [List.take_add_one, h]; rfl
theorem gcdL_snoc (l : List Int) (x : Int) : gcdL (l ++ [x]) = Nat.gcd (gcdL l) x.natAbs := by
  unfold gcdL; rw [List.foldl_append]; rfl
theorem gcd_step {l r : Nat} (h : r ≠ 0) : Nat.gcd r (l % r) = Nat.gcd l r := by
  rw [Nat.gcd_comm l r, Nat.gcd_rec r l, Nat.gcd_comm]
theorem sp_divisor : ∀ args P W, args.length = 1 → F_divisor args P W → d_divisor W ⟨fun _ => P .non, fun d ρ => P (retD ρ d), fun _ => False, fun _ => False⟩ (startD 5 args) := by
  rintro args P W _ ⟨ns, rfl, hl, hb, hP⟩
  simp only [dC_e, dVar_e, dOwn_e, dOp_e, dUn_e, dNil_e, dCons_e, dTup_e, dLst_e, dCB_e, dCall_e, dCallB_e, dSeq_e, dNext_e, dBreak_e, dCont_e, dDrop_e, dRet_e, dRetN_e, dIfS_e, dSet_e, dSetO_e, dAug_e, dRaise_e, dApp_e, dAsg_e, dPar_e, dPar3_e, dPar_vvo_e, dgName_e, dgTup_e, dgCons_e, dgNil_e, dTest_e, dAnd_e, dOr_e, dNot_e, dYes_e, dIf_e, dAndV_e, dOrV_e, dNotV_e, dIsi_e, dBits_e, dTuple_e, dSeqI_e, dChain_e, i2_e, i2'_e, u1_e, eqP_int, neP_int, addP_int, addP_tup, addP_lst, lenP_lst, lenP_tup, lenP_scr, absP_int, intP_int, isN_P, notN_P, isB2_P, tuple_lst, sel_t, sel_f, ixP_t0, ixP_t1, ixP_l0, ixP_l1, ixP_own0, ixP_own1, startD, List.map_cons, List.map_nil, List.length_cons, List.length_nil, List.cons_append, List.nil_append, List.getElem?_cons_zero, List.getElem?_cons_succ, List.set_cons_zero, List.set_cons_succ, Nat.reduceAdd, Nat.reduceSub, List.replicate_succ, List.replicate_zero, Option.some.injEq, d_divisor, dFor]
  refine ⟨fun i ρ => ∃ y2 y3 y4, ρ = [some (.tup (ns.map D.int)), some (.int (gcdL (ns.take i))), y2, y3, y4], ⟨_, _, _, rfl⟩, ?_, ?_⟩
  · rintro i d ρ2 hi ⟨y2, y3, y4, rfl⟩
    rw [List.getElem?_map] at hi
    obtain ⟨x, hx, rfl⟩ := Option.map_eq_some_iff.mp hi
    simp only [dC_e, dVar_e, dOwn_e, dOp_e, dUn_e, dNil_e, dCons_e, dTup_e, dLst_e, dCB_e, dCall_e, dCallB_e, dSeq_e, dNext_e, dBreak_e, dCont_e, dDrop_e, dRet_e, dRetN_e, dIfS_e, dSet_e, dSetO_e, dAug_e, dRaise_e, dApp_e, dAsg_e, dPar_e, dPar3_e, dPar_vvo_e, dgName_e, dgTup_e, dgCons_e, dgNil_e, dTest_e, dAnd_e, dOr_e, dNot_e, dYes_e, dIf_e, dAndV_e, dOrV_e, dNotV_e, dIsi_e, dBits_e, dTuple_e, dSeqI_e, dChain_e, i2_e, i2'_e, u1_e, eqP_int, neP_int, addP_int, addP_tup, addP_lst, lenP_lst, lenP_tup, lenP_scr, absP_int, intP_int, isN_P, notN_P, isB2_P, tuple_lst, sel_t, sel_f, ixP_t0, ixP_t1, ixP_l0, ixP_l1, ixP_own0, ixP_own1, startD, List.map_cons, List.map_nil, List.length_cons, List.length_nil, List.cons_append, List.nil_append, List.getElem?_cons_zero, List.getElem?_cons_succ, List.set_cons_zero, List.set_cons_succ, Nat.reduceAdd, Nat.reduceSub, List.replicate_succ, List.replicate_zero, Option.some.injEq]
    refine ⟨fun m ρ => ∃ l r : Nat, m = r ∧ Nat.gcd l r = gcdL (ns.take (i + 1)) ∧ ρ = [some (.tup (ns.map D.int)), some (.int (gcdL (ns.take i))), some (.int x), some (.int l), some (.int r)], ⟨_, x.natAbs, gcdL (ns.take i), rfl, ?_, rfl⟩, ?_⟩
    · rw [take_snoc hx, gcdL_snoc, Nat.gcd_comm]
    · rintro m ρ1 ⟨l, r, rfl, hg, rfl⟩
      simp only [dC_e, dVar_e, dOwn_e, dOp_e, dUn_e, dNil_e, dCons_e, dTup_e, dLst_e, dCB_e, dCall_e, dCallB_e, dSeq_e, dNext_e, dBreak_e, dCont_e, dDrop_e, dRet_e, dRetN_e, dIfS_e, dSet_e, dSetO_e, dAug_e, dRaise_e, dApp_e, dAsg_e, dPar_e, dPar3_e, dPar_vvo_e, dgName_e, dgTup_e, dgCons_e, dgNil_e, dTest_e, dAnd_e, dOr_e, dNot_e, dYes_e, dIf_e, dAndV_e, dOrV_e, dNotV_e, dIsi_e, dBits_e, dTuple_e, dSeqI_e, dChain_e, i2_e, i2'_e, u1_e, eqP_int, neP_int, addP_int, addP_tup, addP_lst, lenP_lst, lenP_tup, lenP_scr, absP_int, intP_int, isN_P, notN_P, isB2_P, tuple_lst, sel_t, sel_f, ixP_t0, ixP_t1, ixP_l0, ixP_l1, ixP_own0, ixP_own1, startD, List.map_cons, List.map_nil, List.length_cons, List.length_nil, List.cons_append, List.nil_append, List.getElem?_cons_zero, List.getElem?_cons_succ, List.set_cons_zero, List.set_cons_succ, Nat.reduceAdd, Nat.reduceSub, List.replicate_succ, List.replicate_zero, Option.some.injEq]
      refine sel_of (fun h => ?_) (fun h => ?_)
      · have h0 : m ≠ 0 := by
          intro z
          subst z
          cases h
        refine ⟨by omega, l % m, Nat.mod_lt _ (by omega), m, l % m, rfl, by rw [gcd_step h0]; exact hg, ?_⟩
        have : ((l : Int) % (m : Int)) = ((l % m : Nat) : Int) := by simp
        rw [this]
      · have h0 : m = 0 := by
          by_cases z : m = 0
          · exact z
          · have : ((m : Int) = 0) = False := by simp [z]
            simp [this] at h
            exact h
        subst h0
        rw [Nat.gcd_zero_right] at hg
        exact ⟨_, _, _, by rw [hg]⟩
  · rintro ρ2 ⟨y2, y3, y4, rfl⟩
    rw [List.length_map, List.take_length]
    simp only [dC_e, dVar_e, dOwn_e, dOp_e, dUn_e, dNil_e, dCons_e, dTup_e, dLst_e, dCB_e, dCall_e, dCallB_e, dSeq_e, dNext_e, dBreak_e, dCont_e, dDrop_e, dRet_e, dRetN_e, dIfS_e, dSet_e, dSetO_e, dAug_e, dRaise_e, dApp_e, dAsg_e, dPar_e, dPar3_e, dPar_vvo_e, dgName_e, dgTup_e, dgCons_e, dgNil_e, dTest_e, dAnd_e, dOr_e, dNot_e, dYes_e, dIf_e, dAndV_e, dOrV_e, dNotV_e, dIsi_e, dBits_e, dTuple_e, dSeqI_e, dChain_e, i2_e, i2'_e, u1_e, eqP_int, neP_int, addP_int, addP_tup, addP_lst, lenP_lst, lenP_tup, lenP_scr, absP_int, intP_int, isN_P, notN_P, isB2_P, tuple_lst, sel_t, sel_f, ixP_t0, ixP_t1, ixP_l0, ixP_l1, ixP_own0, ixP_own1, startD, List.map_cons, List.map_nil, List.length_cons, List.length_nil, List.cons_append, List.nil_append, List.getElem?_cons_zero, List.getElem?_cons_succ, List.set_cons_zero, List.set_cons_succ, Nat.reduceAdd, Nat.reduceSub, List.replicate_succ, List.replicate_zero, Option.some.injEq]
    exact hP
theorem sp__law_common : ∀ args P W, args.length = 1 → F__law_common args P W → d__law_common W ⟨fun _ => P .non, fun d ρ => P (retD ρ d), fun _ => False, fun _ => False⟩ (startD 4 args) := by
  rintro args P W _ ⟨ns, rfl, hl, hb, hP⟩
  simp only [dC_e, dVar_e, dOwn_e, dOp_e, dUn_e, dNil_e, dCons_e, dTup_e, dLst_e, dCB_e, dCall_e, dCallB_e, dSeq_e, dNext_e, dBreak_e, dCont_e, dDrop_e, dRet_e, dRetN_e, dIfS_e, dSet_e, dSetO_e, dAug_e, dRaise_e, dApp_e, dAsg_e, dPar_e, dPar3_e, dPar_vvo_e, dgName_e, dgTup_e, dgCons_e, dgNil_e, dTest_e, dAnd_e, dOr_e, dNot_e, dYes_e, dIf_e, dAndV_e, dOrV_e, dNotV_e, dIsi_e, dBits_e, dTuple_e, dSeqI_e, dChain_e, i2_e, i2'_e, u1_e, eqP_int, neP_int, addP_int, addP_tup, addP_lst, lenP_lst, lenP_tup, lenP_scr, absP_int, intP_int, isN_P, notN_P, isB2_P, tuple_lst, sel_t, sel_f, ixP_t0, ixP_t1, ixP_l0, ixP_l1, ixP_own0, ixP_own1, startD, List.map_cons, List.map_nil, List.length_cons, List.length_nil, List.cons_append, List.nil_append, List.getElem?_cons_zero, List.getElem?_cons_succ, List.set_cons_zero, List.set_cons_succ, Nat.reduceAdd, Nat.reduceSub, List.replicate_succ, List.replicate_zero, Option.some.injEq, d__law_common, dFor]
  refine ⟨fun i ρ => ∃ y2 y3, ρ = [some (.tup (ns.map D.int)), some (.int (gcdL (ns.take i))), y2, y3], ⟨_, _, rfl⟩, ?_, ?_⟩
  · rintro i d ρ2 hi ⟨y2, y3, rfl⟩
    rw [List.getElem?_map] at hi
    obtain ⟨x, hx, rfl⟩ := Option.map_eq_some_iff.mp hi
    simp only [dC_e, dVar_e, dOwn_e, dOp_e, dUn_e, dNil_e, dCons_e, dTup_e, dLst_e, dCB_e, dCall_e, dCallB_e, dSeq_e, dNext_e, dBreak_e, dCont_e, dDrop_e, dRet_e, dRetN_e, dIfS_e, dSet_e, dSetO_e, dAug_e, dRaise_e, dApp_e, dAsg_e, dPar_e, dPar3_e, dPar_vvo_e, dgName_e, dgTup_e, dgCons_e, dgNil_e, dTest_e, dAnd_e, dOr_e, dNot_e, dYes_e, dIf_e, dAndV_e, dOrV_e, dNotV_e, dIsi_e, dBits_e, dTuple_e, dSeqI_e, dChain_e, i2_e, i2'_e, u1_e, eqP_int, neP_int, addP_int, addP_tup, addP_lst, lenP_lst, lenP_tup, lenP_scr, absP_int, intP_int, isN_P, notN_P, isB2_P, tuple_lst, sel_t, sel_f, ixP_t0, ixP_t1, ixP_l0, ixP_l1, ixP_own0, ixP_own1, startD, List.map_cons, List.map_nil, List.length_cons, List.length_nil, List.cons_append, List.nil_append, List.getElem?_cons_zero, List.getElem?_cons_succ, List.set_cons_zero, List.set_cons_succ, Nat.reduceAdd, Nat.reduceSub, List.replicate_succ, List.replicate_zero, Option.some.injEq]
    refine ⟨fun m ρ => ∃ l r : Nat, m = r ∧ Nat.gcd l r = gcdL (ns.take (i + 1)) ∧ ρ = [some (.tup (ns.map D.int)), some (.int l), some (.int x), some (.int r)], ⟨_, gcdL (ns.take i), x.natAbs, rfl, ?_, rfl⟩, ?_⟩
    · rw [take_snoc hx, gcdL_snoc]
    · rintro m ρ1 ⟨l, r, rfl, hg, rfl⟩
      simp only [dC_e, dVar_e, dOwn_e, dOp_e, dUn_e, dNil_e, dCons_e, dTup_e, dLst_e, dCB_e, dCall_e, dCallB_e, dSeq_e, dNext_e, dBreak_e, dCont_e, dDrop_e, dRet_e, dRetN_e, dIfS_e, dSet_e, dSetO_e, dAug_e, dRaise_e, dApp_e, dAsg_e, dPar_e, dPar3_e, dPar_vvo_e, dgName_e, dgTup_e, dgCons_e, dgNil_e, dTest_e, dAnd_e, dOr_e, dNot_e, dYes_e, dIf_e, dAndV_e, dOrV_e, dNotV_e, dIsi_e, dBits_e, dTuple_e, dSeqI_e, dChain_e, i2_e, i2'_e, u1_e, eqP_int, neP_int, addP_int, addP_tup, addP_lst, lenP_lst, lenP_tup, lenP_scr, absP_int, intP_int, isN_P, notN_P, isB2_P, tuple_lst, sel_t, sel_f, ixP_t0, ixP_t1, ixP_l0, ixP_l1, ixP_own0, ixP_own1, startD, List.map_cons, List.map_nil, List.length_cons, List.length_nil, List.cons_append, List.nil_append, List.getElem?_cons_zero, List.getElem?_cons_succ, List.set_cons_zero, List.set_cons_succ, Nat.reduceAdd, Nat.reduceSub, List.replicate_succ, List.replicate_zero, Option.some.injEq]
      refine sel_of (fun h => ?_) (fun h => ?_)
      · have h0 : m ≠ 0 := by
          have := of_decide_eq_true h
          omega
        refine ⟨by omega, l % m, Nat.mod_lt _ (by omega), m, l % m, rfl, by rw [gcd_step h0]; exact hg, ?_⟩
        have : ((l : Int) % (m : Int)) = ((l % m : Nat) : Int) := by simp
        rw [this]
      · have h0 : m = 0 := by
          have := of_decide_eq_false h
          omega
        subst h0
        rw [Nat.gcd_zero_right] at hg
        exact ⟨_, _, by rw [hg]⟩
  · rintro ρ2 ⟨y2, y3, rfl⟩
    rw [List.length_map, List.take_length]
    simp only [dC_e, dVar_e, dOwn_e, dOp_e, dUn_e, dNil_e, dCons_e, dTup_e, dLst_e, dCB_e, dCall_e, dCallB_e, dSeq_e, dNext_e, dBreak_e, dCont_e, dDrop_e, dRet_e, dRetN_e, dIfS_e, dSet_e, dSetO_e, dAug_e, dRaise_e, dApp_e, dAsg_e, dPar_e, dPar3_e, dPar_vvo_e, dgName_e, dgTup_e, dgCons_e, dgNil_e, dTest_e, dAnd_e, dOr_e, dNot_e, dYes_e, dIf_e, dAndV_e, dOrV_e, dNotV_e, dIsi_e, dBits_e, dTuple_e, dSeqI_e, dChain_e, i2_e, i2'_e, u1_e, eqP_int, neP_int, addP_int, addP_tup, addP_lst, lenP_lst, lenP_tup, lenP_scr, absP_int, intP_int, isN_P, notN_P, isB2_P, tuple_lst, sel_t, sel_f, ixP_t0, ixP_t1, ixP_l0, ixP_l1, ixP_own0, ixP_own1, startD, List.map_cons, List.map_nil, List.length_cons, List.length_nil, List.cons_append, List.nil_append, List.getElem?_cons_zero, List.getElem?_cons_succ, List.set_cons_zero, List.set_cons_succ, Nat.reduceAdd, Nat.reduceSub, List.replicate_succ, List.replicate_zero, Option.some.injEq]
    exact hP
theorem gcdL_g3 (f : F3) : gcdL [f.a, f.b, f.c] = g3 f := by
  unfold gcdL g3 Int.gcd
  simp
/-! ### small reckonings -/
theorem sp_disc : ∀ args P W, args.length = 1 → F_disc args P W → d_disc W ⟨fun _ => P .non, fun d ρ => P (retD ρ d), fun _ => False, fun _ => False⟩ (startD 1 args) := by
  rintro args P W _ ⟨⟨a, b, c⟩, rfl, ⟨b1, b2, b3⟩, hP⟩
  dsimp only at b1 b2 b3
  unfold fD
  simp only [dC_e, dVar_e, dOwn_e, dOp_e, dUn_e, dNil_e, dCons_e, dTup_e, dLst_e, dCB_e, dCall_e, dCallB_e, dSeq_e, dNext_e, dBreak_e, dCont_e, dDrop_e, dRet_e, dRetN_e, dIfS_e, dSet_e, dSetO_e, dAug_e, dRaise_e, dApp_e, dAsg_e, dPar_e, dPar3_e, dPar_vvo_e, dgName_e, dgTup_e, dgCons_e, dgNil_e, dTest_e, dAnd_e, dOr_e, dNot_e, dYes_e, dIf_e, dAndV_e, dOrV_e, dNotV_e, dIsi_e, dBits_e, dTuple_e, dSeqI_e, dChain_e, i2_e, i2'_e, u1_e, eqP_int, neP_int, addP_int, addP_tup, addP_lst, lenP_lst, lenP_tup, lenP_scr, absP_int, intP_int, isN_P, notN_P, isB2_P, tuple_lst, sel_t, sel_f, ixP_t0, ixP_t1, ixP_l0, ixP_l1, ixP_own0, ixP_own1, startD, List.map_cons, List.map_nil, List.length_cons, List.length_nil, List.cons_append, List.nil_append, List.getElem?_cons_zero, List.getElem?_cons_succ, List.set_cons_zero, List.set_cons_succ, Nat.reduceAdd, Nat.reduceSub, List.replicate_succ, List.replicate_zero, Option.some.injEq, d_disc, ixP_t2]
  repeat (refine And.intro (by exact mok (by repeat' (first | assumption | exact Bn.lit | apply Bn.mul | apply Bn.add | apply Bn.sub | apply Bn.neg)) (by repeat' (first | assumption | exact Bn.lit | apply Bn.mul | apply Bn.add | apply Bn.sub | apply Bn.neg)) (by omega)) ?_)
  exact hP
theorem sp__law_discriminant : ∀ args P W, args.length = 1 → F__law_discriminant args P W → d__law_discriminant W ⟨fun _ => P .non, fun d ρ => P (retD ρ d), fun _ => False, fun _ => False⟩ (startD 4 args) := by
  rintro args P W _ ⟨⟨a, b, c⟩, rfl, ⟨b1, b2, b3⟩, hP⟩
  dsimp only at b1 b2 b3
  unfold fD
  simp only [dC_e, dVar_e, dOwn_e, dOp_e, dUn_e, dNil_e, dCons_e, dTup_e, dLst_e, dCB_e, dCall_e, dCallB_e, dSeq_e, dNext_e, dBreak_e, dCont_e, dDrop_e, dRet_e, dRetN_e, dIfS_e, dSet_e, dSetO_e, dAug_e, dRaise_e, dApp_e, dAsg_e, dPar_e, dPar3_e, dPar_vvo_e, dgName_e, dgTup_e, dgCons_e, dgNil_e, dTest_e, dAnd_e, dOr_e, dNot_e, dYes_e, dIf_e, dAndV_e, dOrV_e, dNotV_e, dIsi_e, dBits_e, dTuple_e, dSeqI_e, dChain_e, i2_e, i2'_e, u1_e, eqP_int, neP_int, addP_int, addP_tup, addP_lst, lenP_lst, lenP_tup, lenP_scr, absP_int, intP_int, isN_P, notN_P, isB2_P, tuple_lst, sel_t, sel_f, ixP_t0, ixP_t1, ixP_l0, ixP_l1, ixP_own0, ixP_own1, startD, List.map_cons, List.map_nil, List.length_cons, List.length_nil, List.cons_append, List.nil_append, List.getElem?_cons_zero, List.getElem?_cons_succ, List.set_cons_zero, List.set_cons_succ, Nat.reduceAdd, Nat.reduceSub, List.replicate_succ, List.replicate_zero, Option.some.injEq, d__law_discriminant]
  refine ⟨trivial, ?_⟩
  repeat (refine And.intro (by exact mok (by repeat' (first | assumption | exact Bn.lit | apply Bn.mul | apply Bn.add | apply Bn.sub | apply Bn.neg)) (by repeat' (first | assumption | exact Bn.lit | apply Bn.mul | apply Bn.add | apply Bn.sub | apply Bn.neg)) (by omega)) ?_)
  exact hP
theorem sp_made_by : ∀ args P W, args.length = 2 → F_made_by args P W → d_made_by W ⟨fun _ => P .non, fun d ρ => P (retD ρ d), fun _ => False, fun _ => False⟩ (startD 10 args) := by
  rintro args P W _ ⟨⟨a, b, c⟩, ⟨p, q, r, s⟩, rfl, ⟨b1, b2, b3⟩, ⟨c1, c2, c3, c4⟩, hP⟩
  dsimp only at b1 b2 b3 c1 c2 c3 c4
  unfold fD mD
  simp only [dC_e, dVar_e, dOwn_e, dOp_e, dUn_e, dNil_e, dCons_e, dTup_e, dLst_e, dCB_e, dCall_e, dCallB_e, dSeq_e, dNext_e, dBreak_e, dCont_e, dDrop_e, dRet_e, dRetN_e, dIfS_e, dSet_e, dSetO_e, dAug_e, dRaise_e, dApp_e, dAsg_e, dPar_e, dPar3_e, dPar_vvo_e, dgName_e, dgTup_e, dgCons_e, dgNil_e, dTest_e, dAnd_e, dOr_e, dNot_e, dYes_e, dIf_e, dAndV_e, dOrV_e, dNotV_e, dIsi_e, dBits_e, dTuple_e, dSeqI_e, dChain_e, i2_e, i2'_e, u1_e, eqP_int, neP_int, addP_int, addP_tup, addP_lst, lenP_lst, lenP_tup, lenP_scr, absP_int, intP_int, isN_P, notN_P, isB2_P, tuple_lst, sel_t, sel_f, ixP_t0, ixP_t1, ixP_l0, ixP_l1, ixP_own0, ixP_own1, startD, List.map_cons, List.map_nil, List.length_cons, List.length_nil, List.cons_append, List.nil_append, List.getElem?_cons_zero, List.getElem?_cons_succ, List.set_cons_zero, List.set_cons_succ, Nat.reduceAdd, Nat.reduceSub, List.replicate_succ, List.replicate_zero, Option.some.injEq, d_made_by]
  refine ⟨trivial, trivial, ?_⟩
  repeat (refine And.intro (by exact mok (by repeat' (first | assumption | exact Bn.lit | apply Bn.mul | apply Bn.add | apply Bn.sub | apply Bn.neg)) (by repeat' (first | assumption | exact Bn.lit | apply Bn.mul | apply Bn.add | apply Bn.sub | apply Bn.neg)) (by omega)) ?_)
  exact hP
theorem sp__law_stepped : ∀ args P W, args.length = 2 → F__law_stepped args P W → d__law_stepped W ⟨fun _ => P .non, fun d ρ => P (retD ρ d), fun _ => False, fun _ => False⟩ (startD 9 args) := by
  rintro args P W _ ⟨⟨a, b, c⟩, ⟨p, q, r, s⟩, rfl, ⟨b1, b2, b3⟩, ⟨c1, c2, c3, c4⟩, hP⟩
  dsimp only at b1 b2 b3 c1 c2 c3 c4
  unfold fD mD
  simp only [dC_e, dVar_e, dOwn_e, dOp_e, dUn_e, dNil_e, dCons_e, dTup_e, dLst_e, dCB_e, dCall_e, dCallB_e, dSeq_e, dNext_e, dBreak_e, dCont_e, dDrop_e, dRet_e, dRetN_e, dIfS_e, dSet_e, dSetO_e, dAug_e, dRaise_e, dApp_e, dAsg_e, dPar_e, dPar3_e, dPar_vvo_e, dgName_e, dgTup_e, dgCons_e, dgNil_e, dTest_e, dAnd_e, dOr_e, dNot_e, dYes_e, dIf_e, dAndV_e, dOrV_e, dNotV_e, dIsi_e, dBits_e, dTuple_e, dSeqI_e, dChain_e, i2_e, i2'_e, u1_e, eqP_int, neP_int, addP_int, addP_tup, addP_lst, lenP_lst, lenP_tup, lenP_scr, absP_int, intP_int, isN_P, notN_P, isB2_P, tuple_lst, sel_t, sel_f, ixP_t0, ixP_t1, ixP_l0, ixP_l1, ixP_own0, ixP_own1, startD, List.map_cons, List.map_nil, List.length_cons, List.length_nil, List.cons_append, List.nil_append, List.getElem?_cons_zero, List.getElem?_cons_succ, List.set_cons_zero, List.set_cons_succ, Nat.reduceAdd, Nat.reduceSub, List.replicate_succ, List.replicate_zero, Option.some.injEq, d__law_stepped]
  refine ⟨trivial, trivial, ?_⟩
  repeat (refine And.intro (by exact mok (by repeat' (first | assumption | exact Bn.lit | apply Bn.mul | apply Bn.add | apply Bn.sub | apply Bn.neg)) (by repeat' (first | assumption | exact Bn.lit | apply Bn.mul | apply Bn.add | apply Bn.sub | apply Bn.neg)) (by omega)) ?_)
  have e : 2 * a * p * q + b * (p * s + q * r) + 2 * c * r * s = 2 * (a * p * q + c * r * s) + b * (p * s + q * r) := by grind
  rw [e]
  exact hP
theorem sp_one_step : ∀ args P W, args.length = 2 → F_one_step args P W → d_one_step W ⟨fun _ => P .non, fun d ρ => P (retD ρ d), fun _ => False, fun _ => False⟩ (startD 10 args) := by
  rintro args P W _ ⟨⟨p, q, r, s⟩, ⟨t, u, v, w⟩, rfl, ⟨b1, b2, b3, b4⟩, ⟨c1, c2, c3, c4⟩, hP⟩
  dsimp only at b1 b2 b3 b4 c1 c2 c3 c4
  unfold mD
  simp only [dC_e, dVar_e, dOwn_e, dOp_e, dUn_e, dNil_e, dCons_e, dTup_e, dLst_e, dCB_e, dCall_e, dCallB_e, dSeq_e, dNext_e, dBreak_e, dCont_e, dDrop_e, dRet_e, dRetN_e, dIfS_e, dSet_e, dSetO_e, dAug_e, dRaise_e, dApp_e, dAsg_e, dPar_e, dPar3_e, dPar_vvo_e, dgName_e, dgTup_e, dgCons_e, dgNil_e, dTest_e, dAnd_e, dOr_e, dNot_e, dYes_e, dIf_e, dAndV_e, dOrV_e, dNotV_e, dIsi_e, dBits_e, dTuple_e, dSeqI_e, dChain_e, i2_e, i2'_e, u1_e, eqP_int, neP_int, addP_int, addP_tup, addP_lst, lenP_lst, lenP_tup, lenP_scr, absP_int, intP_int, isN_P, notN_P, isB2_P, tuple_lst, sel_t, sel_f, ixP_t0, ixP_t1, ixP_l0, ixP_l1, ixP_own0, ixP_own1, startD, List.map_cons, List.map_nil, List.length_cons, List.length_nil, List.cons_append, List.nil_append, List.getElem?_cons_zero, List.getElem?_cons_succ, List.set_cons_zero, List.set_cons_succ, Nat.reduceAdd, Nat.reduceSub, List.replicate_succ, List.replicate_zero, Option.some.injEq, d_one_step]
  refine ⟨trivial, trivial, ?_⟩
  repeat (refine And.intro (by exact mok (by repeat' (first | assumption | exact Bn.lit | apply Bn.mul | apply Bn.add | apply Bn.sub | apply Bn.neg)) (by repeat' (first | assumption | exact Bn.lit | apply Bn.mul | apply Bn.add | apply Bn.sub | apply Bn.neg)) (by omega)) ?_)
  exact hP
theorem sp_is_reduced : ∀ args P W, args.length = 1 → F_is_reduced args P W → d_is_reduced W ⟨fun _ => P .non, fun d ρ => P (retD ρ d), fun _ => False, fun _ => False⟩ (startD 4 args) := by
  rintro args P W _ ⟨⟨a, b, c⟩, rfl, ha, hP⟩
  dsimp only at ha
  have key : ∀ v : Bool, (v = true ↔ RedF ⟨a, b, c⟩) → P (.bl v) := fun v h => by
    have e : decide (RedF ⟨a, b, c⟩) = v := by
      cases v with
      | true => exact decide_eq_true (h.mp rfl)
      | false => exact decide_eq_false fun z => nomatch h.mpr z
    rw [← e]; exact hP
  unfold RedF Red at key
  dsimp only at key
  unfold fD
  simp only [dC_e, dVar_e, dOwn_e, dOp_e, dUn_e, dNil_e, dCons_e, dTup_e, dLst_e, dCB_e, dCall_e, dCallB_e, dSeq_e, dNext_e, dBreak_e, dCont_e, dDrop_e, dRet_e, dRetN_e, dIfS_e, dSet_e, dSetO_e, dAug_e, dRaise_e, dApp_e, dAsg_e, dPar_e, dPar3_e, dPar_vvo_e, dgName_e, dgTup_e, dgCons_e, dgNil_e, dTest_e, dAnd_e, dOr_e, dNot_e, dYes_e, dIf_e, dAndV_e, dOrV_e, dNotV_e, dIsi_e, dBits_e, dTuple_e, dSeqI_e, dChain_e, i2_e, i2'_e, u1_e, eqP_int, neP_int, addP_int, addP_tup, addP_lst, lenP_lst, lenP_tup, lenP_scr, absP_int, intP_int, isN_P, notN_P, isB2_P, tuple_lst, sel_t, sel_f, ixP_t0, ixP_t1, ixP_l0, ixP_l1, ixP_own0, ixP_own1, startD, List.map_cons, List.map_nil, List.length_cons, List.length_nil, List.cons_append, List.nil_append, List.getElem?_cons_zero, List.getElem?_cons_succ, List.set_cons_zero, List.set_cons_succ, Nat.reduceAdd, Nat.reduceSub, List.replicate_succ, List.replicate_zero, Option.some.injEq, d_is_reduced]
  refine ⟨trivial, ?_⟩
  refine sel_of (fun h1 => ?_) (fun h1 => ?_)
  · have h1 := of_decide_eq_true h1
    refine sel_of (fun h2 => ?_) (fun h2 => ?_)
    · have h2 := of_decide_eq_true h2
      refine sel_of (fun h3 => ?_) (fun h3 => ?_)
      · have h3 := of_decide_eq_true h3
        exact key true (by simp only [true_iff]; omega)
      · have h3 := of_decide_eq_false h3
        refine sel_of (fun h4 => ?_) (fun h4 => ?_)
        · have h4 := of_decide_eq_true h4
          exact key (decide (a < c)) (by simp only [decide_eq_true_eq]; omega)
        · have h4 := of_decide_eq_false h4
          exact key false (by simp only [Bool.false_eq_true, false_iff]; omega)
    · have h2 := of_decide_eq_false h2
      exact key false (by simp only [Bool.false_eq_true, false_iff]; omega)
  · have h1 := of_decide_eq_false h1
    exact key false (by simp only [Bool.false_eq_true, false_iff]; omega)
theorem sp__law_is_reduced : ∀ args P W, args.length = 1 → F__law_is_reduced args P W → d__law_is_reduced W ⟨fun _ => P .non, fun d ρ => P (retD ρ d), fun _ => False, fun _ => False⟩ (startD 4 args) := by
  rintro args P W _ ⟨⟨a, b, c⟩, rfl, ha, hP⟩
  dsimp only at ha
  have key : ∀ v : Bool, (v = true ↔ RedF ⟨a, b, c⟩) → P (.bl v) := fun v h => by
    have e : decide (RedF ⟨a, b, c⟩) = v := by
      cases v with
      | true => exact decide_eq_true (h.mp rfl)
      | false => exact decide_eq_false fun z => nomatch h.mpr z
    rw [← e]; exact hP
  unfold RedF Red at key
  dsimp only at key
  unfold fD
  simp only [dC_e, dVar_e, dOwn_e, dOp_e, dUn_e, dNil_e, dCons_e, dTup_e, dLst_e, dCB_e, dCall_e, dCallB_e, dSeq_e, dNext_e, dBreak_e, dCont_e, dDrop_e, dRet_e, dRetN_e, dIfS_e, dSet_e, dSetO_e, dAug_e, dRaise_e, dApp_e, dAsg_e, dPar_e, dPar3_e, dPar_vvo_e, dgName_e, dgTup_e, dgCons_e, dgNil_e, dTest_e, dAnd_e, dOr_e, dNot_e, dYes_e, dIf_e, dAndV_e, dOrV_e, dNotV_e, dIsi_e, dBits_e, dTuple_e, dSeqI_e, dChain_e, i2_e, i2'_e, u1_e, eqP_int, neP_int, addP_int, addP_tup, addP_lst, lenP_lst, lenP_tup, lenP_scr, absP_int, intP_int, isN_P, notN_P, isB2_P, tuple_lst, sel_t, sel_f, ixP_t0, ixP_t1, ixP_l0, ixP_l1, ixP_own0, ixP_own1, startD, List.map_cons, List.map_nil, List.length_cons, List.length_nil, List.cons_append, List.nil_append, List.getElem?_cons_zero, List.getElem?_cons_succ, List.set_cons_zero, List.set_cons_succ, Nat.reduceAdd, Nat.reduceSub, List.replicate_succ, List.replicate_zero, Option.some.injEq, d__law_is_reduced]
  refine ⟨trivial, ?_⟩
  refine sel_of (fun h1 => ?_) (fun h1 => ?_)
  · have h1 := of_decide_eq_true h1
    refine sel_of (fun h2 => ?_) (fun h2 => ?_)
    · have h2 := of_decide_eq_true h2
      refine sel_of (fun h3 => ?_) (fun h3 => ?_)
      · have h3 := of_decide_eq_true h3
        exact key true (by simp only [true_iff]; omega)
      · have h3 := of_decide_eq_false h3
        refine sel_of (fun h4 => ?_) (fun h4 => ?_)
        · have h4 : ¬ ((b.natAbs : Int) = a) := by simpa using h4
          exact key (!decide (a = c)) (by simp only [Bool.not_eq_true', decide_eq_false_iff_not]; omega)
        · have h4 : ((b.natAbs : Int) = a) := by simpa using h4
          exact key false (by simp only [Bool.false_eq_true, false_iff]; omega)
    · have h2 := of_decide_eq_false h2
      exact key false (by simp only [Bool.false_eq_true, false_iff]; omega)
  · have h1 := of_decide_eq_false h1
    exact key false (by simp only [Bool.false_eq_true, false_iff]; omega)
/-! ### reduction -/
theorem steps_bound {f g : F3} {m : M4} (hf : Fb 72 f) (df : Def2 f) (e : act f m = g) (hg : Fb 72 g) : Mb 220 m := by
  obtain ⟨h1, h2, h3⟩ := df
  obtain ⟨p, q, r, s⟩ := m
  have ea : f.a * p * p + f.b * p * r + f.c * r * r = g.a := by rw [← e]; rfl
  have ec : f.a * q * q + f.b * q * s + f.c * s * s = g.c := by rw [← e]; rfl
  obtain ⟨r1, p1⟩ := val_bound (by omega) (by omega) hf.1 hf.2.1 ea hg.1
  obtain ⟨s1, q1⟩ := val_bound (by omega) (by omega) hf.1 hf.2.1 ec hg.2.2
  exact ⟨p1.mono (by decide), q1.mono (by decide), r1.mono (by decide), s1.mono (by decide)⟩
theorem Mb.mono {k l : Nat} {m : M4} (h : Mb k m) (hl : k ≤ l) : Mb l m := ⟨h.1.mono hl, h.2.1.mono hl, h.2.2.1.mono hl, h.2.2.2.mono hl⟩
theorem Fb.mono {k l : Nat} {m : F3} (h : Fb k m) (hl : k ≤ l) : Fb l m := ⟨h.1.mono hl, h.2.1.mono hl, h.2.2.mono hl⟩
theorem Def2.act {f : F3} {m : M4} (h : Def2 f) (hd : det m = 1) : Def2 (NT.act f m) := by
  obtain ⟨h1, h2, h3⟩ := h
  have := act_pos (f := f) (by omega) (by omega) hd
  unfold Def2
  rw [disc_act1 hd]
  omega
/-- between the rims all is small -/
theorem mid_small {f : F3} (df : Def2 f) (hi : -f.a ≤ f.b ∧ f.b ≤ f.a) (ha : Bn 72 f.a) : Fb 72 f := by
  obtain ⟨h1, h2, h3⟩ := df
  obtain ⟨a, b, c⟩ := f
  simp only [disc, Bn, Fb] at *
  have hb : b * b ≤ a * a := by
    have := Int.mul_nonneg (show 0 ≤ a - b by omega) (show 0 ≤ a + b by omega)
    grind
  refine ⟨ha, by omega, ?_⟩
  refine Classical.byContradiction fun hc => ?_
  have hc0 : 0 < c := by
    refine Classical.byContradiction fun z => ?_
    have := Int.mul_nonneg (show 0 ≤ 4 * a by omega) (show 0 ≤ -c by omega)
    have e : 4 * a * -c = -(4 * a * c) := by grind
    have := sq_nn b
    omega
  have hc1 : (2 : Int) ^ 72 ≤ c := by
    have : 2 ^ 72 ≤ c.natAbs := by omega
    omega
  have ha1 : a < 2 ^ 72 := by omega
  have e1 := Int.mul_le_mul_of_nonneg_left hc1 (show 0 ≤ 4 * a by omega)
  have e2 := Int.mul_le_mul_of_nonneg_left (Int.le_of_lt ha1) (show 0 ≤ a by omega)
  omega
end K08

end
section
set_option Elab.async false
set_option linter.all false
set_option maxRecDepth 100000
/-! k08: the readings keep the promises, 2 -/
namespace K08
open PySem L2 PD NT

theorem blit {k : Nat} {n : Int} (h : n.natAbs < 2 ^ 64 := by decide) (hk : 64 ≤ k := by decide) : Bn k n := Bn.mono h hk
theorem act_norm (a b c k : Int) : act ⟨a, b, c⟩ ⟨1, k, 0, 1⟩ = ⟨a, b + 2 * a * k, a * k * k + b * k + c⟩ := by
  simp only [act, F3.mk.injEq]
  refine ⟨?_, ?_, ?_⟩ <;> grind
theorem act_swap (a b c : Int) : act ⟨a, b, c⟩ ⟨0, -1, 1, 0⟩ = ⟨c, -b, a⟩ := by
  simp only [act, F3.mk.injEq]
  refine ⟨?_, ?_, ?_⟩ <;> grind
theorem sp_reduction : ∀ args P W, args.length = 1 → F_reduction args P W → d_reduction W ⟨fun _ => P .non, fun d ρ => P (retD ρ d), fun _ => False, fun _ => False⟩ (startD 6 args) := by
  rintro args P W _ ⟨f0, rfl, hf, df, hP⟩
  unfold d_reduction
  refine seq_of (fun ρ => ρ = [some (fD f0), some (mD oneM), none, none, none, none]) ?_ (fun C hC => ?_)
  rotate_left
  · simp only [dC_e, dVar_e, dOwn_e, dOp_e, dUn_e, dNil_e, dCons_e, dTup_e, dLst_e, dCB_e, dCall_e, dCallB_e, dSeq_e, dNext_e, dBreak_e, dCont_e, dDrop_e, dRet_e, dRetN_e, dIfS_e, dSet_e, dSetO_e, dAug_e, dRaise_e, dApp_e, dAsg_e, dPar_e, dPar3_e, dPar_vvo_e, dgName_e, dgTup_e, dgCons_e, dgNil_e, dTest_e, dAnd_e, dOr_e, dNot_e, dYes_e, dIf_e, dAndV_e, dOrV_e, dNotV_e, dIsi_e, dBits_e, dTuple_e, dSeqI_e, dChain_e, i2_e, i2'_e, u1_e, eqP_int, neP_int, addP_int, addP_tup, addP_lst, lenP_lst, lenP_tup, lenP_scr, absP_int, intP_int, isN_P, notN_P, isB2_P, tuple_lst, sel_t, sel_f, ixP_t0, ixP_t1, ixP_l0, ixP_l1, ixP_own0, ixP_own1, startD, List.map_cons, List.map_nil, List.length_cons, List.length_nil, List.cons_append, List.nil_append, List.getElem?_cons_zero, List.getElem?_cons_succ, List.set_cons_zero, List.set_cons_succ, Nat.reduceAdd, Nat.reduceSub, List.replicate_succ, List.replicate_zero, Option.some.injEq]
    exact hC _ rfl
  rintro ρ rfl
  refine seq_of (fun ρ => ∃ g m x2 x3 x4 x5, RedF g ∧ det m = 1 ∧ act f0 m = g ∧ Mb 220 m ∧ ρ = [some (fD g), some (mD m), x2, x3, x4, x5]) ?_ (fun C hC => ?_)
  · rintro ρ ⟨g, m, x2, x3, x4, x5, hg, hm, e, hb, rfl⟩
    simp only [dC_e, dVar_e, dOwn_e, dOp_e, dUn_e, dNil_e, dCons_e, dTup_e, dLst_e, dCB_e, dCall_e, dCallB_e, dSeq_e, dNext_e, dBreak_e, dCont_e, dDrop_e, dRet_e, dRetN_e, dIfS_e, dSet_e, dSetO_e, dAug_e, dRaise_e, dApp_e, dAsg_e, dPar_e, dPar3_e, dPar_vvo_e, dgName_e, dgTup_e, dgCons_e, dgNil_e, dTest_e, dAnd_e, dOr_e, dNot_e, dYes_e, dIf_e, dAndV_e, dOrV_e, dNotV_e, dIsi_e, dBits_e, dTuple_e, dSeqI_e, dChain_e, i2_e, i2'_e, u1_e, eqP_int, neP_int, addP_int, addP_tup, addP_lst, lenP_lst, lenP_tup, lenP_scr, absP_int, intP_int, isN_P, notN_P, isB2_P, tuple_lst, sel_t, sel_f, ixP_t0, ixP_t1, ixP_l0, ixP_l1, ixP_own0, ixP_own1, startD, List.map_cons, List.map_nil, List.length_cons, List.length_nil, List.cons_append, List.nil_append, List.getElem?_cons_zero, List.getElem?_cons_succ, List.set_cons_zero, List.set_cons_succ, Nat.reduceAdd, Nat.reduceSub, List.replicate_succ, List.replicate_zero, Option.some.injEq]
    exact hP g m hg hm e hb
  refine ⟨fun n ρ => ∃ g m x2 x3 x4 x5, n = redM g.a g.b ∧ det m = 1 ∧ act f0 m = g ∧ Fb 72 g ∧ ρ = [some (fD g), some (mD m), x2, x3, x4, x5], ⟨_, f0, oneM, _, _, _, _, rfl, rfl, act_one f0, hf, rfl⟩, ?_⟩
  rintro n ρ1 ⟨g, m, x2, x3, x4, x5, rfl, hm, e, hg, rfl⟩
  have hmb := steps_bound hf df e hg
  have dg : Def2 g := by rw [← e]; exact df.act hm
  have cg := c_pos (f := g) (by have := dg.1; omega) (by have := dg.2.2; omega)
  obtain ⟨a, b, c⟩ := g
  simp only [dC_e, dVar_e, dOwn_e, dOp_e, dUn_e, dNil_e, dCons_e, dTup_e, dLst_e, dCB_e, dCall_e, dCallB_e, dSeq_e, dNext_e, dBreak_e, dCont_e, dDrop_e, dRet_e, dRetN_e, dIfS_e, dSet_e, dSetO_e, dAug_e, dRaise_e, dApp_e, dAsg_e, dPar_e, dPar3_e, dPar_vvo_e, dgName_e, dgTup_e, dgCons_e, dgNil_e, dTest_e, dAnd_e, dOr_e, dNot_e, dYes_e, dIf_e, dAndV_e, dOrV_e, dNotV_e, dIsi_e, dBits_e, dTuple_e, dSeqI_e, dChain_e, i2_e, i2'_e, u1_e, eqP_int, neP_int, addP_int, addP_tup, addP_lst, lenP_lst, lenP_tup, lenP_scr, absP_int, intP_int, isN_P, notN_P, isB2_P, tuple_lst, sel_t, sel_f, ixP_t0, ixP_t1, ixP_l0, ixP_l1, ixP_own0, ixP_own1, startD, List.map_cons, List.map_nil, List.length_cons, List.length_nil, List.cons_append, List.nil_append, List.getElem?_cons_zero, List.getElem?_cons_succ, List.set_cons_zero, List.set_cons_succ, Nat.reduceAdd, Nat.reduceSub, List.replicate_succ, List.replicate_zero, Option.some.injEq]
  refine ⟨⟨a, b, c⟩, rfl, dg.1, ?_⟩
  simp only [dC_e, dVar_e, dOwn_e, dOp_e, dUn_e, dNil_e, dCons_e, dTup_e, dLst_e, dCB_e, dCall_e, dCallB_e, dSeq_e, dNext_e, dBreak_e, dCont_e, dDrop_e, dRet_e, dRetN_e, dIfS_e, dSet_e, dSetO_e, dAug_e, dRaise_e, dApp_e, dAsg_e, dPar_e, dPar3_e, dPar_vvo_e, dgName_e, dgTup_e, dgCons_e, dgNil_e, dTest_e, dAnd_e, dOr_e, dNot_e, dYes_e, dIf_e, dAndV_e, dOrV_e, dNotV_e, dIsi_e, dBits_e, dTuple_e, dSeqI_e, dChain_e, i2_e, i2'_e, u1_e, eqP_int, neP_int, addP_int, addP_tup, addP_lst, lenP_lst, lenP_tup, lenP_scr, absP_int, intP_int, isN_P, notN_P, isB2_P, tuple_lst, sel_t, sel_f, ixP_t0, ixP_t1, ixP_l0, ixP_l1, ixP_own0, ixP_own1, startD, List.map_cons, List.map_nil, List.length_cons, List.length_nil, List.cons_append, List.nil_append, List.getElem?_cons_zero, List.getElem?_cons_succ, List.set_cons_zero, List.set_cons_succ, Nat.reduceAdd, Nat.reduceSub, List.replicate_succ, List.replicate_zero, Option.some.injEq]
  refine sel_of (fun h => ?_) (fun h => ?_)
  · have hr : ¬ RedF ⟨a, b, c⟩ := by simpa using h
    have ha : 1 ≤ a := dg.1
    obtain ⟨ba, bb, bc⟩ := id hg
    dsimp only at ba bb bc cg
    have go : ∀ (more : M4) (y2 y3 y4 : Option D), Mb 300 more → det more = 1 → Fb 72 (act ⟨a, b, c⟩ more) → redM (act ⟨a, b, c⟩ more).a (act ⟨a, b, c⟩ more).b < redM a b → F_made_by [fD ⟨a, b, c⟩, mD more] (fun d => F_one_step [mD m, mD more] (fun d' => ∃ m', m' < redM a b ∧ ∃ g m x2 x3 x4 x5, m' = redM g.a g.b ∧ det m = 1 ∧ act f0 m = g ∧ Fb 72 g ∧ [some d, some d', y2, y3, y4, some (mD more)] = [some (fD g), some (mD m), x2, x3, x4, x5]) W) W := by
      intro more y2 y3 y4 hb hd hF hlt
      refine ⟨_, _, rfl, hg.mono (by decide), hb.mono (by decide), ?_⟩
      refine ⟨_, _, rfl, hmb.mono (by decide), hb.mono (by decide), ?_⟩
      exact ⟨_, hlt, _, _, _, _, _, _, rfl, by rw [det_mul, hm, hd]; rfl, by rw [← act_mul, e], hF, rfl⟩
    unfold fD
    simp only [dC_e, dVar_e, dOwn_e, dOp_e, dUn_e, dNil_e, dCons_e, dTup_e, dLst_e, dCB_e, dCall_e, dCallB_e, dSeq_e, dNext_e, dBreak_e, dCont_e, dDrop_e, dRet_e, dRetN_e, dIfS_e, dSet_e, dSetO_e, dAug_e, dRaise_e, dApp_e, dAsg_e, dPar_e, dPar3_e, dPar_vvo_e, dgName_e, dgTup_e, dgCons_e, dgNil_e, dTest_e, dAnd_e, dOr_e, dNot_e, dYes_e, dIf_e, dAndV_e, dOrV_e, dNotV_e, dIsi_e, dBits_e, dTuple_e, dSeqI_e, dChain_e, i2_e, i2'_e, u1_e, eqP_int, neP_int, addP_int, addP_tup, addP_lst, lenP_lst, lenP_tup, lenP_scr, absP_int, intP_int, isN_P, notN_P, isB2_P, tuple_lst, sel_t, sel_f, ixP_t0, ixP_t1, ixP_l0, ixP_l1, ixP_own0, ixP_own1, startD, List.map_cons, List.map_nil, List.length_cons, List.length_nil, List.cons_append, List.nil_append, List.getElem?_cons_zero, List.getElem?_cons_succ, List.set_cons_zero, List.set_cons_succ, Nat.reduceAdd, Nat.reduceSub, List.replicate_succ, List.replicate_zero, Option.some.injEq]
    refine ⟨trivial, ?_⟩
    have norm : ¬ (-a < b ∧ b ≤ a) → PD.MulOk 2 a ∧ DivOk (a - b) (2 * a) ∧ F_made_by [fD ⟨a, b, c⟩, mD ⟨1, (a - b) / (2 * a), 0, 1⟩] (fun d => F_one_step [mD m, mD ⟨1, (a - b) / (2 * a), 0, 1⟩] (fun d' => ∃ m', m' < redM a b ∧ ∃ g m x2 x3 x4 x5, m' = redM g.a g.b ∧ det m = 1 ∧ act f0 m = g ∧ Fb 72 g ∧ [some d, some d', some (.int a), some (.int b), some (.int c), some (mD ⟨1, (a - b) / (2 * a), 0, 1⟩)] = [some (fD g), some (mD m), x2, x3, x4, x5]) W) W := fun hn => by
      have hk : Bn 146 ((a - b) / (2 * a)) := (ba.sub bb).div (by omega)
      have hd : det ⟨1, (a - b) / (2 * a), 0, 1⟩ = 1 := by simp [det]
      have ea := act_norm a b c ((a - b) / (2 * a))
      have hi := mid_in (b := b) (show 0 < a by omega)
      refine ⟨by exact mok (by repeat' (first | assumption | exact Bn.lit | apply Bn.mul | apply Bn.add | apply Bn.sub | apply Bn.neg)) (by repeat' (first | assumption | exact Bn.lit | apply Bn.mul | apply Bn.add | apply Bn.sub | apply Bn.neg)) (by omega), dok (by omega) (by repeat' (first | assumption | exact Bn.lit | apply Bn.mul | apply Bn.add | apply Bn.sub | apply Bn.neg)) (by decide), go ⟨1, (a - b) / (2 * a), 0, 1⟩ _ _ _ ⟨(blit : Bn 300 1), hk.mono (by decide), (blit : Bn 300 0), (blit : Bn 300 1)⟩ hd ?_ ?_⟩
      · refine mid_small (dg.act hd) ?_ ?_
        · rw [ea]
          show -a ≤ b + 2 * a * ((a - b) / (2 * a)) ∧ b + 2 * a * ((a - b) / (2 * a)) ≤ a
          omega
        · rw [ea]
          exact ba
      · rw [ea]
        exact red_mid (show 0 < a by omega) hn
    have swap : (-a < b ∧ b ≤ a) → F_made_by [fD ⟨a, b, c⟩, mD ⟨0, -1, 1, 0⟩] (fun d => F_one_step [mD m, mD ⟨0, -1, 1, 0⟩] (fun d' => ∃ m', m' < redM a b ∧ ∃ g m x2 x3 x4 x5, m' = redM g.a g.b ∧ det m = 1 ∧ act f0 m = g ∧ Fb 72 g ∧ [some d, some d', some (.int a), some (.int b), some (.int c), some (mD ⟨0, -1, 1, 0⟩)] = [some (fD g), some (mD m), x2, x3, x4, x5]) W) W := fun hi => by
      have ea := act_swap a b c
      refine go ⟨0, -1, 1, 0⟩ _ _ _ ⟨blit, blit, blit, blit⟩ (by decide) ?_ ?_
      · rw [ea]
        exact ⟨bc, bb.neg, ba⟩
      · rw [ea]
        exact red_turn (by omega) cg hi hr
    refine sel_of (fun h1 => ?_) (fun h1 => ?_)
    · have h1 := of_decide_eq_true h1
      refine sel_of (fun h2 => ?_) (fun h2 => ?_)
      · have h2 : ¬ b ≤ a := by simpa using h2
        exact norm (by omega)
      · have h2 : b ≤ a := by simpa using h2
        exact swap (by omega)
    · have h1 := of_decide_eq_false h1
      exact norm (by omega)
  · have hr : RedF ⟨a, b, c⟩ := by simpa using h
    exact hC _ ⟨_, _, _, _, _, _, hr, hm, e, hmb.mono (by decide), rfl⟩
/-- how far from reduced, as the law goes -/
def lawM (a b : Int) : Nat := 8 * a.toNat + (if -a < b ∧ b ≤ a then (if b < 0 then 1 else 0) else (if b < 0 then 3 else 2))
theorem lawM_swap {a b c : Int} (ha : 0 < a) (hc : 0 < c) (h : c < a ∨ (a = c ∧ b < 0)) : lawM c (-b) < lawM a b := by
  unfold lawM
  rcases h with h | ⟨rfl, hb⟩
  · have e : c.toNat + 1 ≤ a.toNat := by omega
    split <;> split <;> split <;> split <;> omega
  · rw [if_neg (show ¬ (-b < 0) by omega), if_neg (show ¬ (-b < 0) by omega), if_pos hb, if_pos hb]
    split <;> split <;> omega
theorem lawM_mid {a b : Int} (h : 0 < a) (hn : ¬ (-a < b ∧ b ≤ a)) : lawM a (b + 2 * a * ((a - b) / (2 * a))) < lawM a b := by
  have := mid_in (b := b) h
  unfold lawM
  rw [if_pos this, if_neg hn]
  split <;> split <;> omega
theorem sp__law_reduced : ∀ args P W, args.length = 1 → F__law_reduced args P W → d__law_reduced W ⟨fun _ => P .non, fun d ρ => P (retD ρ d), fun _ => False, fun _ => False⟩ (startD 5 args) := by
  rintro args P W _ ⟨⟨a0, b0, c0⟩, rfl, hf, df, hP⟩
  unfold d__law_reduced
  refine seq_of (fun ρ => ρ = [some (fD ⟨a0, b0, c0⟩), some (.int a0), some (.int b0), some (.int c0), none]) ?_ (fun C hC => ?_)
  rotate_left
  · unfold fD
    simp only [dC_e, dVar_e, dOwn_e, dOp_e, dUn_e, dNil_e, dCons_e, dTup_e, dLst_e, dCB_e, dCall_e, dCallB_e, dSeq_e, dNext_e, dBreak_e, dCont_e, dDrop_e, dRet_e, dRetN_e, dIfS_e, dSet_e, dSetO_e, dAug_e, dRaise_e, dApp_e, dAsg_e, dPar_e, dPar3_e, dPar_vvo_e, dgName_e, dgTup_e, dgCons_e, dgNil_e, dTest_e, dAnd_e, dOr_e, dNot_e, dYes_e, dIf_e, dAndV_e, dOrV_e, dNotV_e, dIsi_e, dBits_e, dTuple_e, dSeqI_e, dChain_e, i2_e, i2'_e, u1_e, eqP_int, neP_int, addP_int, addP_tup, addP_lst, lenP_lst, lenP_tup, lenP_scr, absP_int, intP_int, isN_P, notN_P, isB2_P, tuple_lst, sel_t, sel_f, ixP_t0, ixP_t1, ixP_l0, ixP_l1, ixP_own0, ixP_own1, startD, List.map_cons, List.map_nil, List.length_cons, List.length_nil, List.cons_append, List.nil_append, List.getElem?_cons_zero, List.getElem?_cons_succ, List.set_cons_zero, List.set_cons_succ, Nat.reduceAdd, Nat.reduceSub, List.replicate_succ, List.replicate_zero, Option.some.injEq]
    exact ⟨trivial, hC _ rfl⟩
  rintro ρ rfl
  refine seq_of (fun ρ => ∃ a b c x4, RedF ⟨a, b, c⟩ ∧ Eqv ⟨a0, b0, c0⟩ ⟨a, b, c⟩ ∧ ρ = [some (fD ⟨a0, b0, c0⟩), some (.int a), some (.int b), some (.int c), x4]) ?_ (fun C hC => ?_)
  · rintro ρ ⟨a, b, c, x4, hg, he, rfl⟩
    simp only [dC_e, dVar_e, dOwn_e, dOp_e, dUn_e, dNil_e, dCons_e, dTup_e, dLst_e, dCB_e, dCall_e, dCallB_e, dSeq_e, dNext_e, dBreak_e, dCont_e, dDrop_e, dRet_e, dRetN_e, dIfS_e, dSet_e, dSetO_e, dAug_e, dRaise_e, dApp_e, dAsg_e, dPar_e, dPar3_e, dPar_vvo_e, dgName_e, dgTup_e, dgCons_e, dgNil_e, dTest_e, dAnd_e, dOr_e, dNot_e, dYes_e, dIf_e, dAndV_e, dOrV_e, dNotV_e, dIsi_e, dBits_e, dTuple_e, dSeqI_e, dChain_e, i2_e, i2'_e, u1_e, eqP_int, neP_int, addP_int, addP_tup, addP_lst, lenP_lst, lenP_tup, lenP_scr, absP_int, intP_int, isN_P, notN_P, isB2_P, tuple_lst, sel_t, sel_f, ixP_t0, ixP_t1, ixP_l0, ixP_l1, ixP_own0, ixP_own1, startD, List.map_cons, List.map_nil, List.length_cons, List.length_nil, List.cons_append, List.nil_append, List.getElem?_cons_zero, List.getElem?_cons_succ, List.set_cons_zero, List.set_cons_succ, Nat.reduceAdd, Nat.reduceSub, List.replicate_succ, List.replicate_zero, Option.some.injEq]
    exact hP ⟨a, b, c⟩ hg he
  refine ⟨fun n ρ => ∃ a b c x4, n = lawM a b ∧ Eqv ⟨a0, b0, c0⟩ ⟨a, b, c⟩ ∧ Fb 72 ⟨a, b, c⟩ ∧ ρ = [some (fD ⟨a0, b0, c0⟩), some (.int a), some (.int b), some (.int c), x4], ⟨_, a0, b0, c0, _, rfl, Eqv.refl _, hf, rfl⟩, ?_⟩
  rintro n ρ1 ⟨a, b, c, x4, rfl, he, hg, rfl⟩
  have dg : Def2 ⟨a, b, c⟩ := by
    obtain ⟨m, hm, e⟩ := he
    rw [← e]; exact df.act hm
  have cg : 0 < c := c_pos (f := ⟨a, b, c⟩) (by have := dg.1; omega) (by have := dg.2.2; omega)
  have ha : 1 ≤ a := dg.1
  obtain ⟨ba, bb, bc⟩ := id hg
  dsimp only at ba bb bc
  simp only [dC_e, dVar_e, dOwn_e, dOp_e, dUn_e, dNil_e, dCons_e, dTup_e, dLst_e, dCB_e, dCall_e, dCallB_e, dSeq_e, dNext_e, dBreak_e, dCont_e, dDrop_e, dRet_e, dRetN_e, dIfS_e, dSet_e, dSetO_e, dAug_e, dRaise_e, dApp_e, dAsg_e, dPar_e, dPar3_e, dPar_vvo_e, dgName_e, dgTup_e, dgCons_e, dgNil_e, dTest_e, dAnd_e, dOr_e, dNot_e, dYes_e, dIf_e, dAndV_e, dOrV_e, dNotV_e, dIsi_e, dBits_e, dTuple_e, dSeqI_e, dChain_e, i2_e, i2'_e, u1_e, eqP_int, neP_int, addP_int, addP_tup, addP_lst, lenP_lst, lenP_tup, lenP_scr, absP_int, intP_int, isN_P, notN_P, isB2_P, tuple_lst, sel_t, sel_f, ixP_t0, ixP_t1, ixP_l0, ixP_l1, ixP_own0, ixP_own1, startD, List.map_cons, List.map_nil, List.length_cons, List.length_nil, List.cons_append, List.nil_append, List.getElem?_cons_zero, List.getElem?_cons_succ, List.set_cons_zero, List.set_cons_succ, Nat.reduceAdd, Nat.reduceSub, List.replicate_succ, List.replicate_zero, Option.some.injEq]
  refine ⟨⟨a, b, c⟩, rfl, dg.1, ?_⟩
  simp only [dC_e, dVar_e, dOwn_e, dOp_e, dUn_e, dNil_e, dCons_e, dTup_e, dLst_e, dCB_e, dCall_e, dCallB_e, dSeq_e, dNext_e, dBreak_e, dCont_e, dDrop_e, dRet_e, dRetN_e, dIfS_e, dSet_e, dSetO_e, dAug_e, dRaise_e, dApp_e, dAsg_e, dPar_e, dPar3_e, dPar_vvo_e, dgName_e, dgTup_e, dgCons_e, dgNil_e, dTest_e, dAnd_e, dOr_e, dNot_e, dYes_e, dIf_e, dAndV_e, dOrV_e, dNotV_e, dIsi_e, dBits_e, dTuple_e, dSeqI_e, dChain_e, i2_e, i2'_e, u1_e, eqP_int, neP_int, addP_int, addP_tup, addP_lst, lenP_lst, lenP_tup, lenP_scr, absP_int, intP_int, isN_P, notN_P, isB2_P, tuple_lst, sel_t, sel_f, ixP_t0, ixP_t1, ixP_l0, ixP_l1, ixP_own0, ixP_own1, startD, List.map_cons, List.map_nil, List.length_cons, List.length_nil, List.cons_append, List.nil_append, List.getElem?_cons_zero, List.getElem?_cons_succ, List.set_cons_zero, List.set_cons_succ, Nat.reduceAdd, Nat.reduceSub, List.replicate_succ, List.replicate_zero, Option.some.injEq]
  refine sel_of (fun h => ?_) (fun h => ?_)
  · have hr : ¬ RedF ⟨a, b, c⟩ := by simpa using h
    have swap : (c < a ∨ (a = c ∧ b < 0)) → ∃ m', m' < lawM a b ∧ ∃ a' b' c' y4, m' = lawM a' b' ∧ Eqv ⟨a0, b0, c0⟩ ⟨a', b', c'⟩ ∧ Fb 72 ⟨a', b', c'⟩ ∧ [some (fD ⟨a0, b0, c0⟩), some (D.int c), some (.int (-b)), some (.int a), x4] = [some (fD ⟨a0, b0, c0⟩), some (.int a'), some (.int b'), some (.int c'), y4] := fun hi =>
      ⟨_, lawM_swap (by omega) cg hi, c, -b, a, x4, rfl, he.trans ⟨⟨0, -1, 1, 0⟩, by decide, act_swap a b c⟩, ⟨bc, bb.neg, ba⟩, rfl⟩
    have norm : ¬ (c < a ∨ (a = c ∧ b < 0)) → PD.MulOk 2 a ∧ DivOk (a - b) (2 * a) ∧ PD.MulOk 2 a ∧ PD.MulOk (2 * a) ((a - b) / (2 * a)) ∧ PD.MulOk a ((a - b) / (2 * a)) ∧ PD.MulOk (a * ((a - b) / (2 * a))) ((a - b) / (2 * a)) ∧ PD.MulOk b ((a - b) / (2 * a)) ∧ ∃ m', m' < lawM a b ∧ ∃ a' b' c' y4, m' = lawM a' b' ∧ Eqv ⟨a0, b0, c0⟩ ⟨a', b', c'⟩ ∧ Fb 72 ⟨a', b', c'⟩ ∧
        [some (fD ⟨a0, b0, c0⟩), some (D.int a), some (.int (b + 2 * a * ((a - b) / (2 * a)))), some (.int (a * ((a - b) / (2 * a)) * ((a - b) / (2 * a)) + b * ((a - b) / (2 * a)) + c)), some (.int ((a - b) / (2 * a)))] = [some (fD ⟨a0, b0, c0⟩), some (.int a'), some (.int b'), some (.int c'), y4] := fun hi => by
      have hk : Bn 146 ((a - b) / (2 * a)) := (ba.sub bb).div (by omega)
      have hn : ¬ (-a < b ∧ b ≤ a) := fun z => hr (by unfold RedF Red; dsimp only; omega)
      have hd : det ⟨1, (a - b) / (2 * a), 0, 1⟩ = 1 := by simp [det]
      have ea := act_norm a b c ((a - b) / (2 * a))
      have hi := mid_in (b := b) (show 0 < a by omega)
      have E : Eqv ⟨a, b, c⟩ ⟨a, b + 2 * a * ((a - b) / (2 * a)), a * ((a - b) / (2 * a)) * ((a - b) / (2 * a)) + b * ((a - b) / (2 * a)) + c⟩ := ⟨_, hd, ea⟩
      have F : Fb 72 ⟨a, b + 2 * a * ((a - b) / (2 * a)), a * ((a - b) / (2 * a)) * ((a - b) / (2 * a)) + b * ((a - b) / (2 * a)) + c⟩ := by
        have d2 := dg.act hd
        rw [ea] at d2
        exact mid_small d2 (by show -a ≤ b + 2 * a * ((a - b) / (2 * a)) ∧ b + 2 * a * ((a - b) / (2 * a)) ≤ a; omega) ba
      exact ⟨by exact mok (by repeat' (first | assumption | exact Bn.lit | apply Bn.mul | apply Bn.add | apply Bn.sub | apply Bn.neg)) (by repeat' (first | assumption | exact Bn.lit | apply Bn.mul | apply Bn.add | apply Bn.sub | apply Bn.neg)) (by omega), dok (by omega) (by repeat' (first | assumption | exact Bn.lit | apply Bn.mul | apply Bn.add | apply Bn.sub | apply Bn.neg)) (by decide), by exact mok (by repeat' (first | assumption | exact Bn.lit | apply Bn.mul | apply Bn.add | apply Bn.sub | apply Bn.neg)) (by repeat' (first | assumption | exact Bn.lit | apply Bn.mul | apply Bn.add | apply Bn.sub | apply Bn.neg)) (by omega), by exact mok (by repeat' (first | assumption | exact Bn.lit | apply Bn.mul | apply Bn.add | apply Bn.sub | apply Bn.neg)) (by repeat' (first | assumption | exact Bn.lit | apply Bn.mul | apply Bn.add | apply Bn.sub | apply Bn.neg)) (by omega), by exact mok (by repeat' (first | assumption | exact Bn.lit | apply Bn.mul | apply Bn.add | apply Bn.sub | apply Bn.neg)) (by repeat' (first | assumption | exact Bn.lit | apply Bn.mul | apply Bn.add | apply Bn.sub | apply Bn.neg)) (by omega), by exact mok (by repeat' (first | assumption | exact Bn.lit | apply Bn.mul | apply Bn.add | apply Bn.sub | apply Bn.neg)) (by repeat' (first | assumption | exact Bn.lit | apply Bn.mul | apply Bn.add | apply Bn.sub | apply Bn.neg)) (by omega), by exact mok (by repeat' (first | assumption | exact Bn.lit | apply Bn.mul | apply Bn.add | apply Bn.sub | apply Bn.neg)) (by repeat' (first | assumption | exact Bn.lit | apply Bn.mul | apply Bn.add | apply Bn.sub | apply Bn.neg)) (by omega), _, lawM_mid (by omega) hn, _, _, _, _, rfl, he.trans E, F, rfl⟩
    refine sel_of (fun h1 => ?_) (fun h1 => ?_)
    · have h1 := of_decide_eq_true h1
      exact swap (.inl h1)
    · have h1 := of_decide_eq_false h1
      refine sel_of (fun h2 => ?_) (fun h2 => ?_)
      · have h2 : a = c := by simpa using h2
        refine sel_of (fun h3 => ?_) (fun h3 => ?_)
        · have h3 := of_decide_eq_true h3
          exact swap (.inr ⟨h2, h3⟩)
        · have h3 := of_decide_eq_false h3
          exact norm (by omega)
      · have h2 : ¬ a = c := by simpa using h2
        exact norm (by omega)
  · have hr : RedF ⟨a, b, c⟩ := by simpa using h
    exact hC _ ⟨_, _, _, _, hr, he, rfl⟩
end K08

end
section
set_option Elab.async false
set_option linter.all false
set_option maxRecDepth 100000
/-! k08: the readings keep the promises, 3 -/
namespace K08
open PySem L2 PD NT

theorem allP_bls {ρ : PD.Env} {l : List Bool} {k : D → Prop} (h : k (.bl (l.all id))) : allP ρ [.lst (l.map D.bl)] k := ⟨l, rfl, h⟩
/-- whether all are integers -/
theorem isi_row {xs : List D} {Q : D → PD.Env → Prop} (h : xs.length ≤ 10) (hx : ∀ x ∈ xs, TI x) (hQ : Q (.lst ((xs.map isInt).map D.bl)) [some (.tup xs), none]) : dLc (dSeqI (dVar 0)) (dgName 1) dYes (dIsi isInt (dVar 1)) [1] [some (.tup xs), none] Q := by
  simp only [dC_e, dVar_e, dOwn_e, dOp_e, dUn_e, dNil_e, dCons_e, dTup_e, dLst_e, dCB_e, dCall_e, dCallB_e, dSeq_e, dNext_e, dBreak_e, dCont_e, dDrop_e, dRet_e, dRetN_e, dIfS_e, dSet_e, dSetO_e, dAug_e, dRaise_e, dApp_e, dAsg_e, dPar_e, dPar3_e, dPar_vvo_e, dgName_e, dgTup_e, dgCons_e, dgNil_e, dTest_e, dAnd_e, dOr_e, dNot_e, dYes_e, dIf_e, dAndV_e, dOrV_e, dNotV_e, dIsi_e, dBits_e, dTuple_e, dSeqI_e, dChain_e, i2_e, i2'_e, u1_e, eqP_int, neP_int, addP_int, addP_tup, addP_lst, lenP_lst, lenP_tup, lenP_scr, absP_int, intP_int, isN_P, notN_P, isB2_P, tuple_lst, sel_t, sel_f, ixP_t0, ixP_t1, ixP_l0, ixP_l1, ixP_own0, ixP_own1, startD, List.map_cons, List.map_nil, List.length_cons, List.length_nil, List.cons_append, List.nil_append, List.getElem?_cons_zero, List.getElem?_cons_succ, List.set_cons_zero, List.set_cons_succ, Nat.reduceAdd, Nat.reduceSub, List.replicate_succ, List.replicate_zero, Option.some.injEq, dLc]
  refine ⟨fun i acc ρ => ρ = [some (.tup xs), none] ∧ acc = ((xs.take i).map isInt).map D.bl, ⟨rfl, rfl⟩, ?_, ?_⟩
  · rintro i d acc ρ2 hi ⟨rfl, rfl⟩
    have hs := size_big
    refine ⟨(hx d (List.mem_of_getElem? hi)).1.1, ?_, rfl, ?_⟩
    · rw [List.length_map, List.length_map, List.length_take]; omega
    · rw [take_snoc hi, List.map_append, List.map_append]; rfl
  · rintro acc ρ2 ⟨rfl, rfl⟩
    rw [List.take_length]
    exact hQ
theorem int_of {x : D} (h : isInt x = true) (hx : TI x) : ∃ i, x = .int i ∧ Bn 70 i := by
  cases x with
  | int i => exact ⟨i, rfl, hx.2.2 i rfl⟩
  | bl b => exact absurd hx.1.2 (by simp [isBool])
  | _ => cases h
theorem ints_of {xs : List D} (h : (xs.map isInt).all id = true) (hx : ∀ x ∈ xs, TI x) : ∃ l : List Int, xs = l.map D.int ∧ ∀ i ∈ l, Bn 70 i := by
  induction xs with
  | nil => exact ⟨[], rfl, fun _ z => nomatch z⟩
  | cons x xs ih =>
    rw [List.map_cons, List.all_cons, Bool.and_eq_true] at h
    obtain ⟨i, rfl, hi⟩ := int_of h.1 (hx _ List.mem_cons_self)
    obtain ⟨l, rfl, hl⟩ := ih h.2 fun y hy => hx y (List.mem_cons_of_mem _ hy)
    refine ⟨i :: l, rfl, fun j hj => ?_⟩
    rcases List.mem_cons.mp hj with rfl | hj
    · exact hi
    · exact hl j hj
theorem not_ints {l : List Int} : ((l.map D.int).map isInt).all id = true := by
  rw [List.all_eq_true]
  intro b hb
  obtain ⟨x, hx, rfl⟩ := List.mem_map.mp hb
  obtain ⟨i, _, rfl⟩ := List.mem_map.mp hx
  rfl
theorem two_len {xs : List D} (h : ¬ (xs.length : Int) = 3) : isTwo (.tup xs) = false := by
  unfold isTwo
  split
  · rename_i e
    cases e
    exact absurd rfl h
  · rfl
theorem two_not {xs : List D} (h : (xs.map isInt).all id = false) : isTwo (.tup xs) = false := by
  unfold isTwo
  split
  · rename_i e
    cases e
    cases h
  · rfl
theorem stp_len {xs : List D} (h : ¬ (xs.length : Int) = 4) : isStp (.tup xs) = false := by
  unfold isStp
  split
  · rename_i e
    cases e
    exact absurd rfl h
  · rfl
theorem sp_check_two : ∀ args P W, args.length = 1 → F_check_two args P W → d_check_two W ⟨fun _ => P .non, fun d ρ => P (retD ρ d), fun _ => False, fun _ => False⟩ (startD 2 args) := by
  rintro args P W _ ⟨d, rfl, ⟨⟨ht, hb⟩, hx⟩, hY, hN⟩
  simp only [dC_e, dVar_e, dOwn_e, dOp_e, dUn_e, dNil_e, dCons_e, dTup_e, dLst_e, dCB_e, dCall_e, dCallB_e, dSeq_e, dNext_e, dBreak_e, dCont_e, dDrop_e, dRet_e, dRetN_e, dIfS_e, dSet_e, dSetO_e, dAug_e, dRaise_e, dApp_e, dAsg_e, dPar_e, dPar3_e, dPar_vvo_e, dgName_e, dgTup_e, dgCons_e, dgNil_e, dTest_e, dAnd_e, dOr_e, dNot_e, dYes_e, dIf_e, dAndV_e, dOrV_e, dNotV_e, dIsi_e, dBits_e, dTuple_e, dSeqI_e, dChain_e, i2_e, i2'_e, u1_e, eqP_int, neP_int, addP_int, addP_tup, addP_lst, lenP_lst, lenP_tup, lenP_scr, absP_int, intP_int, isN_P, notN_P, isB2_P, tuple_lst, sel_t, sel_f, ixP_t0, ixP_t1, ixP_l0, ixP_l1, ixP_own0, ixP_own1, startD, List.map_cons, List.map_nil, List.length_cons, List.length_nil, List.cons_append, List.nil_append, List.getElem?_cons_zero, List.getElem?_cons_succ, List.set_cons_zero, List.set_cons_succ, Nat.reduceAdd, Nat.reduceSub, List.replicate_succ, List.replicate_zero, Option.some.injEq, d_check_two]
  refine ⟨ht, ?_⟩
  cases d with
  | tup xs =>
    obtain ⟨hl, hx⟩ := hx xs rfl
    refine sel_n rfl ?_
    simp only [dC_e, dVar_e, dOwn_e, dOp_e, dUn_e, dNil_e, dCons_e, dTup_e, dLst_e, dCB_e, dCall_e, dCallB_e, dSeq_e, dNext_e, dBreak_e, dCont_e, dDrop_e, dRet_e, dRetN_e, dIfS_e, dSet_e, dSetO_e, dAug_e, dRaise_e, dApp_e, dAsg_e, dPar_e, dPar3_e, dPar_vvo_e, dgName_e, dgTup_e, dgCons_e, dgNil_e, dTest_e, dAnd_e, dOr_e, dNot_e, dYes_e, dIf_e, dAndV_e, dOrV_e, dNotV_e, dIsi_e, dBits_e, dTuple_e, dSeqI_e, dChain_e, i2_e, i2'_e, u1_e, eqP_int, neP_int, addP_int, addP_tup, addP_lst, lenP_lst, lenP_tup, lenP_scr, absP_int, intP_int, isN_P, notN_P, isB2_P, tuple_lst, sel_t, sel_f, ixP_t0, ixP_t1, ixP_l0, ixP_l1, ixP_own0, ixP_own1, startD, List.map_cons, List.map_nil, List.length_cons, List.length_nil, List.cons_append, List.nil_append, List.getElem?_cons_zero, List.getElem?_cons_succ, List.set_cons_zero, List.set_cons_succ, Nat.reduceAdd, Nat.reduceSub, List.replicate_succ, List.replicate_zero, Option.some.injEq]
    refine sel_of (fun h => ?_) fun h => ?_
    · exact hN (two_len (by simpa using h))
    · have hlen : (xs.length : Int) = 3 := by simpa using h
      refine isi_row hl hx ?_
      refine allP_bls ?_
      simp only [dC_e, dVar_e, dOwn_e, dOp_e, dUn_e, dNil_e, dCons_e, dTup_e, dLst_e, dCB_e, dCall_e, dCallB_e, dSeq_e, dNext_e, dBreak_e, dCont_e, dDrop_e, dRet_e, dRetN_e, dIfS_e, dSet_e, dSetO_e, dAug_e, dRaise_e, dApp_e, dAsg_e, dPar_e, dPar3_e, dPar_vvo_e, dgName_e, dgTup_e, dgCons_e, dgNil_e, dTest_e, dAnd_e, dOr_e, dNot_e, dYes_e, dIf_e, dAndV_e, dOrV_e, dNotV_e, dIsi_e, dBits_e, dTuple_e, dSeqI_e, dChain_e, i2_e, i2'_e, u1_e, eqP_int, neP_int, addP_int, addP_tup, addP_lst, lenP_lst, lenP_tup, lenP_scr, absP_int, intP_int, isN_P, notN_P, isB2_P, tuple_lst, sel_t, sel_f, ixP_t0, ixP_t1, ixP_l0, ixP_l1, ixP_own0, ixP_own1, startD, List.map_cons, List.map_nil, List.length_cons, List.length_nil, List.cons_append, List.nil_append, List.getElem?_cons_zero, List.getElem?_cons_succ, List.set_cons_zero, List.set_cons_succ, Nat.reduceAdd, Nat.reduceSub, List.replicate_succ, List.replicate_zero, Option.some.injEq]
      refine sel_of (fun h => ?_) fun h => ?_
      · exact hN (two_not (by simpa using h))
      · obtain ⟨l, rfl, hi⟩ := ints_of (by simpa using h) hx
        rw [List.length_map] at hlen
        obtain ⟨a, b, c, rfl⟩ : ∃ a b c, l = [a, b, c] := by
          match l, hlen with
          | [a, b, c], _ => exact ⟨a, b, c, rfl⟩
          | [], h => cases h
          | [_], h => cases h
          | [_, _], h => cases h
          | _ :: _ :: _ :: _ :: _, h => simp at h; omega
        have ba := hi a (by simp)
        have bb := hi b (by simp)
        have bc := hi c (by simp)
        have hY : TwoF ⟨a, b, c⟩ → P .non := fun z => hY (decide_eq_true z)
        have hN : ¬ TwoF ⟨a, b, c⟩ → W .form := fun z => hN (decide_eq_false z)
        simp only [dC_e, dVar_e, dOwn_e, dOp_e, dUn_e, dNil_e, dCons_e, dTup_e, dLst_e, dCB_e, dCall_e, dCallB_e, dSeq_e, dNext_e, dBreak_e, dCont_e, dDrop_e, dRet_e, dRetN_e, dIfS_e, dSet_e, dSetO_e, dAug_e, dRaise_e, dApp_e, dAsg_e, dPar_e, dPar3_e, dPar_vvo_e, dgName_e, dgTup_e, dgCons_e, dgNil_e, dTest_e, dAnd_e, dOr_e, dNot_e, dYes_e, dIf_e, dAndV_e, dOrV_e, dNotV_e, dIsi_e, dBits_e, dTuple_e, dSeqI_e, dChain_e, i2_e, i2'_e, u1_e, eqP_int, neP_int, addP_int, addP_tup, addP_lst, lenP_lst, lenP_tup, lenP_scr, absP_int, intP_int, isN_P, notN_P, isB2_P, tuple_lst, sel_t, sel_f, ixP_t0, ixP_t1, ixP_l0, ixP_l1, ixP_own0, ixP_own1, startD, List.map_cons, List.map_nil, List.length_cons, List.length_nil, List.cons_append, List.nil_append, List.getElem?_cons_zero, List.getElem?_cons_succ, List.set_cons_zero, List.set_cons_succ, Nat.reduceAdd, Nat.reduceSub, List.replicate_succ, List.replicate_zero, Option.some.injEq, List.map_cons, List.map_nil]
        refine sel_of (fun h => ?_) fun h => ?_
        · have := of_decide_eq_true h
          exact hN fun z => by have := z.1; dsimp only at this; omega
        have h1 := of_decide_eq_false h
        refine ⟨⟨a, b, c⟩, rfl, ⟨ba.mono (by decide), bb.mono (by decide), bc.mono (by decide)⟩, ?_⟩
        simp only [dC_e, dVar_e, dOwn_e, dOp_e, dUn_e, dNil_e, dCons_e, dTup_e, dLst_e, dCB_e, dCall_e, dCallB_e, dSeq_e, dNext_e, dBreak_e, dCont_e, dDrop_e, dRet_e, dRetN_e, dIfS_e, dSet_e, dSetO_e, dAug_e, dRaise_e, dApp_e, dAsg_e, dPar_e, dPar3_e, dPar_vvo_e, dgName_e, dgTup_e, dgCons_e, dgNil_e, dTest_e, dAnd_e, dOr_e, dNot_e, dYes_e, dIf_e, dAndV_e, dOrV_e, dNotV_e, dIsi_e, dBits_e, dTuple_e, dSeqI_e, dChain_e, i2_e, i2'_e, u1_e, eqP_int, neP_int, addP_int, addP_tup, addP_lst, lenP_lst, lenP_tup, lenP_scr, absP_int, intP_int, isN_P, notN_P, isB2_P, tuple_lst, sel_t, sel_f, ixP_t0, ixP_t1, ixP_l0, ixP_l1, ixP_own0, ixP_own1, startD, List.map_cons, List.map_nil, List.length_cons, List.length_nil, List.cons_append, List.nil_append, List.getElem?_cons_zero, List.getElem?_cons_succ, List.set_cons_zero, List.set_cons_succ, Nat.reduceAdd, Nat.reduceSub, List.replicate_succ, List.replicate_zero, Option.some.injEq, u1_e]
        refine sel_of (fun h => ?_) fun h => ?_
        · have h2 := of_decide_eq_true h
          refine sel_of (fun h => ?_) fun h => ?_
          · have : ¬ disc ⟨a, b, c⟩ ≤ -3 := by simpa using h
            exact hN fun z => this z.2.2.1
          · have h3 : disc ⟨a, b, c⟩ ≤ -3 := by simpa using h
            refine ⟨[a, b, c], rfl, by simp, fun i hi' => (hi i hi').mono (by decide), ?_⟩
            rw [show gcdL [a, b, c] = g3 ⟨a, b, c⟩ from gcdL_g3 ⟨a, b, c⟩]
            simp only [dC_e, dVar_e, dOwn_e, dOp_e, dUn_e, dNil_e, dCons_e, dTup_e, dLst_e, dCB_e, dCall_e, dCallB_e, dSeq_e, dNext_e, dBreak_e, dCont_e, dDrop_e, dRet_e, dRetN_e, dIfS_e, dSet_e, dSetO_e, dAug_e, dRaise_e, dApp_e, dAsg_e, dPar_e, dPar3_e, dPar_vvo_e, dgName_e, dgTup_e, dgCons_e, dgNil_e, dTest_e, dAnd_e, dOr_e, dNot_e, dYes_e, dIf_e, dAndV_e, dOrV_e, dNotV_e, dIsi_e, dBits_e, dTuple_e, dSeqI_e, dChain_e, i2_e, i2'_e, u1_e, eqP_int, neP_int, addP_int, addP_tup, addP_lst, lenP_lst, lenP_tup, lenP_scr, absP_int, intP_int, isN_P, notN_P, isB2_P, tuple_lst, sel_t, sel_f, ixP_t0, ixP_t1, ixP_l0, ixP_l1, ixP_own0, ixP_own1, startD, List.map_cons, List.map_nil, List.length_cons, List.length_nil, List.cons_append, List.nil_append, List.getElem?_cons_zero, List.getElem?_cons_succ, List.set_cons_zero, List.set_cons_succ, Nat.reduceAdd, Nat.reduceSub, List.replicate_succ, List.replicate_zero, Option.some.injEq]
            refine sel_of (fun h => ?_) fun h => ?_
            · have : ¬ (g3 ⟨a, b, c⟩ : Int) = 1 := by simpa using h
              exact hN fun z => this (by rw [z.2.2.2]; rfl)
            · have : (g3 ⟨a, b, c⟩ : Int) = 1 := by simpa using h
              refine hY ⟨by dsimp only; omega, h2, h3, by omega⟩
        · have h2 := of_decide_eq_false h
          refine sel_y rfl ?_
          exact hN fun z => h2 z.2.1
  | _ => exact sel_y rfl (hN rfl)
theorem two_of {d : D} (h : isTwo d = true) (hd : TryQ d) : ∃ f, d = fD f ∧ TwoF f ∧ Fb 70 f := by
  unfold isTwo at h
  split at h
  · rename_i a b c
    have ht := (hd.2 _ rfl).2
    exact ⟨⟨a, b, c⟩, rfl, of_decide_eq_true h, (ht (.int a) (by simp)).2.2 a rfl, (ht (.int b) (by simp)).2.2 b rfl, (ht (.int c) (by simp)).2.2 c rfl⟩
  · cases h
theorem stp_of {d : D} (h : isStp d = true) : ∃ m, d = mD m ∧ StpM m := by
  unfold isStp at h
  split at h
  · rename_i a b c e
    exact ⟨⟨a, b, c, e⟩, rfl, of_decide_eq_true h⟩
  · cases h
/-- what is no integer among them -/
theorem non_row {xs : List D} {x0 : D} {Q : D → PD.Env → Prop} (h : xs.length ≤ 10) (hx : ∀ x ∈ xs, TI x) (e0 : x0 = .tup xs) (hQ : Q (.lst (xs.filter fun x => !isInt x)) [some x0, none]) : dLc (dSeqI (dVar 0)) (dgName 1) (dNot (dTest (dIsi isInt (dVar 1)))) (dVar 1) [1] [some x0, none] Q := by
  subst e0
  simp only [dC_e, dVar_e, dOwn_e, dOp_e, dUn_e, dNil_e, dCons_e, dTup_e, dLst_e, dCB_e, dCall_e, dCallB_e, dSeq_e, dNext_e, dBreak_e, dCont_e, dDrop_e, dRet_e, dRetN_e, dIfS_e, dSet_e, dSetO_e, dAug_e, dRaise_e, dApp_e, dAsg_e, dPar_e, dPar3_e, dPar_vvo_e, dgName_e, dgTup_e, dgCons_e, dgNil_e, dTest_e, dAnd_e, dOr_e, dNot_e, dYes_e, dIf_e, dAndV_e, dOrV_e, dNotV_e, dIsi_e, dBits_e, dTuple_e, dSeqI_e, dChain_e, i2_e, i2'_e, u1_e, eqP_int, neP_int, addP_int, addP_tup, addP_lst, lenP_lst, lenP_tup, lenP_scr, absP_int, intP_int, isN_P, notN_P, isB2_P, tuple_lst, sel_t, sel_f, ixP_t0, ixP_t1, ixP_l0, ixP_l1, ixP_own0, ixP_own1, startD, List.map_cons, List.map_nil, List.length_cons, List.length_nil, List.cons_append, List.nil_append, List.getElem?_cons_zero, List.getElem?_cons_succ, List.set_cons_zero, List.set_cons_succ, Nat.reduceAdd, Nat.reduceSub, List.replicate_succ, List.replicate_zero, Option.some.injEq, dLc]
  refine ⟨fun i acc ρ => ρ = [some (.tup xs), none] ∧ acc = (xs.take i).filter fun x => !isInt x, ⟨rfl, rfl⟩, ?_, ?_⟩
  · rintro i d acc ρ2 hi ⟨rfl, rfl⟩
    have hs := size_big
    have hz : ((xs.take i).filter fun x => !isInt x).length < sizeLine := by
      have h3 := List.length_filter_le (fun x => !isInt x) (xs.take i)
      rw [List.length_take] at h3
      omega
    refine ⟨(hx d (List.mem_of_getElem? hi)).1.1, ?_⟩
    refine sel_of (fun h => ?_) fun h => ?_
    · refine ⟨hz, rfl, ?_⟩
      rw [take_snoc hi, List.filter_append, List.filter_cons, if_pos h]
      rfl
    · refine ⟨rfl, ?_⟩
      rw [take_snoc hi, List.filter_append, List.filter_cons, if_neg (by rw [h]; exact Bool.false_ne_true), List.filter_nil, List.append_nil]
  · rintro acc ρ2 ⟨rfl, rfl⟩
    rw [List.take_length]
    exact hQ
theorem filt_all {xs : List D} : (xs.filter fun x => !isInt x) = [] ↔ (xs.map isInt).all id = true := by
  rw [List.filter_eq_nil_iff, List.all_eq_true]
  constructor
  · intro h b hb
    obtain ⟨x, hx, rfl⟩ := List.mem_map.mp hb
    have := h x hx
    simpa using this
  · intro h x hx
    have := h _ (List.mem_map_of_mem hx)
    simpa using this
theorem sp__law_is_two : ∀ args P W, args.length = 1 → F__law_is_two args P W → d__law_is_two W ⟨fun _ => P .non, fun d ρ => P (retD ρ d), fun _ => False, fun _ => False⟩ (startD 2 args) := by
  rintro args P W _ ⟨d, rfl, ⟨⟨ht, hb⟩, hx⟩, hP⟩
  simp only [dC_e, dVar_e, dOwn_e, dOp_e, dUn_e, dNil_e, dCons_e, dTup_e, dLst_e, dCB_e, dCall_e, dCallB_e, dSeq_e, dNext_e, dBreak_e, dCont_e, dDrop_e, dRet_e, dRetN_e, dIfS_e, dSet_e, dSetO_e, dAug_e, dRaise_e, dApp_e, dAsg_e, dPar_e, dPar3_e, dPar_vvo_e, dgName_e, dgTup_e, dgCons_e, dgNil_e, dTest_e, dAnd_e, dOr_e, dNot_e, dYes_e, dIf_e, dAndV_e, dOrV_e, dNotV_e, dIsi_e, dBits_e, dTuple_e, dSeqI_e, dChain_e, i2_e, i2'_e, u1_e, eqP_int, neP_int, addP_int, addP_tup, addP_lst, lenP_lst, lenP_tup, lenP_scr, absP_int, intP_int, isN_P, notN_P, isB2_P, tuple_lst, sel_t, sel_f, ixP_t0, ixP_t1, ixP_l0, ixP_l1, ixP_own0, ixP_own1, startD, List.map_cons, List.map_nil, List.length_cons, List.length_nil, List.cons_append, List.nil_append, List.getElem?_cons_zero, List.getElem?_cons_succ, List.set_cons_zero, List.set_cons_succ, Nat.reduceAdd, Nat.reduceSub, List.replicate_succ, List.replicate_zero, Option.some.injEq, d__law_is_two]
  refine ⟨ht, ?_⟩
  cases d with
  | tup xs =>
    obtain ⟨hl, hx⟩ := hx xs rfl
    refine sel_n rfl ?_
    simp only [dC_e, dVar_e, dOwn_e, dOp_e, dUn_e, dNil_e, dCons_e, dTup_e, dLst_e, dCB_e, dCall_e, dCallB_e, dSeq_e, dNext_e, dBreak_e, dCont_e, dDrop_e, dRet_e, dRetN_e, dIfS_e, dSet_e, dSetO_e, dAug_e, dRaise_e, dApp_e, dAsg_e, dPar_e, dPar3_e, dPar_vvo_e, dgName_e, dgTup_e, dgCons_e, dgNil_e, dTest_e, dAnd_e, dOr_e, dNot_e, dYes_e, dIf_e, dAndV_e, dOrV_e, dNotV_e, dIsi_e, dBits_e, dTuple_e, dSeqI_e, dChain_e, i2_e, i2'_e, u1_e, eqP_int, neP_int, addP_int, addP_tup, addP_lst, lenP_lst, lenP_tup, lenP_scr, absP_int, intP_int, isN_P, notN_P, isB2_P, tuple_lst, sel_t, sel_f, ixP_t0, ixP_t1, ixP_l0, ixP_l1, ixP_own0, ixP_own1, startD, List.map_cons, List.map_nil, List.length_cons, List.length_nil, List.cons_append, List.nil_append, List.getElem?_cons_zero, List.getElem?_cons_succ, List.set_cons_zero, List.set_cons_succ, Nat.reduceAdd, Nat.reduceSub, List.replicate_succ, List.replicate_zero, Option.some.injEq]
    refine sel_of (fun h => ?_) fun h => ?_
    · rw [two_len (by simpa using h)] at hP
      exact hP
    · have hlen : (xs.length : Int) = 3 := by simpa using h
      refine non_row hl hx rfl ?_
      simp only [dC_e, dVar_e, dOwn_e, dOp_e, dUn_e, dNil_e, dCons_e, dTup_e, dLst_e, dCB_e, dCall_e, dCallB_e, dSeq_e, dNext_e, dBreak_e, dCont_e, dDrop_e, dRet_e, dRetN_e, dIfS_e, dSet_e, dSetO_e, dAug_e, dRaise_e, dApp_e, dAsg_e, dPar_e, dPar3_e, dPar_vvo_e, dgName_e, dgTup_e, dgCons_e, dgNil_e, dTest_e, dAnd_e, dOr_e, dNot_e, dYes_e, dIf_e, dAndV_e, dOrV_e, dNotV_e, dIsi_e, dBits_e, dTuple_e, dSeqI_e, dChain_e, i2_e, i2'_e, u1_e, eqP_int, neP_int, addP_int, addP_tup, addP_lst, lenP_lst, lenP_tup, lenP_scr, absP_int, intP_int, isN_P, notN_P, isB2_P, tuple_lst, sel_t, sel_f, ixP_t0, ixP_t1, ixP_l0, ixP_l1, ixP_own0, ixP_own1, startD, List.map_cons, List.map_nil, List.length_cons, List.length_nil, List.cons_append, List.nil_append, List.getElem?_cons_zero, List.getElem?_cons_succ, List.set_cons_zero, List.set_cons_succ, Nat.reduceAdd, Nat.reduceSub, List.replicate_succ, List.replicate_zero, Option.some.injEq]
      refine sel_of (fun h => ?_) fun h => ?_
      · have h1 : 0 < ((xs.filter fun x => !isInt x).length : Int) := of_decide_eq_true h
        have h2 : (xs.map isInt).all id = false := by
          cases e : (xs.map isInt).all id with
          | false => rfl
          | true =>
            rw [filt_all.mpr e] at h1
            cases h1
        rw [two_not h2] at hP
        exact hP
      · have h1 : ¬ 0 < ((xs.filter fun x => !isInt x).length : Int) := of_decide_eq_false h
        obtain ⟨l, rfl, hi⟩ := ints_of (filt_all.mp (List.length_eq_zero_iff.mp (by omega))) hx
        rw [List.length_map] at hlen
        obtain ⟨a, b, c, rfl⟩ : ∃ a b c, l = [a, b, c] := by
          match l, hlen with
          | [a, b, c], _ => exact ⟨a, b, c, rfl⟩
          | [], h => cases h
          | [_], h => cases h
          | [_, _], h => cases h
          | _ :: _ :: _ :: _ :: _, h => simp at h; omega
        have ba := hi a (by simp)
        have bb := hi b (by simp)
        have bc := hi c (by simp)
        have hY : TwoF ⟨a, b, c⟩ → P (.bl true) := fun z => by
          have e : isTwo (.tup ([a, b, c].map D.int)) = true := decide_eq_true z
          rw [e] at hP; exact hP
        have hN : ¬ TwoF ⟨a, b, c⟩ → P (.bl false) := fun z => by
          have e : isTwo (.tup ([a, b, c].map D.int)) = false := decide_eq_false z
          rw [e] at hP; exact hP
        simp only [dC_e, dVar_e, dOwn_e, dOp_e, dUn_e, dNil_e, dCons_e, dTup_e, dLst_e, dCB_e, dCall_e, dCallB_e, dSeq_e, dNext_e, dBreak_e, dCont_e, dDrop_e, dRet_e, dRetN_e, dIfS_e, dSet_e, dSetO_e, dAug_e, dRaise_e, dApp_e, dAsg_e, dPar_e, dPar3_e, dPar_vvo_e, dgName_e, dgTup_e, dgCons_e, dgNil_e, dTest_e, dAnd_e, dOr_e, dNot_e, dYes_e, dIf_e, dAndV_e, dOrV_e, dNotV_e, dIsi_e, dBits_e, dTuple_e, dSeqI_e, dChain_e, i2_e, i2'_e, u1_e, eqP_int, neP_int, addP_int, addP_tup, addP_lst, lenP_lst, lenP_tup, lenP_scr, absP_int, intP_int, isN_P, notN_P, isB2_P, tuple_lst, sel_t, sel_f, ixP_t0, ixP_t1, ixP_l0, ixP_l1, ixP_own0, ixP_own1, startD, List.map_cons, List.map_nil, List.length_cons, List.length_nil, List.cons_append, List.nil_append, List.getElem?_cons_zero, List.getElem?_cons_succ, List.set_cons_zero, List.set_cons_succ, Nat.reduceAdd, Nat.reduceSub, List.replicate_succ, List.replicate_zero, Option.some.injEq, List.map_cons, List.map_nil]
        refine sel_of (fun h => ?_) fun h => ?_
        · have h1 := of_decide_eq_true h
          refine ⟨⟨a, b, c⟩, rfl, ⟨ba.mono (by decide), bb.mono (by decide), bc.mono (by decide)⟩, ?_⟩
          simp only [dC_e, dVar_e, dOwn_e, dOp_e, dUn_e, dNil_e, dCons_e, dTup_e, dLst_e, dCB_e, dCall_e, dCallB_e, dSeq_e, dNext_e, dBreak_e, dCont_e, dDrop_e, dRet_e, dRetN_e, dIfS_e, dSet_e, dSetO_e, dAug_e, dRaise_e, dApp_e, dAsg_e, dPar_e, dPar3_e, dPar_vvo_e, dgName_e, dgTup_e, dgCons_e, dgNil_e, dTest_e, dAnd_e, dOr_e, dNot_e, dYes_e, dIf_e, dAndV_e, dOrV_e, dNotV_e, dIsi_e, dBits_e, dTuple_e, dSeqI_e, dChain_e, i2_e, i2'_e, u1_e, eqP_int, neP_int, addP_int, addP_tup, addP_lst, lenP_lst, lenP_tup, lenP_scr, absP_int, intP_int, isN_P, notN_P, isB2_P, tuple_lst, sel_t, sel_f, ixP_t0, ixP_t1, ixP_l0, ixP_l1, ixP_own0, ixP_own1, startD, List.map_cons, List.map_nil, List.length_cons, List.length_nil, List.cons_append, List.nil_append, List.getElem?_cons_zero, List.getElem?_cons_succ, List.set_cons_zero, List.set_cons_succ, Nat.reduceAdd, Nat.reduceSub, List.replicate_succ, List.replicate_zero, Option.some.injEq, u1_e]
          refine sel_of (fun h => ?_) fun h => ?_
          · have h2 := of_decide_eq_true h
            refine sel_of (fun h => ?_) fun h => ?_
            · have h3 := of_decide_eq_true h
              refine ⟨[a, b, c], rfl, by simp, fun i hi' => (hi i hi').mono (by decide), ?_⟩
              rw [show gcdL [a, b, c] = g3 ⟨a, b, c⟩ from gcdL_g3 ⟨a, b, c⟩]
              simp only [dC_e, dVar_e, dOwn_e, dOp_e, dUn_e, dNil_e, dCons_e, dTup_e, dLst_e, dCB_e, dCall_e, dCallB_e, dSeq_e, dNext_e, dBreak_e, dCont_e, dDrop_e, dRet_e, dRetN_e, dIfS_e, dSet_e, dSetO_e, dAug_e, dRaise_e, dApp_e, dAsg_e, dPar_e, dPar3_e, dPar_vvo_e, dgName_e, dgTup_e, dgCons_e, dgNil_e, dTest_e, dAnd_e, dOr_e, dNot_e, dYes_e, dIf_e, dAndV_e, dOrV_e, dNotV_e, dIsi_e, dBits_e, dTuple_e, dSeqI_e, dChain_e, i2_e, i2'_e, u1_e, eqP_int, neP_int, addP_int, addP_tup, addP_lst, lenP_lst, lenP_tup, lenP_scr, absP_int, intP_int, isN_P, notN_P, isB2_P, tuple_lst, sel_t, sel_f, ixP_t0, ixP_t1, ixP_l0, ixP_l1, ixP_own0, ixP_own1, startD, List.map_cons, List.map_nil, List.length_cons, List.length_nil, List.cons_append, List.nil_append, List.getElem?_cons_zero, List.getElem?_cons_succ, List.set_cons_zero, List.set_cons_succ, Nat.reduceAdd, Nat.reduceSub, List.replicate_succ, List.replicate_zero, Option.some.injEq]
              cases e : decide ((g3 ⟨a, b, c⟩ : Int) = 1) with
              | true =>
                have := of_decide_eq_true e
                exact hY ⟨by dsimp only; omega, h2, h3, by omega⟩
              | false =>
                have := of_decide_eq_false e
                exact hN fun z => this (by rw [z.2.2.2]; rfl)
            · have h3 := of_decide_eq_false h
              exact hN fun z => h3 z.2.2.1
          · have h2 := of_decide_eq_false h
            exact hN fun z => h2 z.2.1
        · have h1 := of_decide_eq_false h
          exact hN fun z => by have := z.1; dsimp only at this; omega
  | _ => exact sel_y rfl hP
theorem sp_discriminant : ∀ args P W, args.length = 1 → F_discriminant args P W → d_discriminant W ⟨fun _ => P .non, fun d ρ => P (retD ρ d), fun _ => False, fun _ => False⟩ (startD 1 args) := by
  rintro args P W _ ⟨d, rfl, hd, hY, hN⟩
  simp only [dC_e, dVar_e, dOwn_e, dOp_e, dUn_e, dNil_e, dCons_e, dTup_e, dLst_e, dCB_e, dCall_e, dCallB_e, dSeq_e, dNext_e, dBreak_e, dCont_e, dDrop_e, dRet_e, dRetN_e, dIfS_e, dSet_e, dSetO_e, dAug_e, dRaise_e, dApp_e, dAsg_e, dPar_e, dPar3_e, dPar_vvo_e, dgName_e, dgTup_e, dgCons_e, dgNil_e, dTest_e, dAnd_e, dOr_e, dNot_e, dYes_e, dIf_e, dAndV_e, dOrV_e, dNotV_e, dIsi_e, dBits_e, dTuple_e, dSeqI_e, dChain_e, i2_e, i2'_e, u1_e, eqP_int, neP_int, addP_int, addP_tup, addP_lst, lenP_lst, lenP_tup, lenP_scr, absP_int, intP_int, isN_P, notN_P, isB2_P, tuple_lst, sel_t, sel_f, ixP_t0, ixP_t1, ixP_l0, ixP_l1, ixP_own0, ixP_own1, startD, List.map_cons, List.map_nil, List.length_cons, List.length_nil, List.cons_append, List.nil_append, List.getElem?_cons_zero, List.getElem?_cons_succ, List.set_cons_zero, List.set_cons_succ, Nat.reduceAdd, Nat.reduceSub, List.replicate_succ, List.replicate_zero, Option.some.injEq, d_discriminant]
  refine ⟨d, rfl, hd, fun h => ?_, hN⟩
  obtain ⟨f, rfl, hf, bf⟩ := two_of h hd
  exact ⟨f, rfl, bf.mono (by decide), hY f rfl hf⟩
theorem sp_reduced : ∀ args P W, args.length = 1 → F_reduced args P W → d_reduced W ⟨fun _ => P .non, fun d ρ => P (retD ρ d), fun _ => False, fun _ => False⟩ (startD 1 args) := by
  rintro args P W _ ⟨d, rfl, hd, hY, hN⟩
  simp only [dC_e, dVar_e, dOwn_e, dOp_e, dUn_e, dNil_e, dCons_e, dTup_e, dLst_e, dCB_e, dCall_e, dCallB_e, dSeq_e, dNext_e, dBreak_e, dCont_e, dDrop_e, dRet_e, dRetN_e, dIfS_e, dSet_e, dSetO_e, dAug_e, dRaise_e, dApp_e, dAsg_e, dPar_e, dPar3_e, dPar_vvo_e, dgName_e, dgTup_e, dgCons_e, dgNil_e, dTest_e, dAnd_e, dOr_e, dNot_e, dYes_e, dIf_e, dAndV_e, dOrV_e, dNotV_e, dIsi_e, dBits_e, dTuple_e, dSeqI_e, dChain_e, i2_e, i2'_e, u1_e, eqP_int, neP_int, addP_int, addP_tup, addP_lst, lenP_lst, lenP_tup, lenP_scr, absP_int, intP_int, isN_P, notN_P, isB2_P, tuple_lst, sel_t, sel_f, ixP_t0, ixP_t1, ixP_l0, ixP_l1, ixP_own0, ixP_own1, startD, List.map_cons, List.map_nil, List.length_cons, List.length_nil, List.cons_append, List.nil_append, List.getElem?_cons_zero, List.getElem?_cons_succ, List.set_cons_zero, List.set_cons_succ, Nat.reduceAdd, Nat.reduceSub, List.replicate_succ, List.replicate_zero, Option.some.injEq, d_reduced]
  refine ⟨d, rfl, hd, fun h => ?_, hN⟩
  obtain ⟨f, rfl, hf, bf⟩ := two_of h hd
  exact ⟨f, rfl, bf.mono (by decide), ⟨hf.1, hf.2.1, hf.2.2.1⟩, fun g m h1 h2 h3 h4 => hY f rfl hf g m h1 h2 h3 h4⟩
theorem sp_turned : ∀ args P W, args.length = 1 → F_turned args P W → d_turned W ⟨fun _ => P .non, fun d ρ => P (retD ρ d), fun _ => False, fun _ => False⟩ (startD 1 args) := by
  rintro args P W _ ⟨d, rfl, hd, hY, hN⟩
  simp only [dC_e, dVar_e, dOwn_e, dOp_e, dUn_e, dNil_e, dCons_e, dTup_e, dLst_e, dCB_e, dCall_e, dCallB_e, dSeq_e, dNext_e, dBreak_e, dCont_e, dDrop_e, dRet_e, dRetN_e, dIfS_e, dSet_e, dSetO_e, dAug_e, dRaise_e, dApp_e, dAsg_e, dPar_e, dPar3_e, dPar_vvo_e, dgName_e, dgTup_e, dgCons_e, dgNil_e, dTest_e, dAnd_e, dOr_e, dNot_e, dYes_e, dIf_e, dAndV_e, dOrV_e, dNotV_e, dIsi_e, dBits_e, dTuple_e, dSeqI_e, dChain_e, i2_e, i2'_e, u1_e, eqP_int, neP_int, addP_int, addP_tup, addP_lst, lenP_lst, lenP_tup, lenP_scr, absP_int, intP_int, isN_P, notN_P, isB2_P, tuple_lst, sel_t, sel_f, ixP_t0, ixP_t1, ixP_l0, ixP_l1, ixP_own0, ixP_own1, startD, List.map_cons, List.map_nil, List.length_cons, List.length_nil, List.cons_append, List.nil_append, List.getElem?_cons_zero, List.getElem?_cons_succ, List.set_cons_zero, List.set_cons_succ, Nat.reduceAdd, Nat.reduceSub, List.replicate_succ, List.replicate_zero, Option.some.injEq, d_turned]
  refine ⟨d, rfl, hd, fun h => ?_, hN⟩
  obtain ⟨⟨a, b, c⟩, rfl, hf, bf⟩ := two_of h hd
  unfold fD
  simp only [dC_e, dVar_e, dOwn_e, dOp_e, dUn_e, dNil_e, dCons_e, dTup_e, dLst_e, dCB_e, dCall_e, dCallB_e, dSeq_e, dNext_e, dBreak_e, dCont_e, dDrop_e, dRet_e, dRetN_e, dIfS_e, dSet_e, dSetO_e, dAug_e, dRaise_e, dApp_e, dAsg_e, dPar_e, dPar3_e, dPar_vvo_e, dgName_e, dgTup_e, dgCons_e, dgNil_e, dTest_e, dAnd_e, dOr_e, dNot_e, dYes_e, dIf_e, dAndV_e, dOrV_e, dNotV_e, dIsi_e, dBits_e, dTuple_e, dSeqI_e, dChain_e, i2_e, i2'_e, u1_e, eqP_int, neP_int, addP_int, addP_tup, addP_lst, lenP_lst, lenP_tup, lenP_scr, absP_int, intP_int, isN_P, notN_P, isB2_P, tuple_lst, sel_t, sel_f, ixP_t0, ixP_t1, ixP_l0, ixP_l1, ixP_own0, ixP_own1, startD, List.map_cons, List.map_nil, List.length_cons, List.length_nil, List.cons_append, List.nil_append, List.getElem?_cons_zero, List.getElem?_cons_succ, List.set_cons_zero, List.set_cons_succ, Nat.reduceAdd, Nat.reduceSub, List.replicate_succ, List.replicate_zero, Option.some.injEq, ixP_t2, u1_e]
  refine ⟨⟨a, -b, c⟩, rfl, ⟨bf.1.mono (by decide), bf.2.1.neg.mono (by decide), bf.2.2.mono (by decide)⟩, ⟨hf.1, ?_, ?_⟩, fun g m h1 h2 h3 h4 => ?_⟩
  · have := hf.2.1
    simp only [disc] at *
    rw [Int.neg_mul_neg]
    exact this
  · have := hf.2.2.1
    simp only [disc] at *
    rw [Int.neg_mul_neg]
    exact this
  · simp only [dC_e, dVar_e, dOwn_e, dOp_e, dUn_e, dNil_e, dCons_e, dTup_e, dLst_e, dCB_e, dCall_e, dCallB_e, dSeq_e, dNext_e, dBreak_e, dCont_e, dDrop_e, dRet_e, dRetN_e, dIfS_e, dSet_e, dSetO_e, dAug_e, dRaise_e, dApp_e, dAsg_e, dPar_e, dPar3_e, dPar_vvo_e, dgName_e, dgTup_e, dgCons_e, dgNil_e, dTest_e, dAnd_e, dOr_e, dNot_e, dYes_e, dIf_e, dAndV_e, dOrV_e, dNotV_e, dIsi_e, dBits_e, dTuple_e, dSeqI_e, dChain_e, i2_e, i2'_e, u1_e, eqP_int, neP_int, addP_int, addP_tup, addP_lst, lenP_lst, lenP_tup, lenP_scr, absP_int, intP_int, isN_P, notN_P, isB2_P, tuple_lst, sel_t, sel_f, ixP_t0, ixP_t1, ixP_l0, ixP_l1, ixP_own0, ixP_own1, startD, List.map_cons, List.map_nil, List.length_cons, List.length_nil, List.cons_append, List.nil_append, List.getElem?_cons_zero, List.getElem?_cons_succ, List.set_cons_zero, List.set_cons_succ, Nat.reduceAdd, Nat.reduceSub, List.replicate_succ, List.replicate_zero, Option.some.injEq]
    exact hY ⟨a, b, c⟩ rfl hf g h1 ⟨m, h2, h3⟩
theorem num_row {xs : List D} {Q : D → PD.Env → Prop} (h : xs.length ≤ 10) (hx : ∀ x ∈ xs, TI x) (hQ : Q (.lst ((xs.map fun x => numIn x (-10000) 10000).map D.bl)) [some (.tup xs), none]) : dLc (dSeqI (dVar 0)) (dgName 1) dYes (dCall F_is_number noX (dCons (dVar 1) (dCons (dUn negP (dC (.int (10000)))) (dCons (dC (.int (10000))) dNil)))) [1] [some (.tup xs), none] Q := by
  simp only [dC_e, dVar_e, dOwn_e, dOp_e, dUn_e, dNil_e, dCons_e, dTup_e, dLst_e, dCB_e, dCall_e, dCallB_e, dSeq_e, dNext_e, dBreak_e, dCont_e, dDrop_e, dRet_e, dRetN_e, dIfS_e, dSet_e, dSetO_e, dAug_e, dRaise_e, dApp_e, dAsg_e, dPar_e, dPar3_e, dPar_vvo_e, dgName_e, dgTup_e, dgCons_e, dgNil_e, dTest_e, dAnd_e, dOr_e, dNot_e, dYes_e, dIf_e, dAndV_e, dOrV_e, dNotV_e, dIsi_e, dBits_e, dTuple_e, dSeqI_e, dChain_e, i2_e, i2'_e, u1_e, eqP_int, neP_int, addP_int, addP_tup, addP_lst, lenP_lst, lenP_tup, lenP_scr, absP_int, intP_int, isN_P, notN_P, isB2_P, tuple_lst, sel_t, sel_f, ixP_t0, ixP_t1, ixP_l0, ixP_l1, ixP_own0, ixP_own1, startD, List.map_cons, List.map_nil, List.length_cons, List.length_nil, List.cons_append, List.nil_append, List.getElem?_cons_zero, List.getElem?_cons_succ, List.set_cons_zero, List.set_cons_succ, Nat.reduceAdd, Nat.reduceSub, List.replicate_succ, List.replicate_zero, Option.some.injEq, dLc]
  refine ⟨fun i acc ρ => ρ = [some (.tup xs), none] ∧ acc = ((xs.take i).map fun x => numIn x (-10000) 10000).map D.bl, ⟨rfl, rfl⟩, ?_, ?_⟩
  · rintro i d acc ρ2 hi ⟨rfl, rfl⟩
    have hs := size_big
    refine ⟨d, -10000, 10000, rfl, (hx d (List.mem_of_getElem? hi)).1, ?_, rfl, ?_⟩
    · rw [List.length_map, List.length_map, List.length_take]; omega
    · rw [take_snoc hi, List.map_append, List.map_append]; rfl
  · rintro acc ρ2 ⟨rfl, rfl⟩
    rw [List.take_length]
    exact hQ
theorem nums_of {xs : List D} (h : (xs.map fun x => numIn x (-10000) 10000).all id = true) : ∃ l : List Int, xs = l.map D.int ∧ ∀ i ∈ l, -10000 ≤ i ∧ i ≤ 10000 := by
  induction xs with
  | nil => exact ⟨[], rfl, fun _ z => nomatch z⟩
  | cons x xs ih =>
    rw [List.map_cons, List.all_cons, Bool.and_eq_true] at h
    obtain ⟨l, rfl, hl⟩ := ih h.2
    cases x with
    | int i =>
      have hi := of_decide_eq_true h.1
      refine ⟨i :: l, rfl, fun j hj => ?_⟩
      rcases List.mem_cons.mp hj with rfl | hj
      · exact hi
      · exact hl j hj
    | _ => cases h.1
theorem stp_not {xs : List D} (h : (xs.map fun x => numIn x (-10000) 10000).all id = false) : isStp (.tup xs) = false := by
  unfold isStp
  split
  · rename_i p q r s e
    cases e
    refine decide_eq_false fun z => ?_
    have := z.1
    have := z.2.1
    have := z.2.2.1
    have := z.2.2.2.1
    simp_all [numIn]
  · rfl
theorem sp_check_step : ∀ args P W, args.length = 1 → F_check_step args P W → d_check_step W ⟨fun _ => P .non, fun d ρ => P (retD ρ d), fun _ => False, fun _ => False⟩ (startD 2 args) := by
  rintro args P W _ ⟨d, rfl, ⟨⟨ht, hb⟩, hx⟩, hY, hN⟩
  simp only [dC_e, dVar_e, dOwn_e, dOp_e, dUn_e, dNil_e, dCons_e, dTup_e, dLst_e, dCB_e, dCall_e, dCallB_e, dSeq_e, dNext_e, dBreak_e, dCont_e, dDrop_e, dRet_e, dRetN_e, dIfS_e, dSet_e, dSetO_e, dAug_e, dRaise_e, dApp_e, dAsg_e, dPar_e, dPar3_e, dPar_vvo_e, dgName_e, dgTup_e, dgCons_e, dgNil_e, dTest_e, dAnd_e, dOr_e, dNot_e, dYes_e, dIf_e, dAndV_e, dOrV_e, dNotV_e, dIsi_e, dBits_e, dTuple_e, dSeqI_e, dChain_e, i2_e, i2'_e, u1_e, eqP_int, neP_int, addP_int, addP_tup, addP_lst, lenP_lst, lenP_tup, lenP_scr, absP_int, intP_int, isN_P, notN_P, isB2_P, tuple_lst, sel_t, sel_f, ixP_t0, ixP_t1, ixP_l0, ixP_l1, ixP_own0, ixP_own1, startD, List.map_cons, List.map_nil, List.length_cons, List.length_nil, List.cons_append, List.nil_append, List.getElem?_cons_zero, List.getElem?_cons_succ, List.set_cons_zero, List.set_cons_succ, Nat.reduceAdd, Nat.reduceSub, List.replicate_succ, List.replicate_zero, Option.some.injEq, d_check_step]
  refine ⟨ht, ?_⟩
  cases d with
  | tup xs =>
    obtain ⟨hl, hx⟩ := hx xs rfl
    refine sel_n rfl ?_
    simp only [dC_e, dVar_e, dOwn_e, dOp_e, dUn_e, dNil_e, dCons_e, dTup_e, dLst_e, dCB_e, dCall_e, dCallB_e, dSeq_e, dNext_e, dBreak_e, dCont_e, dDrop_e, dRet_e, dRetN_e, dIfS_e, dSet_e, dSetO_e, dAug_e, dRaise_e, dApp_e, dAsg_e, dPar_e, dPar3_e, dPar_vvo_e, dgName_e, dgTup_e, dgCons_e, dgNil_e, dTest_e, dAnd_e, dOr_e, dNot_e, dYes_e, dIf_e, dAndV_e, dOrV_e, dNotV_e, dIsi_e, dBits_e, dTuple_e, dSeqI_e, dChain_e, i2_e, i2'_e, u1_e, eqP_int, neP_int, addP_int, addP_tup, addP_lst, lenP_lst, lenP_tup, lenP_scr, absP_int, intP_int, isN_P, notN_P, isB2_P, tuple_lst, sel_t, sel_f, ixP_t0, ixP_t1, ixP_l0, ixP_l1, ixP_own0, ixP_own1, startD, List.map_cons, List.map_nil, List.length_cons, List.length_nil, List.cons_append, List.nil_append, List.getElem?_cons_zero, List.getElem?_cons_succ, List.set_cons_zero, List.set_cons_succ, Nat.reduceAdd, Nat.reduceSub, List.replicate_succ, List.replicate_zero, Option.some.injEq]
    refine sel_of (fun h => ?_) fun h => ?_
    · exact hN (stp_len (by simpa using h))
    · have hlen : (xs.length : Int) = 4 := by simpa using h
      refine num_row hl hx ?_
      refine allP_bls ?_
      simp only [dC_e, dVar_e, dOwn_e, dOp_e, dUn_e, dNil_e, dCons_e, dTup_e, dLst_e, dCB_e, dCall_e, dCallB_e, dSeq_e, dNext_e, dBreak_e, dCont_e, dDrop_e, dRet_e, dRetN_e, dIfS_e, dSet_e, dSetO_e, dAug_e, dRaise_e, dApp_e, dAsg_e, dPar_e, dPar3_e, dPar_vvo_e, dgName_e, dgTup_e, dgCons_e, dgNil_e, dTest_e, dAnd_e, dOr_e, dNot_e, dYes_e, dIf_e, dAndV_e, dOrV_e, dNotV_e, dIsi_e, dBits_e, dTuple_e, dSeqI_e, dChain_e, i2_e, i2'_e, u1_e, eqP_int, neP_int, addP_int, addP_tup, addP_lst, lenP_lst, lenP_tup, lenP_scr, absP_int, intP_int, isN_P, notN_P, isB2_P, tuple_lst, sel_t, sel_f, ixP_t0, ixP_t1, ixP_l0, ixP_l1, ixP_own0, ixP_own1, startD, List.map_cons, List.map_nil, List.length_cons, List.length_nil, List.cons_append, List.nil_append, List.getElem?_cons_zero, List.getElem?_cons_succ, List.set_cons_zero, List.set_cons_succ, Nat.reduceAdd, Nat.reduceSub, List.replicate_succ, List.replicate_zero, Option.some.injEq]
      refine sel_of (fun h => ?_) fun h => ?_
      · exact hN (stp_not (by simpa using h))
      · obtain ⟨l, rfl, hi⟩ := nums_of (by simpa using h)
        rw [List.length_map] at hlen
        obtain ⟨a, b, c, e, rfl⟩ : ∃ a b c e, l = [a, b, c, e] := by
          match l, hlen with
          | [a, b, c, e], _ => exact ⟨a, b, c, e, rfl⟩
          | [], h => cases h
          | [_], h => cases h
          | [_, _], h => cases h
          | [_, _, _], h => cases h
          | _ :: _ :: _ :: _ :: _ :: _, h => simp at h; omega
        have hs : ∀ i ∈ [a, b, c, e], Bn 64 i := fun i h => by
          have := hi i h
          exact Bn.of_le (n := 10000) (by omega) (by decide)
        have b1 := hs a (by simp)
        have b2 := hs b (by simp)
        have b3 := hs c (by simp)
        have b4 := hs e (by simp)
        simp only [dC_e, dVar_e, dOwn_e, dOp_e, dUn_e, dNil_e, dCons_e, dTup_e, dLst_e, dCB_e, dCall_e, dCallB_e, dSeq_e, dNext_e, dBreak_e, dCont_e, dDrop_e, dRet_e, dRetN_e, dIfS_e, dSet_e, dSetO_e, dAug_e, dRaise_e, dApp_e, dAsg_e, dPar_e, dPar3_e, dPar_vvo_e, dgName_e, dgTup_e, dgCons_e, dgNil_e, dTest_e, dAnd_e, dOr_e, dNot_e, dYes_e, dIf_e, dAndV_e, dOrV_e, dNotV_e, dIsi_e, dBits_e, dTuple_e, dSeqI_e, dChain_e, i2_e, i2'_e, u1_e, eqP_int, neP_int, addP_int, addP_tup, addP_lst, lenP_lst, lenP_tup, lenP_scr, absP_int, intP_int, isN_P, notN_P, isB2_P, tuple_lst, sel_t, sel_f, ixP_t0, ixP_t1, ixP_l0, ixP_l1, ixP_own0, ixP_own1, startD, List.map_cons, List.map_nil, List.length_cons, List.length_nil, List.cons_append, List.nil_append, List.getElem?_cons_zero, List.getElem?_cons_succ, List.set_cons_zero, List.set_cons_succ, Nat.reduceAdd, Nat.reduceSub, List.replicate_succ, List.replicate_zero, Option.some.injEq, List.map_cons, List.map_nil, ixP_t2, ixP_t3]
        repeat (refine And.intro (by exact mok (by repeat' (first | assumption | exact Bn.lit | apply Bn.mul | apply Bn.add | apply Bn.sub | apply Bn.neg)) (by repeat' (first | assumption | exact Bn.lit | apply Bn.mul | apply Bn.add | apply Bn.sub | apply Bn.neg)) (by omega)) ?_)
        refine sel_of (fun h => ?_) fun h => ?_
        · have h1 : ¬ a * e - b * c = 1 := by simpa using h
          exact hN (decide_eq_false fun z => h1 z.2.2.2.2)
        · have h1 : a * e - b * c = 1 := by simpa using h
          exact hY (decide_eq_true ⟨hi a (by simp), hi b (by simp), hi c (by simp), hi e (by simp), h1⟩)
  | _ => exact sel_y rfl (hN rfl)
theorem stp_b {m : M4} (h : StpM m) : Mb 64 m := by
  obtain ⟨h1, h2, h3, h4, _⟩ := h
  exact ⟨Bn.of_le (n := 10000) (by omega) (by decide), Bn.of_le (n := 10000) (by omega) (by decide), Bn.of_le (n := 10000) (by omega) (by decide), Bn.of_le (n := 10000) (by omega) (by decide)⟩
theorem sp_stepped : ∀ args P W, args.length = 2 → F_stepped args P W → d_stepped W ⟨fun _ => P .non, fun d ρ => P (retD ρ d), fun _ => False, fun _ => False⟩ (startD 2 args) := by
  rintro args P W _ ⟨d, e, rfl, hd, he, hY, hN, hM⟩
  simp only [dC_e, dVar_e, dOwn_e, dOp_e, dUn_e, dNil_e, dCons_e, dTup_e, dLst_e, dCB_e, dCall_e, dCallB_e, dSeq_e, dNext_e, dBreak_e, dCont_e, dDrop_e, dRet_e, dRetN_e, dIfS_e, dSet_e, dSetO_e, dAug_e, dRaise_e, dApp_e, dAsg_e, dPar_e, dPar3_e, dPar_vvo_e, dgName_e, dgTup_e, dgCons_e, dgNil_e, dTest_e, dAnd_e, dOr_e, dNot_e, dYes_e, dIf_e, dAndV_e, dOrV_e, dNotV_e, dIsi_e, dBits_e, dTuple_e, dSeqI_e, dChain_e, i2_e, i2'_e, u1_e, eqP_int, neP_int, addP_int, addP_tup, addP_lst, lenP_lst, lenP_tup, lenP_scr, absP_int, intP_int, isN_P, notN_P, isB2_P, tuple_lst, sel_t, sel_f, ixP_t0, ixP_t1, ixP_l0, ixP_l1, ixP_own0, ixP_own1, startD, List.map_cons, List.map_nil, List.length_cons, List.length_nil, List.cons_append, List.nil_append, List.getElem?_cons_zero, List.getElem?_cons_succ, List.set_cons_zero, List.set_cons_succ, Nat.reduceAdd, Nat.reduceSub, List.replicate_succ, List.replicate_zero, Option.some.injEq, d_stepped]
  refine ⟨d, rfl, hd, fun h => ?_, hN⟩
  refine ⟨e, rfl, he, fun h2 => ?_, hM h⟩
  obtain ⟨f, rfl, hf, bf⟩ := two_of h hd
  obtain ⟨m, rfl, hm⟩ := stp_of h2
  exact ⟨f, m, rfl, bf.mono (by decide), (stp_b hm).mono (by decide), hY f m rfl rfl hf hm⟩
theorem fD_inj {f g : F3} (h : fD f = fD g) : f = g := by
  obtain ⟨a, b, c⟩ := f
  obtain ⟨x, y, z⟩ := g
  simp only [fD, D.tup.injEq, List.cons.injEq, D.int.injEq, and_true] at h
  obtain ⟨rfl, rfl, rfl⟩ := h
  rfl
theorem eqD_fD (f g : F3) : eqD (fD f) (fD g) = decide (f = g) := by
  obtain ⟨a, b, c⟩ := f
  obtain ⟨x, y, z⟩ := g
  simp only [fD, eqD_tup, eqDs, eqD_int, F3.mk.injEq]
  by_cases h1 : a = x <;> by_cases h2 : b = y <;> by_cases h3 : c = z <;> simp [h1, h2, h3]
theorem okN_fD (f : F3) : okN 60 (fD f) = true := by
  simp only [fD, okN, okNs, Bool.and_true]
theorem eqP_fD {ρ : PD.Env} {f g : F3} {k : D → Prop} : eqP ρ (fD f) (fD g) k = k (.bl (decide (f = g))) := by
  unfold eqP
  rw [show deref ρ (fD f) = fD f from rfl, show deref ρ (fD g) = fD g from rfl, eqD_fD]
  simp only [okN_fD, true_and]
theorem neP_fD {ρ : PD.Env} {f g : F3} {k : D → Prop} : neP ρ (fD f) (fD g) k = k (.bl (!decide (f = g))) := by
  unfold neP
  rw [show deref ρ (fD f) = fD f from rfl, show deref ρ (fD g) = fD g from rfl, eqD_fD]
  simp only [okN_fD, true_and]
theorem sp_same : ∀ args P W, args.length = 2 → F_same args P W → d_same W ⟨fun _ => P .non, fun d ρ => P (retD ρ d), fun _ => False, fun _ => False⟩ (startD 10 args) := by
  rintro args P W _ ⟨d, e, rfl, hd, he, hY, hN⟩
  simp only [dC_e, dVar_e, dOwn_e, dOp_e, dUn_e, dNil_e, dCons_e, dTup_e, dLst_e, dCB_e, dCall_e, dCallB_e, dSeq_e, dNext_e, dBreak_e, dCont_e, dDrop_e, dRet_e, dRetN_e, dIfS_e, dSet_e, dSetO_e, dAug_e, dRaise_e, dApp_e, dAsg_e, dPar_e, dPar3_e, dPar_vvo_e, dgName_e, dgTup_e, dgCons_e, dgNil_e, dTest_e, dAnd_e, dOr_e, dNot_e, dYes_e, dIf_e, dAndV_e, dOrV_e, dNotV_e, dIsi_e, dBits_e, dTuple_e, dSeqI_e, dChain_e, i2_e, i2'_e, u1_e, eqP_int, neP_int, addP_int, addP_tup, addP_lst, lenP_lst, lenP_tup, lenP_scr, absP_int, intP_int, isN_P, notN_P, isB2_P, tuple_lst, sel_t, sel_f, ixP_t0, ixP_t1, ixP_l0, ixP_l1, ixP_own0, ixP_own1, startD, List.map_cons, List.map_nil, List.length_cons, List.length_nil, List.cons_append, List.nil_append, List.getElem?_cons_zero, List.getElem?_cons_succ, List.set_cons_zero, List.set_cons_succ, Nat.reduceAdd, Nat.reduceSub, List.replicate_succ, List.replicate_zero, Option.some.injEq, d_same]
  refine ⟨d, rfl, hd, fun h => ?_, fun h => hN (by rw [h]; rfl)⟩
  refine ⟨e, rfl, he, fun h2 => ?_, fun h2 => hN (by rw [h2, Bool.and_false])⟩
  obtain ⟨f, rfl, hf, bf⟩ := two_of h hd
  obtain ⟨g, rfl, hg, bg⟩ := two_of h2 he
  obtain ⟨hY, hNo⟩ := hY f g rfl rfl hf hg
  refine ⟨f, rfl, bf.mono (by decide), ⟨hf.1, hf.2.1, hf.2.2.1⟩, fun f' m hf' hm em bm => ?_⟩
  simp only [dC_e, dVar_e, dOwn_e, dOp_e, dUn_e, dNil_e, dCons_e, dTup_e, dLst_e, dCB_e, dCall_e, dCallB_e, dSeq_e, dNext_e, dBreak_e, dCont_e, dDrop_e, dRet_e, dRetN_e, dIfS_e, dSet_e, dSetO_e, dAug_e, dRaise_e, dApp_e, dAsg_e, dPar_e, dPar3_e, dPar_vvo_e, dgName_e, dgTup_e, dgCons_e, dgNil_e, dTest_e, dAnd_e, dOr_e, dNot_e, dYes_e, dIf_e, dAndV_e, dOrV_e, dNotV_e, dIsi_e, dBits_e, dTuple_e, dSeqI_e, dChain_e, i2_e, i2'_e, u1_e, eqP_int, neP_int, addP_int, addP_tup, addP_lst, lenP_lst, lenP_tup, lenP_scr, absP_int, intP_int, isN_P, notN_P, isB2_P, tuple_lst, sel_t, sel_f, ixP_t0, ixP_t1, ixP_l0, ixP_l1, ixP_own0, ixP_own1, startD, List.map_cons, List.map_nil, List.length_cons, List.length_nil, List.cons_append, List.nil_append, List.getElem?_cons_zero, List.getElem?_cons_succ, List.set_cons_zero, List.set_cons_succ, Nat.reduceAdd, Nat.reduceSub, List.replicate_succ, List.replicate_zero, Option.some.injEq]
  refine ⟨trivial, g, rfl, bg.mono (by decide), ⟨hg.1, hg.2.1, hg.2.2.1⟩, fun g' n hg' hn en bn => ?_⟩
  obtain ⟨p, q, r, s⟩ := n
  obtain ⟨n1, n2, n3, n4⟩ := id bn
  dsimp only at n1 n2 n3 n4
  unfold mD
  simp only [dC_e, dVar_e, dOwn_e, dOp_e, dUn_e, dNil_e, dCons_e, dTup_e, dLst_e, dCB_e, dCall_e, dCallB_e, dSeq_e, dNext_e, dBreak_e, dCont_e, dDrop_e, dRet_e, dRetN_e, dIfS_e, dSet_e, dSetO_e, dAug_e, dRaise_e, dApp_e, dAsg_e, dPar_e, dPar3_e, dPar_vvo_e, dgName_e, dgTup_e, dgCons_e, dgNil_e, dTest_e, dAnd_e, dOr_e, dNot_e, dYes_e, dIf_e, dAndV_e, dOrV_e, dNotV_e, dIsi_e, dBits_e, dTuple_e, dSeqI_e, dChain_e, i2_e, i2'_e, u1_e, eqP_int, neP_int, addP_int, addP_tup, addP_lst, lenP_lst, lenP_tup, lenP_scr, absP_int, intP_int, isN_P, notN_P, isB2_P, tuple_lst, sel_t, sel_f, ixP_t0, ixP_t1, ixP_l0, ixP_l1, ixP_own0, ixP_own1, startD, List.map_cons, List.map_nil, List.length_cons, List.length_nil, List.cons_append, List.nil_append, List.getElem?_cons_zero, List.getElem?_cons_succ, List.set_cons_zero, List.set_cons_succ, Nat.reduceAdd, Nat.reduceSub, List.replicate_succ, List.replicate_zero, Option.some.injEq, u1_e]
  refine ⟨trivial, trivial, ?_⟩
  rw [eqP_fD]
  simp only [dC_e, dVar_e, dOwn_e, dOp_e, dUn_e, dNil_e, dCons_e, dTup_e, dLst_e, dCB_e, dCall_e, dCallB_e, dSeq_e, dNext_e, dBreak_e, dCont_e, dDrop_e, dRet_e, dRetN_e, dIfS_e, dSet_e, dSetO_e, dAug_e, dRaise_e, dApp_e, dAsg_e, dPar_e, dPar3_e, dPar_vvo_e, dgName_e, dgTup_e, dgCons_e, dgNil_e, dTest_e, dAnd_e, dOr_e, dNot_e, dYes_e, dIf_e, dAndV_e, dOrV_e, dNotV_e, dIsi_e, dBits_e, dTuple_e, dSeqI_e, dChain_e, i2_e, i2'_e, u1_e, eqP_int, neP_int, addP_int, addP_tup, addP_lst, lenP_lst, lenP_tup, lenP_scr, absP_int, intP_int, isN_P, notN_P, isB2_P, tuple_lst, sel_t, sel_f, ixP_t0, ixP_t1, ixP_l0, ixP_l1, ixP_own0, ixP_own1, startD, List.map_cons, List.map_nil, List.length_cons, List.length_nil, List.cons_append, List.nil_append, List.getElem?_cons_zero, List.getElem?_cons_succ, List.set_cons_zero, List.set_cons_succ, Nat.reduceAdd, Nat.reduceSub, List.replicate_succ, List.replicate_zero, Option.some.injEq]
  refine sel_of (fun h => ?_) fun h => ?_
  · have e1 : f' = g' := of_decide_eq_true h
    refine ⟨m, ⟨s, -q, -r, p⟩, rfl, bm.mono (by decide), ⟨n4.mono (by decide), n2.neg.mono (by decide), n3.neg.mono (by decide), n1.mono (by decide)⟩, ?_⟩
    refine hY _ (by rw [det_mul, hm]; show 1 * det (invM ⟨p, q, r, s⟩) = 1; rw [det_inv, hn]; rfl) ?_ ?_
    · rw [← act_mul, em, e1, ← en]
      exact act_inv hn
    · obtain ⟨m1, m2, m3, m4⟩ := bm
      have ne := n2.neg
      have nr := n3.neg
      exact ⟨Bn.mono (show Bn (_ + _ + 1) _ from ((m1.mul n4).add (m2.mul nr))) (by decide), Bn.mono (show Bn (_ + _ + 1) _ from ((m1.mul ne).add (m2.mul n1))) (by decide), Bn.mono (show Bn (_ + _ + 1) _ from ((m3.mul n4).add (m4.mul nr))) (by decide), Bn.mono (show Bn (_ + _ + 1) _ from ((m3.mul ne).add (m4.mul n1))) (by decide)⟩
  · have e1 : ¬ f' = g' := of_decide_eq_false h
    refine hNo fun z => e1 ?_
    exact eqv_red hf' hg' (((Eqv.symm ⟨m, hm, em⟩).trans z).trans ⟨_, hn, en⟩)
theorem sp__law_is_step : ∀ args P W, args.length = 1 → F__law_is_step args P W → d__law_is_step W ⟨fun _ => P .non, fun d ρ => P (retD ρ d), fun _ => False, fun _ => False⟩ (startD 2 args) := by
  rintro args P W _ ⟨⟨p, q, r, s⟩, rfl, ⟨b1, b2, b3, b4⟩, hP⟩
  dsimp only at b1 b2 b3 b4
  have row : ∀ {Q : D → PD.Env → Prop}, Q (.lst []) [some (mD ⟨p, q, r, s⟩), none] → dLc (dSeqI (dVar 0)) (dgName 1) (dNot (dTest (dIsi isInt (dVar 1)))) (dVar 1) [1] [some (mD ⟨p, q, r, s⟩), none] Q := fun {Q} h => by
    simp only [dC_e, dVar_e, dOwn_e, dOp_e, dUn_e, dNil_e, dCons_e, dTup_e, dLst_e, dCB_e, dCall_e, dCallB_e, dSeq_e, dNext_e, dBreak_e, dCont_e, dDrop_e, dRet_e, dRetN_e, dIfS_e, dSet_e, dSetO_e, dAug_e, dRaise_e, dApp_e, dAsg_e, dPar_e, dPar3_e, dPar_vvo_e, dgName_e, dgTup_e, dgCons_e, dgNil_e, dTest_e, dAnd_e, dOr_e, dNot_e, dYes_e, dIf_e, dAndV_e, dOrV_e, dNotV_e, dIsi_e, dBits_e, dTuple_e, dSeqI_e, dChain_e, i2_e, i2'_e, u1_e, eqP_int, neP_int, addP_int, addP_tup, addP_lst, lenP_lst, lenP_tup, lenP_scr, absP_int, intP_int, isN_P, notN_P, isB2_P, tuple_lst, sel_t, sel_f, ixP_t0, ixP_t1, ixP_l0, ixP_l1, ixP_own0, ixP_own1, startD, List.map_cons, List.map_nil, List.length_cons, List.length_nil, List.cons_append, List.nil_append, List.getElem?_cons_zero, List.getElem?_cons_succ, List.set_cons_zero, List.set_cons_succ, Nat.reduceAdd, Nat.reduceSub, List.replicate_succ, List.replicate_zero, Option.some.injEq, dLc, mD]
    refine ⟨fun i acc ρ => ρ = [some (mD ⟨p, q, r, s⟩), none] ∧ acc = [], ⟨rfl, rfl⟩, ?_, ?_⟩
    · rintro i d acc ρ2 hi ⟨rfl, rfl⟩
      have : ∃ z, d = .int z := by
        have := List.mem_of_getElem? hi
        simp only [List.mem_cons, List.not_mem_nil, or_false] at this
        rcases this with rfl | rfl | rfl | rfl <;> exact ⟨_, rfl⟩
      obtain ⟨z, rfl⟩ := this
      exact ⟨rfl, rfl, rfl⟩
    · rintro acc ρ2 ⟨rfl, rfl⟩
      exact h
  simp only [dC_e, dVar_e, dOwn_e, dOp_e, dUn_e, dNil_e, dCons_e, dTup_e, dLst_e, dCB_e, dCall_e, dCallB_e, dSeq_e, dNext_e, dBreak_e, dCont_e, dDrop_e, dRet_e, dRetN_e, dIfS_e, dSet_e, dSetO_e, dAug_e, dRaise_e, dApp_e, dAsg_e, dPar_e, dPar3_e, dPar_vvo_e, dgName_e, dgTup_e, dgCons_e, dgNil_e, dTest_e, dAnd_e, dOr_e, dNot_e, dYes_e, dIf_e, dAndV_e, dOrV_e, dNotV_e, dIsi_e, dBits_e, dTuple_e, dSeqI_e, dChain_e, i2_e, i2'_e, u1_e, eqP_int, neP_int, addP_int, addP_tup, addP_lst, lenP_lst, lenP_tup, lenP_scr, absP_int, intP_int, isN_P, notN_P, isB2_P, tuple_lst, sel_t, sel_f, ixP_t0, ixP_t1, ixP_l0, ixP_l1, ixP_own0, ixP_own1, startD, List.map_cons, List.map_nil, List.length_cons, List.length_nil, List.cons_append, List.nil_append, List.getElem?_cons_zero, List.getElem?_cons_succ, List.set_cons_zero, List.set_cons_succ, Nat.reduceAdd, Nat.reduceSub, List.replicate_succ, List.replicate_zero, Option.some.injEq, d__law_is_step]
  refine ⟨rfl, ?_⟩
  refine sel_y rfl ?_
  unfold mD at *
  simp only [dC_e, dVar_e, dOwn_e, dOp_e, dUn_e, dNil_e, dCons_e, dTup_e, dLst_e, dCB_e, dCall_e, dCallB_e, dSeq_e, dNext_e, dBreak_e, dCont_e, dDrop_e, dRet_e, dRetN_e, dIfS_e, dSet_e, dSetO_e, dAug_e, dRaise_e, dApp_e, dAsg_e, dPar_e, dPar3_e, dPar_vvo_e, dgName_e, dgTup_e, dgCons_e, dgNil_e, dTest_e, dAnd_e, dOr_e, dNot_e, dYes_e, dIf_e, dAndV_e, dOrV_e, dNotV_e, dIsi_e, dBits_e, dTuple_e, dSeqI_e, dChain_e, i2_e, i2'_e, u1_e, eqP_int, neP_int, addP_int, addP_tup, addP_lst, lenP_lst, lenP_tup, lenP_scr, absP_int, intP_int, isN_P, notN_P, isB2_P, tuple_lst, sel_t, sel_f, ixP_t0, ixP_t1, ixP_l0, ixP_l1, ixP_own0, ixP_own1, startD, List.map_cons, List.map_nil, List.length_cons, List.length_nil, List.cons_append, List.nil_append, List.getElem?_cons_zero, List.getElem?_cons_succ, List.set_cons_zero, List.set_cons_succ, Nat.reduceAdd, Nat.reduceSub, List.replicate_succ, List.replicate_zero, Option.some.injEq]
  refine sel_y rfl ?_
  refine row ?_
  simp only [dC_e, dVar_e, dOwn_e, dOp_e, dUn_e, dNil_e, dCons_e, dTup_e, dLst_e, dCB_e, dCall_e, dCallB_e, dSeq_e, dNext_e, dBreak_e, dCont_e, dDrop_e, dRet_e, dRetN_e, dIfS_e, dSet_e, dSetO_e, dAug_e, dRaise_e, dApp_e, dAsg_e, dPar_e, dPar3_e, dPar_vvo_e, dgName_e, dgTup_e, dgCons_e, dgNil_e, dTest_e, dAnd_e, dOr_e, dNot_e, dYes_e, dIf_e, dAndV_e, dOrV_e, dNotV_e, dIsi_e, dBits_e, dTuple_e, dSeqI_e, dChain_e, i2_e, i2'_e, u1_e, eqP_int, neP_int, addP_int, addP_tup, addP_lst, lenP_lst, lenP_tup, lenP_scr, absP_int, intP_int, isN_P, notN_P, isB2_P, tuple_lst, sel_t, sel_f, ixP_t0, ixP_t1, ixP_l0, ixP_l1, ixP_own0, ixP_own1, startD, List.map_cons, List.map_nil, List.length_cons, List.length_nil, List.cons_append, List.nil_append, List.getElem?_cons_zero, List.getElem?_cons_succ, List.set_cons_zero, List.set_cons_succ, Nat.reduceAdd, Nat.reduceSub, List.replicate_succ, List.replicate_zero, Option.some.injEq]
  refine sel_y rfl ?_
  simp only [dC_e, dVar_e, dOwn_e, dOp_e, dUn_e, dNil_e, dCons_e, dTup_e, dLst_e, dCB_e, dCall_e, dCallB_e, dSeq_e, dNext_e, dBreak_e, dCont_e, dDrop_e, dRet_e, dRetN_e, dIfS_e, dSet_e, dSetO_e, dAug_e, dRaise_e, dApp_e, dAsg_e, dPar_e, dPar3_e, dPar_vvo_e, dgName_e, dgTup_e, dgCons_e, dgNil_e, dTest_e, dAnd_e, dOr_e, dNot_e, dYes_e, dIf_e, dAndV_e, dOrV_e, dNotV_e, dIsi_e, dBits_e, dTuple_e, dSeqI_e, dChain_e, i2_e, i2'_e, u1_e, eqP_int, neP_int, addP_int, addP_tup, addP_lst, lenP_lst, lenP_tup, lenP_scr, absP_int, intP_int, isN_P, notN_P, isB2_P, tuple_lst, sel_t, sel_f, ixP_t0, ixP_t1, ixP_l0, ixP_l1, ixP_own0, ixP_own1, startD, List.map_cons, List.map_nil, List.length_cons, List.length_nil, List.cons_append, List.nil_append, List.getElem?_cons_zero, List.getElem?_cons_succ, List.set_cons_zero, List.set_cons_succ, Nat.reduceAdd, Nat.reduceSub, List.replicate_succ, List.replicate_zero, Option.some.injEq, ixP_t2, ixP_t3]
  repeat (refine And.intro (by exact mok (by repeat' (first | assumption | exact Bn.lit | apply Bn.mul | apply Bn.add | apply Bn.sub | apply Bn.neg)) (by repeat' (first | assumption | exact Bn.lit | apply Bn.mul | apply Bn.add | apply Bn.sub | apply Bn.neg)) (by omega)) ?_)
  exact hP
end K08

end
section
set_option Elab.async false
set_option linter.all false
set_option maxRecDepth 100000
/-! k08: the law's own small defs -/
namespace K08
open PySem L2 PD NT

theorem sp__law_cell : ∀ args P W, args.length = 2 → F__law_cell args P W → d__law_cell W ⟨fun _ => P .non, fun d ρ => P (retD ρ d), fun _ => False, fun _ => False⟩ (startD 2 args) := by
  rintro args P W _ ⟨ns, k, rfl, ⟨hl, hb⟩, hP⟩
  simp only [dC_e, dVar_e, dOwn_e, dOp_e, dUn_e, dNil_e, dCons_e, dTup_e, dLst_e, dCB_e, dCall_e, dCallB_e, dSeq_e, dNext_e, dBreak_e, dCont_e, dDrop_e, dRet_e, dRetN_e, dIfS_e, dSet_e, dSetO_e, dAug_e, dRaise_e, dApp_e, dAsg_e, dPar_e, dPar3_e, dPar_vvo_e, dgName_e, dgTup_e, dgCons_e, dgNil_e, dTest_e, dAnd_e, dOr_e, dNot_e, dYes_e, dIf_e, dAndV_e, dOrV_e, dNotV_e, dIsi_e, dBits_e, dTuple_e, dSeqI_e, dChain_e, i2_e, i2'_e, u1_e, eqP_int, neP_int, addP_int, addP_tup, addP_lst, lenP_lst, lenP_tup, lenP_scr, absP_int, intP_int, isN_P, notN_P, isB2_P, tuple_lst, sel_t, sel_f, ixP_t0, ixP_t1, ixP_l0, ixP_l1, ixP_own0, ixP_own1, startD, List.map_cons, List.map_nil, List.length_cons, List.length_nil, List.cons_append, List.nil_append, List.getElem?_cons_zero, List.getElem?_cons_succ, List.set_cons_zero, List.set_cons_succ, Nat.reduceAdd, Nat.reduceSub, List.replicate_succ, List.replicate_zero, Option.some.injEq, d__law_cell]
  refine sel_of (fun h => ?_) (fun h => ?_)
  · have hk : k < ns.length := by
      have := of_decide_eq_true h
      rw [List.length_map] at this
      omega
    rw [ixP_scr (List.getElem?_eq_getElem hk)]
    exact hP _ (hb _ (List.getElem_mem hk))
  · exact hP 0 (by decide)
theorem sp__law_stream : ∀ args P, args.length = 2 → F__law_stream args P noX → d__law_stream (startD 2 args) fun d _ => P d := by
  rintro args P _ ⟨ns, k, rfl, hs, hP⟩
  simp only [dC_e, dVar_e, dOwn_e, dOp_e, dUn_e, dNil_e, dCons_e, dTup_e, dLst_e, dCB_e, dCall_e, dCallB_e, dSeq_e, dNext_e, dBreak_e, dCont_e, dDrop_e, dRet_e, dRetN_e, dIfS_e, dSet_e, dSetO_e, dAug_e, dRaise_e, dApp_e, dAsg_e, dPar_e, dPar3_e, dPar_vvo_e, dgName_e, dgTup_e, dgCons_e, dgNil_e, dTest_e, dAnd_e, dOr_e, dNot_e, dYes_e, dIf_e, dAndV_e, dOrV_e, dNotV_e, dIsi_e, dBits_e, dTuple_e, dSeqI_e, dChain_e, i2_e, i2'_e, u1_e, eqP_int, neP_int, addP_int, addP_tup, addP_lst, lenP_lst, lenP_tup, lenP_scr, absP_int, intP_int, isN_P, notN_P, isB2_P, tuple_lst, sel_t, sel_f, ixP_t0, ixP_t1, ixP_l0, ixP_l1, ixP_own0, ixP_own1, startD, List.map_cons, List.map_nil, List.length_cons, List.length_nil, List.cons_append, List.nil_append, List.getElem?_cons_zero, List.getElem?_cons_succ, List.set_cons_zero, List.set_cons_succ, Nat.reduceAdd, Nat.reduceSub, List.replicate_succ, List.replicate_zero, Option.some.injEq, d__law_stream]
  refine ⟨ns, k, rfl, hs, fun i hi => ⟨ns, k, rfl, hs, fun j hj => ?_⟩⟩
  simp only [dC_e, dVar_e, dOwn_e, dOp_e, dUn_e, dNil_e, dCons_e, dTup_e, dLst_e, dCB_e, dCall_e, dCallB_e, dSeq_e, dNext_e, dBreak_e, dCont_e, dDrop_e, dRet_e, dRetN_e, dIfS_e, dSet_e, dSetO_e, dAug_e, dRaise_e, dApp_e, dAsg_e, dPar_e, dPar3_e, dPar_vvo_e, dgName_e, dgTup_e, dgCons_e, dgNil_e, dTest_e, dAnd_e, dOr_e, dNot_e, dYes_e, dIf_e, dAndV_e, dOrV_e, dNotV_e, dIsi_e, dBits_e, dTuple_e, dSeqI_e, dChain_e, i2_e, i2'_e, u1_e, eqP_int, neP_int, addP_int, addP_tup, addP_lst, lenP_lst, lenP_tup, lenP_scr, absP_int, intP_int, isN_P, notN_P, isB2_P, tuple_lst, sel_t, sel_f, ixP_t0, ixP_t1, ixP_l0, ixP_l1, ixP_own0, ixP_own1, startD, List.map_cons, List.map_nil, List.length_cons, List.length_nil, List.cons_append, List.nil_append, List.getElem?_cons_zero, List.getElem?_cons_succ, List.set_cons_zero, List.set_cons_succ, Nat.reduceAdd, Nat.reduceSub, List.replicate_succ, List.replicate_zero, Option.some.injEq]
  refine ⟨by decide, hP _ ⟨i.natAbs, j.natAbs % 1000003 + 7, ?_, by rw [bits_abs]; exact hi, by omega⟩⟩
  have : ((j.natAbs : Int) % 1000003 + 7) = ((j.natAbs % 1000003 + 7 : Nat) : Int) := by omega
  rw [this]
theorem sp__law_draw : ∀ bx args P W, args.length + 1 = 2 → F__law_draw (bx :: args) P W → d__law_draw W ⟨fun ρ => ∃ b, ρ[0]? = some (some b) ∧ P .non b, fun d ρ => ∃ b, ρ[0]? = some (some b) ∧ NotOwn d ∧ P d b, fun _ => False, fun _ => False⟩ (startD 3 (bx :: args)) := by
  rintro bx args P W _ ⟨bx', many, e, ⟨a, b, rfl, ha, hb⟩, h1, h2, hP⟩
  cases e
  simp only [dC_e, dVar_e, dOwn_e, dOp_e, dUn_e, dNil_e, dCons_e, dTup_e, dLst_e, dCB_e, dCall_e, dCallB_e, dSeq_e, dNext_e, dBreak_e, dCont_e, dDrop_e, dRet_e, dRetN_e, dIfS_e, dSet_e, dSetO_e, dAug_e, dRaise_e, dApp_e, dAsg_e, dPar_e, dPar3_e, dPar_vvo_e, dgName_e, dgTup_e, dgCons_e, dgNil_e, dTest_e, dAnd_e, dOr_e, dNot_e, dYes_e, dIf_e, dAndV_e, dOrV_e, dNotV_e, dIsi_e, dBits_e, dTuple_e, dSeqI_e, dChain_e, i2_e, i2'_e, u1_e, eqP_int, neP_int, addP_int, addP_tup, addP_lst, lenP_lst, lenP_tup, lenP_scr, absP_int, intP_int, isN_P, notN_P, isB2_P, tuple_lst, sel_t, sel_f, ixP_t0, ixP_t1, ixP_l0, ixP_l1, ixP_own0, ixP_own1, startD, List.map_cons, List.map_nil, List.length_cons, List.length_nil, List.cons_append, List.nil_append, List.getElem?_cons_zero, List.getElem?_cons_succ, List.set_cons_zero, List.set_cons_succ, Nat.reduceAdd, Nat.reduceSub, List.replicate_succ, List.replicate_zero, Option.some.injEq, d__law_draw, dSetIx]
  refine sel_of (fun h => ?_) (fun h => ?_)
  · have e1 : (a : Int) % (many : Int) = ((a % many : Nat) : Int) := by omega
    have e2 : (a : Int) / (many : Int) = ((a / many : Nat) : Int) := by simp
    refine ⟨by omega, dok (by omega) (Bn.of_le (n := 2 ^ 62) (by omega) (by decide) : Bn 63 _) (by decide), ?_⟩
    rw [e1, e2]
    refine ⟨_, rfl, trivial, hP (a % many) _ ⟨a / many, b, rfl, Nat.le_trans (bits_le (Nat.div_le_self _ _)) ha, hb⟩ (Nat.mod_lt _ h1)⟩
  · refine ⟨mok (Bn.of_le (n := 2 ^ 62) (by omega) (by decide) : Bn 63 _) (Bn.lit) (by decide), by decide, ?_⟩
    have e1 : ((b : Int) * 48271 + 12345) % 2147483647 = (((b * 48271 + 12345) % 2147483647 : Nat) : Int) := by omega
    rw [e1]
    have e2 : ((((b * 48271 + 12345) % 2147483647 : Nat) : Int) / 64) % (many : Int) = (((b * 48271 + 12345) % 2147483647 / 64 % many : Nat) : Int) := by simp
    refine ⟨dok (by decide) Bn.lit (by decide), by omega, ?_⟩
    refine ⟨_, rfl, trivial, ?_⟩
    show P (.int (((((b * 48271 + 12345) % 2147483647 : Nat) : Int) / 64) % (many : Int))) _
    rw [e2]
    exact hP _ _ ⟨a, (b * 48271 + 12345) % 2147483647, rfl, ha, by omega⟩ (Nat.mod_lt _ h1)
theorem rdNs_get {n : Nat} : ∀ {xs : List D} {i : Nat} {d : D}, rdNs n xs = true → xs[i]? = some d → rdN n d = true
  | [], _, _, _, h => by simp at h
  | x :: xs, 0, d, o, h => by
    rw [rdNs, Bool.and_eq_true] at o
    simp at h
    exact h ▸ o.1
  | x :: xs, i + 1, d, o, h => by
    rw [rdNs, Bool.and_eq_true] at o
    exact rdNs_get o.2 (by simpa using h)
/-- a row that is read, one after another -/
theorem read_row {n : Nat} {xs : List D} {x0 : D} {Q : D → PD.Env → Prop} (hl : xs.length ≤ 100000) (ho : rdNs n xs = true) (hQ : Q (.lst xs) [some x0, none, none]) :
    ∃ W : Nat → List D → PD.Env → Prop, W 0 [] [some x0, none, none] ∧
      (∀ i d acc ρ2, xs[i]? = some d → W i acc ρ2 → dgName 2 d (wipeD ρ2 [2]) fun ρ3 => dYes ρ3 fun k ρ4 =>
        sel k ((dCall (readN n) noX (dCons (dVar 2) dNil)) ρ4 fun y ρ5 => acc.length < sizeLine ∧ W (i + 1) (acc ++ [y]) (backD [2] ρ2 ρ5)) (W (i + 1) acc (backD [2] ρ2 ρ4))) ∧ ∀ acc ρ2, W xs.length acc ρ2 → Q (.lst acc) ρ2 := by
  refine ⟨fun i acc ρ => ρ = [some x0, none, none] ∧ acc = xs.take i, ⟨rfl, rfl⟩, ?_, ?_⟩
  · rintro i d acc ρ2 hi ⟨rfl, rfl⟩
    refine ⟨d, rfl, rdNs_get ho hi, ?_, rfl, (take_snoc hi).symm⟩
    have := size_big
    rw [List.length_take]
    omega
  · rintro acc ρ2 ⟨rfl, rfl⟩
    rw [List.take_length]
    exact hQ
theorem read_step {n : Nat} : ∀ args P W, args.length = 1 → readN (n + 1) args P W → d__law_read (readN n) W ⟨fun _ => P .non, fun d ρ => P (retD ρ d), fun _ => False, fun _ => False⟩ (startD 3 args) := by
  rintro args P W _ ⟨d, rfl, ho, hP⟩
  simp only [dC_e, dVar_e, dOwn_e, dOp_e, dUn_e, dNil_e, dCons_e, dTup_e, dLst_e, dCB_e, dCall_e, dCallB_e, dSeq_e, dNext_e, dBreak_e, dCont_e, dDrop_e, dRet_e, dRetN_e, dIfS_e, dSet_e, dSetO_e, dAug_e, dRaise_e, dApp_e, dAsg_e, dPar_e, dPar3_e, dPar_vvo_e, dgName_e, dgTup_e, dgCons_e, dgNil_e, dTest_e, dAnd_e, dOr_e, dNot_e, dYes_e, dIf_e, dAndV_e, dOrV_e, dNotV_e, dIsi_e, dBits_e, dTuple_e, dSeqI_e, dChain_e, i2_e, i2'_e, u1_e, eqP_int, neP_int, addP_int, addP_tup, addP_lst, lenP_lst, lenP_tup, lenP_scr, absP_int, intP_int, isN_P, notN_P, isB2_P, tuple_lst, sel_t, sel_f, ixP_t0, ixP_t1, ixP_l0, ixP_l1, ixP_own0, ixP_own1, startD, List.map_cons, List.map_nil, List.length_cons, List.length_nil, List.cons_append, List.nil_append, List.getElem?_cons_zero, List.getElem?_cons_succ, List.set_cons_zero, List.set_cons_succ, Nat.reduceAdd, Nat.reduceSub, List.replicate_succ, List.replicate_zero, Option.some.injEq, d__law_read]
  cases d with
  | non => exact hP
  | bl b => cases b <;> exact hP
  | int i => exact ⟨rfl, hP⟩
  | str s =>
    rw [rdN] at ho
    have hs : s.length ≤ 1000 := of_decide_eq_true ho
    refine ⟨rfl, rfl, ?_⟩
    obtain ⟨ys, e1, e2, e3⟩ := signs_join s
    have hb := size_big
    have hl : (signs s).length = s.length := by unfold signs; rw [List.length_map, Array.length_toList]; rfl
    refine ⟨fun i acc ρ => ρ = [some (.str s), none, none] ∧ acc = (signs s).take i, ⟨rfl, rfl⟩, ?_, ?_⟩
    · rintro i d acc ρ2 hi ⟨rfl, rfl⟩
      exact ⟨by rw [List.length_take]; omega, rfl, (take_snoc hi).symm⟩
    · rintro acc ρ2 ⟨rfl, rfl⟩
      rw [List.take_length]
      exact ⟨ys, e1, by omega, by rw [e2]; exact hP⟩
  | tup xs =>
    rw [rdN, Bool.and_eq_true] at ho
    refine ⟨rfl, rfl, rfl, ?_⟩
    exact read_row (Q := fun d ρ1 => tupleP ρ1 d fun z => P (retD ρ1 z)) (of_decide_eq_true ho.1) ho.2 hP
  | lst xs =>
    rw [rdN, Bool.and_eq_true] at ho
    refine ⟨rfl, rfl, rfl, rfl, ?_⟩
    exact read_row (Q := fun d ρ1 => P (retD ρ1 d)) (of_decide_eq_true ho.1) ho.2 hP
  | fn a => rw [rdN] at ho; cases ho
  | own a => rw [rdN] at ho; cases ho
  | dct a b => rw [rdN] at ho; cases ho
  | scr a => rw [rdN] at ho; cases ho
theorem read_zero : ∀ args P W, args.length = 1 → readN 0 args P W → d__law_read (fun _ _ _ => False) W ⟨fun _ => P .non, fun d ρ => P (retD ρ d), fun _ => False, fun _ => False⟩ (startD 3 args) := by
  rintro args P W _ ⟨d, rfl, ho, hP⟩
  simp only [dC_e, dVar_e, dOwn_e, dOp_e, dUn_e, dNil_e, dCons_e, dTup_e, dLst_e, dCB_e, dCall_e, dCallB_e, dSeq_e, dNext_e, dBreak_e, dCont_e, dDrop_e, dRet_e, dRetN_e, dIfS_e, dSet_e, dSetO_e, dAug_e, dRaise_e, dApp_e, dAsg_e, dPar_e, dPar3_e, dPar_vvo_e, dgName_e, dgTup_e, dgCons_e, dgNil_e, dTest_e, dAnd_e, dOr_e, dNot_e, dYes_e, dIf_e, dAndV_e, dOrV_e, dNotV_e, dIsi_e, dBits_e, dTuple_e, dSeqI_e, dChain_e, i2_e, i2'_e, u1_e, eqP_int, neP_int, addP_int, addP_tup, addP_lst, lenP_lst, lenP_tup, lenP_scr, absP_int, intP_int, isN_P, notN_P, isB2_P, tuple_lst, sel_t, sel_f, ixP_t0, ixP_t1, ixP_l0, ixP_l1, ixP_own0, ixP_own1, startD, List.map_cons, List.map_nil, List.length_cons, List.length_nil, List.cons_append, List.nil_append, List.getElem?_cons_zero, List.getElem?_cons_succ, List.set_cons_zero, List.set_cons_succ, Nat.reduceAdd, Nat.reduceSub, List.replicate_succ, List.replicate_zero, Option.some.injEq, d__law_read]
  cases d with
  | non => exact hP
  | bl b => cases b <;> exact hP
  | int i => exact ⟨rfl, hP⟩
  | str s =>
    rw [rdN] at ho
    have hs : s.length ≤ 1000 := of_decide_eq_true ho
    refine ⟨rfl, rfl, ?_⟩
    obtain ⟨ys, e1, e2, e3⟩ := signs_join s
    have hb := size_big
    have hl : (signs s).length = s.length := by unfold signs; rw [List.length_map, Array.length_toList]; rfl
    refine ⟨fun i acc ρ => ρ = [some (.str s), none, none] ∧ acc = (signs s).take i, ⟨rfl, rfl⟩, ?_, ?_⟩
    · rintro i d acc ρ2 hi ⟨rfl, rfl⟩
      exact ⟨by rw [List.length_take]; omega, rfl, (take_snoc hi).symm⟩
    · rintro acc ρ2 ⟨rfl, rfl⟩
      rw [List.take_length]
      exact ⟨ys, e1, by omega, by rw [e2]; exact hP⟩
  | _ => rw [rdN] at ho; cases ho
end K08

end
section
set_option Elab.async false
set_option linter.all false
set_option maxRecDepth 100000
/-! k08: the reduced forms of a discriminant -/
namespace K08
open PySem L2 PD NT

theorem leD_fD {f g : F3} : leD (fD f) (fD g) ↔ (f.a < g.a ∨ (f.a = g.a ∧ (f.b < g.b ∨ (f.b = g.b ∧ f.c ≤ g.c)))) := by
  unfold leD PySem.W.dataLt fD
  simp only [toPy, toPys, PySem.W.keyToks, PySem.W.keyToksAll, List.cons_append, List.nil_append, PyProof.Rows.lexLt, PyProof.Rows.itemOrd, PyProof.Rows.itemLt]
  by_cases h1 : g.a < f.a
  · simp [h1]; omega
  · by_cases h2 : f.a < g.a
    · simp [h1, h2]
    · by_cases h3 : g.b < f.b
      · simp [h1, h2, h3]; omega
      · by_cases h4 : f.b < g.b
        · simp [h1, h2, h3, h4]; omega
        · simp [h1, h2, h3, h4]; omega
theorem toPys_fD (l : List F3) : toPys (l.map fD) = l.map fun f => PyData.tuple [.int f.a, .int f.b, .int f.c] := by
  rw [toPys_map, List.map_map]
  refine List.map_congr_left fun x _ => ?_
  show toPy (fD x) = _
  simp only [fD, toPy, toPys]
theorem okNs_fD : ∀ l : List F3, okNs 59 (l.map fD) = true
  | [] => by rw [List.map_nil, okNs]
  | x :: ns => by
    rw [List.map_cons, okNs, okNs_fD ns]
    simp only [fD, okN, okNs, Bool.and_true]
theorem sortOk_fD (l : List F3) : SortOk (l.map fD) := by
  refine ⟨okNs_fD l, ?_, ?_⟩
  · rw [toPys_fD]
    intro d hd e he
    obtain ⟨x, _, rfl⟩ := List.mem_map.mp hd
    obtain ⟨y, _, rfl⟩ := List.mem_map.mp he
    simp [PySem.W.alike, PySem.W.alikeAll]
  · rw [toPys_fD]
    refine .inl fun d hd => ?_
    obtain ⟨x, _, rfl⟩ := List.mem_map.mp hd
    exact ⟨_, _, rfl⟩
theorem perm_fD {es : List D} {l : List F3} (h : es.Perm (l.map fD)) : ∃ l' : List F3, es = l'.map fD ∧ l'.Perm l := by
  let g : D → F3 := fun d => match d with | .tup [.int a, .int b, .int c] => ⟨a, b, c⟩ | _ => ⟨0, 0, 0⟩
  refine ⟨es.map g, ?_, ?_⟩
  · rw [List.map_map]
    have e : ∀ d ∈ es, (fD ∘ g) d = d := fun d hd => by
      obtain ⟨x, _, rfl⟩ := List.mem_map.mp (h.mem_iff.mp hd)
      rfl
    rw [List.map_congr_left e, List.map_id']
  · have := h.map g
    rw [List.map_map] at this
    have e : g ∘ fD = id := rfl
    rw [e, List.map_id] at this
    exact this
/-- what ascends stays as it is -/
theorem sorted_fD {ρ : PD.Env} {d : D} {l : List F3} {k : D → Prop} (hd : ∀ K, K (l.map fD) → onS ρ d K) (hs : l.Pairwise lexF) (h : k (.lst (l.map fD))) : sortedP ρ [d] k := by
  refine hd _ ⟨sortOk_fD l, fun es hp hle => ?_⟩
  obtain ⟨l', rfl, hp'⟩ := perm_fD hp
  have h1 : l'.Pairwise (fun f g : F3 => f.a < g.a ∨ (f.a = g.a ∧ (f.b < g.b ∨ (f.b = g.b ∧ f.c ≤ g.c)))) := (List.pairwise_map.mp hle).imp fun {a b} z => leD_fD.mp z
  have h2 : l.Pairwise (fun f g : F3 => f.a < g.a ∨ (f.a = g.a ∧ (f.b < g.b ∨ (f.b = g.b ∧ f.c ≤ g.c)))) := hs.imp fun {a b} z => by
    rcases z with z | ⟨z1, z2⟩
    · exact .inl z
    · exact .inr ⟨z1, .inl z2⟩
  have : l' = l := hp'.eq_of_pairwise (fun f g _ _ z1 z2 => by
    obtain ⟨a, b, c⟩ := f
    obtain ⟨x, y, z⟩ := g
    dsimp only at z1 z2
    rw [F3.mk.injEq]
    omega) h1 h2
  rw [this]
  exact h
theorem cls_small {D : Int} {f : F3} (h : Cls D f) (hD : -4000 ≤ D) : f.a ≤ 36 := by
  obtain ⟨⟨h0, h1, h2, h3, _⟩, e, _⟩ := h
  refine Classical.byContradiction fun hn => ?_
  have ha : 37 ≤ f.a := by omega
  have k1 := Int.mul_le_mul_of_nonneg_left h3 (show 0 ≤ f.a by omega)
  have k2 := Int.mul_nonneg (show 0 ≤ f.a - f.b by omega) (show 0 ≤ f.a + f.b by omega)
  have k3 := Int.mul_le_mul_of_nonneg_left ha (show 0 ≤ f.a by omega)
  have e2 : 4 * f.a * f.c = 4 * (f.a * f.c) := by grind
  have e3 : (f.a - f.b) * (f.a + f.b) = f.a * f.a - f.b * f.b := by grind
  simp only [disc] at e
  omega
/-- what stands at a, b in the list of a discriminant -/
theorem cls_at {D a b : Int} (ha : 1 ≤ a) (h : (b * b - D) % (4 * a) = 0) : disc ⟨a, b, (b * b - D) / (4 * a)⟩ = D := by
  have := Int.emod_add_mul_ediv (b * b - D) (4 * a)
  simp only [disc]
  omega
theorem cls_c {D a b c : Int} (ha : 1 ≤ a) (h : disc ⟨a, b, c⟩ = D) : (b * b - D) % (4 * a) = 0 ∧ c = (b * b - D) / (4 * a) := by
  simp only [disc] at h
  have e : b * b - D = 4 * a * c := by omega
  rw [e]
  exact ⟨Int.mul_emod_right _ _, (Int.mul_ediv_cancel_left c (show 4 * a ≠ 0 by omega)).symm⟩
def ClsInv (D : Int) (a b : Int) (l : List F3) : Prop := l.Pairwise lexF ∧ ∀ f, f ∈ l ↔ Cls D f ∧ (f.a < a ∨ (f.a = a ∧ f.b < b))
theorem ClsInv.skip {D a b : Int} {l : List F3} (I : ClsInv D a b l) (h : ∀ c, ¬ Cls D ⟨a, b, c⟩) : ClsInv D a (b + 1) l := by
  refine ⟨I.1, fun f => ?_⟩
  rw [I.2 f]
  constructor
  · rintro ⟨h1, h2⟩
    exact ⟨h1, by omega⟩
  · rintro ⟨h1, h2⟩
    refine ⟨h1, ?_⟩
    rcases h2 with h2 | ⟨h2, h3⟩
    · exact .inl h2
    · refine .inr ⟨h2, ?_⟩
      refine Classical.byContradiction fun z => h f.c ?_
      have e : f.b = b := by omega
      rw [← h2, ← e]
      exact h1
theorem ClsInv.take {D a b c : Int} {l : List F3} (I : ClsInv D a b l) (ha : 1 ≤ a) (h : Cls D ⟨a, b, c⟩) : ClsInv D a (b + 1) (l ++ [⟨a, b, c⟩]) := by
  refine ⟨List.pairwise_append.mpr ⟨I.1, by simp, fun x hx y hy => ?_⟩, fun f => ?_⟩
  · have : y = ⟨a, b, c⟩ := by simpa using hy
    subst this
    exact ((I.2 x).mp hx).2
  · rw [List.mem_append, I.2 f, List.mem_singleton]
    constructor
    · rintro (⟨h1, h2⟩ | rfl)
      · exact ⟨h1, by omega⟩
      · exact ⟨h, .inr ⟨rfl, by dsimp only; omega⟩⟩
    · rintro ⟨h1, h2⟩
      by_cases z : f.a = a ∧ f.b = b
      · refine .inr ?_
        obtain ⟨z1, z2⟩ := z
        obtain ⟨fa, fb, fc⟩ := f
        dsimp only at z1 z2
        subst z1 z2
        have e1 := (cls_c ha h.2.1).2
        have e2 := (cls_c ha h1.2.1).2
        rw [e1, e2]
      · exact .inl ⟨h1, by omega⟩
theorem ClsInv.next {D a : Int} {l : List F3} (I : ClsInv D a (a + 1) l) : ClsInv D (a + 1) (-(a + 1)) l := by
  refine ⟨I.1, fun f => ?_⟩
  rw [I.2 f]
  constructor
  · rintro ⟨h1, h2⟩
    exact ⟨h1, by omega⟩
  · rintro ⟨h1, h2⟩
    have := h1.1.2.1
    have := h1.1.2.2.1
    exact ⟨h1, by omega⟩
/-- so many there are at most: an injection into numbers -/
theorem cls_len {l : List F3} {D : Int} (hs : l.Pairwise lexF) (hb : ∀ f ∈ l, f.a ≤ 36 ∧ Cls D f) : l.length ≤ 10000 := by
  have key : ∀ (l : List F3) (lo : Int), l.Pairwise lexF → (∀ f ∈ l, lo ≤ 100 * f.a + f.b ∧ 0 < f.a ∧ f.a ≤ 36 ∧ -f.a ≤ f.b ∧ f.b ≤ f.a) → (l.length : Int) ≤ max 0 (5000 - lo) := by
    intro l
    induction l with
    | nil => intro lo _ _; simp; omega
    | cons x l ih =>
      intro lo hs hb
      obtain ⟨h1, h2⟩ := List.pairwise_cons.mp hs
      have hx := hb x List.mem_cons_self
      have := ih (100 * x.a + x.b + 1) h2 fun y hy => by
        have h3 := hb y (List.mem_cons_of_mem _ hy)
        have h4 := h1 y hy
        unfold lexF at h4
        omega
      rw [List.length_cons]
      omega
  have := key l 0 hs fun f hf => by
    obtain ⟨h1, h2⟩ := hb f hf
    have h3 := h2.1.1
    have h4 := h2.1.2.1
    have h5 := h2.1.2.2.1
    omega
  omega
theorem sp__law_classes : ∀ args P W, args.length = 1 → F__law_classes args P W → d__law_classes W ⟨fun _ => P .non, fun d ρ => P (retD ρ d), fun _ => False, fun _ => False⟩ (startD 5 args) := by
  rintro args P W _ ⟨D, rfl, hD, hP⟩
  have hs := size_big
  have bD : Bn 64 D := Bn.of_le (n := 4000) (by have := hD.1; have := hD.2.1; omega) (by decide)
  unfold d__law_classes
  refine seq_of (fun ρ => ρ = [some (.int D), some (.lst []), none, none, none]) ?_ (fun C hC => ?_)
  rotate_left
  · simp only [dC_e, dVar_e, dOwn_e, dOp_e, dUn_e, dNil_e, dCons_e, dTup_e, dLst_e, dCB_e, dCall_e, dCallB_e, dSeq_e, dNext_e, dBreak_e, dCont_e, dDrop_e, dRet_e, dRetN_e, dIfS_e, dSet_e, dSetO_e, dAug_e, dRaise_e, dApp_e, dAsg_e, dPar_e, dPar3_e, dPar_vvo_e, dgName_e, dgTup_e, dgCons_e, dgNil_e, dTest_e, dAnd_e, dOr_e, dNot_e, dYes_e, dIf_e, dAndV_e, dOrV_e, dNotV_e, dIsi_e, dBits_e, dTuple_e, dSeqI_e, dChain_e, i2_e, i2'_e, u1_e, eqP_int, neP_int, addP_int, addP_tup, addP_lst, lenP_lst, lenP_tup, lenP_scr, absP_int, intP_int, isN_P, notN_P, isB2_P, tuple_lst, sel_t, sel_f, ixP_t0, ixP_t1, ixP_l0, ixP_l1, ixP_own0, ixP_own1, startD, List.map_cons, List.map_nil, List.length_cons, List.length_nil, List.cons_append, List.nil_append, List.getElem?_cons_zero, List.getElem?_cons_succ, List.set_cons_zero, List.set_cons_succ, Nat.reduceAdd, Nat.reduceSub, List.replicate_succ, List.replicate_zero, Option.some.injEq]
    exact ⟨by decide, hC _ rfl⟩
  rintro ρ rfl
  refine seq_of (fun ρ => ∃ (l : List F3) (x2 x3 x4 : Option PD.D), l.Pairwise lexF ∧ (∀ f, f ∈ l ↔ Cls D f) ∧ ρ = [some (.int D), some (.lst (l.map fD)), x2, x3, x4]) ?_ (fun C hC => ?_)
  · rintro ρ ⟨l, x2, x3, x4, h1, h2, rfl⟩
    simp only [dC_e, dVar_e, dOwn_e, dOp_e, dUn_e, dNil_e, dCons_e, dTup_e, dLst_e, dCB_e, dCall_e, dCallB_e, dSeq_e, dNext_e, dBreak_e, dCont_e, dDrop_e, dRet_e, dRetN_e, dIfS_e, dSet_e, dSetO_e, dAug_e, dRaise_e, dApp_e, dAsg_e, dPar_e, dPar3_e, dPar_vvo_e, dgName_e, dgTup_e, dgCons_e, dgNil_e, dTest_e, dAnd_e, dOr_e, dNot_e, dYes_e, dIf_e, dAndV_e, dOrV_e, dNotV_e, dIsi_e, dBits_e, dTuple_e, dSeqI_e, dChain_e, i2_e, i2'_e, u1_e, eqP_int, neP_int, addP_int, addP_tup, addP_lst, lenP_lst, lenP_tup, lenP_scr, absP_int, intP_int, isN_P, notN_P, isB2_P, tuple_lst, sel_t, sel_f, ixP_t0, ixP_t1, ixP_l0, ixP_l1, ixP_own0, ixP_own1, startD, List.map_cons, List.map_nil, List.length_cons, List.length_nil, List.cons_append, List.nil_append, List.getElem?_cons_zero, List.getElem?_cons_succ, List.set_cons_zero, List.set_cons_succ, Nat.reduceAdd, Nat.reduceSub, List.replicate_succ, List.replicate_zero, Option.some.injEq]
    exact sorted_fD (fun K h => h) h1 (hP l h1 h2)
  simp only [dC_e, dVar_e, dOwn_e, dOp_e, dUn_e, dNil_e, dCons_e, dTup_e, dLst_e, dCB_e, dCall_e, dCallB_e, dSeq_e, dNext_e, dBreak_e, dCont_e, dDrop_e, dRet_e, dRetN_e, dIfS_e, dSet_e, dSetO_e, dAug_e, dRaise_e, dApp_e, dAsg_e, dPar_e, dPar3_e, dPar_vvo_e, dgName_e, dgTup_e, dgCons_e, dgNil_e, dTest_e, dAnd_e, dOr_e, dNot_e, dYes_e, dIf_e, dAndV_e, dOrV_e, dNotV_e, dIsi_e, dBits_e, dTuple_e, dSeqI_e, dChain_e, i2_e, i2'_e, u1_e, eqP_int, neP_int, addP_int, addP_tup, addP_lst, lenP_lst, lenP_tup, lenP_scr, absP_int, intP_int, isN_P, notN_P, isB2_P, tuple_lst, sel_t, sel_f, ixP_t0, ixP_t1, ixP_l0, ixP_l1, ixP_own0, ixP_own1, startD, List.map_cons, List.map_nil, List.length_cons, List.length_nil, List.cons_append, List.nil_append, List.getElem?_cons_zero, List.getElem?_cons_succ, List.set_cons_zero, List.set_cons_succ, Nat.reduceAdd, Nat.reduceSub, List.replicate_succ, List.replicate_zero, Option.some.injEq, dFor, dRange2]
  refine ⟨by decide, fun i ρ => ∃ l x2 x3 x4, ClsInv D ((i : Int) + 1) (-((i : Int) + 1)) l ∧ l.length ≤ 100 * i ∧ ρ = [some (.int D), some (.lst (l.map fD)), x2, x3, x4], ⟨[], _, _, _, ?_, by simp, rfl⟩, ?_, ?_⟩
  · refine ⟨.nil, fun f => ?_⟩
    simp only [List.not_mem_nil, false_iff]
    rintro ⟨⟨h1, h2, _⟩, h3⟩
    have := h1.1
    have := h1.2.1
    simp only [Int.natCast_zero] at h3
    omega
  · rintro i d ρ2 hi ⟨l, x2, x3, x4, I, hl, rfl⟩
    obtain ⟨hi', rfl⟩ := rgD_got hi
    have hi'' : i < 39 := hi'
    clear hi hi'
    generalize ea : (1 : Int) + (i : Nat) = a
    have ea' : (i : Int) + 1 = a := by omega
    rw [ea'] at I
    have ba : Bn 64 a := Bn.of_le (n := 4000) (by omega) (by decide)
    simp only [dC_e, dVar_e, dOwn_e, dOp_e, dUn_e, dNil_e, dCons_e, dTup_e, dLst_e, dCB_e, dCall_e, dCallB_e, dSeq_e, dNext_e, dBreak_e, dCont_e, dDrop_e, dRet_e, dRetN_e, dIfS_e, dSet_e, dSetO_e, dAug_e, dRaise_e, dApp_e, dAsg_e, dPar_e, dPar3_e, dPar_vvo_e, dgName_e, dgTup_e, dgCons_e, dgNil_e, dTest_e, dAnd_e, dOr_e, dNot_e, dYes_e, dIf_e, dAndV_e, dOrV_e, dNotV_e, dIsi_e, dBits_e, dTuple_e, dSeqI_e, dChain_e, i2_e, i2'_e, u1_e, eqP_int, neP_int, addP_int, addP_tup, addP_lst, lenP_lst, lenP_tup, lenP_scr, absP_int, intP_int, isN_P, notN_P, isB2_P, tuple_lst, sel_t, sel_f, ixP_t0, ixP_t1, ixP_l0, ixP_l1, ixP_own0, ixP_own1, startD, List.map_cons, List.map_nil, List.length_cons, List.length_nil, List.cons_append, List.nil_append, List.getElem?_cons_zero, List.getElem?_cons_succ, List.set_cons_zero, List.set_cons_succ, Nat.reduceAdd, Nat.reduceSub, List.replicate_succ, List.replicate_zero, Option.some.injEq, dFor, dRange2, u1_e]
    refine ⟨by omega, fun j ρ => ∃ l x3 x4, ClsInv D a (-a + (j : Nat)) l ∧ l.length ≤ 100 * i + j ∧ ρ = [some (.int D), some (.lst (l.map fD)), some (.int a), x3, x4], ⟨l, _, _, by simpa using I, by omega, rfl⟩, ?_, ?_⟩
    · rintro j d ρ3 hj ⟨l, x3, x4, I, hl, rfl⟩
      obtain ⟨hj', rfl⟩ := rgD_got hj
      have hj'' : j < 80 := by omega
      generalize eb : -a + (j : Int) = b
      rw [eb] at I
      have eb' : -a + ((j + 1 : Nat) : Int) = b + 1 := by omega
      have bb : Bn 64 b := Bn.of_le (n := 4000) (by omega) (by decide)
      simp only [dC_e, dVar_e, dOwn_e, dOp_e, dUn_e, dNil_e, dCons_e, dTup_e, dLst_e, dCB_e, dCall_e, dCallB_e, dSeq_e, dNext_e, dBreak_e, dCont_e, dDrop_e, dRet_e, dRetN_e, dIfS_e, dSet_e, dSetO_e, dAug_e, dRaise_e, dApp_e, dAsg_e, dPar_e, dPar3_e, dPar_vvo_e, dgName_e, dgTup_e, dgCons_e, dgNil_e, dTest_e, dAnd_e, dOr_e, dNot_e, dYes_e, dIf_e, dAndV_e, dOrV_e, dNotV_e, dIsi_e, dBits_e, dTuple_e, dSeqI_e, dChain_e, i2_e, i2'_e, u1_e, eqP_int, neP_int, addP_int, addP_tup, addP_lst, lenP_lst, lenP_tup, lenP_scr, absP_int, intP_int, isN_P, notN_P, isB2_P, tuple_lst, sel_t, sel_f, ixP_t0, ixP_t1, ixP_l0, ixP_l1, ixP_own0, ixP_own1, startD, List.map_cons, List.map_nil, List.length_cons, List.length_nil, List.cons_append, List.nil_append, List.getElem?_cons_zero, List.getElem?_cons_succ, List.set_cons_zero, List.set_cons_succ, Nat.reduceAdd, Nat.reduceSub, List.replicate_succ, List.replicate_zero, Option.some.injEq]
      refine ⟨by exact mok (by repeat' (first | assumption | exact Bn.lit | apply Bn.mul | apply Bn.add | apply Bn.sub | apply Bn.neg)) (by repeat' (first | assumption | exact Bn.lit | apply Bn.mul | apply Bn.add | apply Bn.sub | apply Bn.neg)) (by omega), by exact mok (by repeat' (first | assumption | exact Bn.lit | apply Bn.mul | apply Bn.add | apply Bn.sub | apply Bn.neg)) (by repeat' (first | assumption | exact Bn.lit | apply Bn.mul | apply Bn.add | apply Bn.sub | apply Bn.neg)) (by omega), by omega, sel_of (fun h => ?_) (fun h => ?_)⟩
      · have hm : (b * b - D) % (4 * a) = 0 := of_decide_eq_true h
        have hb4 : Bn 400 (b * b - D) := ((bb.mul bb).sub bD).mono (by decide)
        refine ⟨by exact mok (by repeat' (first | assumption | exact Bn.lit | apply Bn.mul | apply Bn.add | apply Bn.sub | apply Bn.neg)) (by repeat' (first | assumption | exact Bn.lit | apply Bn.mul | apply Bn.add | apply Bn.sub | apply Bn.neg)) (by omega), by exact mok (by repeat' (first | assumption | exact Bn.lit | apply Bn.mul | apply Bn.add | apply Bn.sub | apply Bn.neg)) (by repeat' (first | assumption | exact Bn.lit | apply Bn.mul | apply Bn.add | apply Bn.sub | apply Bn.neg)) (by omega), dok (by omega) (by repeat' (first | assumption | exact Bn.lit | apply Bn.mul | apply Bn.add | apply Bn.sub | apply Bn.neg)) (by decide), ?_⟩
        have hd := cls_at (D := D) (b := b) (show 1 ≤ a by omega) hm
        generalize ec : (b * b - D) / (4 * a) = c at hd
        have bc : Bn 401 c := by rw [← ec]; exact hb4.div (by omega)
        refine ⟨⟨a, b, c⟩, rfl, by dsimp only; omega, ?_⟩
        simp only [dC_e, dVar_e, dOwn_e, dOp_e, dUn_e, dNil_e, dCons_e, dTup_e, dLst_e, dCB_e, dCall_e, dCallB_e, dSeq_e, dNext_e, dBreak_e, dCont_e, dDrop_e, dRet_e, dRetN_e, dIfS_e, dSet_e, dSetO_e, dAug_e, dRaise_e, dApp_e, dAsg_e, dPar_e, dPar3_e, dPar_vvo_e, dgName_e, dgTup_e, dgCons_e, dgNil_e, dTest_e, dAnd_e, dOr_e, dNot_e, dYes_e, dIf_e, dAndV_e, dOrV_e, dNotV_e, dIsi_e, dBits_e, dTuple_e, dSeqI_e, dChain_e, i2_e, i2'_e, u1_e, eqP_int, neP_int, addP_int, addP_tup, addP_lst, lenP_lst, lenP_tup, lenP_scr, absP_int, intP_int, isN_P, notN_P, isB2_P, tuple_lst, sel_t, sel_f, ixP_t0, ixP_t1, ixP_l0, ixP_l1, ixP_own0, ixP_own1, startD, List.map_cons, List.map_nil, List.length_cons, List.length_nil, List.cons_append, List.nil_append, List.getElem?_cons_zero, List.getElem?_cons_succ, List.set_cons_zero, List.set_cons_succ, Nat.reduceAdd, Nat.reduceSub, List.replicate_succ, List.replicate_zero, Option.some.injEq]
        have no : ¬ Cls D ⟨a, b, c⟩ → ∀ c', ¬ Cls D ⟨a, b, c'⟩ := fun h c' z => h (by
          have := (cls_c (show 1 ≤ a by omega) z.2.1).2
          rw [← ec, ← this]
          exact z)
        refine sel_of (fun h => ?_) (fun h => ?_)
        · have h1 : RedF ⟨a, b, c⟩ := of_decide_eq_true h
          have bc2 : Bn 100 c := by
            have hc : 0 < c := Int.lt_of_lt_of_le (show 0 < a by omega) h1.2.2.2.1
            refine Bn.of_le (n := 10000) ?_ (by decide)
            have e1 : b * b - 4 * a * c = D := hd
            have k1 : 0 ≤ (a - 1) * c := Int.mul_nonneg (by omega) (by omega)
            have k2 : (a - 1) * c = a * c - c := by grind
            have k3 : b * b ≤ 40 * 40 := by
              have := Int.mul_nonneg (show 0 ≤ 40 - b by omega) (show 0 ≤ 40 + b by omega)
              grind
            have k4 : 4 * a * c = 4 * (a * c) := by grind
            have := hD.1
            omega
          refine ⟨[a, b, c], rfl, by simp, ?_, ?_⟩
          · intro i hi
            simp only [List.mem_cons, List.not_mem_nil, or_false] at hi
            rcases hi with rfl | rfl | rfl
            · exact ba.mono (by decide)
            · exact bb.mono (by decide)
            · exact bc2
          · rw [show gcdL [a, b, c] = g3 ⟨a, b, c⟩ from gcdL_g3 ⟨a, b, c⟩]
            simp only [dC_e, dVar_e, dOwn_e, dOp_e, dUn_e, dNil_e, dCons_e, dTup_e, dLst_e, dCB_e, dCall_e, dCallB_e, dSeq_e, dNext_e, dBreak_e, dCont_e, dDrop_e, dRet_e, dRetN_e, dIfS_e, dSet_e, dSetO_e, dAug_e, dRaise_e, dApp_e, dAsg_e, dPar_e, dPar3_e, dPar_vvo_e, dgName_e, dgTup_e, dgCons_e, dgNil_e, dTest_e, dAnd_e, dOr_e, dNot_e, dYes_e, dIf_e, dAndV_e, dOrV_e, dNotV_e, dIsi_e, dBits_e, dTuple_e, dSeqI_e, dChain_e, i2_e, i2'_e, u1_e, eqP_int, neP_int, addP_int, addP_tup, addP_lst, lenP_lst, lenP_tup, lenP_scr, absP_int, intP_int, isN_P, notN_P, isB2_P, tuple_lst, sel_t, sel_f, ixP_t0, ixP_t1, ixP_l0, ixP_l1, ixP_own0, ixP_own1, startD, List.map_cons, List.map_nil, List.length_cons, List.length_nil, List.cons_append, List.nil_append, List.getElem?_cons_zero, List.getElem?_cons_succ, List.set_cons_zero, List.set_cons_succ, Nat.reduceAdd, Nat.reduceSub, List.replicate_succ, List.replicate_zero, Option.some.injEq]
            refine sel_of (fun h => ?_) (fun h => ?_)
            · have h2 : (g3 ⟨a, b, c⟩ : Int) = 1 := of_decide_eq_true h
              have hC : Cls D ⟨a, b, c⟩ := ⟨h1, hd, by omega⟩
              refine ⟨by rw [List.length_map]; omega, l ++ [⟨a, b, c⟩], some (.int b), some (fD ⟨a, b, c⟩), by rw [eb']; exact I.take (by omega) hC, by rw [List.length_append]; simp; omega, ?_⟩
              rw [List.map_append]
              rfl
            · have h2 : ¬ (g3 ⟨a, b, c⟩ : Int) = 1 := of_decide_eq_false h
              exact ⟨l, _, _, by rw [eb']; exact I.skip (no fun z => h2 (by rw [z.2.2]; rfl)), by omega, rfl⟩
        · have h1 : ¬ RedF ⟨a, b, c⟩ := of_decide_eq_false h
          exact ⟨l, _, _, by rw [eb']; exact I.skip (no fun z => h1 z.1), by omega, rfl⟩
      · have hm : ¬ (b * b - D) % (4 * a) = 0 := of_decide_eq_false h
        exact ⟨l, _, _, by rw [eb']; exact I.skip (fun c z => hm (cls_c (by omega) z.2.1).1), by omega, rfl⟩
    · rintro ρ3 ⟨l, x3, x4, I, hl, rfl⟩
      rw [rgD_length] at I hl
      have e1 : -a + (((a + 1 - -a).toNat : Nat) : Int) = a + 1 := by omega
      rw [e1] at I
      refine ⟨l, _, _, _, ?_, by omega, rfl⟩
      have e2 : ((i + 1 : Nat) : Int) + 1 = a + 1 := by omega
      rw [e2]
      exact I.next
  · rintro ρ2 ⟨l, x2, x3, x4, I, hl, rfl⟩
    rw [rgD_length] at I
    refine hC _ ⟨l, _, _, _, I.1, fun f => ?_, rfl⟩
    rw [I.2 f]
    constructor
    · exact fun z => z.1
    · intro z
      have := cls_small z hD.1
      refine ⟨z, .inl ?_⟩
      have e : ((((40 : Int) - 1).toNat : Nat) : Int) = 39 := rfl
      rw [e]
      omega
theorem sp__law_some_discriminant : ∀ bx args P W, args.length + 1 = 2 → F__law_some_discriminant (bx :: args) P W → d__law_some_discriminant W ⟨fun ρ => ∃ b, ρ[0]? = some (some b) ∧ P .non b, fun d ρ => ∃ b, ρ[0]? = some (some b) ∧ NotOwn d ∧ P d b, fun _ => False, fun _ => False⟩ (startD 4 (bx :: args)) := by
  rintro bx args P W _ ⟨bx', most, e, hb, m1, m2, hP⟩
  cases e
  have fin : ∀ (bx : PD.D) (x2 : Option PD.D) (D : Int), BoxOk bx → -4000 ≤ D → D ≤ -3 → (-most ≤ D ∨ -600 ≤ D) →
      (dRet (dIf (dTest (dOp ltP (dOp modP (dVar 3) (dC (.int 4))) (dC (.int 2)))) (dVar 3) (dIf (dAnd (dTest (dOp leP (dOp subP (dOp addP (dVar 3) (dOp modP (dVar 3) (dC (.int 4)))) (dC (.int 1))) (dUn negP (dC (.int 3))))) (dTest (dOp ltP (dOp modP (dOp subP (dOp addP (dVar 3) (dOp modP (dVar 3) (dC (.int 4)))) (dC (.int 1))) (dC (.int 4))) (dC (.int 2))))) (dOp subP (dOp addP (dVar 3) (dOp modP (dVar 3) (dC (.int 4)))) (dC (.int 1))) (dOp mulP (dUn negP (dC (.int 4))) (dOp addP (dC (.int 1)) (dOp divP (dCB absP (dCons (dVar 3) dNil)) (dC (.int 8)))))))) ⟨fun ρ => ∃ b, ρ[0]? = some (some b) ∧ P .non b, fun d ρ => ∃ b, ρ[0]? = some (some b) ∧ NotOwn d ∧ P d b, fun _ => False, fun _ => False⟩ [some bx, some (.int most), x2, some (.int D)] := by
    intro bx x2 D hb h1 h2 h3
    have bD : Bn 64 D := Bn.of_le (n := 4000) (by omega) (by decide)
    simp only [dC_e, dVar_e, dOwn_e, dOp_e, dUn_e, dNil_e, dCons_e, dTup_e, dLst_e, dCB_e, dCall_e, dCallB_e, dSeq_e, dNext_e, dBreak_e, dCont_e, dDrop_e, dRet_e, dRetN_e, dIfS_e, dSet_e, dSetO_e, dAug_e, dRaise_e, dApp_e, dAsg_e, dPar_e, dPar3_e, dPar_vvo_e, dgName_e, dgTup_e, dgCons_e, dgNil_e, dTest_e, dAnd_e, dOr_e, dNot_e, dYes_e, dIf_e, dAndV_e, dOrV_e, dNotV_e, dIsi_e, dBits_e, dTuple_e, dSeqI_e, dChain_e, i2_e, i2'_e, u1_e, eqP_int, neP_int, addP_int, addP_tup, addP_lst, lenP_lst, lenP_tup, lenP_scr, absP_int, intP_int, isN_P, notN_P, isB2_P, tuple_lst, sel_t, sel_f, ixP_t0, ixP_t1, ixP_l0, ixP_l1, ixP_own0, ixP_own1, startD, List.map_cons, List.map_nil, List.length_cons, List.length_nil, List.cons_append, List.nil_append, List.getElem?_cons_zero, List.getElem?_cons_succ, List.set_cons_zero, List.set_cons_succ, Nat.reduceAdd, Nat.reduceSub, List.replicate_succ, List.replicate_zero, Option.some.injEq, u1_e]
    refine ⟨by decide, sel_of (fun h => ?_) (fun h => ?_)⟩
    · have := of_decide_eq_true h
      exact ⟨_, rfl, trivial, hP D _ hb ⟨h1, h2, this⟩ (by omega)⟩
    · have n1 := of_decide_eq_false h
      have last : PD.DivOk (D.natAbs : Int) 8 ∧ PD.MulOk (-4) (1 + (D.natAbs : Int) / 8) ∧ ∃ b, bx = b ∧ NotOwn (.int (-4 * (1 + (D.natAbs : Int) / 8))) ∧ P (.int (-4 * (1 + (D.natAbs : Int) / 8))) b := by
        refine ⟨dok (by decide) Bn.lit (by decide), mok Bn.lit (Bn.of_le (n := 4000) (by omega) (by decide) : Bn 64 _) (by decide), _, rfl, trivial, ?_⟩
        refine hP _ _ hb ⟨by omega, by omega, by omega⟩ (by omega)
      refine ⟨by decide, sel_of (fun h => ?_) (fun h => ?_)⟩
      · have n2 := of_decide_eq_true h
        refine ⟨by decide, by decide, sel_of (fun h => ?_) (fun h => ?_)⟩
        · have n3 := of_decide_eq_true h
          exact ⟨by decide, _, rfl, trivial, hP _ _ hb ⟨by omega, by omega, by omega⟩ (by omega)⟩
        · exact last
      · exact last
  unfold d__law_some_discriminant
  refine seq_of (fun ρ => ∃ (bx : PD.D) (i : Nat), BoxOk bx ∧ i < 4 ∧ ρ = [some bx, some (.int most), some (.int i), none]) ?_ (fun C hC => ?_)
  rotate_left
  · simp only [dC_e, dVar_e, dOwn_e, dOp_e, dUn_e, dNil_e, dCons_e, dTup_e, dLst_e, dCB_e, dCall_e, dCallB_e, dSeq_e, dNext_e, dBreak_e, dCont_e, dDrop_e, dRet_e, dRetN_e, dIfS_e, dSet_e, dSetO_e, dAug_e, dRaise_e, dApp_e, dAsg_e, dPar_e, dPar3_e, dPar_vvo_e, dgName_e, dgTup_e, dgCons_e, dgNil_e, dTest_e, dAnd_e, dOr_e, dNot_e, dYes_e, dIf_e, dAndV_e, dOrV_e, dNotV_e, dIsi_e, dBits_e, dTuple_e, dSeqI_e, dChain_e, i2_e, i2'_e, u1_e, eqP_int, neP_int, addP_int, addP_tup, addP_lst, lenP_lst, lenP_tup, lenP_scr, absP_int, intP_int, isN_P, notN_P, isB2_P, tuple_lst, sel_t, sel_f, ixP_t0, ixP_t1, ixP_l0, ixP_l1, ixP_own0, ixP_own1, startD, List.map_cons, List.map_nil, List.length_cons, List.length_nil, List.cons_append, List.nil_append, List.getElem?_cons_zero, List.getElem?_cons_succ, List.set_cons_zero, List.set_cons_succ, Nat.reduceAdd, Nat.reduceSub, List.replicate_succ, List.replicate_zero, Option.some.injEq]
    exact ⟨bx, 4, rfl, hb, by decide, by decide, fun i b1 hb1 hi => hC _ ⟨_, i, hb1, hi, rfl⟩⟩
  rintro ρ ⟨bx, i, hb, hi, rfl⟩
  refine seq_of (fun ρ => ∃ (bx : PD.D) (D : Int), BoxOk bx ∧ -4000 ≤ D ∧ D ≤ -3 ∧ (-most ≤ D ∨ -600 ≤ D) ∧ ρ = [some bx, some (.int most), some (.int i), some (.int D)]) ?_ (fun C hC => ?_)
  · rintro ρ ⟨bx, D, hb, h1, h2, h3, rfl⟩
    exact fin bx _ D hb h1 h2 h3
  simp only [dC_e, dVar_e, dOwn_e, dOp_e, dUn_e, dNil_e, dCons_e, dTup_e, dLst_e, dCB_e, dCall_e, dCallB_e, dSeq_e, dNext_e, dBreak_e, dCont_e, dDrop_e, dRet_e, dRetN_e, dIfS_e, dSet_e, dSetO_e, dAug_e, dRaise_e, dApp_e, dAsg_e, dPar_e, dPar3_e, dPar_vvo_e, dgName_e, dgTup_e, dgCons_e, dgNil_e, dTest_e, dAnd_e, dOr_e, dNot_e, dYes_e, dIf_e, dAndV_e, dOrV_e, dNotV_e, dIsi_e, dBits_e, dTuple_e, dSeqI_e, dChain_e, i2_e, i2'_e, u1_e, eqP_int, neP_int, addP_int, addP_tup, addP_lst, lenP_lst, lenP_tup, lenP_scr, absP_int, intP_int, isN_P, notN_P, isB2_P, tuple_lst, sel_t, sel_f, ixP_t0, ixP_t1, ixP_l0, ixP_l1, ixP_own0, ixP_own1, startD, List.map_cons, List.map_nil, List.length_cons, List.length_nil, List.cons_append, List.nil_append, List.getElem?_cons_zero, List.getElem?_cons_succ, List.set_cons_zero, List.set_cons_succ, Nat.reduceAdd, Nat.reduceSub, List.replicate_succ, List.replicate_zero, Option.some.injEq, u1_e]
  refine sel_of (fun h => ?_) (fun h => ?_)
  · refine ⟨bx, 60, rfl, hb, by decide, by decide, fun j b1 hb1 hj => ?_⟩
    simp only [dC_e, dVar_e, dOwn_e, dOp_e, dUn_e, dNil_e, dCons_e, dTup_e, dLst_e, dCB_e, dCall_e, dCallB_e, dSeq_e, dNext_e, dBreak_e, dCont_e, dDrop_e, dRet_e, dRetN_e, dIfS_e, dSet_e, dSetO_e, dAug_e, dRaise_e, dApp_e, dAsg_e, dPar_e, dPar3_e, dPar_vvo_e, dgName_e, dgTup_e, dgCons_e, dgNil_e, dTest_e, dAnd_e, dOr_e, dNot_e, dYes_e, dIf_e, dAndV_e, dOrV_e, dNotV_e, dIsi_e, dBits_e, dTuple_e, dSeqI_e, dChain_e, i2_e, i2'_e, u1_e, eqP_int, neP_int, addP_int, addP_tup, addP_lst, lenP_lst, lenP_tup, lenP_scr, absP_int, intP_int, isN_P, notN_P, isB2_P, tuple_lst, sel_t, sel_f, ixP_t0, ixP_t1, ixP_l0, ixP_l1, ixP_own0, ixP_own1, startD, List.map_cons, List.map_nil, List.length_cons, List.length_nil, List.cons_append, List.nil_append, List.getElem?_cons_zero, List.getElem?_cons_succ, List.set_cons_zero, List.set_cons_succ, Nat.reduceAdd, Nat.reduceSub, List.replicate_succ, List.replicate_zero, Option.some.injEq, u1_e]
    exact hC _ ⟨_, _, hb1, by omega, by omega, by omega, rfl⟩
  refine sel_of (fun h => ?_) (fun h => ?_)
  · refine ⟨bx, 16, rfl, hb, by decide, by decide, fun j b1 hb1 hj => ?_⟩
    have hz : ∃ z : Int, ([.int (-84), .int (-420), .int (-120), .int (-32), .int (-64), .int (-96), .int (-180), .int (-480), .int (-23), .int (-47), .int (-71), .int (-163), .int (-231), .int (-260), .int (-308), .int (-15)] : List PD.D)[j]? = some (.int z) ∧ -600 ≤ z ∧ z ≤ -3 := by
      have : j = 0 ∨ j = 1 ∨ j = 2 ∨ j = 3 ∨ j = 4 ∨ j = 5 ∨ j = 6 ∨ j = 7 ∨ j = 8 ∨ j = 9 ∨ j = 10 ∨ j = 11 ∨ j = 12 ∨ j = 13 ∨ j = 14 ∨ j = 15 := by omega
      rcases this with rfl | rfl | rfl | rfl | rfl | rfl | rfl | rfl | rfl | rfl | rfl | rfl | rfl | rfl | rfl | rfl <;> exact ⟨_, rfl, by decide, by decide⟩
    obtain ⟨z, hz, z1, z2⟩ := hz
    dsimp only
    rw [ixP_lst hz]
    exact hC _ ⟨_, z, hb1, by omega, z2, .inr z1, rfl⟩
  · have em : ((most : Int) - 2) = ((most - 2 : Nat) : Int) := by omega
    rw [em]
    refine ⟨bx, most - 2, rfl, hb, by omega, by omega, fun j b1 hb1 hj => ?_⟩
    simp only [dC_e, dVar_e, dOwn_e, dOp_e, dUn_e, dNil_e, dCons_e, dTup_e, dLst_e, dCB_e, dCall_e, dCallB_e, dSeq_e, dNext_e, dBreak_e, dCont_e, dDrop_e, dRet_e, dRetN_e, dIfS_e, dSet_e, dSetO_e, dAug_e, dRaise_e, dApp_e, dAsg_e, dPar_e, dPar3_e, dPar_vvo_e, dgName_e, dgTup_e, dgCons_e, dgNil_e, dTest_e, dAnd_e, dOr_e, dNot_e, dYes_e, dIf_e, dAndV_e, dOrV_e, dNotV_e, dIsi_e, dBits_e, dTuple_e, dSeqI_e, dChain_e, i2_e, i2'_e, u1_e, eqP_int, neP_int, addP_int, addP_tup, addP_lst, lenP_lst, lenP_tup, lenP_scr, absP_int, intP_int, isN_P, notN_P, isB2_P, tuple_lst, sel_t, sel_f, ixP_t0, ixP_t1, ixP_l0, ixP_l1, ixP_own0, ixP_own1, startD, List.map_cons, List.map_nil, List.length_cons, List.length_nil, List.cons_append, List.nil_append, List.getElem?_cons_zero, List.getElem?_cons_succ, List.set_cons_zero, List.set_cons_succ, Nat.reduceAdd, Nat.reduceSub, List.replicate_succ, List.replicate_zero, Option.some.injEq, u1_e]
    exact hC _ ⟨_, _, hb1, by omega, by omega, by omega, rfl⟩
theorem prin {D : Int} (hD : DiscOk D) : Cls D ⟨1, D % 2, (D % 2 - D) / 4⟩ := by
  obtain ⟨h1, h2, h3⟩ := hD
  refine ⟨?_, ?_, ?_⟩
  · unfold RedF Red
    dsimp only
    omega
  · simp only [disc]
    have : D % 2 = 0 ∨ D % 2 = 1 := by omega
    rcases this with e | e
    · rw [e]; omega
    · rw [e]; omega
  · unfold g3
    simp [Int.gcd]
theorem cls_two {D : Int} {f : F3} (h : Cls D f) (hD : DiscOk D) : TwoF f := ⟨h.1.1, by rw [h.2.1]; exact hD.1, by rw [h.2.1]; exact hD.2.1, h.2.2⟩
theorem cls_bound {D : Int} {f : F3} (h : Cls D f) (hD : DiscOk D) : Fb 12 f := by
  have ha := cls_small h hD.1
  obtain ⟨⟨h0, h1, h2, h3, _⟩, e, _⟩ := h
  have hD1 := hD.1
  obtain ⟨a, b, c⟩ := f
  dsimp only at *
  refine ⟨Bn.of_le (show a.natAbs ≤ 40 by omega) (by decide), Bn.of_le (show b.natAbs ≤ 40 by omega) (by decide), Bn.of_le (n := 2000) ?_ (by decide)⟩
  show c.natAbs ≤ 2000
  have e1 : b * b - 4 * a * c = D := e
  have k1 : 0 ≤ (a - 1) * c := Int.mul_nonneg (by omega) (by omega)
  have k2 : (a - 1) * c = a * c - c := by grind
  have k3 : b * b ≤ 40 * 40 := by
    have := Int.mul_nonneg (show 0 ≤ 40 - b by omega) (show 0 ≤ 40 + b by omega)
    grind
  have k4 : 4 * a * c = 4 * (a * c) := by grind
  omega
theorem Bn.sum {k : Nat} {x y : Int} (hx : Bn k x) (hy : Bn k y) : Bn (k + 1) (x + y) := by
  unfold Bn at *
  have := Int.natAbs_add_le x y
  rw [Nat.pow_succ]
  omega
/-- a step of small numbers -/
theorem act_b {k j : Nat} {f : F3} {m : M4} (hf : Fb k f) (hm : Mb j m) : Fb (k + 2 * j + 4) (act f m) := by
  obtain ⟨b1, b2, b3⟩ := hf
  obtain ⟨c1, c2, c3, c4⟩ := hm
  have two : Bn 2 (2 : Int) := by unfold Bn; decide
  refine ⟨?_, ?_, ?_⟩
  · refine Bn.mono (k := k + j + j + 1 + 1) ?_ (by omega)
    exact Bn.sum (Bn.sum ((b1.mul c1).mul c1) ((b2.mul c1).mul c3)) (((b3.mul c3).mul c3).mono (by omega))
  · refine Bn.mono (k := k + j + j + 3 + 1) ?_ (by omega)
    refine Bn.sum (Bn.mono (two.mul (Bn.sum ((b1.mul c1).mul c2) ((b3.mul c3).mul c4))) (by omega)) (Bn.mono (b2.mul (Bn.sum (c1.mul c4) (c2.mul c3))) (by omega))
  · refine Bn.mono (k := k + j + j + 1 + 1) ?_ (by omega)
    exact Bn.sum (Bn.sum ((b1.mul c2).mul c2) ((b2.mul c2).mul c4)) (((b3.mul c4).mul c4).mono (by omega))
theorem two_act {f : F3} {m : M4} (h : TwoF f) (hd : det m = 1) : TwoF (act f m) := by
  have := Def2.act ⟨h.1, h.2.1, h.2.2.1⟩ hd
  exact ⟨this.1, this.2.1, this.2.2, by rw [Eqv.g3 ⟨m, hd, rfl⟩]; exact h.2.2.2⟩
theorem bn_small {k : Int} {n : Nat} (h : k.natAbs ≤ n) (hn : n < 8) : Bn 3 k := by
  unfold Bn
  omega
theorem sp__law_some_two : ∀ bx args P W, args.length + 1 = 2 → F__law_some_two (bx :: args) P W → d__law_some_two W ⟨fun ρ => ∃ b, ρ[0]? = some (some b) ∧ P .non b, fun d ρ => ∃ b, ρ[0]? = some (some b) ∧ NotOwn d ∧ P d b, fun _ => False, fun _ => False⟩ (startD 6 (bx :: args)) := by
  rintro bx args P W _ ⟨bx', D, e, hb, hD, hP⟩
  cases e
  have hs := size_big
  unfold d__law_some_two
  refine seq_of (fun ρ => ∃ l : List F3, l.length < 16000000 ∧ l.length ≠ 0 ∧ (∀ f ∈ l, Cls D f) ∧ ρ = [some bx, some (.int D), some (.lst (l.map fD)), none, none, none]) ?_ (fun C hC => ?_)
  rotate_left
  · simp only [dC_e, dVar_e, dOwn_e, dOp_e, dUn_e, dNil_e, dCons_e, dTup_e, dLst_e, dCB_e, dCall_e, dCallB_e, dSeq_e, dNext_e, dBreak_e, dCont_e, dDrop_e, dRet_e, dRetN_e, dIfS_e, dSet_e, dSetO_e, dAug_e, dRaise_e, dApp_e, dAsg_e, dPar_e, dPar3_e, dPar_vvo_e, dgName_e, dgTup_e, dgCons_e, dgNil_e, dTest_e, dAnd_e, dOr_e, dNot_e, dYes_e, dIf_e, dAndV_e, dOrV_e, dNotV_e, dIsi_e, dBits_e, dTuple_e, dSeqI_e, dChain_e, i2_e, i2'_e, u1_e, eqP_int, neP_int, addP_int, addP_tup, addP_lst, lenP_lst, lenP_tup, lenP_scr, absP_int, intP_int, isN_P, notN_P, isB2_P, tuple_lst, sel_t, sel_f, ixP_t0, ixP_t1, ixP_l0, ixP_l1, ixP_own0, ixP_own1, startD, List.map_cons, List.map_nil, List.length_cons, List.length_nil, List.cons_append, List.nil_append, List.getElem?_cons_zero, List.getElem?_cons_succ, List.set_cons_zero, List.set_cons_succ, Nat.reduceAdd, Nat.reduceSub, List.replicate_succ, List.replicate_zero, Option.some.injEq]
    refine ⟨D, rfl, hD, fun l h1 h2 => hC _ ⟨l, ?_, ?_, fun f hf => (h2 f).mp hf, rfl⟩⟩
    · exact Nat.lt_of_le_of_lt (cls_len h1 fun f hf => ⟨cls_small ((h2 f).mp hf) hD.1, (h2 f).mp hf⟩) (by decide)
    · intro z
      have := (h2 _).mpr (prin hD)
      rw [List.length_eq_zero_iff.mp z] at this
      cases this
  rintro ρ ⟨l, hl, hl0, hc, rfl⟩
  refine seq_of (fun ρ => ∃ (bx : PD.D) (f : F3), BoxOk bx ∧ Cls D f ∧ ρ = [some bx, some (.int D), some (.lst (l.map fD)), some (fD f), none, none]) ?_ (fun C hC => ?_)
  rotate_left
  · simp only [dC_e, dVar_e, dOwn_e, dOp_e, dUn_e, dNil_e, dCons_e, dTup_e, dLst_e, dCB_e, dCall_e, dCallB_e, dSeq_e, dNext_e, dBreak_e, dCont_e, dDrop_e, dRet_e, dRetN_e, dIfS_e, dSet_e, dSetO_e, dAug_e, dRaise_e, dApp_e, dAsg_e, dPar_e, dPar3_e, dPar_vvo_e, dgName_e, dgTup_e, dgCons_e, dgNil_e, dTest_e, dAnd_e, dOr_e, dNot_e, dYes_e, dIf_e, dAndV_e, dOrV_e, dNotV_e, dIsi_e, dBits_e, dTuple_e, dSeqI_e, dChain_e, i2_e, i2'_e, u1_e, eqP_int, neP_int, addP_int, addP_tup, addP_lst, lenP_lst, lenP_tup, lenP_scr, absP_int, intP_int, isN_P, notN_P, isB2_P, tuple_lst, sel_t, sel_f, ixP_t0, ixP_t1, ixP_l0, ixP_l1, ixP_own0, ixP_own1, startD, List.map_cons, List.map_nil, List.length_cons, List.length_nil, List.cons_append, List.nil_append, List.getElem?_cons_zero, List.getElem?_cons_succ, List.set_cons_zero, List.set_cons_succ, Nat.reduceAdd, Nat.reduceSub, List.replicate_succ, List.replicate_zero, Option.some.injEq, List.length_map]
    refine ⟨bx, l.length, rfl, hb, by omega, by omega, fun i b1 hb1 hi => ?_⟩
    have hg : (l.map fD)[i]? = some (fD l[i]) := by rw [List.getElem?_map, List.getElem?_eq_getElem hi]; rfl
    dsimp only
    rw [ixP_lst hg]
    exact hC _ ⟨_, _, hb1, hc _ (List.getElem_mem hi), rfl⟩
  rintro ρ ⟨bx, f, hb, hf, rfl⟩
  refine seq_of (fun ρ => ∃ (bx : PD.D) (f : F3) (x4 x5 : Option PD.D), BoxOk bx ∧ TwoF f ∧ disc f = D ∧ Fb 50 f ∧ ρ = [some bx, some (.int D), some (.lst (l.map fD)), some (fD f), x4, x5]) ?_ (fun C hC => ?_)
  · rintro ρ ⟨bx, f, x4, x5, hb, h1, h2, h3, rfl⟩
    simp only [dC_e, dVar_e, dOwn_e, dOp_e, dUn_e, dNil_e, dCons_e, dTup_e, dLst_e, dCB_e, dCall_e, dCallB_e, dSeq_e, dNext_e, dBreak_e, dCont_e, dDrop_e, dRet_e, dRetN_e, dIfS_e, dSet_e, dSetO_e, dAug_e, dRaise_e, dApp_e, dAsg_e, dPar_e, dPar3_e, dPar_vvo_e, dgName_e, dgTup_e, dgCons_e, dgNil_e, dTest_e, dAnd_e, dOr_e, dNot_e, dYes_e, dIf_e, dAndV_e, dOrV_e, dNotV_e, dIsi_e, dBits_e, dTuple_e, dSeqI_e, dChain_e, i2_e, i2'_e, u1_e, eqP_int, neP_int, addP_int, addP_tup, addP_lst, lenP_lst, lenP_tup, lenP_scr, absP_int, intP_int, isN_P, notN_P, isB2_P, tuple_lst, sel_t, sel_f, ixP_t0, ixP_t1, ixP_l0, ixP_l1, ixP_own0, ixP_own1, startD, List.map_cons, List.map_nil, List.length_cons, List.length_nil, List.cons_append, List.nil_append, List.getElem?_cons_zero, List.getElem?_cons_succ, List.set_cons_zero, List.set_cons_succ, Nat.reduceAdd, Nat.reduceSub, List.replicate_succ, List.replicate_zero, Option.some.injEq]
    exact ⟨_, rfl, trivial, hP f _ hb h1 h2 h3⟩
  simp only [dC_e, dVar_e, dOwn_e, dOp_e, dUn_e, dNil_e, dCons_e, dTup_e, dLst_e, dCB_e, dCall_e, dCallB_e, dSeq_e, dNext_e, dBreak_e, dCont_e, dDrop_e, dRet_e, dRetN_e, dIfS_e, dSet_e, dSetO_e, dAug_e, dRaise_e, dApp_e, dAsg_e, dPar_e, dPar3_e, dPar_vvo_e, dgName_e, dgTup_e, dgCons_e, dgNil_e, dTest_e, dAnd_e, dOr_e, dNot_e, dYes_e, dIf_e, dAndV_e, dOrV_e, dNotV_e, dIsi_e, dBits_e, dTuple_e, dSeqI_e, dChain_e, i2_e, i2'_e, u1_e, eqP_int, neP_int, addP_int, addP_tup, addP_lst, lenP_lst, lenP_tup, lenP_scr, absP_int, intP_int, isN_P, notN_P, isB2_P, tuple_lst, sel_t, sel_f, ixP_t0, ixP_t1, ixP_l0, ixP_l1, ixP_own0, ixP_own1, startD, List.map_cons, List.map_nil, List.length_cons, List.length_nil, List.cons_append, List.nil_append, List.getElem?_cons_zero, List.getElem?_cons_succ, List.set_cons_zero, List.set_cons_succ, Nat.reduceAdd, Nat.reduceSub, List.replicate_succ, List.replicate_zero, Option.some.injEq, dFor, dRange1]
  refine ⟨bx, 4, rfl, hb, by decide, by decide, fun n b1 hb1 hn => ?_⟩
  refine ⟨by omega, fun i ρ => ∃ (bx : PD.D) (f : F3) (x4 x5 : Option PD.D), BoxOk bx ∧ TwoF f ∧ disc f = D ∧ Fb (12 + 10 * i) f ∧ ρ = [some bx, some (.int D), some (.lst (l.map fD)), some (fD f), x4, x5], ⟨b1, f, _, _, hb1, cls_two hf hD, hf.2.1, cls_bound hf hD, rfl⟩, ?_, ?_⟩
  · rintro i d ρ2 hi ⟨bx, f, x4, x5, hb, h1, h2, h3, rfl⟩
    obtain ⟨hi', rfl⟩ := rgD_got hi
    simp only [dC_e, dVar_e, dOwn_e, dOp_e, dUn_e, dNil_e, dCons_e, dTup_e, dLst_e, dCB_e, dCall_e, dCallB_e, dSeq_e, dNext_e, dBreak_e, dCont_e, dDrop_e, dRet_e, dRetN_e, dIfS_e, dSet_e, dSetO_e, dAug_e, dRaise_e, dApp_e, dAsg_e, dPar_e, dPar3_e, dPar_vvo_e, dgName_e, dgTup_e, dgCons_e, dgNil_e, dTest_e, dAnd_e, dOr_e, dNot_e, dYes_e, dIf_e, dAndV_e, dOrV_e, dNotV_e, dIsi_e, dBits_e, dTuple_e, dSeqI_e, dChain_e, i2_e, i2'_e, u1_e, eqP_int, neP_int, addP_int, addP_tup, addP_lst, lenP_lst, lenP_tup, lenP_scr, absP_int, intP_int, isN_P, notN_P, isB2_P, tuple_lst, sel_t, sel_f, ixP_t0, ixP_t1, ixP_l0, ixP_l1, ixP_own0, ixP_own1, startD, List.map_cons, List.map_nil, List.length_cons, List.length_nil, List.cons_append, List.nil_append, List.getElem?_cons_zero, List.getElem?_cons_succ, List.set_cons_zero, List.set_cons_succ, Nat.reduceAdd, Nat.reduceSub, List.replicate_succ, List.replicate_zero, Option.some.injEq]
    refine ⟨bx, 7, rfl, hb, by decide, by decide, fun k b2 hb2 hk => ?_⟩
    obtain ⟨kk, ek⟩ : ∃ kk, (k : Int) - 3 = kk := ⟨_, rfl⟩
    have bk : Bn 3 kk := bn_small (n := 3) (by omega) (by omega)
    have b0 : Bn 3 0 := by unfold Bn; decide
    have b1 : Bn 3 1 := by unfold Bn; decide
    have bm : Bn 3 (-1) := by unfold Bn; decide
    simp only [dC_e, dVar_e, dOwn_e, dOp_e, dUn_e, dNil_e, dCons_e, dTup_e, dLst_e, dCB_e, dCall_e, dCallB_e, dSeq_e, dNext_e, dBreak_e, dCont_e, dDrop_e, dRet_e, dRetN_e, dIfS_e, dSet_e, dSetO_e, dAug_e, dRaise_e, dApp_e, dAsg_e, dPar_e, dPar3_e, dPar_vvo_e, dgName_e, dgTup_e, dgCons_e, dgNil_e, dTest_e, dAnd_e, dOr_e, dNot_e, dYes_e, dIf_e, dAndV_e, dOrV_e, dNotV_e, dIsi_e, dBits_e, dTuple_e, dSeqI_e, dChain_e, i2_e, i2'_e, u1_e, eqP_int, neP_int, addP_int, addP_tup, addP_lst, lenP_lst, lenP_tup, lenP_scr, absP_int, intP_int, isN_P, notN_P, isB2_P, tuple_lst, sel_t, sel_f, ixP_t0, ixP_t1, ixP_l0, ixP_l1, ixP_own0, ixP_own1, startD, List.map_cons, List.map_nil, List.length_cons, List.length_nil, List.cons_append, List.nil_append, List.getElem?_cons_zero, List.getElem?_cons_succ, List.set_cons_zero, List.set_cons_succ, Nat.reduceAdd, Nat.reduceSub, List.replicate_succ, List.replicate_zero, Option.some.injEq, u1_e]
    refine ⟨b2, 3, rfl, hb2, by decide, by decide, fun j b3 hb3 hj => ?_⟩
    have hz : ∃ m : M4, ([.tup [.int 1, .int kk, .int 0, .int 1], .tup [.int 1, .int 0, .int kk, .int 1], .tup [.int 0, .int 1, .int (-1), .int kk]] : List PD.D)[j]? = some (mD m) ∧ Mb 3 m ∧ det m = 1 := by
      have : j = 0 ∨ j = 1 ∨ j = 2 := by omega
      rcases this with rfl | rfl | rfl
      · exact ⟨⟨1, kk, 0, 1⟩, rfl, ⟨b1, bk, b0, b1⟩, by simp [det]⟩
      · exact ⟨⟨1, 0, kk, 1⟩, rfl, ⟨b1, b0, bk, b1⟩, by simp [det]⟩
      · exact ⟨⟨0, 1, -1, kk⟩, rfl, ⟨b0, b1, bm, bk⟩, by simp [det]⟩
    obtain ⟨m, hz, hm, hd⟩ := hz
    dsimp only
    rw [ek, ixP_lst hz]
    refine ⟨f, m, rfl, h3.mono (by omega), hm.mono (by decide), ?_⟩
    exact ⟨b3, _, _, _, hb3, two_act h1 hd, (disc_act1 hd).trans h2, (act_b h3 hm).mono (by omega), rfl⟩
  · rintro ρ2 ⟨bx, f, x4, x5, hb, h1, h2, h3, rfl⟩
    rw [rgD_length] at h3
    exact hC _ ⟨_, f, _, _, hb, h1, h2, h3.mono (by omega), rfl⟩
theorem ti_int {i : Int} (h : Bn 70 i) : TI (.int i) := ⟨⟨rfl, rfl⟩, by rw [okN], fun j e => by cases e; exact h⟩
theorem ti_str {s : PySem.Str} (h : okN 5 (.str s) = true) : TI (.str s) := ⟨⟨rfl, rfl⟩, h, fun i e => nomatch e⟩
theorem tq_tup {xs : List PD.D} (h : xs.length ≤ 10) (ht : ∀ x ∈ xs, TI x) : TryQ (.tup xs) := ⟨⟨rfl, rfl⟩, fun ys e => by cases e; exact ⟨h, ht⟩⟩
theorem tq_plain {x : PD.D} (h : Plain x) (hn : isTup x = false) : TryQ x := ⟨h, fun ys e => by subst e; cases hn⟩
theorem tq_ints {l : List Int} (h : l.length ≤ 10) (ht : ∀ i ∈ l, Bn 70 i) : TryQ (.tup (l.map PD.D.int)) := tq_tup (by rw [List.length_map]; exact h) fun x hx => by
  obtain ⟨i, hi, rfl⟩ := List.mem_map.mp hx
  exact ti_int (ht i hi)
theorem tq_fD {f : F3} (h : Fb 70 f) : TryQ (fD f) := tq_ints (l := [f.a, f.b, f.c]) (by simp) fun i hi => by
  simp only [List.mem_cons, List.not_mem_nil, or_false] at hi
  rcases hi with rfl | rfl | rfl
  · exact h.1
  · exact h.2.1
  · exact h.2.2
theorem sp__law_no_two : ∀ bx args P W, args.length + 1 = 2 → F__law_no_two (bx :: args) P W → d__law_no_two W ⟨fun ρ => ∃ b, ρ[0]? = some (some b) ∧ P .non b, fun d ρ => ∃ b, ρ[0]? = some (some b) ∧ NotOwn d ∧ P d b, fun _ => False, fun _ => False⟩ (startD 6 (bx :: args)) := by
  rintro bx args P W _ ⟨bx', ⟨a, b, c⟩, e, hb, ⟨ba, bb, bc⟩, hP⟩
  cases e
  dsimp only at ba bb bc
  unfold d__law_no_two
  unfold fD at *
  refine seq_of (fun ρ => ρ = [some bx, some (.tup [.int a, .int b, .int c]), some (.int a), some (.int b), some (.int c), none]) ?_ (fun C hC => ?_)
  rotate_left
  · simp only [dC_e, dVar_e, dOwn_e, dOp_e, dUn_e, dNil_e, dCons_e, dTup_e, dLst_e, dCB_e, dCall_e, dCallB_e, dSeq_e, dNext_e, dBreak_e, dCont_e, dDrop_e, dRet_e, dRetN_e, dIfS_e, dSet_e, dSetO_e, dAug_e, dRaise_e, dApp_e, dAsg_e, dPar_e, dPar3_e, dPar_vvo_e, dgName_e, dgTup_e, dgCons_e, dgNil_e, dTest_e, dAnd_e, dOr_e, dNot_e, dYes_e, dIf_e, dAndV_e, dOrV_e, dNotV_e, dIsi_e, dBits_e, dTuple_e, dSeqI_e, dChain_e, i2_e, i2'_e, u1_e, eqP_int, neP_int, addP_int, addP_tup, addP_lst, lenP_lst, lenP_tup, lenP_scr, absP_int, intP_int, isN_P, notN_P, isB2_P, tuple_lst, sel_t, sel_f, ixP_t0, ixP_t1, ixP_l0, ixP_l1, ixP_own0, ixP_own1, startD, List.map_cons, List.map_nil, List.length_cons, List.length_nil, List.cons_append, List.nil_append, List.getElem?_cons_zero, List.getElem?_cons_succ, List.set_cons_zero, List.set_cons_succ, Nat.reduceAdd, Nat.reduceSub, List.replicate_succ, List.replicate_zero, Option.some.injEq]
    exact ⟨trivial, hC _ rfl⟩
  rintro ρ rfl
  refine seq_of (fun ρ => ∃ ts : List PD.D, ts.length = 12 ∧ (∀ d ∈ ts, TryQ d) ∧ ρ = [some bx, some (.tup [.int a, .int b, .int c]), some (.int a), some (.int b), some (.int c), some (.lst ts)]) ?_ (fun C hC => ?_)
  · rintro ρ ⟨ts, hl, ht, rfl⟩
    simp only [dC_e, dVar_e, dOwn_e, dOp_e, dUn_e, dNil_e, dCons_e, dTup_e, dLst_e, dCB_e, dCall_e, dCallB_e, dSeq_e, dNext_e, dBreak_e, dCont_e, dDrop_e, dRet_e, dRetN_e, dIfS_e, dSet_e, dSetO_e, dAug_e, dRaise_e, dApp_e, dAsg_e, dPar_e, dPar3_e, dPar_vvo_e, dgName_e, dgTup_e, dgCons_e, dgNil_e, dTest_e, dAnd_e, dOr_e, dNot_e, dYes_e, dIf_e, dAndV_e, dOrV_e, dNotV_e, dIsi_e, dBits_e, dTuple_e, dSeqI_e, dChain_e, i2_e, i2'_e, u1_e, eqP_int, neP_int, addP_int, addP_tup, addP_lst, lenP_lst, lenP_tup, lenP_scr, absP_int, intP_int, isN_P, notN_P, isB2_P, tuple_lst, sel_t, sel_f, ixP_t0, ixP_t1, ixP_l0, ixP_l1, ixP_own0, ixP_own1, startD, List.map_cons, List.map_nil, List.length_cons, List.length_nil, List.cons_append, List.nil_append, List.getElem?_cons_zero, List.getElem?_cons_succ, List.set_cons_zero, List.set_cons_succ, Nat.reduceAdd, Nat.reduceSub, List.replicate_succ, List.replicate_zero, Option.some.injEq]
    refine ⟨bx, ts.length, rfl, hb, by omega, by omega, fun i b1 hb1 hi => ?_⟩
    dsimp only
    rw [ixP_lst (List.getElem?_eq_getElem hi)]
    have hm := ht _ (List.getElem_mem hi)
    have hd := hP _ b1 hb1 hm
    have hn : NotOwn ts[i] := by
      have := hm.1.1
      cases e : ts[i] with
      | own j => rw [e] at this; cases this
      | _ => trivial
    exact ⟨_, rfl, hn, hd⟩
  · simp only [dC_e, dVar_e, dOwn_e, dOp_e, dUn_e, dNil_e, dCons_e, dTup_e, dLst_e, dCB_e, dCall_e, dCallB_e, dSeq_e, dNext_e, dBreak_e, dCont_e, dDrop_e, dRet_e, dRetN_e, dIfS_e, dSet_e, dSetO_e, dAug_e, dRaise_e, dApp_e, dAsg_e, dPar_e, dPar3_e, dPar_vvo_e, dgName_e, dgTup_e, dgCons_e, dgNil_e, dTest_e, dAnd_e, dOr_e, dNot_e, dYes_e, dIf_e, dAndV_e, dOrV_e, dNotV_e, dIsi_e, dBits_e, dTuple_e, dSeqI_e, dChain_e, i2_e, i2'_e, u1_e, eqP_int, neP_int, addP_int, addP_tup, addP_lst, lenP_lst, lenP_tup, lenP_scr, absP_int, intP_int, isN_P, notN_P, isB2_P, tuple_lst, sel_t, sel_f, ixP_t0, ixP_t1, ixP_l0, ixP_l1, ixP_own0, ixP_own1, startD, List.map_cons, List.map_nil, List.length_cons, List.length_nil, List.cons_append, List.nil_append, List.getElem?_cons_zero, List.getElem?_cons_succ, List.set_cons_zero, List.set_cons_succ, Nat.reduceAdd, Nat.reduceSub, List.replicate_succ, List.replicate_zero, Option.some.injEq, u1_e]
    have l2 : Bn 64 (2 : Int) := Bn.lit
    have la : Bn 63 a := ba.mono (by decide)
    have lb : Bn 63 b := bb.mono (by decide)
    have lc : Bn 63 c := bc.mono (by decide)
    have i2 : Bn 2 (2 : Int) := by unfold Bn; decide
    have i0 : Bn 70 (0 : Int) := blit
    have i1 : Bn 70 (1 : Int) := blit
    have i2' : Bn 70 (2 : Int) := blit
    have i3 : Bn 70 (3 : Int) := blit
    have a2 : Bn 70 (2 * a) := (i2.mul ba).mono (by decide)
    have b2 : Bn 70 (2 * b) := (i2.mul bb).mono (by decide)
    have c2 : Bn 70 (2 * c) := (i2.mul bc).mono (by decide)
    have a3 : Bn 70 a := ba.mono (by decide)
    have b3 : Bn 70 b := bb.mono (by decide)
    have c3 : Bn 70 c := bc.mono (by decide)
    have c4 : Bn 70 (c + 4000) := (Bn.sum bc (Bn.of_le (n := 4000) (by decide) (by decide))).mono (by decide)
    refine ⟨by exact mok (by repeat' (first | assumption | exact Bn.lit | apply Bn.mul | apply Bn.add | apply Bn.sub | apply Bn.neg)) (by repeat' (first | assumption | exact Bn.lit | apply Bn.mul | apply Bn.add | apply Bn.sub | apply Bn.neg)) (by omega), by exact mok (by repeat' (first | assumption | exact Bn.lit | apply Bn.mul | apply Bn.add | apply Bn.sub | apply Bn.neg)) (by repeat' (first | assumption | exact Bn.lit | apply Bn.mul | apply Bn.add | apply Bn.sub | apply Bn.neg)) (by omega), by exact mok (by repeat' (first | assumption | exact Bn.lit | apply Bn.mul | apply Bn.add | apply Bn.sub | apply Bn.neg)) (by repeat' (first | assumption | exact Bn.lit | apply Bn.mul | apply Bn.add | apply Bn.sub | apply Bn.neg)) (by omega), hC _ ⟨_, rfl, ?_, rfl⟩⟩
    intro d hd
    have three : ∀ x y z : Int, Bn 70 x → Bn 70 y → Bn 70 z → TryQ (.tup [.int x, .int y, .int z]) := fun x y z hx hy hz => tq_fD (f := ⟨x, y, z⟩) ⟨hx, hy, hz⟩
    simp only [List.mem_cons, List.not_mem_nil, or_false] at hd
    rcases hd with rfl | rfl | rfl | rfl | rfl | rfl | rfl | rfl | rfl | rfl | rfl | rfl
    · exact three _ _ _ a2 b2 c2
    · exact three _ _ _ a3.neg b3 c3.neg
    · refine tq_ints (l := [a, b]) (by simp) fun i hi => ?_
      simp only [List.mem_cons, List.not_mem_nil, or_false] at hi
      rcases hi with rfl | rfl <;> assumption
    · refine tq_ints (l := [a, b, c, 0]) (by simp) fun i hi => ?_
      simp only [List.mem_cons, List.not_mem_nil, or_false] at hi
      rcases hi with rfl | rfl | rfl | rfl <;> assumption
    · exact three _ _ _ i0 b3 c3
    · exact three _ _ _ a3 b3 c4
    · exact three _ _ _ i1 i2' i1
    · exact three _ _ _ i1 i3 i1
    · exact tq_plain ⟨rfl, rfl⟩ rfl
    · exact tq_plain ⟨rfl, rfl⟩ rfl
    · refine tq_tup (by simp) fun x hx => ?_
      simp only [List.mem_cons, List.not_mem_nil, or_false] at hx
      rcases hx with rfl | rfl | rfl
      · exact ti_int a3
      · exact ti_str (by rw [okN]; decide +kernel)
      · exact ti_int c3
    · exact tq_tup (by simp) fun x hx => nomatch hx
end K08

end
section
set_option Elab.async false
set_option linter.all false
set_option maxRecDepth 100000
/-! k08: one pair of forms asked -/
namespace K08
open PySem L2 PD NT

theorem wipe5 {a0 a1 a2 a3 a4 : Option D} : wipeO (fun i => i == 0) [a0, a1, a2, a3, a4] = [none, a1, a2, a3, a4] := rfl
theorem neP_self {ρ : PD.Env} {xs : List D} {k : D → Prop} (o : okN 60 (.tup xs) = true) (h : k (.bl false)) : neP ρ (.tup xs) (.tup xs) k := by
  refine ⟨o, o, ?_⟩
  rw [show deref ρ (.tup xs) = .tup xs from rfl, eqD_refl o]
  exact h
theorem eqP_self {ρ : PD.Env} {xs : List D} {k : D → Prop} (o : okN 60 (.tup xs) = true) (h : k (.bl true)) : eqP ρ (.tup xs) (.tup xs) k := by
  refine ⟨o, o, ?_⟩
  rw [show deref ρ (.tup xs) = .tup xs from rfl, eqD_refl o]
  exact h
theorem two_is {f : F3} (h : TwoF f) : isTwo (fD f) = true := decide_eq_true h
theorem rd_fD (f : F3) : rdN 4 (fD f) = true := by
  simp only [fD, rdN, rdNs, List.length_cons, List.length_nil, Bool.and_true]
  rfl
theorem rd_mD (f : M4) : rdN 4 (mD f) = true := by
  simp only [mD, rdN, rdNs, List.length_cons, List.length_nil, Bool.and_true]
  rfl
theorem rd_pair (f : F3) (m : M4) : rdN 4 (.tup [fD f, mD m]) = true := by
  simp only [fD, mD, rdN, rdNs, List.length_cons, List.length_nil, Bool.and_true]
  rfl
theorem ok_zero {d : D} (h : okN 59 d = true) : okN 60 (.tup [.int 0, d]) = true := by
  simp only [okN, okNs, h, Bool.and_true]
theorem ok59_fD (f : F3) : okN 59 (fD f) = true := by simp only [fD, okN, okNs, Bool.and_true]
theorem ok59_mD (f : M4) : okN 59 (mD f) = true := by simp only [mD, okN, okNs, Bool.and_true]
theorem def_of {f : F3} (h : TwoF f) : Def2 f := ⟨h.1, h.2.1, h.2.2.1⟩
theorem sp__law_right : ∀ bx args P W, args.length + 1 = 3 → F__law_right (bx :: args) P W → d__law_right W ⟨fun ρ => ∃ b, ρ[0]? = some (some b) ∧ P .non b, fun d ρ => ∃ b, ρ[0]? = some (some b) ∧ NotOwn d ∧ P d b, fun _ => False, fun _ => False⟩ (startD 5 (bx :: args)) := by
  rintro bx args P W _ ⟨bx', f, g, e, hf, hg, bf, bg, hP⟩
  cases e
  have tf := tq_fD (bf.mono (show 69 ≤ 70 by decide))
  have tg := tq_fD (bg.mono (show 69 ≤ 70 by decide))
  have if2 := two_is hf
  have ig2 := two_is hg
  have df := def_of hf
  have dg := def_of hg
  have cf : ∀ {d : Prop}, isTwo (fD f) = false → d := fun h => by rw [if2] at h; cases h
  unfold d__law_right
  refine seq_of (fun ρ => ∃ (r : F3) (m : M4), RedF r ∧ det m = 1 ∧ act f m = r ∧ Mb 220 m ∧ ρ = [some bx, some (fD f), some (fD g), some (fD r), some (.tup [.int 0, .tup [fD r, mD m]])]) ?_ (fun C hC => ?_)
  rotate_left
  · simp only [dC_e, dVar_e, dOwn_e, dOp_e, dUn_e, dNil_e, dCons_e, dTup_e, dLst_e, dCB_e, dCall_e, dCallB_e, dSeq_e, dNext_e, dBreak_e, dCont_e, dDrop_e, dRet_e, dRetN_e, dIfS_e, dSet_e, dSetO_e, dAug_e, dRaise_e, dApp_e, dAsg_e, dPar_e, dPar3_e, dPar_vvo_e, dgName_e, dgTup_e, dgCons_e, dgNil_e, dTest_e, dAnd_e, dOr_e, dNot_e, dYes_e, dIf_e, dAndV_e, dOrV_e, dNotV_e, dIsi_e, dBits_e, dTuple_e, dSeqI_e, dChain_e, i2_e, i2'_e, u1_e, eqP_int, neP_int, addP_int, addP_tup, addP_lst, lenP_lst, lenP_tup, lenP_scr, absP_int, intP_int, isN_P, notN_P, isB2_P, tuple_lst, sel_t, sel_f, ixP_t0, ixP_t1, ixP_l0, ixP_l1, ixP_own0, ixP_own1, startD, List.map_cons, List.map_nil, List.length_cons, List.length_nil, List.cons_append, List.nil_append, List.getElem?_cons_zero, List.getElem?_cons_succ, List.set_cons_zero, List.set_cons_succ, Nat.reduceAdd, Nat.reduceSub, List.replicate_succ, List.replicate_zero, Option.some.injEq, dTold, wipe5]
    refine ⟨f, rfl, bf.mono (by decide), df, fun r hr he => ?_⟩
    refine ⟨fD f, rfl, tf, fun f' ef hf' r' m hr' hm em bm => ?_, cf⟩
    obtain rfl := fD_inj ef
    refine ⟨_, rfl, rd_pair _ _, hC _ ⟨r, m, hr, hm, ?_, bm, ?_⟩⟩
    · exact em.trans (eqv_red hr hr' (he.symm.trans ⟨m, hm, em⟩)).symm
    · rw [eqv_red hr hr' (he.symm.trans ⟨m, hm, em⟩)]
  rintro ρ ⟨r, m, hr, hm, em, bm, rfl⟩
  refine seq_of (fun ρ => ρ = [some bx, some (fD f), some (fD g), some (fD r), some (.tup [.int 0, .tup [fD r, mD m]])]) ?_ (fun C hC => ?_)
  rotate_left
  · simp only [dC_e, dVar_e, dOwn_e, dOp_e, dUn_e, dNil_e, dCons_e, dTup_e, dLst_e, dCB_e, dCall_e, dCallB_e, dSeq_e, dNext_e, dBreak_e, dCont_e, dDrop_e, dRet_e, dRetN_e, dIfS_e, dSet_e, dSetO_e, dAug_e, dRaise_e, dApp_e, dAsg_e, dPar_e, dPar3_e, dPar_vvo_e, dgName_e, dgTup_e, dgCons_e, dgNil_e, dTest_e, dAnd_e, dOr_e, dNot_e, dYes_e, dIf_e, dAndV_e, dOrV_e, dNotV_e, dIsi_e, dBits_e, dTuple_e, dSeqI_e, dChain_e, i2_e, i2'_e, u1_e, eqP_int, neP_int, addP_int, addP_tup, addP_lst, lenP_lst, lenP_tup, lenP_scr, absP_int, intP_int, isN_P, notN_P, isB2_P, tuple_lst, sel_t, sel_f, ixP_t0, ixP_t1, ixP_l0, ixP_l1, ixP_own0, ixP_own1, startD, List.map_cons, List.map_nil, List.length_cons, List.length_nil, List.cons_append, List.nil_append, List.getElem?_cons_zero, List.getElem?_cons_succ, List.set_cons_zero, List.set_cons_succ, Nat.reduceAdd, Nat.reduceSub, List.replicate_succ, List.replicate_zero, Option.some.injEq, dTold, wipe5]
    refine ⟨fD f, rfl, tf, fun _ => ?_, cf⟩
    refine ⟨_, rfl, by rw [rdN], ?_⟩
    exact neP_self (ok_zero (by rw [okN])) (hC _ rfl)
  rintro ρ rfl
  refine seq_of (fun ρ => ρ = [some bx, some (fD f), some (fD g), some (fD r), some (.tup [.int 0, .tup [fD r, mD m]])]) ?_ (fun C hC => ?_)
  rotate_left
  · simp only [dC_e, dVar_e, dOwn_e, dOp_e, dUn_e, dNil_e, dCons_e, dTup_e, dLst_e, dCB_e, dCall_e, dCallB_e, dSeq_e, dNext_e, dBreak_e, dCont_e, dDrop_e, dRet_e, dRetN_e, dIfS_e, dSet_e, dSetO_e, dAug_e, dRaise_e, dApp_e, dAsg_e, dPar_e, dPar3_e, dPar_vvo_e, dgName_e, dgTup_e, dgCons_e, dgNil_e, dTest_e, dAnd_e, dOr_e, dNot_e, dYes_e, dIf_e, dAndV_e, dOrV_e, dNotV_e, dIsi_e, dBits_e, dTuple_e, dSeqI_e, dChain_e, i2_e, i2'_e, u1_e, eqP_int, neP_int, addP_int, addP_tup, addP_lst, lenP_lst, lenP_tup, lenP_scr, absP_int, intP_int, isN_P, notN_P, isB2_P, tuple_lst, sel_t, sel_f, ixP_t0, ixP_t1, ixP_l0, ixP_l1, ixP_own0, ixP_own1, startD, List.map_cons, List.map_nil, List.length_cons, List.length_nil, List.cons_append, List.nil_append, List.getElem?_cons_zero, List.getElem?_cons_succ, List.set_cons_zero, List.set_cons_succ, Nat.reduceAdd, Nat.reduceSub, List.replicate_succ, List.replicate_zero, Option.some.injEq, dTold, wipe5]
    refine ⟨fD f, rfl, tf, fun f' ef hf' => ?_, cf⟩
    obtain rfl := fD_inj ef
    refine ⟨_, rfl, by rw [rdN], ?_⟩
    refine ⟨f, rfl, bf.mono (by decide), ?_⟩
    exact neP_self (ok_zero (by rw [okN])) (hC _ rfl)
  rintro ρ rfl
  refine seq_of (fun ρ => ρ = [some bx, some (fD f), some (fD g), some (fD r), some (.tup [.int 0, .tup [fD r, mD m]])]) ?_ (fun C hC => ?_)
  rotate_left
  · simp only [dC_e, dVar_e, dOwn_e, dOp_e, dUn_e, dNil_e, dCons_e, dTup_e, dLst_e, dCB_e, dCall_e, dCallB_e, dSeq_e, dNext_e, dBreak_e, dCont_e, dDrop_e, dRet_e, dRetN_e, dIfS_e, dSet_e, dSetO_e, dAug_e, dRaise_e, dApp_e, dAsg_e, dPar_e, dPar3_e, dPar_vvo_e, dgName_e, dgTup_e, dgCons_e, dgNil_e, dTest_e, dAnd_e, dOr_e, dNot_e, dYes_e, dIf_e, dAndV_e, dOrV_e, dNotV_e, dIsi_e, dBits_e, dTuple_e, dSeqI_e, dChain_e, i2_e, i2'_e, u1_e, eqP_int, neP_int, addP_int, addP_tup, addP_lst, lenP_lst, lenP_tup, lenP_scr, absP_int, intP_int, isN_P, notN_P, isB2_P, tuple_lst, sel_t, sel_f, ixP_t0, ixP_t1, ixP_l0, ixP_l1, ixP_own0, ixP_own1, startD, List.map_cons, List.map_nil, List.length_cons, List.length_nil, List.cons_append, List.nil_append, List.getElem?_cons_zero, List.getElem?_cons_succ, List.set_cons_zero, List.set_cons_succ, Nat.reduceAdd, Nat.reduceSub, List.replicate_succ, List.replicate_zero, Option.some.injEq]
    refine sel_n (by decide) ⟨rfl, ?_⟩
    refine sel_n rfl ?_
    refine sel_n (by decide) ?_
    rw [neP_fD]
    simp only [dC_e, dVar_e, dOwn_e, dOp_e, dUn_e, dNil_e, dCons_e, dTup_e, dLst_e, dCB_e, dCall_e, dCallB_e, dSeq_e, dNext_e, dBreak_e, dCont_e, dDrop_e, dRet_e, dRetN_e, dIfS_e, dSet_e, dSetO_e, dAug_e, dRaise_e, dApp_e, dAsg_e, dPar_e, dPar3_e, dPar_vvo_e, dgName_e, dgTup_e, dgCons_e, dgNil_e, dTest_e, dAnd_e, dOr_e, dNot_e, dYes_e, dIf_e, dAndV_e, dOrV_e, dNotV_e, dIsi_e, dBits_e, dTuple_e, dSeqI_e, dChain_e, i2_e, i2'_e, u1_e, eqP_int, neP_int, addP_int, addP_tup, addP_lst, lenP_lst, lenP_tup, lenP_scr, absP_int, intP_int, isN_P, notN_P, isB2_P, tuple_lst, sel_t, sel_f, ixP_t0, ixP_t1, ixP_l0, ixP_l1, ixP_own0, ixP_own1, startD, List.map_cons, List.map_nil, List.length_cons, List.length_nil, List.cons_append, List.nil_append, List.getElem?_cons_zero, List.getElem?_cons_succ, List.set_cons_zero, List.set_cons_succ, Nat.reduceAdd, Nat.reduceSub, List.replicate_succ, List.replicate_zero, Option.some.injEq]
    refine sel_n (by simp) ?_
    refine ⟨m, rfl, bm.mono (by decide), ?_⟩
    simp only [dC_e, dVar_e, dOwn_e, dOp_e, dUn_e, dNil_e, dCons_e, dTup_e, dLst_e, dCB_e, dCall_e, dCallB_e, dSeq_e, dNext_e, dBreak_e, dCont_e, dDrop_e, dRet_e, dRetN_e, dIfS_e, dSet_e, dSetO_e, dAug_e, dRaise_e, dApp_e, dAsg_e, dPar_e, dPar3_e, dPar_vvo_e, dgName_e, dgTup_e, dgCons_e, dgNil_e, dTest_e, dAnd_e, dOr_e, dNot_e, dYes_e, dIf_e, dAndV_e, dOrV_e, dNotV_e, dIsi_e, dBits_e, dTuple_e, dSeqI_e, dChain_e, i2_e, i2'_e, u1_e, eqP_int, neP_int, addP_int, addP_tup, addP_lst, lenP_lst, lenP_tup, lenP_scr, absP_int, intP_int, isN_P, notN_P, isB2_P, tuple_lst, sel_t, sel_f, ixP_t0, ixP_t1, ixP_l0, ixP_l1, ixP_own0, ixP_own1, startD, List.map_cons, List.map_nil, List.length_cons, List.length_nil, List.cons_append, List.nil_append, List.getElem?_cons_zero, List.getElem?_cons_succ, List.set_cons_zero, List.set_cons_succ, Nat.reduceAdd, Nat.reduceSub, List.replicate_succ, List.replicate_zero, Option.some.injEq]
    refine sel_n (by simp [hm]) ?_
    exact hC _ rfl
  rintro ρ rfl
  refine seq_of (fun ρ => ρ = [some bx, some (fD f), some (fD g), some (fD r), some (.tup [.int 0, .tup [fD r, mD m]])]) ?_ (fun C hC => ?_)
  rotate_left
  · simp only [dC_e, dVar_e, dOwn_e, dOp_e, dUn_e, dNil_e, dCons_e, dTup_e, dLst_e, dCB_e, dCall_e, dCallB_e, dSeq_e, dNext_e, dBreak_e, dCont_e, dDrop_e, dRet_e, dRetN_e, dIfS_e, dSet_e, dSetO_e, dAug_e, dRaise_e, dApp_e, dAsg_e, dPar_e, dPar3_e, dPar_vvo_e, dgName_e, dgTup_e, dgCons_e, dgNil_e, dTest_e, dAnd_e, dOr_e, dNot_e, dYes_e, dIf_e, dAndV_e, dOrV_e, dNotV_e, dIsi_e, dBits_e, dTuple_e, dSeqI_e, dChain_e, i2_e, i2'_e, u1_e, eqP_int, neP_int, addP_int, addP_tup, addP_lst, lenP_lst, lenP_tup, lenP_scr, absP_int, intP_int, isN_P, notN_P, isB2_P, tuple_lst, sel_t, sel_f, ixP_t0, ixP_t1, ixP_l0, ixP_l1, ixP_own0, ixP_own1, startD, List.map_cons, List.map_nil, List.length_cons, List.length_nil, List.cons_append, List.nil_append, List.getElem?_cons_zero, List.getElem?_cons_succ, List.set_cons_zero, List.set_cons_succ, Nat.reduceAdd, Nat.reduceSub, List.replicate_succ, List.replicate_zero, Option.some.injEq, dTold, wipe5]
    refine ⟨f, m, rfl, bf.mono (by decide), bm.mono (by decide), ?_⟩
    dsimp only
    rw [em, neP_fD]
    simp only [dC_e, dVar_e, dOwn_e, dOp_e, dUn_e, dNil_e, dCons_e, dTup_e, dLst_e, dCB_e, dCall_e, dCallB_e, dSeq_e, dNext_e, dBreak_e, dCont_e, dDrop_e, dRet_e, dRetN_e, dIfS_e, dSet_e, dSetO_e, dAug_e, dRaise_e, dApp_e, dAsg_e, dPar_e, dPar3_e, dPar_vvo_e, dgName_e, dgTup_e, dgCons_e, dgNil_e, dTest_e, dAnd_e, dOr_e, dNot_e, dYes_e, dIf_e, dAndV_e, dOrV_e, dNotV_e, dIsi_e, dBits_e, dTuple_e, dSeqI_e, dChain_e, i2_e, i2'_e, u1_e, eqP_int, neP_int, addP_int, addP_tup, addP_lst, lenP_lst, lenP_tup, lenP_scr, absP_int, intP_int, isN_P, notN_P, isB2_P, tuple_lst, sel_t, sel_f, ixP_t0, ixP_t1, ixP_l0, ixP_l1, ixP_own0, ixP_own1, startD, List.map_cons, List.map_nil, List.length_cons, List.length_nil, List.cons_append, List.nil_append, List.getElem?_cons_zero, List.getElem?_cons_succ, List.set_cons_zero, List.set_cons_succ, Nat.reduceAdd, Nat.reduceSub, List.replicate_succ, List.replicate_zero, Option.some.injEq]
    refine sel_n (by simp) ?_
    refine ⟨fD f, rfl, tf, fun f' ef hf' u hu he => ?_, cf⟩
    obtain rfl := fD_inj ef
    refine ⟨_, rfl, rd_fD _, ?_⟩
    obtain ⟨a, b, c⟩ := f
    have hC := hC _ rfl
    unfold fD at hC ⊢
    simp only [dC_e, dVar_e, dOwn_e, dOp_e, dUn_e, dNil_e, dCons_e, dTup_e, dLst_e, dCB_e, dCall_e, dCallB_e, dSeq_e, dNext_e, dBreak_e, dCont_e, dDrop_e, dRet_e, dRetN_e, dIfS_e, dSet_e, dSetO_e, dAug_e, dRaise_e, dApp_e, dAsg_e, dPar_e, dPar3_e, dPar_vvo_e, dgName_e, dgTup_e, dgCons_e, dgNil_e, dTest_e, dAnd_e, dOr_e, dNot_e, dYes_e, dIf_e, dAndV_e, dOrV_e, dNotV_e, dIsi_e, dBits_e, dTuple_e, dSeqI_e, dChain_e, i2_e, i2'_e, u1_e, eqP_int, neP_int, addP_int, addP_tup, addP_lst, lenP_lst, lenP_tup, lenP_scr, absP_int, intP_int, isN_P, notN_P, isB2_P, tuple_lst, sel_t, sel_f, ixP_t0, ixP_t1, ixP_l0, ixP_l1, ixP_own0, ixP_own1, startD, List.map_cons, List.map_nil, List.length_cons, List.length_nil, List.cons_append, List.nil_append, List.getElem?_cons_zero, List.getElem?_cons_succ, List.set_cons_zero, List.set_cons_succ, Nat.reduceAdd, Nat.reduceSub, List.replicate_succ, List.replicate_zero, Option.some.injEq, ixP_t2, u1_e]
    refine ⟨opF ⟨a, b, c⟩, rfl, ⟨bf.1.mono (by decide), bf.2.1.neg.mono (by decide), bf.2.2.mono (by decide)⟩, ⟨hf.1, ?_, ?_⟩, fun u' hu' he' => ?_⟩
    · have := hf.2.1
      simp only [disc, opF] at *
      rw [Int.neg_mul_neg]
      exact this
    · have := hf.2.2.1
      simp only [disc, opF] at *
      rw [Int.neg_mul_neg]
      exact this
    · obtain rfl := eqv_red hu hu' (he.symm.trans he')
      exact neP_self (ok_zero (ok59_fD u)) hC
  rintro ρ rfl
  refine seq_of (fun ρ => ∃ d, ((∃ n, det n = 1 ∧ act f n = g ∧ Mb 900 n ∧ d = mD n) ∨ (¬ Eqv f g ∧ d = .non)) ∧ ρ = [some bx, some (fD f), some (fD g), some (fD r), some (.tup [.int 0, d])]) ?_ (fun C hC => ?_)
  rotate_left
  · simp only [dC_e, dVar_e, dOwn_e, dOp_e, dUn_e, dNil_e, dCons_e, dTup_e, dLst_e, dCB_e, dCall_e, dCallB_e, dSeq_e, dNext_e, dBreak_e, dCont_e, dDrop_e, dRet_e, dRetN_e, dIfS_e, dSet_e, dSetO_e, dAug_e, dRaise_e, dApp_e, dAsg_e, dPar_e, dPar3_e, dPar_vvo_e, dgName_e, dgTup_e, dgCons_e, dgNil_e, dTest_e, dAnd_e, dOr_e, dNot_e, dYes_e, dIf_e, dAndV_e, dOrV_e, dNotV_e, dIsi_e, dBits_e, dTuple_e, dSeqI_e, dChain_e, i2_e, i2'_e, u1_e, eqP_int, neP_int, addP_int, addP_tup, addP_lst, lenP_lst, lenP_tup, lenP_scr, absP_int, intP_int, isN_P, notN_P, isB2_P, tuple_lst, sel_t, sel_f, ixP_t0, ixP_t1, ixP_l0, ixP_l1, ixP_own0, ixP_own1, startD, List.map_cons, List.map_nil, List.length_cons, List.length_nil, List.cons_append, List.nil_append, List.getElem?_cons_zero, List.getElem?_cons_succ, List.set_cons_zero, List.set_cons_succ, Nat.reduceAdd, Nat.reduceSub, List.replicate_succ, List.replicate_zero, Option.some.injEq, dTold, wipe5]
    refine ⟨fD f, fD g, rfl, tf, tg, fun f' g' ef eg _ _ => ?_, fun h => ?_⟩
    · obtain rfl := fD_inj ef
      obtain rfl := fD_inj eg
      exact ⟨fun n hn en bn => ⟨_, rfl, rd_mD n, hC _ ⟨_, .inl ⟨n, hn, en, bn, rfl⟩, rfl⟩⟩, fun no => ⟨_, rfl, by rw [rdN], hC _ ⟨_, .inr ⟨no, rfl⟩, rfl⟩⟩⟩
    · rw [if2, ig2] at h
      cases h
  rintro ρ ⟨d, hd, rfl⟩
  have er : Eqv f r := ⟨m, hm, em⟩
  refine seq_of (fun ρ => Eqv f g ∧ ρ = [some bx, some (fD f), some (fD g), some (fD r), some (.tup [.int 0, d])]) ?_ (fun C hC => ?_)
  rotate_left
  · simp only [dC_e, dVar_e, dOwn_e, dOp_e, dUn_e, dNil_e, dCons_e, dTup_e, dLst_e, dCB_e, dCall_e, dCallB_e, dSeq_e, dNext_e, dBreak_e, dCont_e, dDrop_e, dRet_e, dRetN_e, dIfS_e, dSet_e, dSetO_e, dAug_e, dRaise_e, dApp_e, dAsg_e, dPar_e, dPar3_e, dPar_vvo_e, dgName_e, dgTup_e, dgCons_e, dgNil_e, dTest_e, dAnd_e, dOr_e, dNot_e, dYes_e, dIf_e, dAndV_e, dOrV_e, dNotV_e, dIsi_e, dBits_e, dTuple_e, dSeqI_e, dChain_e, i2_e, i2'_e, u1_e, eqP_int, neP_int, addP_int, addP_tup, addP_lst, lenP_lst, lenP_tup, lenP_scr, absP_int, intP_int, isN_P, notN_P, isB2_P, tuple_lst, sel_t, sel_f, ixP_t0, ixP_t1, ixP_l0, ixP_l1, ixP_own0, ixP_own1, startD, List.map_cons, List.map_nil, List.length_cons, List.length_nil, List.cons_append, List.nil_append, List.getElem?_cons_zero, List.getElem?_cons_succ, List.set_cons_zero, List.set_cons_succ, Nat.reduceAdd, Nat.reduceSub, List.replicate_succ, List.replicate_zero, Option.some.injEq]
    refine ⟨g, rfl, bg.mono (by decide), dg, fun u hu he => ?_⟩
    dsimp only
    rw [neP_fD]
    simp only [dC_e, dVar_e, dOwn_e, dOp_e, dUn_e, dNil_e, dCons_e, dTup_e, dLst_e, dCB_e, dCall_e, dCallB_e, dSeq_e, dNext_e, dBreak_e, dCont_e, dDrop_e, dRet_e, dRetN_e, dIfS_e, dSet_e, dSetO_e, dAug_e, dRaise_e, dApp_e, dAsg_e, dPar_e, dPar3_e, dPar_vvo_e, dgName_e, dgTup_e, dgCons_e, dgNil_e, dTest_e, dAnd_e, dOr_e, dNot_e, dYes_e, dIf_e, dAndV_e, dOrV_e, dNotV_e, dIsi_e, dBits_e, dTuple_e, dSeqI_e, dChain_e, i2_e, i2'_e, u1_e, eqP_int, neP_int, addP_int, addP_tup, addP_lst, lenP_lst, lenP_tup, lenP_scr, absP_int, intP_int, isN_P, notN_P, isB2_P, tuple_lst, sel_t, sel_f, ixP_t0, ixP_t1, ixP_l0, ixP_l1, ixP_own0, ixP_own1, startD, List.map_cons, List.map_nil, List.length_cons, List.length_nil, List.cons_append, List.nil_append, List.getElem?_cons_zero, List.getElem?_cons_succ, List.set_cons_zero, List.set_cons_succ, Nat.reduceAdd, Nat.reduceSub, List.replicate_succ, List.replicate_zero, Option.some.injEq]
    refine sel_of (fun h => ?_) (fun h => ?_)
    · have h1 : ¬ u = r := by simpa using h
      rcases hd with ⟨n, hn, en, bn, rfl⟩ | ⟨no, rfl⟩
      · exact absurd (eqv_red hu hr (he.symm.trans (Eqv.symm ⟨n, hn, en⟩ |>.trans er))) h1
      · refine eqP_self (ok_zero (by rw [okN])) ?_
        exact ⟨_, rfl, trivial, hP⟩
    · have h1 : u = r := by simpa using h
      subst h1
      exact hC _ ⟨er.trans he.symm, rfl⟩
  rintro ρ ⟨hq, rfl⟩
  rcases hd with ⟨n, hn, en, bn, rfl⟩ | ⟨no, rfl⟩
  · simp only [dC_e, dVar_e, dOwn_e, dOp_e, dUn_e, dNil_e, dCons_e, dTup_e, dLst_e, dCB_e, dCall_e, dCallB_e, dSeq_e, dNext_e, dBreak_e, dCont_e, dDrop_e, dRet_e, dRetN_e, dIfS_e, dSet_e, dSetO_e, dAug_e, dRaise_e, dApp_e, dAsg_e, dPar_e, dPar3_e, dPar_vvo_e, dgName_e, dgTup_e, dgCons_e, dgNil_e, dTest_e, dAnd_e, dOr_e, dNot_e, dYes_e, dIf_e, dAndV_e, dOrV_e, dNotV_e, dIsi_e, dBits_e, dTuple_e, dSeqI_e, dChain_e, i2_e, i2'_e, u1_e, eqP_int, neP_int, addP_int, addP_tup, addP_lst, lenP_lst, lenP_tup, lenP_scr, absP_int, intP_int, isN_P, notN_P, isB2_P, tuple_lst, sel_t, sel_f, ixP_t0, ixP_t1, ixP_l0, ixP_l1, ixP_own0, ixP_own1, startD, List.map_cons, List.map_nil, List.length_cons, List.length_nil, List.cons_append, List.nil_append, List.getElem?_cons_zero, List.getElem?_cons_succ, List.set_cons_zero, List.set_cons_succ, Nat.reduceAdd, Nat.reduceSub, List.replicate_succ, List.replicate_zero, Option.some.injEq]
    refine sel_y (by decide) ?_
    refine ⟨n, rfl, bn.mono (by decide), ?_⟩
    simp only [dC_e, dVar_e, dOwn_e, dOp_e, dUn_e, dNil_e, dCons_e, dTup_e, dLst_e, dCB_e, dCall_e, dCallB_e, dSeq_e, dNext_e, dBreak_e, dCont_e, dDrop_e, dRet_e, dRetN_e, dIfS_e, dSet_e, dSetO_e, dAug_e, dRaise_e, dApp_e, dAsg_e, dPar_e, dPar3_e, dPar_vvo_e, dgName_e, dgTup_e, dgCons_e, dgNil_e, dTest_e, dAnd_e, dOr_e, dNot_e, dYes_e, dIf_e, dAndV_e, dOrV_e, dNotV_e, dIsi_e, dBits_e, dTuple_e, dSeqI_e, dChain_e, i2_e, i2'_e, u1_e, eqP_int, neP_int, addP_int, addP_tup, addP_lst, lenP_lst, lenP_tup, lenP_scr, absP_int, intP_int, isN_P, notN_P, isB2_P, tuple_lst, sel_t, sel_f, ixP_t0, ixP_t1, ixP_l0, ixP_l1, ixP_own0, ixP_own1, startD, List.map_cons, List.map_nil, List.length_cons, List.length_nil, List.cons_append, List.nil_append, List.getElem?_cons_zero, List.getElem?_cons_succ, List.set_cons_zero, List.set_cons_succ, Nat.reduceAdd, Nat.reduceSub, List.replicate_succ, List.replicate_zero, Option.some.injEq]
    refine sel_y (by simp [hn]) ?_
    refine ⟨f, n, rfl, bf.mono (by decide), bn.mono (by decide), ?_⟩
    dsimp only
    rw [en, eqP_fD]
    refine ⟨_, rfl, trivial, ?_⟩
    rw [decide_eq_true rfl]
    exact hP
  · exact absurd hq no
end K08

end
section
set_option Elab.async false
set_option linter.all false
set_option maxRecDepth 100000
/-! k08: the law -/
namespace K08
open PySem L2 PD NT

theorem wipe15 {a0 a1 a2 a3 a4 a5 a6 a7 a8 a9 a10 a11 a12 a13 a14 : Option D} : wipeO (fun i => i == 2) [a0, a1, a2, a3, a4, a5, a6, a7, a8, a9, a10, a11, a12, a13, a14] = [a0, a1, none, a3, a4, a5, a6, a7, a8, a9, a10, a11, a12, a13, a14] := by simp [wipeO]
theorem for_r1 {n : Int} {j : Nat} {b : DS} {De : DEnds} {ρ : PD.Env} (I : PD.Env → Prop) (hn : -(2 ^ 62) ≤ n ∧ n < 2 ^ 62) (h0 : I ρ)
    (hs : ∀ (i : Nat) (ρ2 : PD.Env) (De' : DEnds), i < n.toNat → I ρ2 → (∀ ρ, I ρ → De'.nx ρ) → De'.rt = De.rt → b De' (ρ2.set j (some (.int i)))) (hd : ∀ ρ, I ρ → De.nx ρ) : dFor (dRange1 (dC (.int n))) (dgName j) b De ρ := by
  refine ⟨hn, fun _ => I, h0, fun i d ρ2 hi h2 => ?_, fun ρ2 h2 => hd ρ2 h2⟩
  obtain ⟨hj, rfl⟩ := rgD_got hi
  rw [show (0 : Int) + (i : Nat) = (i : Int) by omega]
  exact hs i ρ2 _ hj h2 (fun _ h => h) rfl
theorem for_any {di : DI} {g : DG} {b : DS} {De : DEnds} {ρ : PD.Env} (X : D → Prop) (I : PD.Env → Prop)
    (h0 : ∀ C : List D → PD.Env → Prop, (∀ items ρ1, (∀ d ∈ items, X d) → I ρ1 → C items ρ1) → di ρ C)
    (hs : ∀ (d : D) (ρ2 : PD.Env) (De' : DEnds), X d → I ρ2 → (∀ ρ, I ρ → De'.nx ρ) → g d ρ2 (b De')) (hd : ∀ ρ, I ρ → De.nx ρ) : dFor di g b De ρ :=
  h0 _ fun items ρ1 hx h1 => ⟨fun _ => I, h1, fun i d ρ2 hi h2 => hs d ρ2 _ (hx d (List.mem_of_getElem? hi)) h2 fun _ h => h, fun ρ2 h2 => hd ρ2 h2⟩
/-- repr of some forms -/
theorem rows_fD : ∀ l : List F3, (∀ f ∈ l, Fb 70 f) → isRows (toPys (l.map fD)) = true ∧ PyData.weightAll (toPys (l.map fD)) ≤ 300 * l.length
  | [], _ => ⟨by rw [List.map_nil, toPys, isRows], by rw [List.map_nil, toPys, PyData.weightAll]; exact Nat.zero_le _⟩
  | f :: l, h => by
    obtain ⟨h1, h2⟩ := rows_fD l fun g hg => h g (List.mem_cons_of_mem _ hg)
    obtain ⟨b1, b2, b3⟩ := h f List.mem_cons_self
    have l1 := bn_log b1
    have l2 := bn_log b2
    have l3 := bn_log b3
    constructor
    · rw [List.map_cons, toPys, isRows, h1, Bool.and_true]
      simp only [fD, toPy, toPys, isRow, isRows, Bool.and_eq_true, decide_eq_true_eq]
      exact ⟨by omega, by omega, by omega, trivial⟩
    · rw [List.map_cons, toPys, PyData.weightAll, List.length_cons]
      simp only [fD, toPy, toPys, PyData.weight, PyData.weightAll]
      have w : ∀ i : Int, i.natAbs.log2 ≤ 70 → (if (i == 0) = true then 0 else i.natAbs.log2 + 1) ≤ 71 := fun i h => by
        split
        · omega
        · omega
      have e1 := w f.a l1
      have e2 := w f.b l2
      have e3 := w f.c l3
      generalize (if (f.a == 0) = true then 0 else f.a.natAbs.log2 + 1) = x1 at *
      generalize (if (f.b == 0) = true then 0 else f.b.natAbs.log2 + 1) = x2 at *
      generalize (if (f.c == 0) = true then 0 else f.c.natAbs.log2 + 1) = x3 at *
      omega
theorem okNs_fD' {n : Nat} : ∀ l : List F3, okNs (n + 1) (l.map fD) = true
  | [] => by rw [List.map_nil, okNs]
  | x :: ns => by
    rw [List.map_cons, okNs, okNs_fD' ns]
    simp only [fD, okN, okNs, Bool.and_true]
@[irreducible] def shownF (l : List F3) : PySem.Str := (toPy (.lst (l.map fD))).shown
theorem repr_fD {ρ : PD.Env} {l : List F3} {ds : List D} {k : D → Prop} (e : ds = l.map fD) (h : ∀ f ∈ l, Fb 70 f) (hl : l.length ≤ 10) (hk : k (.str (shownF l))) : reprP ρ [.lst ds] k := by
  subst e
  obtain ⟨h1, h2⟩ := rows_fD l h
  unfold shownF at hk
  refine repr_rows (by rw [okN]; exact okNs_fD' l) ?_ ?_ hk
  · rw [toPy, isRow]; exact h1
  · rw [toPy, PyData.weight]
    omega
theorem neP_rep {ρ : PD.Env} {l : List F3} {k : D → Prop} (h : ∀ f ∈ l, Fb 70 f) (hk : k (.bl false)) : neP ρ (.str (shownF l)) (.str (shownF l)) k := by
  unfold shownF
  refine neP_shown (d := toPy (.lst (l.map fD))) ?_ hk
  rw [toPy, isRow]; exact (rows_fD l h).1
/-- what holds within a turn -/
structure Fs (f g h n : F3) : Prop where
  tf : TwoF f
  tg : TwoF g
  th : TwoF h
  tn : TwoF n
  bf : Fb 60 f
  bg : Fb 60 g
  bh : Fb 60 h
  bn : Fb 60 n
def St (ns : List Int) (t : Nat) (k : Int) (f g h n : F3) (ρ : PD.Env) : Prop := ∃ bx x3 x10 x11 x12 x13 x14, BoxOk bx ∧ ρ = [some (.scr ns), some (.int t), some bx, x3, some (fD f), some (fD g), some (fD h), some (.int k), some (fD n), some (.str (shownF [f, g, h, n])), x10, x11, x12, x13, x14]
def StS (ns : List Int) (t : Nat) (k : Int) (f g h n : F3) (m : M4) (ρ : PD.Env) : Prop := ∃ bx x3 x10 x11 x13 x14, BoxOk bx ∧ ρ = [some (.scr ns), some (.int t), some bx, x3, some (fD f), some (fD g), some (fD h), some (.int k), some (fD n), some (.str (shownF [f, g, h, n])), x10, x11, some (mD m), x13, x14]
def StB (ns : List Int) (t : Nat) (k : Int) (f g h n : F3) (b : D) (ρ : PD.Env) : Prop := ∃ bx x3 x10 x11 x12 x14, BoxOk bx ∧ ρ = [some (.scr ns), some (.int t), some bx, x3, some (fD f), some (fD g), some (fD h), some (.int k), some (fD n), some (.str (shownF [f, g, h, n])), x10, x11, x12, some b, x14]
def InvT (ns : List Int) (ρ : PD.Env) : Prop := ∃ x1 x2 x3 x4 x5 x6 x7 x8 x9 x10 x11 x12 x13 x14, ρ = [some (.scr ns), x1, x2, x3, x4, x5, x6, x7, x8, x9, x10, x11, x12, x13, x14]
theorem StB.inv {ns t k f g h n b ρ} (H : StB ns t k f g h n b ρ) : InvT ns ρ := by
  obtain ⟨bx, x3, x10, x11, x12, x14, _, rfl⟩ := H
  exact ⟨_, _, _, _, _, _, _, _, _, _, _, _, _, _, rfl⟩
theorem ok_form : okN 60 (.tup [.int 1, .str "form"]) = true := by
  simp only [okN, okNs, Bool.and_true, Bool.true_and]; decide +kernel
theorem ok_range : okN 60 (.tup [.int 1, .str "range"]) = true := by
  simp only [okN, okNs, Bool.and_true, Bool.true_and]; decide +kernel
theorem tq_three : TryQ (.int 3) := tq_plain ⟨rfl, rfl⟩ rfl
/-- a bad form, asked of a def of one -/
def Bad (b : D) (F : FP) : Prop := ∀ P W, W .form → F [b] P W
/-- what a bad form makes of the def that asks -/
theorem bad_all {A : Nat → Addr} {W : Ex → Prop} {ns t k f g h n b} (hF : Fs f g h n) (tb : TryQ b) (nb : isTwo b = false) {De : DEnds} {ρ : PD.Env} (H : StB ns t k f g h n b ρ) (hD : ∀ ρ, StB ns t k f g h n b ρ → De.nx ρ) :
    (dSeq (dFor (dSeqI (dLst (dCons (dC (.fn (A 3))) (dCons (dC (.fn (A 4))) (dCons (dC (.fn (A 9))) (dCons (dC (.fn (A 13))) dNil)))))) (dgName 14)
  (dIfS (dTest (dOp neP (dTold F__law_read (fun i => i == 2) (fun W => (dCallH 14 [(A 3, F_check_two), (A 4, F_discriminant), (A 9, F_reduced), (A 13, F_turned)] W (dCons (dVar 13) dNil)))) (dTup (dCons (dC (.int 1)) (dCons (dC (.str "form")) dNil)))))
  (dRet (dC (.bl false)))
  dNext))
  (dSeq (dIfS (dTest (dOp neP (dTold F__law_read (fun i => i == 2) (fun W => (dCall F_stepped W (dCons (dVar 13) (dCons (dC (.int 3)) dNil))))) (dTup (dCons (dC (.int 1)) (dCons (dC (.str "form")) dNil)))))
  (dRet (dC (.bl false)))
  dNext)
  (dFor (dSeqI (dLst (dCons (dTup (dCons (dVar 13) (dCons (dVar 4) dNil))) (dCons (dTup (dCons (dVar 4) (dCons (dVar 13) dNil))) dNil)))) (dgTup 2 (dgCons (dgName 10) (dgCons (dgName 11) dgNil)))
  (dIfS (dTest (dOp neP (dTold F__law_read (fun i => i == 2) (fun W => (dCall F_same W (dCons (dVar 10) (dCons (dVar 11) dNil))))) (dTup (dCons (dC (.int 1)) (dCons (dC (.str "form")) dNil)))))
  (dRet (dC (.bl false)))
  dNext)))) De ρ := by
  have tf := tq_fD (hF.bf.mono (show 60 ≤ 70 by decide))
  have cN : ∀ {d : Prop}, isTwo b = true → d := fun h => by rw [nb] at h; cases h
  have noF : ∀ {f' : F3} {d : Prop}, b = fD f' → TwoF f' → d := fun e h => by
    subst e
    rw [two_is h] at nb
    cases nb
  refine seq_of (StB ns t k f g h n b) ?_ (fun C hC => ?_)
  rotate_left
  · refine for_any (fun d => ∃ a F, d = .fn a ∧ (a, F) ∈ [(A 3, F_check_two), (A 4, F_discriminant), (A 9, F_reduced), (A 13, F_turned)] ∧ Bad b F) (StB ns t k f g h n b) ?_ ?_ hC
    · intro C hC
      simp only [dC_e, dVar_e, dOwn_e, dOp_e, dUn_e, dNil_e, dCons_e, dTup_e, dLst_e, dCB_e, dCall_e, dCallB_e, dSeq_e, dNext_e, dBreak_e, dCont_e, dDrop_e, dRet_e, dRetN_e, dIfS_e, dSet_e, dSetO_e, dAug_e, dRaise_e, dApp_e, dAsg_e, dPar_e, dPar3_e, dPar_vvo_e, dgName_e, dgTup_e, dgCons_e, dgNil_e, dTest_e, dAnd_e, dOr_e, dNot_e, dYes_e, dIf_e, dAndV_e, dOrV_e, dNotV_e, dIsi_e, dBits_e, dTuple_e, dSeqI_e, dChain_e, i2_e, i2'_e, u1_e, eqP_int, neP_int, addP_int, addP_tup, addP_lst, lenP_lst, lenP_tup, lenP_scr, absP_int, intP_int, isN_P, notN_P, isB2_P, tuple_lst, sel_t, sel_f, ixP_t0, ixP_t1, ixP_l0, ixP_l1, ixP_own0, ixP_own1, startD, List.map_cons, List.map_nil, List.length_cons, List.length_nil, List.cons_append, List.nil_append, List.getElem?_cons_zero, List.getElem?_cons_succ, List.set_cons_zero, List.set_cons_succ, Nat.reduceAdd, Nat.reduceSub, List.replicate_succ, List.replicate_zero, Option.some.injEq]
      refine hC _ _ ?_ H
      intro d hd
      simp only [List.mem_cons, List.not_mem_nil, or_false] at hd
      rcases hd with rfl | rfl | rfl | rfl
      · exact ⟨_, F_check_two, rfl, by simp, fun P W w => ⟨b, rfl, tb, cN, fun _ => w⟩⟩
      · exact ⟨_, F_discriminant, rfl, by simp, fun P W w => ⟨b, rfl, tb, fun f' e z => noF e z, fun _ => w⟩⟩
      · exact ⟨_, F_reduced, rfl, by simp, fun P W w => ⟨b, rfl, tb, fun f' e z => noF e z, fun _ => w⟩⟩
      · exact ⟨_, F_turned, rfl, by simp, fun P W w => ⟨b, rfl, tb, fun f' e z => noF e z, fun _ => w⟩⟩
    · rintro d ρ2 De' ⟨a, F, rfl, hm, hB⟩ ⟨bx, x3, x10, x11, x12, x14, hb, rfl⟩ hn
      simp only [dC_e, dVar_e, dOwn_e, dOp_e, dUn_e, dNil_e, dCons_e, dTup_e, dLst_e, dCB_e, dCall_e, dCallB_e, dSeq_e, dNext_e, dBreak_e, dCont_e, dDrop_e, dRet_e, dRetN_e, dIfS_e, dSet_e, dSetO_e, dAug_e, dRaise_e, dApp_e, dAsg_e, dPar_e, dPar3_e, dPar_vvo_e, dgName_e, dgTup_e, dgCons_e, dgNil_e, dTest_e, dAnd_e, dOr_e, dNot_e, dYes_e, dIf_e, dAndV_e, dOrV_e, dNotV_e, dIsi_e, dBits_e, dTuple_e, dSeqI_e, dChain_e, i2_e, i2'_e, u1_e, eqP_int, neP_int, addP_int, addP_tup, addP_lst, lenP_lst, lenP_tup, lenP_scr, absP_int, intP_int, isN_P, notN_P, isB2_P, tuple_lst, sel_t, sel_f, ixP_t0, ixP_t1, ixP_l0, ixP_l1, ixP_own0, ixP_own1, startD, List.map_cons, List.map_nil, List.length_cons, List.length_nil, List.cons_append, List.nil_append, List.getElem?_cons_zero, List.getElem?_cons_succ, List.set_cons_zero, List.set_cons_succ, Nat.reduceAdd, Nat.reduceSub, List.replicate_succ, List.replicate_zero, Option.some.injEq, dTold, wipe15, dCallH]
      refine ⟨a, F, rfl, hm, ?_⟩
      refine hB _ _ ?_
      exact neP_self ok_form (hn _ ⟨_, _, _, _, _, _, hb, rfl⟩)
  clear H
  rintro ρ H
  refine seq_of (StB ns t k f g h n b) ?_ (fun C hC => ?_)
  rotate_left
  · obtain ⟨bx, x3, x10, x11, x12, x14, hb, rfl⟩ := H
    simp only [dC_e, dVar_e, dOwn_e, dOp_e, dUn_e, dNil_e, dCons_e, dTup_e, dLst_e, dCB_e, dCall_e, dCallB_e, dSeq_e, dNext_e, dBreak_e, dCont_e, dDrop_e, dRet_e, dRetN_e, dIfS_e, dSet_e, dSetO_e, dAug_e, dRaise_e, dApp_e, dAsg_e, dPar_e, dPar3_e, dPar_vvo_e, dgName_e, dgTup_e, dgCons_e, dgNil_e, dTest_e, dAnd_e, dOr_e, dNot_e, dYes_e, dIf_e, dAndV_e, dOrV_e, dNotV_e, dIsi_e, dBits_e, dTuple_e, dSeqI_e, dChain_e, i2_e, i2'_e, u1_e, eqP_int, neP_int, addP_int, addP_tup, addP_lst, lenP_lst, lenP_tup, lenP_scr, absP_int, intP_int, isN_P, notN_P, isB2_P, tuple_lst, sel_t, sel_f, ixP_t0, ixP_t1, ixP_l0, ixP_l1, ixP_own0, ixP_own1, startD, List.map_cons, List.map_nil, List.length_cons, List.length_nil, List.cons_append, List.nil_append, List.getElem?_cons_zero, List.getElem?_cons_succ, List.set_cons_zero, List.set_cons_succ, Nat.reduceAdd, Nat.reduceSub, List.replicate_succ, List.replicate_zero, Option.some.injEq, dTold, wipe15]
    refine ⟨b, .int 3, rfl, tb, tq_three, fun f' m e _ z => noF e z, fun _ => ?_, cN⟩
    exact neP_self ok_form (hC _ ⟨_, _, _, _, _, _, hb, rfl⟩)
  clear H
  rintro ρ H
  refine for_any (fun d => d = .tup [b, fD f] ∨ d = .tup [fD f, b]) (StB ns t k f g h n b) ?_ ?_ hD
  · intro C hC
    obtain ⟨bx, x3, x10, x11, x12, x14, hb, rfl⟩ := H
    simp only [dC_e, dVar_e, dOwn_e, dOp_e, dUn_e, dNil_e, dCons_e, dTup_e, dLst_e, dCB_e, dCall_e, dCallB_e, dSeq_e, dNext_e, dBreak_e, dCont_e, dDrop_e, dRet_e, dRetN_e, dIfS_e, dSet_e, dSetO_e, dAug_e, dRaise_e, dApp_e, dAsg_e, dPar_e, dPar3_e, dPar_vvo_e, dgName_e, dgTup_e, dgCons_e, dgNil_e, dTest_e, dAnd_e, dOr_e, dNot_e, dYes_e, dIf_e, dAndV_e, dOrV_e, dNotV_e, dIsi_e, dBits_e, dTuple_e, dSeqI_e, dChain_e, i2_e, i2'_e, u1_e, eqP_int, neP_int, addP_int, addP_tup, addP_lst, lenP_lst, lenP_tup, lenP_scr, absP_int, intP_int, isN_P, notN_P, isB2_P, tuple_lst, sel_t, sel_f, ixP_t0, ixP_t1, ixP_l0, ixP_l1, ixP_own0, ixP_own1, startD, List.map_cons, List.map_nil, List.length_cons, List.length_nil, List.cons_append, List.nil_append, List.getElem?_cons_zero, List.getElem?_cons_succ, List.set_cons_zero, List.set_cons_succ, Nat.reduceAdd, Nat.reduceSub, List.replicate_succ, List.replicate_zero, Option.some.injEq]
    refine hC _ _ ?_ ⟨_, _, _, _, _, _, hb, rfl⟩
    intro d hd
    simpa using hd
  · rintro d ρ2 De' hd ⟨bx, x3, x10, x11, x12, x14, hb, rfl⟩ hn
    rcases hd with rfl | rfl
    · simp only [dC_e, dVar_e, dOwn_e, dOp_e, dUn_e, dNil_e, dCons_e, dTup_e, dLst_e, dCB_e, dCall_e, dCallB_e, dSeq_e, dNext_e, dBreak_e, dCont_e, dDrop_e, dRet_e, dRetN_e, dIfS_e, dSet_e, dSetO_e, dAug_e, dRaise_e, dApp_e, dAsg_e, dPar_e, dPar3_e, dPar_vvo_e, dgName_e, dgTup_e, dgCons_e, dgNil_e, dTest_e, dAnd_e, dOr_e, dNot_e, dYes_e, dIf_e, dAndV_e, dOrV_e, dNotV_e, dIsi_e, dBits_e, dTuple_e, dSeqI_e, dChain_e, i2_e, i2'_e, u1_e, eqP_int, neP_int, addP_int, addP_tup, addP_lst, lenP_lst, lenP_tup, lenP_scr, absP_int, intP_int, isN_P, notN_P, isB2_P, tuple_lst, sel_t, sel_f, ixP_t0, ixP_t1, ixP_l0, ixP_l1, ixP_own0, ixP_own1, startD, List.map_cons, List.map_nil, List.length_cons, List.length_nil, List.cons_append, List.nil_append, List.getElem?_cons_zero, List.getElem?_cons_succ, List.set_cons_zero, List.set_cons_succ, Nat.reduceAdd, Nat.reduceSub, List.replicate_succ, List.replicate_zero, Option.some.injEq, dTold, wipe15]
      refine ⟨trivial, b, fD f, rfl, tb, tf, fun f' g' e _ z => noF e z, fun _ => ?_⟩
      exact neP_self ok_form (hn _ ⟨_, _, _, _, _, _, hb, rfl⟩)
    · simp only [dC_e, dVar_e, dOwn_e, dOp_e, dUn_e, dNil_e, dCons_e, dTup_e, dLst_e, dCB_e, dCall_e, dCallB_e, dSeq_e, dNext_e, dBreak_e, dCont_e, dDrop_e, dRet_e, dRetN_e, dIfS_e, dSet_e, dSetO_e, dAug_e, dRaise_e, dApp_e, dAsg_e, dPar_e, dPar3_e, dPar_vvo_e, dgName_e, dgTup_e, dgCons_e, dgNil_e, dTest_e, dAnd_e, dOr_e, dNot_e, dYes_e, dIf_e, dAndV_e, dOrV_e, dNotV_e, dIsi_e, dBits_e, dTuple_e, dSeqI_e, dChain_e, i2_e, i2'_e, u1_e, eqP_int, neP_int, addP_int, addP_tup, addP_lst, lenP_lst, lenP_tup, lenP_scr, absP_int, intP_int, isN_P, notN_P, isB2_P, tuple_lst, sel_t, sel_f, ixP_t0, ixP_t1, ixP_l0, ixP_l1, ixP_own0, ixP_own1, startD, List.map_cons, List.map_nil, List.length_cons, List.length_nil, List.cons_append, List.nil_append, List.getElem?_cons_zero, List.getElem?_cons_succ, List.set_cons_zero, List.set_cons_succ, Nat.reduceAdd, Nat.reduceSub, List.replicate_succ, List.replicate_zero, Option.some.injEq, dTold, wipe15]
      refine ⟨trivial, fD f, b, rfl, tf, tb, fun f' g' _ e _ z => noF e z, fun _ => ?_⟩
      exact neP_self ok_form (hn _ ⟨_, _, _, _, _, _, hb, rfl⟩)
set_option maxHeartbeats 1000000 in
theorem sp_law {A : Nat → Addr} : ∀ args P W, args.length = 1 → F_law args P W → d_law A W ⟨fun _ => P .non, fun d ρ => P (retD ρ d), fun _ => False, fun _ => False⟩ (startD 15 args) := by
  rintro args P W _ ⟨ns, rfl, hl, hz, hP⟩
  unfold d_law
  refine seq_of (fun _ => True) (fun ρ _ => hP) fun C hC => ?_
  refine for_r1 (InvT ns) (by decide) ⟨_, _, _, _, _, _, _, _, _, _, _, _, _, _, rfl⟩ ?_ fun ρ _ => hC ρ trivial
  rintro t ρ2 De ht ⟨x1, x2, x3, x4, x5, x6, x7, x8, x9, x10, x11, x12, x13, x14, rfl⟩ hDe hrt
  refine seq_of (fun ρ => ∃ bx, BoxOk bx ∧ ρ = [some (.scr ns), some (.int t), some bx, x3, x4, x5, x6, x7, x8, x9, x10, x11, x12, x13, x14]) ?_ (fun C hC => ?_)
  rotate_left
  · simp only [dC_e, dVar_e, dOwn_e, dOp_e, dUn_e, dNil_e, dCons_e, dTup_e, dLst_e, dCB_e, dCall_e, dCallB_e, dSeq_e, dNext_e, dBreak_e, dCont_e, dDrop_e, dRet_e, dRetN_e, dIfS_e, dSet_e, dSetO_e, dAug_e, dRaise_e, dApp_e, dAsg_e, dPar_e, dPar3_e, dPar_vvo_e, dgName_e, dgTup_e, dgCons_e, dgNil_e, dTest_e, dAnd_e, dOr_e, dNot_e, dYes_e, dIf_e, dAndV_e, dOrV_e, dNotV_e, dIsi_e, dBits_e, dTuple_e, dSeqI_e, dChain_e, i2_e, i2'_e, u1_e, eqP_int, neP_int, addP_int, addP_tup, addP_lst, lenP_lst, lenP_tup, lenP_scr, absP_int, intP_int, isN_P, notN_P, isB2_P, tuple_lst, sel_t, sel_f, ixP_t0, ixP_t1, ixP_l0, ixP_l1, ixP_own0, ixP_own1, startD, List.map_cons, List.map_nil, List.length_cons, List.length_nil, List.cons_append, List.nil_append, List.getElem?_cons_zero, List.getElem?_cons_succ, List.set_cons_zero, List.set_cons_succ, Nat.reduceAdd, Nat.reduceSub, List.replicate_succ, List.replicate_zero, Option.some.injEq]
    exact ⟨ns, t, rfl, ⟨hl, hz⟩, fun d hd => ⟨by decide, hC _ ⟨d, hd, rfl⟩⟩⟩
  rintro ρ ⟨bx, hb, rfl⟩
  refine seq_of (fun ρ => ∃ bx D, BoxOk bx ∧ DiscOk D ∧ ρ = [some (.scr ns), some (.int t), some bx, some (.int D), x4, x5, x6, x7, x8, x9, x10, x11, x12, x13, x14]) ?_ (fun C hC => ?_)
  rotate_left
  · simp only [dC_e, dVar_e, dOwn_e, dOp_e, dUn_e, dNil_e, dCons_e, dTup_e, dLst_e, dCB_e, dCall_e, dCallB_e, dSeq_e, dNext_e, dBreak_e, dCont_e, dDrop_e, dRet_e, dRetN_e, dIfS_e, dSet_e, dSetO_e, dAug_e, dRaise_e, dApp_e, dAsg_e, dPar_e, dPar3_e, dPar_vvo_e, dgName_e, dgTup_e, dgCons_e, dgNil_e, dTest_e, dAnd_e, dOr_e, dNot_e, dYes_e, dIf_e, dAndV_e, dOrV_e, dNotV_e, dIsi_e, dBits_e, dTuple_e, dSeqI_e, dChain_e, i2_e, i2'_e, u1_e, eqP_int, neP_int, addP_int, addP_tup, addP_lst, lenP_lst, lenP_tup, lenP_scr, absP_int, intP_int, isN_P, notN_P, isB2_P, tuple_lst, sel_t, sel_f, ixP_t0, ixP_t1, ixP_l0, ixP_l1, ixP_own0, ixP_own1, startD, List.map_cons, List.map_nil, List.length_cons, List.length_nil, List.cons_append, List.nil_append, List.getElem?_cons_zero, List.getElem?_cons_succ, List.set_cons_zero, List.set_cons_succ, Nat.reduceAdd, Nat.reduceSub, List.replicate_succ, List.replicate_zero, Option.some.injEq]
    exact ⟨bx, 4000, rfl, hb, by decide, by decide, fun D b1 hb1 hD _ => hC _ ⟨b1, D, hb1, hD, rfl⟩⟩
  rintro ρ ⟨bx, D, hb, hD, rfl⟩
  refine seq_of (fun ρ => ∃ bx f g h, BoxOk bx ∧ (TwoF f ∧ TwoF g ∧ TwoF h) ∧ (Fb 50 f ∧ Fb 50 g ∧ Fb 50 h) ∧ ρ = [some (.scr ns), some (.int t), some bx, some (.int D), some (fD f), some (fD g), some (fD h), x7, x8, x9, x10, x11, x12, x13, x14]) ?_ (fun C hC => ?_)
  rotate_left
  · simp only [dC_e, dVar_e, dOwn_e, dOp_e, dUn_e, dNil_e, dCons_e, dTup_e, dLst_e, dCB_e, dCall_e, dCallB_e, dSeq_e, dNext_e, dBreak_e, dCont_e, dDrop_e, dRet_e, dRetN_e, dIfS_e, dSet_e, dSetO_e, dAug_e, dRaise_e, dApp_e, dAsg_e, dPar_e, dPar3_e, dPar_vvo_e, dgName_e, dgTup_e, dgCons_e, dgNil_e, dTest_e, dAnd_e, dOr_e, dNot_e, dYes_e, dIf_e, dAndV_e, dOrV_e, dNotV_e, dIsi_e, dBits_e, dTuple_e, dSeqI_e, dChain_e, i2_e, i2'_e, u1_e, eqP_int, neP_int, addP_int, addP_tup, addP_lst, lenP_lst, lenP_tup, lenP_scr, absP_int, intP_int, isN_P, notN_P, isB2_P, tuple_lst, sel_t, sel_f, ixP_t0, ixP_t1, ixP_l0, ixP_l1, ixP_own0, ixP_own1, startD, List.map_cons, List.map_nil, List.length_cons, List.length_nil, List.cons_append, List.nil_append, List.getElem?_cons_zero, List.getElem?_cons_succ, List.set_cons_zero, List.set_cons_succ, Nat.reduceAdd, Nat.reduceSub, List.replicate_succ, List.replicate_zero, Option.some.injEq]
    refine ⟨bx, D, rfl, hb, hD, fun f b1 hb1 f1 _ f3 => ?_⟩
    refine ⟨b1, D, rfl, hb1, hD, fun g b2 hb2 g1 _ g3 => ?_⟩
    refine ⟨b2, 4000, rfl, hb2, by decide, by decide, fun E b3 hb3 hE _ => ?_⟩
    refine ⟨b3, E, rfl, hb3, hE, fun h b4 hb4 h1 _ h3 => ?_⟩
    exact ⟨trivial, hC _ ⟨b4, f, g, h, hb4, ⟨f1, g1, h1⟩, ⟨f3, g3, h3⟩, rfl⟩⟩
  rintro ρ ⟨bx, f, g, h, hb, ⟨tf, tg, th⟩, ⟨bf, bg, bh⟩, rfl⟩
  refine seq_of (fun ρ => ∃ (bx : PD.D) (k : Int), BoxOk bx ∧ -4 ≤ k ∧ k ≤ 4 ∧ ρ = [some (.scr ns), some (.int t), some bx, some (.int D), some (fD f), some (fD g), some (fD h), some (.int k), x8, x9, x10, x11, x12, x13, x14]) ?_ (fun C hC => ?_)
  rotate_left
  · simp only [dC_e, dVar_e, dOwn_e, dOp_e, dUn_e, dNil_e, dCons_e, dTup_e, dLst_e, dCB_e, dCall_e, dCallB_e, dSeq_e, dNext_e, dBreak_e, dCont_e, dDrop_e, dRet_e, dRetN_e, dIfS_e, dSet_e, dSetO_e, dAug_e, dRaise_e, dApp_e, dAsg_e, dPar_e, dPar3_e, dPar_vvo_e, dgName_e, dgTup_e, dgCons_e, dgNil_e, dTest_e, dAnd_e, dOr_e, dNot_e, dYes_e, dIf_e, dAndV_e, dOrV_e, dNotV_e, dIsi_e, dBits_e, dTuple_e, dSeqI_e, dChain_e, i2_e, i2'_e, u1_e, eqP_int, neP_int, addP_int, addP_tup, addP_lst, lenP_lst, lenP_tup, lenP_scr, absP_int, intP_int, isN_P, notN_P, isB2_P, tuple_lst, sel_t, sel_f, ixP_t0, ixP_t1, ixP_l0, ixP_l1, ixP_own0, ixP_own1, startD, List.map_cons, List.map_nil, List.length_cons, List.length_nil, List.cons_append, List.nil_append, List.getElem?_cons_zero, List.getElem?_cons_succ, List.set_cons_zero, List.set_cons_succ, Nat.reduceAdd, Nat.reduceSub, List.replicate_succ, List.replicate_zero, Option.some.injEq]
    exact ⟨bx, 9, rfl, hb, by decide, by decide, fun j b1 hb1 hj => hC _ ⟨b1, _, hb1, by omega, by omega, rfl⟩⟩
  rintro ρ ⟨bx, k, hb, k1, k2, rfl⟩
  have bk : Bn 3 k := bn_small (n := 4) (by omega) (by omega)
  have c0 : Bn 3 0 := by unfold Bn; decide
  have c1 : Bn 3 1 := by unfold Bn; decide
  have cm : Bn 3 (-1) := by unfold Bn; decide
  refine seq_of (fun ρ => ∃ bx n, BoxOk bx ∧ Fs f g h n ∧ ρ = [some (.scr ns), some (.int t), some bx, some (.int D), some (fD f), some (fD g), some (fD h), some (.int k), some (fD n), x9, x10, x11, x12, x13, x14]) ?_ (fun C hC => ?_)
  rotate_left
  · simp only [dC_e, dVar_e, dOwn_e, dOp_e, dUn_e, dNil_e, dCons_e, dTup_e, dLst_e, dCB_e, dCall_e, dCallB_e, dSeq_e, dNext_e, dBreak_e, dCont_e, dDrop_e, dRet_e, dRetN_e, dIfS_e, dSet_e, dSetO_e, dAug_e, dRaise_e, dApp_e, dAsg_e, dPar_e, dPar3_e, dPar_vvo_e, dgName_e, dgTup_e, dgCons_e, dgNil_e, dTest_e, dAnd_e, dOr_e, dNot_e, dYes_e, dIf_e, dAndV_e, dOrV_e, dNotV_e, dIsi_e, dBits_e, dTuple_e, dSeqI_e, dChain_e, i2_e, i2'_e, u1_e, eqP_int, neP_int, addP_int, addP_tup, addP_lst, lenP_lst, lenP_tup, lenP_scr, absP_int, intP_int, isN_P, notN_P, isB2_P, tuple_lst, sel_t, sel_f, ixP_t0, ixP_t1, ixP_l0, ixP_l1, ixP_own0, ixP_own1, startD, List.map_cons, List.map_nil, List.length_cons, List.length_nil, List.cons_append, List.nil_append, List.getElem?_cons_zero, List.getElem?_cons_succ, List.set_cons_zero, List.set_cons_succ, Nat.reduceAdd, Nat.reduceSub, List.replicate_succ, List.replicate_zero, Option.some.injEq, u1_e]
    refine ⟨bx, 3, rfl, hb, by decide, by decide, fun j b3 hb3 hj => ?_⟩
    have hz : ∃ m : M4, ([.tup [.int 1, .int k, .int 0, .int 1], .tup [.int 1, .int 0, .int k, .int 1], .tup [.int 0, .int (-1), .int 1, .int k]] : List PD.D)[j]? = some (mD m) ∧ Mb 3 m ∧ det m = 1 := by
      have : j = 0 ∨ j = 1 ∨ j = 2 := by omega
      rcases this with rfl | rfl | rfl
      · exact ⟨⟨1, k, 0, 1⟩, rfl, ⟨c1, bk, c0, c1⟩, by simp [det]⟩
      · exact ⟨⟨1, 0, k, 1⟩, rfl, ⟨c1, c0, bk, c1⟩, by simp [det]⟩
      · exact ⟨⟨0, -1, 1, k⟩, rfl, ⟨c0, cm, c1, bk⟩, by simp [det]⟩
    obtain ⟨m, hz, hm, hd⟩ := hz
    dsimp only
    rw [ixP_lst hz]
    refine ⟨f, m, rfl, bf.mono (by omega), hm.mono (by decide), ?_⟩
    exact hC _ ⟨b3, act f m, hb3, ⟨tf, tg, th, two_act tf hd, bf.mono (by decide), bg.mono (by decide), bh.mono (by decide), (act_b bf hm).mono (by decide)⟩, rfl⟩
  rintro ρ ⟨bx, n, hb, hF, rfl⟩
  have hR : ∀ u ∈ [f, g, h, n], Fb 70 u := fun u hu => by
    simp only [List.mem_cons, List.not_mem_nil, or_false] at hu
    rcases hu with rfl | rfl | rfl | rfl
    · exact hF.bf.mono (by decide)
    · exact hF.bg.mono (by decide)
    · exact hF.bh.mono (by decide)
    · exact hF.bn.mono (by decide)
  refine seq_of (St ns t k f g h n) ?_ (fun C hC => ?_)
  rotate_left
  · simp only [dC_e, dVar_e, dOwn_e, dOp_e, dUn_e, dNil_e, dCons_e, dTup_e, dLst_e, dCB_e, dCall_e, dCallB_e, dSeq_e, dNext_e, dBreak_e, dCont_e, dDrop_e, dRet_e, dRetN_e, dIfS_e, dSet_e, dSetO_e, dAug_e, dRaise_e, dApp_e, dAsg_e, dPar_e, dPar3_e, dPar_vvo_e, dgName_e, dgTup_e, dgCons_e, dgNil_e, dTest_e, dAnd_e, dOr_e, dNot_e, dYes_e, dIf_e, dAndV_e, dOrV_e, dNotV_e, dIsi_e, dBits_e, dTuple_e, dSeqI_e, dChain_e, i2_e, i2'_e, u1_e, eqP_int, neP_int, addP_int, addP_tup, addP_lst, lenP_lst, lenP_tup, lenP_scr, absP_int, intP_int, isN_P, notN_P, isB2_P, tuple_lst, sel_t, sel_f, ixP_t0, ixP_t1, ixP_l0, ixP_l1, ixP_own0, ixP_own1, startD, List.map_cons, List.map_nil, List.length_cons, List.length_nil, List.cons_append, List.nil_append, List.getElem?_cons_zero, List.getElem?_cons_succ, List.set_cons_zero, List.set_cons_succ, Nat.reduceAdd, Nat.reduceSub, List.replicate_succ, List.replicate_zero, Option.some.injEq]
    refine repr_fD (l := [f, g, h, n]) rfl hR (by simp) ?_
    exact hC _ ⟨_, _, _, _, _, _, _, hb, rfl⟩
  rintro ρ H
  refine seq_of (St ns t k f g h n) ?_ (fun C hC => ?_)
  rotate_left
  · refine for_any (fun d => ∃ u v, d = .tup [fD u, fD v] ∧ TwoF u ∧ TwoF v ∧ Fb 69 u ∧ Fb 69 v) (St ns t k f g h n) ?_ ?_ hC
    · intro C hC
      obtain ⟨bx, x3, x10, x11, x12, x13, x14, hb, rfl⟩ := H
      simp only [dC_e, dVar_e, dOwn_e, dOp_e, dUn_e, dNil_e, dCons_e, dTup_e, dLst_e, dCB_e, dCall_e, dCallB_e, dSeq_e, dNext_e, dBreak_e, dCont_e, dDrop_e, dRet_e, dRetN_e, dIfS_e, dSet_e, dSetO_e, dAug_e, dRaise_e, dApp_e, dAsg_e, dPar_e, dPar3_e, dPar_vvo_e, dgName_e, dgTup_e, dgCons_e, dgNil_e, dTest_e, dAnd_e, dOr_e, dNot_e, dYes_e, dIf_e, dAndV_e, dOrV_e, dNotV_e, dIsi_e, dBits_e, dTuple_e, dSeqI_e, dChain_e, i2_e, i2'_e, u1_e, eqP_int, neP_int, addP_int, addP_tup, addP_lst, lenP_lst, lenP_tup, lenP_scr, absP_int, intP_int, isN_P, notN_P, isB2_P, tuple_lst, sel_t, sel_f, ixP_t0, ixP_t1, ixP_l0, ixP_l1, ixP_own0, ixP_own1, startD, List.map_cons, List.map_nil, List.length_cons, List.length_nil, List.cons_append, List.nil_append, List.getElem?_cons_zero, List.getElem?_cons_succ, List.set_cons_zero, List.set_cons_succ, Nat.reduceAdd, Nat.reduceSub, List.replicate_succ, List.replicate_zero, Option.some.injEq]
      refine hC _ _ ?_ ⟨_, _, _, _, _, _, _, hb, rfl⟩
      intro d hd
      simp only [List.mem_cons, List.not_mem_nil, or_false] at hd
      have q1 := hF.bf.mono (show 60 ≤ 69 by decide)
      have q2 := hF.bg.mono (show 60 ≤ 69 by decide)
      have q3 := hF.bh.mono (show 60 ≤ 69 by decide)
      have q4 := hF.bn.mono (show 60 ≤ 69 by decide)
      rcases hd with rfl | rfl | rfl | rfl | rfl
      · exact ⟨f, g, rfl, hF.tf, hF.tg, q1, q2⟩
      · exact ⟨f, n, rfl, hF.tf, hF.tn, q1, q4⟩
      · exact ⟨f, h, rfl, hF.tf, hF.th, q1, q3⟩
      · exact ⟨n, f, rfl, hF.tn, hF.tf, q4, q1⟩
      · exact ⟨g, g, rfl, hF.tg, hF.tg, q2, q2⟩
    · rintro d ρ2 De' ⟨u, v, rfl, tu, tv, bu, bv⟩ ⟨bx, x3, x10, x11, x12, x13, x14, hb, rfl⟩ hn
      simp only [dC_e, dVar_e, dOwn_e, dOp_e, dUn_e, dNil_e, dCons_e, dTup_e, dLst_e, dCB_e, dCall_e, dCallB_e, dSeq_e, dNext_e, dBreak_e, dCont_e, dDrop_e, dRet_e, dRetN_e, dIfS_e, dSet_e, dSetO_e, dAug_e, dRaise_e, dApp_e, dAsg_e, dPar_e, dPar3_e, dPar_vvo_e, dgName_e, dgTup_e, dgCons_e, dgNil_e, dTest_e, dAnd_e, dOr_e, dNot_e, dYes_e, dIf_e, dAndV_e, dOrV_e, dNotV_e, dIsi_e, dBits_e, dTuple_e, dSeqI_e, dChain_e, i2_e, i2'_e, u1_e, eqP_int, neP_int, addP_int, addP_tup, addP_lst, lenP_lst, lenP_tup, lenP_scr, absP_int, intP_int, isN_P, notN_P, isB2_P, tuple_lst, sel_t, sel_f, ixP_t0, ixP_t1, ixP_l0, ixP_l1, ixP_own0, ixP_own1, startD, List.map_cons, List.map_nil, List.length_cons, List.length_nil, List.cons_append, List.nil_append, List.getElem?_cons_zero, List.getElem?_cons_succ, List.set_cons_zero, List.set_cons_succ, Nat.reduceAdd, Nat.reduceSub, List.replicate_succ, List.replicate_zero, Option.some.injEq]
      refine ⟨trivial, bx, u, v, rfl, tu, tv, bu, bv, ?_⟩
      refine sel_n rfl ?_
      exact hn _ ⟨_, _, _, _, _, _, _, hb, rfl⟩
  clear H
  rintro ρ H
  refine seq_of (fun ρ => ∃ m, StpM m ∧ StS ns t k f g h n m ρ) ?_ (fun C hC => ?_)
  rotate_left
  · obtain ⟨bx, x3, x10, x11, x12, x13, x14, hb, rfl⟩ := H
    simp only [dC_e, dVar_e, dOwn_e, dOp_e, dUn_e, dNil_e, dCons_e, dTup_e, dLst_e, dCB_e, dCall_e, dCallB_e, dSeq_e, dNext_e, dBreak_e, dCont_e, dDrop_e, dRet_e, dRetN_e, dIfS_e, dSet_e, dSetO_e, dAug_e, dRaise_e, dApp_e, dAsg_e, dPar_e, dPar3_e, dPar_vvo_e, dgName_e, dgTup_e, dgCons_e, dgNil_e, dTest_e, dAnd_e, dOr_e, dNot_e, dYes_e, dIf_e, dAndV_e, dOrV_e, dNotV_e, dIsi_e, dBits_e, dTuple_e, dSeqI_e, dChain_e, i2_e, i2'_e, u1_e, eqP_int, neP_int, addP_int, addP_tup, addP_lst, lenP_lst, lenP_tup, lenP_scr, absP_int, intP_int, isN_P, notN_P, isB2_P, tuple_lst, sel_t, sel_f, ixP_t0, ixP_t1, ixP_l0, ixP_l1, ixP_own0, ixP_own1, startD, List.map_cons, List.map_nil, List.length_cons, List.length_nil, List.cons_append, List.nil_append, List.getElem?_cons_zero, List.getElem?_cons_succ, List.set_cons_zero, List.set_cons_succ, Nat.reduceAdd, Nat.reduceSub, List.replicate_succ, List.replicate_zero, Option.some.injEq, u1_e]
    refine ⟨bx, 4, rfl, hb, by decide, by decide, fun j b3 hb3 hj => ?_⟩
    have hz : ∃ m : M4, ([.tup [.int 1, .int k, .int 0, .int 1], .tup [.int k, .int (-1), .int 1, .int 0], .tup [.int 2, .int 1, .int 1, .int 1], .tup [.int 10000, .int 9999, .int 1, .int 1]] : List PD.D)[j]? = some (mD m) ∧ StpM m := by
      have : j = 0 ∨ j = 1 ∨ j = 2 ∨ j = 3 := by omega
      rcases this with rfl | rfl | rfl | rfl
      · exact ⟨⟨1, k, 0, 1⟩, rfl, by unfold StpM det; dsimp only; omega⟩
      · exact ⟨⟨k, -1, 1, 0⟩, rfl, by unfold StpM det; dsimp only; omega⟩
      · exact ⟨⟨2, 1, 1, 1⟩, rfl, by decide⟩
      · exact ⟨⟨10000, 9999, 1, 1⟩, rfl, by decide⟩
    obtain ⟨m, hz, hm⟩ := hz
    dsimp only
    rw [ixP_lst hz]
    exact hC _ ⟨m, hm, _, _, _, _, _, _, hb3, rfl⟩
  clear H
  rintro ρ ⟨m, hm, H⟩
  have tqf := tq_fD (hF.bf.mono (show 60 ≤ 70 by decide))
  have tqm : TryQ (mD m) := tq_ints (l := [m.p, m.q, m.r, m.s]) (by simp) fun i hi => by
    have := (stp_b hm).mono (show 64 ≤ 70 by decide)
    simp only [List.mem_cons, List.not_mem_nil, or_false] at hi
    rcases hi with rfl | rfl | rfl | rfl
    · exact this.1
    · exact this.2.1
    · exact this.2.2.1
    · exact this.2.2.2
  have cf : ∀ {d : Prop}, isTwo (fD f) = false → d := fun h => by rw [two_is tf] at h; cases h
  have im : isStp (mD m) = true := decide_eq_true hm
  refine seq_of (St ns t k f g h n) ?_ (fun C hC => ?_)
  rotate_left
  · obtain ⟨bx, x3, x10, x11, x13, x14, hb, rfl⟩ := H
    simp only [dC_e, dVar_e, dOwn_e, dOp_e, dUn_e, dNil_e, dCons_e, dTup_e, dLst_e, dCB_e, dCall_e, dCallB_e, dSeq_e, dNext_e, dBreak_e, dCont_e, dDrop_e, dRet_e, dRetN_e, dIfS_e, dSet_e, dSetO_e, dAug_e, dRaise_e, dApp_e, dAsg_e, dPar_e, dPar3_e, dPar_vvo_e, dgName_e, dgTup_e, dgCons_e, dgNil_e, dTest_e, dAnd_e, dOr_e, dNot_e, dYes_e, dIf_e, dAndV_e, dOrV_e, dNotV_e, dIsi_e, dBits_e, dTuple_e, dSeqI_e, dChain_e, i2_e, i2'_e, u1_e, eqP_int, neP_int, addP_int, addP_tup, addP_lst, lenP_lst, lenP_tup, lenP_scr, absP_int, intP_int, isN_P, notN_P, isB2_P, tuple_lst, sel_t, sel_f, ixP_t0, ixP_t1, ixP_l0, ixP_l1, ixP_own0, ixP_own1, startD, List.map_cons, List.map_nil, List.length_cons, List.length_nil, List.cons_append, List.nil_append, List.getElem?_cons_zero, List.getElem?_cons_succ, List.set_cons_zero, List.set_cons_succ, Nat.reduceAdd, Nat.reduceSub, List.replicate_succ, List.replicate_zero, Option.some.injEq, dTold, wipe15]
    refine ⟨fD f, mD m, rfl, tqf, tqm, fun f' m' ef em _ _ => ?_, cf, fun _ h => (by rw [im] at h; cases h)⟩
    obtain rfl := fD_inj ef
    have : m = m' := by
      obtain ⟨a, b, c, e⟩ := m
      obtain ⟨x, y, z, w⟩ := m'
      simp only [mD, PD.D.tup.injEq, List.cons.injEq, PD.D.int.injEq, and_true] at em
      obtain ⟨rfl, rfl, rfl, rfl⟩ := em
      rfl
    subst this
    refine ⟨_, rfl, rd_fD _, ?_⟩
    refine ⟨f, m, rfl, hF.bf.mono (by decide), (stp_b hm).mono (by decide), ?_⟩
    exact neP_self (ok_zero (ok59_fD _)) (hC _ ⟨_, _, _, _, _, _, _, hb, rfl⟩)
  clear H
  rintro ρ H
  refine seq_of (St ns t k f g h n) ?_ (fun C hC => ?_)
  rotate_left
  · refine for_any (fun d => TryQ d ∧ isStp d = false) (St ns t k f g h n) ?_ ?_ hC
    · intro C hC
      simp only [dC_e, dVar_e, dOwn_e, dOp_e, dUn_e, dNil_e, dCons_e, dTup_e, dLst_e, dCB_e, dCall_e, dCallB_e, dSeq_e, dNext_e, dBreak_e, dCont_e, dDrop_e, dRet_e, dRetN_e, dIfS_e, dSet_e, dSetO_e, dAug_e, dRaise_e, dApp_e, dAsg_e, dPar_e, dPar3_e, dPar_vvo_e, dgName_e, dgTup_e, dgCons_e, dgNil_e, dTest_e, dAnd_e, dOr_e, dNot_e, dYes_e, dIf_e, dAndV_e, dOrV_e, dNotV_e, dIsi_e, dBits_e, dTuple_e, dSeqI_e, dChain_e, i2_e, i2'_e, u1_e, eqP_int, neP_int, addP_int, addP_tup, addP_lst, lenP_lst, lenP_tup, lenP_scr, absP_int, intP_int, isN_P, notN_P, isB2_P, tuple_lst, sel_t, sel_f, ixP_t0, ixP_t1, ixP_l0, ixP_l1, ixP_own0, ixP_own1, startD, List.map_cons, List.map_nil, List.length_cons, List.length_nil, List.cons_append, List.nil_append, List.getElem?_cons_zero, List.getElem?_cons_succ, List.set_cons_zero, List.set_cons_succ, Nat.reduceAdd, Nat.reduceSub, List.replicate_succ, List.replicate_zero, Option.some.injEq, u1_e]
      refine hC _ _ ?_ H
      intro d hd
      have intsQ : ∀ l : List Int, l.length ≤ 10 → (∀ i ∈ l, i.natAbs ≤ 20000) → TryQ (.tup (l.map PD.D.int)) := fun l h1 h2 => tq_ints h1 fun i hi => Bn.of_le (h2 i hi) (by decide)
      simp only [List.mem_cons, List.not_mem_nil, or_false] at hd
      rcases hd with rfl | rfl | rfl | rfl | rfl | rfl | rfl | rfl | rfl | rfl
      · exact ⟨intsQ [1, 0, 0, -1] (by decide) (by decide), by decide +kernel⟩
      · exact ⟨intsQ [1, 0, 0, 2] (by decide) (by decide), by decide +kernel⟩
      · exact ⟨intsQ [1, 0, 0] (by decide) (by decide), by decide +kernel⟩
      · exact ⟨intsQ [1, 0, 0, 1, 0] (by decide) (by decide), by decide +kernel⟩
      · exact ⟨intsQ [1, 10001, 0, 1] (by decide) (by decide), by decide +kernel⟩
      · exact ⟨tq_three, rfl⟩
      · exact ⟨tq_plain ⟨rfl, rfl⟩ rfl, rfl⟩
      · refine ⟨tq_tup (by decide) fun x hx => ?_, rfl⟩
        simp only [List.mem_cons, List.not_mem_nil, or_false] at hx
        rcases hx with rfl | rfl | rfl | rfl
        · exact ti_str (by rw [okN]; decide +kernel)
        · exact ti_int blit
        · exact ti_int blit
        · exact ti_int blit
      · exact ⟨intsQ [1, 0, -10001, 1] (by decide) (by decide), by decide +kernel⟩
      · exact ⟨tq_tup (by decide) (fun x hx => nomatch hx), rfl⟩
    · rintro d ρ2 De' ⟨td, nd⟩ ⟨bx, x3, x10, x11, x12, x13, x14, hb, rfl⟩ hn
      simp only [dC_e, dVar_e, dOwn_e, dOp_e, dUn_e, dNil_e, dCons_e, dTup_e, dLst_e, dCB_e, dCall_e, dCallB_e, dSeq_e, dNext_e, dBreak_e, dCont_e, dDrop_e, dRet_e, dRetN_e, dIfS_e, dSet_e, dSetO_e, dAug_e, dRaise_e, dApp_e, dAsg_e, dPar_e, dPar3_e, dPar_vvo_e, dgName_e, dgTup_e, dgCons_e, dgNil_e, dTest_e, dAnd_e, dOr_e, dNot_e, dYes_e, dIf_e, dAndV_e, dOrV_e, dNotV_e, dIsi_e, dBits_e, dTuple_e, dSeqI_e, dChain_e, i2_e, i2'_e, u1_e, eqP_int, neP_int, addP_int, addP_tup, addP_lst, lenP_lst, lenP_tup, lenP_scr, absP_int, intP_int, isN_P, notN_P, isB2_P, tuple_lst, sel_t, sel_f, ixP_t0, ixP_t1, ixP_l0, ixP_l1, ixP_own0, ixP_own1, startD, List.map_cons, List.map_nil, List.length_cons, List.length_nil, List.cons_append, List.nil_append, List.getElem?_cons_zero, List.getElem?_cons_succ, List.set_cons_zero, List.set_cons_succ, Nat.reduceAdd, Nat.reduceSub, List.replicate_succ, List.replicate_zero, Option.some.injEq, dTold, wipe15]
      refine ⟨fD f, d, rfl, tqf, td, fun f' m' _ em _ z => ?_, cf, fun _ _ => ?_⟩
      · subst em
        rw [show isStp (mD m') = true from decide_eq_true z] at nd
        cases nd
      · exact neP_self ok_range (hn _ ⟨_, _, _, _, _, _, _, hb, rfl⟩)
  clear H
  rintro ρ H
  refine seq_of (fun ρ => ∃ b, TryQ b ∧ StB ns t k f g h n b ρ) ?_ (fun C hC => ?_)
  rotate_left
  · obtain ⟨bx, x3, x10, x11, x12, x13, x14, hb, rfl⟩ := H
    simp only [dC_e, dVar_e, dOwn_e, dOp_e, dUn_e, dNil_e, dCons_e, dTup_e, dLst_e, dCB_e, dCall_e, dCallB_e, dSeq_e, dNext_e, dBreak_e, dCont_e, dDrop_e, dRet_e, dRetN_e, dIfS_e, dSet_e, dSetO_e, dAug_e, dRaise_e, dApp_e, dAsg_e, dPar_e, dPar3_e, dPar_vvo_e, dgName_e, dgTup_e, dgCons_e, dgNil_e, dTest_e, dAnd_e, dOr_e, dNot_e, dYes_e, dIf_e, dAndV_e, dOrV_e, dNotV_e, dIsi_e, dBits_e, dTuple_e, dSeqI_e, dChain_e, i2_e, i2'_e, u1_e, eqP_int, neP_int, addP_int, addP_tup, addP_lst, lenP_lst, lenP_tup, lenP_scr, absP_int, intP_int, isN_P, notN_P, isB2_P, tuple_lst, sel_t, sel_f, ixP_t0, ixP_t1, ixP_l0, ixP_l1, ixP_own0, ixP_own1, startD, List.map_cons, List.map_nil, List.length_cons, List.length_nil, List.cons_append, List.nil_append, List.getElem?_cons_zero, List.getElem?_cons_succ, List.set_cons_zero, List.set_cons_succ, Nat.reduceAdd, Nat.reduceSub, List.replicate_succ, List.replicate_zero, Option.some.injEq]
    refine ⟨bx, f, rfl, hb, hF.bf, fun b b1 hb1 tb => ?_⟩
    exact hC _ ⟨b, tb, _, _, _, _, _, _, hb1, rfl⟩
  clear H
  rintro ρ ⟨b, tb, H⟩
  refine seq_of (StB ns t k f g h n b) ?_ (fun C hC => ?_)
  rotate_left
  · have hH := id H
    obtain ⟨bx, x3, x10, x11, x12, x14, hb, rfl⟩ := hH
    simp only [dIfS_e, dNot_e, dTest_e, dCall_e, dCons_e, dNil_e, dVar_e, List.getElem?_cons_zero, List.getElem?_cons_succ]
    refine ⟨b, rfl, tb, ?_⟩
    cases e : isTwo b with
    | true => exact hC _ H
    | false => exact bad_all (W := W) hF tb e H hC
  clear H
  rintro ρ H
  have hI := H.inv
  obtain ⟨bx, x3, x10, x11, x12, x14, hb, rfl⟩ := H
  simp only [dC_e, dVar_e, dOwn_e, dOp_e, dUn_e, dNil_e, dCons_e, dTup_e, dLst_e, dCB_e, dCall_e, dCallB_e, dSeq_e, dNext_e, dBreak_e, dCont_e, dDrop_e, dRet_e, dRetN_e, dIfS_e, dSet_e, dSetO_e, dAug_e, dRaise_e, dApp_e, dAsg_e, dPar_e, dPar3_e, dPar_vvo_e, dgName_e, dgTup_e, dgCons_e, dgNil_e, dTest_e, dAnd_e, dOr_e, dNot_e, dYes_e, dIf_e, dAndV_e, dOrV_e, dNotV_e, dIsi_e, dBits_e, dTuple_e, dSeqI_e, dChain_e, i2_e, i2'_e, u1_e, eqP_int, neP_int, addP_int, addP_tup, addP_lst, lenP_lst, lenP_tup, lenP_scr, absP_int, intP_int, isN_P, notN_P, isB2_P, tuple_lst, sel_t, sel_f, ixP_t0, ixP_t1, ixP_l0, ixP_l1, ixP_own0, ixP_own1, startD, List.map_cons, List.map_nil, List.length_cons, List.length_nil, List.cons_append, List.nil_append, List.getElem?_cons_zero, List.getElem?_cons_succ, List.set_cons_zero, List.set_cons_succ, Nat.reduceAdd, Nat.reduceSub, List.replicate_succ, List.replicate_zero, Option.some.injEq]
  refine repr_fD (l := [f, g, h, n]) rfl hR (by simp) ?_
  exact neP_rep hR (hDe _ hI)
end K08

end
section
set_option Elab.async false
set_option maxHeartbeats 400000
set_option linter.all false
set_option maxRecDepth 100000
namespace K08
open PySem PySem.Spec PyProof.Rows L2 RZ PD

def topS (i : Nat) : Stmt := PySem.Challenge.pw_allplaces_k08_reduced_and_same.main.body.getD i (.Pass ⟨0, 0, 0, 0⟩)
abbrev s_is_number : Stmt := topS 5
abbrev s_divisor : Stmt := topS 6
abbrev s_disc : Stmt := topS 10
abbrev s_check_two : Stmt := topS 11
abbrev s_discriminant : Stmt := topS 12
abbrev s_made_by : Stmt := topS 13
abbrev s_one_step : Stmt := topS 14
abbrev s_reduction : Stmt := topS 15
abbrev s_is_reduced : Stmt := topS 16
abbrev s_reduced : Stmt := topS 17
abbrev s_check_step : Stmt := topS 18
abbrev s_stepped : Stmt := topS 19
abbrev s_same : Stmt := topS 20
abbrev s_turned : Stmt := topS 21
abbrev s__law_read : Stmt := topS 23
abbrev s__law_cell : Stmt := topS 24
abbrev s__law_stream : Stmt := topS 25
abbrev s__law_draw : Stmt := topS 26
abbrev s__law_told : Stmt := topS 27
abbrev s__law_common : Stmt := topS 28
abbrev s__law_discriminant : Stmt := topS 29
abbrev s__law_is_two : Stmt := topS 30
abbrev s__law_stepped : Stmt := topS 31
abbrev s__law_is_reduced : Stmt := topS 32
abbrev s__law_reduced : Stmt := topS 33
abbrev s__law_classes : Stmt := topS 34
abbrev s__law_some_discriminant : Stmt := topS 35
abbrev s__law_some_two : Stmt := topS 36
abbrev s__law_no_two : Stmt := topS 37
abbrev s__law_is_step : Stmt := topS 38
abbrev s__law_right : Stmt := topS 39
abbrev s_law : Stmt := topS 40
theorem sc_is_number : FnScope ["told", "least", "most"] ["told", "least", "most"] (defScope s_is_number) := ⟨rfl, rfl, rfl, by decide +kernel, rfl, by decide +kernel, by decide +kernel⟩
theorem sc_divisor : FnScope ["numbers", "found", "number", "left", "right"] ["numbers"] (defScope s_divisor) := ⟨rfl, rfl, rfl, by decide +kernel, rfl, by decide +kernel, by decide +kernel⟩
theorem sc_disc : FnScope ["form"] ["form"] (defScope s_disc) := ⟨rfl, rfl, rfl, by decide +kernel, rfl, by decide +kernel, by decide +kernel⟩
theorem sc_check_two : FnScope ["form", "item"] ["form"] (defScope s_check_two) := ⟨rfl, rfl, rfl, by decide +kernel, rfl, by decide +kernel, by decide +kernel⟩
theorem sc_discriminant : FnScope ["form"] ["form"] (defScope s_discriminant) := ⟨rfl, rfl, rfl, by decide +kernel, rfl, by decide +kernel, by decide +kernel⟩
theorem sc_made_by : FnScope ["form", "step", "a", "b", "c", "p", "q", "r", "s", "middle"] ["form", "step"] (defScope s_made_by) := ⟨rfl, rfl, rfl, by decide +kernel, rfl, by decide +kernel, by decide +kernel⟩
theorem sc_one_step : FnScope ["first", "second", "p", "q", "r", "s", "t", "u", "v", "w"] ["first", "second"] (defScope s_one_step) := ⟨rfl, rfl, rfl, by decide +kernel, rfl, by decide +kernel, by decide +kernel⟩
theorem sc_reduction : FnScope ["form", "step", "a", "b", "c", "more"] ["form"] (defScope s_reduction) := ⟨rfl, rfl, rfl, by decide +kernel, rfl, by decide +kernel, by decide +kernel⟩
theorem sc_is_reduced : FnScope ["form", "a", "b", "c"] ["form"] (defScope s_is_reduced) := ⟨rfl, rfl, rfl, by decide +kernel, rfl, by decide +kernel, by decide +kernel⟩
theorem sc_reduced : FnScope ["form"] ["form"] (defScope s_reduced) := ⟨rfl, rfl, rfl, by decide +kernel, rfl, by decide +kernel, by decide +kernel⟩
theorem sc_check_step : FnScope ["step", "item"] ["step"] (defScope s_check_step) := ⟨rfl, rfl, rfl, by decide +kernel, rfl, by decide +kernel, by decide +kernel⟩
theorem sc_stepped : FnScope ["form", "step"] ["form", "step"] (defScope s_stepped) := ⟨rfl, rfl, rfl, by decide +kernel, rfl, by decide +kernel, by decide +kernel⟩
theorem sc_same : FnScope ["form", "other", "first", "step", "second", "more", "p", "q", "r", "s"] ["form", "other"] (defScope s_same) := ⟨rfl, rfl, rfl, by decide +kernel, rfl, by decide +kernel, by decide +kernel⟩
theorem sc_turned : FnScope ["form"] ["form"] (defScope s_turned) := ⟨rfl, rfl, rfl, by decide +kernel, rfl, by decide +kernel, by decide +kernel⟩
theorem sc__law_read : FnScope ["told", "sign", "part"] ["told"] (defScope s__law_read) := ⟨rfl, rfl, rfl, by decide +kernel, rfl, by decide +kernel, by decide +kernel⟩
theorem sc__law_cell : FnScope ["script", "k"] ["script", "k"] (defScope s__law_cell) := ⟨rfl, rfl, rfl, by decide +kernel, rfl, by decide +kernel, by decide +kernel⟩
theorem sc__law_stream : FnScope ["script", "k"] ["script", "k"] (defScope s__law_stream) := ⟨rfl, rfl, rfl, by decide +kernel, rfl, by decide +kernel, by decide +kernel⟩
theorem sc__law_draw : FnScope ["box", "many", "told"] ["box", "many"] (defScope s__law_draw) := ⟨rfl, rfl, rfl, by decide +kernel, rfl, by decide +kernel, by decide +kernel⟩
theorem sc__law_told : FnScope ["call", "e", "words", "word", "is_so"] ["call"] (defScope s__law_told) := ⟨rfl, rfl, rfl, by decide +kernel, rfl, by decide +kernel, by decide +kernel⟩
theorem sc__law_common : FnScope ["numbers", "told", "a", "b"] ["numbers"] (defScope s__law_common) := ⟨rfl, rfl, rfl, by decide +kernel, rfl, by decide +kernel, by decide +kernel⟩
theorem sc__law_discriminant : FnScope ["form", "a", "b", "c"] ["form"] (defScope s__law_discriminant) := ⟨rfl, rfl, rfl, by decide +kernel, rfl, by decide +kernel, by decide +kernel⟩
theorem sc__law_is_two : FnScope ["x", "k"] ["x"] (defScope s__law_is_two) := ⟨rfl, rfl, rfl, by decide +kernel, rfl, by decide +kernel, by decide +kernel⟩
theorem sc__law_stepped : FnScope ["form", "step", "a", "b", "c", "p", "q", "r", "s"] ["form", "step"] (defScope s__law_stepped) := ⟨rfl, rfl, rfl, by decide +kernel, rfl, by decide +kernel, by decide +kernel⟩
theorem sc__law_is_reduced : FnScope ["form", "a", "b", "c"] ["form"] (defScope s__law_is_reduced) := ⟨rfl, rfl, rfl, by decide +kernel, rfl, by decide +kernel, by decide +kernel⟩
theorem sc__law_reduced : FnScope ["form", "a", "b", "c", "k"] ["form"] (defScope s__law_reduced) := ⟨rfl, rfl, rfl, by decide +kernel, rfl, by decide +kernel, by decide +kernel⟩
theorem sc__law_classes : FnScope ["D", "found", "a", "b", "form"] ["D"] (defScope s__law_classes) := ⟨rfl, rfl, rfl, by decide +kernel, rfl, by decide +kernel, by decide +kernel⟩
theorem sc__law_some_discriminant : FnScope ["box", "most", "pick", "D"] ["box", "most"] (defScope s__law_some_discriminant) := ⟨rfl, rfl, rfl, by decide +kernel, rfl, by decide +kernel, by decide +kernel⟩
theorem sc__law_some_two : FnScope ["box", "D", "every", "form", "turn", "k"] ["box", "D"] (defScope s__law_some_two) := ⟨rfl, rfl, rfl, by decide +kernel, rfl, by decide +kernel, by decide +kernel⟩
theorem sc__law_no_two : FnScope ["box", "form", "a", "b", "c", "bad"] ["box", "form"] (defScope s__law_no_two) := ⟨rfl, rfl, rfl, by decide +kernel, rfl, by decide +kernel, by decide +kernel⟩
theorem sc__law_is_step : FnScope ["x", "a"] ["x"] (defScope s__law_is_step) := ⟨rfl, rfl, rfl, by decide +kernel, rfl, by decide +kernel, by decide +kernel⟩
theorem sc__law_right : FnScope ["box", "form", "other", "due", "told"] ["box", "form", "other"] (defScope s__law_right) := ⟨rfl, rfl, rfl, by decide +kernel, rfl, by decide +kernel, by decide +kernel⟩
theorem sc_law : FnScope ["script", "turn", "box", "D", "form", "other", "more", "k", "near", "kept", "one", "two", "step", "bad", "call"] ["script"] (defScope s_law) := ⟨rfl, rfl, rfl, by decide +kernel, rfl, by decide +kernel, by decide +kernel⟩
structure Txt (K : PySem.W.Frag) (mg : Str → Option Value) (A : Nat → Addr) (FD : Nat → FuncData) (cl : Ex → Addr) (CC PT : Nat → Addr) (TT : List (Addr × Str)) (pe : Addr) : Prop where
  f0 : Fun K "is_number" "is_number" s_is_number (A 0) (FD 0)
  g0 : mg "is_number" = some (.ref (A 0))
  b0 : Binds K (FD 0) ["told", "least", "most"] []
  f1 : Fun K "divisor" "divisor" s_divisor (A 1) (FD 1)
  g1 : mg "divisor" = some (.ref (A 1))
  b1 : Binds K (FD 1) ["numbers"] []
  f2 : Fun K "disc" "disc" s_disc (A 2) (FD 2)
  g2 : mg "disc" = some (.ref (A 2))
  b2 : Binds K (FD 2) ["form"] []
  f3 : Fun K "check_two" "check_two" s_check_two (A 3) (FD 3)
  g3 : mg "check_two" = some (.ref (A 3))
  b3 : Binds K (FD 3) ["form"] []
  f4 : Fun K "discriminant" "discriminant" s_discriminant (A 4) (FD 4)
  g4 : mg "discriminant" = some (.ref (A 4))
  b4 : Binds K (FD 4) ["form"] []
  f5 : Fun K "made_by" "made_by" s_made_by (A 5) (FD 5)
  g5 : mg "made_by" = some (.ref (A 5))
  b5 : Binds K (FD 5) ["form", "step"] []
  f6 : Fun K "one_step" "one_step" s_one_step (A 6) (FD 6)
  g6 : mg "one_step" = some (.ref (A 6))
  b6 : Binds K (FD 6) ["first", "second"] []
  f7 : Fun K "reduction" "reduction" s_reduction (A 7) (FD 7)
  g7 : mg "reduction" = some (.ref (A 7))
  b7 : Binds K (FD 7) ["form"] []
  f8 : Fun K "is_reduced" "is_reduced" s_is_reduced (A 8) (FD 8)
  g8 : mg "is_reduced" = some (.ref (A 8))
  b8 : Binds K (FD 8) ["form"] []
  f9 : Fun K "reduced" "reduced" s_reduced (A 9) (FD 9)
  g9 : mg "reduced" = some (.ref (A 9))
  b9 : Binds K (FD 9) ["form"] []
  f10 : Fun K "check_step" "check_step" s_check_step (A 10) (FD 10)
  g10 : mg "check_step" = some (.ref (A 10))
  b10 : Binds K (FD 10) ["step"] []
  f11 : Fun K "stepped" "stepped" s_stepped (A 11) (FD 11)
  g11 : mg "stepped" = some (.ref (A 11))
  b11 : Binds K (FD 11) ["form", "step"] []
  f12 : Fun K "same" "same" s_same (A 12) (FD 12)
  g12 : mg "same" = some (.ref (A 12))
  b12 : Binds K (FD 12) ["form", "other"] []
  f13 : Fun K "turned" "turned" s_turned (A 13) (FD 13)
  g13 : mg "turned" = some (.ref (A 13))
  b13 : Binds K (FD 13) ["form"] []
  f14 : Fun K "_law_read" "_law_read" s__law_read (A 14) (FD 14)
  g14 : mg "_law_read" = some (.ref (A 14))
  b14 : Binds K (FD 14) ["told"] []
  f15 : Fun K "_law_cell" "_law_cell" s__law_cell (A 15) (FD 15)
  g15 : mg "_law_cell" = some (.ref (A 15))
  b15 : Binds K (FD 15) ["script", "k"] []
  f16 : Fun K "_law_stream" "_law_stream" s__law_stream (A 16) (FD 16)
  g16 : mg "_law_stream" = some (.ref (A 16))
  b16 : Binds K (FD 16) ["script", "k"] []
  f17 : Fun K "_law_draw" "_law_draw" s__law_draw (A 17) (FD 17)
  g17 : mg "_law_draw" = some (.ref (A 17))
  b17 : Binds K (FD 17) ["box", "many"] []
  f18 : Fun K "_law_told" "_law_told" s__law_told (A 18) (FD 18)
  g18 : mg "_law_told" = some (.ref (A 18))
  b18 : Binds K (FD 18) ["call"] []
  f19 : Fun K "_law_common" "_law_common" s__law_common (A 19) (FD 19)
  g19 : mg "_law_common" = some (.ref (A 19))
  b19 : Binds K (FD 19) ["numbers"] []
  f20 : Fun K "_law_discriminant" "_law_discriminant" s__law_discriminant (A 20) (FD 20)
  g20 : mg "_law_discriminant" = some (.ref (A 20))
  b20 : Binds K (FD 20) ["form"] []
  f21 : Fun K "_law_is_two" "_law_is_two" s__law_is_two (A 21) (FD 21)
  g21 : mg "_law_is_two" = some (.ref (A 21))
  b21 : Binds K (FD 21) ["x"] []
  f22 : Fun K "_law_stepped" "_law_stepped" s__law_stepped (A 22) (FD 22)
  g22 : mg "_law_stepped" = some (.ref (A 22))
  b22 : Binds K (FD 22) ["form", "step"] []
  f23 : Fun K "_law_is_reduced" "_law_is_reduced" s__law_is_reduced (A 23) (FD 23)
  g23 : mg "_law_is_reduced" = some (.ref (A 23))
  b23 : Binds K (FD 23) ["form"] []
  f24 : Fun K "_law_reduced" "_law_reduced" s__law_reduced (A 24) (FD 24)
  g24 : mg "_law_reduced" = some (.ref (A 24))
  b24 : Binds K (FD 24) ["form"] []
  f25 : Fun K "_law_classes" "_law_classes" s__law_classes (A 25) (FD 25)
  g25 : mg "_law_classes" = some (.ref (A 25))
  b25 : Binds K (FD 25) ["D"] []
  f26 : Fun K "_law_some_discriminant" "_law_some_discriminant" s__law_some_discriminant (A 26) (FD 26)
  g26 : mg "_law_some_discriminant" = some (.ref (A 26))
  b26 : Binds K (FD 26) ["box", "most"] []
  f27 : Fun K "_law_some_two" "_law_some_two" s__law_some_two (A 27) (FD 27)
  g27 : mg "_law_some_two" = some (.ref (A 27))
  b27 : Binds K (FD 27) ["box", "D"] []
  f28 : Fun K "_law_no_two" "_law_no_two" s__law_no_two (A 28) (FD 28)
  g28 : mg "_law_no_two" = some (.ref (A 28))
  b28 : Binds K (FD 28) ["box", "form"] []
  f29 : Fun K "_law_is_step" "_law_is_step" s__law_is_step (A 29) (FD 29)
  g29 : mg "_law_is_step" = some (.ref (A 29))
  b29 : Binds K (FD 29) ["x"] []
  f30 : FunC K "_law_right" "_law_right" s__law_right (A 30) (CC 30) (FD 30)
  t30 : (PT 30, ("_law_right.<locals>.<lambda>" : Str)) ∈ TT
  u30 : ∀ p ∈ TT, p.1 = PT 30 → p.2 = "_law_right.<locals>.<lambda>"
  g30 : mg "_law_right" = some (.ref (A 30))
  b30 : Binds K (FD 30) ["box", "form", "other"] []
  f31 : FunC K "law" "law" s_law (A 31) (CC 31) (FD 31)
  t31 : (PT 31, ("law.<locals>.<lambda>" : Str)) ∈ TT
  u31 : ∀ p ∈ TT, p.1 = PT 31 → p.2 = "law.<locals>.<lambda>"
  g31 : mg "law" = some (.ref (A 31))
  b31 : Binds K (FD 31) ["script"] []
  z_abs : mg "abs" = none
  z_all : mg "all" = none
  z_any : mg "any" = none
  z_bool : mg "bool" = none
  z_enumerate : mg "enumerate" = none
  z_int : mg "int" = none
  z_isinstance : mg "isinstance" = none
  z_len : mg "len" = none
  z_list : mg "list" = none
  z_max : mg "max" = none
  z_min : mg "min" = none
  z_range : mg "range" = none
  z_repr : mg "repr" = none
  z_set : mg "set" = none
  z_sorted : mg "sorted" = none
  z_str : mg "str" = none
  z_sum : mg "sum" = none
  z_tuple : mg "tuple" = none
  z_zip : mg "zip" = none
  m_GREATEST_STEP : ∃ t, mg "GREATEST_STEP" = some (.int (10000) t)
  m_LEAST : ∃ t, mg "LEAST" = some (.int (-4000) t)
  x_BadForm : PySem.W.excIn K (cl .form) [.type "ValueError", .type "Exception", .type "BaseException", .type "object"] "ValueError.__new__" = true
  g_BadForm : mg "BadForm" = some (.ref (cl .form))
  k_BadForm : PySem.W.keepIn K (.ref (cl .form)) = true
  e_BadForm : PySem.W.subIn K (.ref (cl .form)) (.type "BaseException") = some true
  t_BadForm : PySem.W.typeIn K (.ref (cl .form)) = some (.type "type")
  x_OutOfRange : PySem.W.excIn K (cl .range) [.type "ValueError", .type "Exception", .type "BaseException", .type "object"] "ValueError.__new__" = true
  g_OutOfRange : mg "OutOfRange" = some (.ref (cl .range))
  k_OutOfRange : PySem.W.keepIn K (.ref (cl .range)) = true
  e_OutOfRange : PySem.W.subIn K (.ref (cl .range)) (.type "BaseException") = some true
  t_OutOfRange : PySem.W.typeIn K (.ref (cl .range)) = some (.type "type")
  g_PlaceError : mg "PlaceError" = some (.ref pe)
  ff : ∀ x, ExF K cl pe x
abbrev TB0 (base : Heap) (mg : Str → Option Value) (CC PT : Nat → Addr) : Prop := LamX.TabB base mg (CC 30) (PT 30) ∧ LamX.TabB base mg (CC 31) (PT 31) ∧ True
section
variable {P : Program} {w : World} {K : PySem.W.Frag} {mg : Str → Option Value} {base : Heap} {A : Nat → Addr} {FD : Nat → FuncData} {cl : Ex → Addr} {CC PT : Nat → Addr} {TT : List (Addr × Str)} {pe : Addr}

theorem ok_is_number (T : Txt K mg A FD cl CC PT TT pe) (TB0 : TB0 base mg CC PT) : FnOk P w K mg base (L2N.CX P w) 1 (A 0) (FD 0) ["told", "least", "most"] (spP K cl TT 3 F_is_number) := by
  have z_int := T.z_int
  have z_isinstance := T.z_isinstance
  have nd := sc_is_number.nd
  refine fn_pure T.f0 sc_is_number (fun _ => false) (by decide) d_is_number (fun cdv A0 outer s H E hr => ?_) sp_is_number
  exact ⟨_, (pss_one (ps_ret (pe_and (pe_callB (call_isi_K (K := K) rfl) (by rfl) z_isinstance bt_isinstance (pa_cons (pv 0) (pa_cons (pe_bltn (v := .ty "int") (by rfl) z_int bt_int rfl) pa_nil))) (pe_one (pe_chain op_le op_le (pv 1) (pv 0) (pv 2)))))),
   fun z h0 W he => (ss_ret (SV.se (sv_andV (sv_isi kit_int (sv_var 0 rfl)) (sv_chain sr_le sr_le (sv_var 1 rfl) (sv_var 0 rfl) (sv_var 2 rfl)))))⟩
theorem ok_divisor (T : Txt K mg A FD cl CC PT TT pe) (TB0 : TB0 base mg CC PT) : FnOk P w K mg base (L2N.CX P w) 1 (A 1) (FD 1) ["numbers"] (spP K cl TT 1 F_divisor) := by
  have z_abs := T.z_abs
  have nd := sc_divisor.nd
  refine fn_pure T.f1 sc_divisor (fun _ => false) (by decide) d_divisor (fun cdv A0 outer s H E hr => ?_) sp_divisor
  exact ⟨_, (pss_cons (ps_set (i := 1) nd rfl (Or.inl rfl) pe_int)
  (pss_cons (ps_for (passes_of rfl) rfl (pi_seqK (K := K) rfl (pv 0)) (pg_name (i := 2) nd rfl (Or.inl rfl))
  (pss_cons (ps_par rfl nd rfl rfl (by decide) rfl rfl (pa_cons (pe_callB call_abs (by rfl) z_abs bt_abs (pa_cons (pv 2) pa_nil)) (pa_cons (pv 1) pa_nil)) (by rfl))
  (pss_cons (ps_while (passes_of rfl) (pt_cmpR (op_neDK (K := K) rfl hr.units) (pv 4) pe_int (nomark _))
  (pss_one (ps_par rfl nd rfl rfl (by decide) rfl rfl (pa_cons (pv 4) (pa_cons (pe_op op_mod (pv 3) (pv 4)) pa_nil)) (by rfl))))
  (pss_one (ps_set (i := 1) nd rfl (Or.inl rfl) (pv 3))))))
  (pss_one (ps_ret (pv 1))))),
   fun z h0 W he => (ss_seq (ss_set 1 rfl sv_int)
  (ss_seq (ss_for (si_seq (sv_var 0 rfl)) (sg_name 2 rfl)
  (ss_seq (ss_par 3 4 rfl rfl (sa_cons (sv_cb sr_abs (sao_cons (SV.se (sv_var 2 rfl)) sao_nil)) (sa_cons (sv_var 1 rfl) sa_nil)))
  (ss_seq (ss_while (st_testO (sv_op sr_ne (SV.se (sv_var 4 rfl)) (SV.se sv_int)))
  (ss_par 3 4 rfl rfl (sa_cons (sv_var 4 rfl) (sa_cons (sv_op sr_mod (SV.se (sv_var 3 rfl)) (SV.se (sv_var 4 rfl))) sa_nil))))
  (ss_set 1 rfl (sv_var 3 rfl)))))
  (ss_ret (SV.se (sv_var 1 rfl)))))⟩
theorem ok_disc (T : Txt K mg A FD cl CC PT TT pe) (TB0 : TB0 base mg CC PT) : FnOk P w K mg base (L2N.CX P w) 1 (A 2) (FD 2) ["form"] (spP K cl TT 1 F_disc) := by
  have nd := sc_disc.nd
  refine fn_pure T.f2 sc_disc (fun _ => false) (by decide) d_disc (fun cdv A0 outer s H E hr => ?_) sp_disc
  exact ⟨_, (pss_one (ps_ret (pe_op op_sub (pe_op op_mulW (pe_ix (ix_seqK (K := K) rfl) (pv 0) pe_int (fun _ _ => rfl)) (pe_ix (ix_seqK (K := K) rfl) (pv 0) pe_int (fun _ _ => rfl))) (pe_op op_mulW (pe_op op_mulW pe_int (pe_ix (ix_seqK (K := K) rfl) (pv 0) pe_int (fun _ _ => rfl))) (pe_ix (ix_seqK (K := K) rfl) (pv 0) pe_int (fun _ _ => rfl)))))),
   fun z h0 W he => (ss_ret (SV.se (sv_op sr_sub (SV.se (sv_op sr_mul (SV.se (sv_op sr_ix (SV.se (sv_var 0 rfl)) (SV.se sv_int))) (SV.se (sv_op sr_ix (SV.se (sv_var 0 rfl)) (SV.se sv_int))))) (SV.se (sv_op sr_mul (SV.se (sv_op sr_mul (SV.se sv_int) (SV.se (sv_op sr_ix (SV.se (sv_var 0 rfl)) (SV.se sv_int))))) (SV.se (sv_op sr_ix (SV.se (sv_var 0 rfl)) (SV.se sv_int))))))))⟩
theorem ok_check_two (T : Txt K mg A FD cl CC PT TT pe) (TB0 : TB0 base mg CC PT) : FnOk P w K mg base (L2N.CX P w) 2 (A 3) (FD 3) ["form"] (spP K cl TT 1 F_check_two) := by
  have z_all := T.z_all
  have z_int := T.z_int
  have z_isinstance := T.z_isinstance
  have z_len := T.z_len
  have z_tuple := T.z_tuple
  obtain ⟨_, m_LEAST⟩ := T.m_LEAST
  have G_disc : FnOk P w K mg base (L2N.CX P w) 1 (A 2) (FD 2) ["form"] (spP K cl TT 1 F_disc) := ok_disc T TB0
  have G_divisor : FnOk P w K mg base (L2N.CX P w) 1 (A 1) (FD 1) ["numbers"] (spP K cl TT 1 F_divisor) := ok_divisor T TB0
  have nd := sc_check_two.nd
  refine fn_pure T.f3 sc_check_two (fun _ => false) (by decide) d_check_two (fun cdv A0 outer s H E hr => ?_) sp_check_two
  exact ⟨_, (pss_cons (ps_if (PW.pt (pw_or (pt_not (pt_val (pe_callB (call_isi_K (K := K) rfl) (by rfl) z_isinstance bt_isinstance (pa_cons (pv 0) (pa_cons (pe_bltn (v := .ty "tuple") (by rfl) z_tuple bt_tuple rfl) pa_nil))))) (pw_or (pt_cmpR (op_neDK (K := K) rfl hr.units) (pe_callB (call_lenK (K := K) rfl) (by rfl) z_len bt_len (pa_cons (pv 0) pa_nil)) pe_int (nomark _)) (pw_or1 (pt_not (pt_val (pe_callB (cr_allK (K := K) rfl rfl) (by rfl) z_all bt_all (pa_cons (by exact (pe_lc (own := [("item", 1)]) rfl nd (pi_seqK (K := K) rfl (pv 0)) (blkOk_by (own := [("item", 1)]) (N := ["form", "item"]) (sc := (defScope s_check_two)) (by decide +kernel)) (fun _ _ _ _ _ => by exact (pg_name (i := 1) nd rfl (Or.inl rfl))) (fun _ _ _ _ _ => by exact pts_nil) (fun _ _ _ _ _ => by exact (pe_callB (call_isi_K (K := K) rfl) (by rfl) z_isinstance bt_isinstance (pa_cons (pv 1) (pa_cons (pe_bltn (v := .ty "int") (by rfl) z_int bt_int rfl) pa_nil)))))) pa_nil))))))))
  (pss_one (L2N.ps_raise rfl (L2N.takes_of rfl rfl rfl rfl) (L2N.pmk_own PySem.F.excBase_ValueError T.x_BadForm T.g_BadForm T.k_BadForm (raises_own T.e_BadForm T.t_BadForm) rfl)))
  pss_nil)
  (pss_one (ps_if (PW.pt (pw_or (pt_cmpR op_lt (pe_ix (ix_seqK (K := K) rfl) (pv 0) pe_int (fun _ _ => rfl)) pe_int (nomark _)) (pw_or (pt_not (pt_chain op_le op_le (pe_glob (v := .int (-4000)) (by rfl) m_LEAST ⟨_, rfl⟩) (pe_call G_disc (hr.mono (by decide)) (by rfl) T.g2 T.f2.kp T.b2 .nil (L2N.passes_call (L2N.takes_of rfl rfl rfl rfl) (fun _ _ _ _ h => h)) (pa_cons (pv 0) pa_nil)) (pe_un un_neg pe_int))) (pw_or1 (pt_cmpR (op_neDK (K := K) rfl hr.units) (pe_call G_divisor (hr.mono (by decide)) (by rfl) T.g1 T.f1.kp T.b1 .nil (L2N.passes_call (L2N.takes_of rfl rfl rfl rfl) (fun _ _ _ _ h => h)) (pa_cons (pv 0) pa_nil)) pe_int (nomark _))))))
  (pss_one (L2N.ps_raise rfl (L2N.takes_of rfl rfl rfl rfl) (L2N.pmk_own PySem.F.excBase_ValueError T.x_BadForm T.g_BadForm T.k_BadForm (raises_own T.e_BadForm T.t_BadForm) rfl)))
  pss_nil))),
   fun z h0 W he => (ss_seq (ss_if (st_or (st_not (st_test (sv_isi kit_tup (sv_var 0 rfl)))) (st_or (st_testO (sv_op sr_ne (SV.se (sv_cb sr_len (sao_cons (SV.se (sv_var 0 rfl)) sao_nil))) (SV.se sv_int))) (st_not (st_test (sv_cb sr_all (sao_cons (SV.se (SFL.v (sfl_lc (vs := [1]) (si_seq (sv_var 0 rfl)) (sg_name 1 rfl) st_yes (sv_isi kit_int (sv_var 1 rfl)) rfl rfl))) sao_nil))))))
  (ss_raise .form he)
  ss_next)
  (ss_if (st_or (st_testO (sv_op sr_lt (SV.se (sv_op sr_ix (SV.se (sv_var 0 rfl)) (SV.se sv_int))) (SV.se sv_int))) (st_or (st_not (st_testO (sv_chain sr_le sr_le sv_int (sv_call he (sa_cons (sv_var 0 rfl) sa_nil)) (sv_un sr_neg (SV.se sv_int))))) (st_testO (sv_op sr_ne (SV.se (sv_call he (sa_cons (sv_var 0 rfl) sa_nil))) (SV.se sv_int)))))
  (ss_raise .form he)
  ss_next))⟩
theorem ok_discriminant (T : Txt K mg A FD cl CC PT TT pe) (TB0 : TB0 base mg CC PT) : FnOk P w K mg base (L2N.CX P w) 3 (A 4) (FD 4) ["form"] (spP K cl TT 1 F_discriminant) := by
  have G_check_two : FnOk P w K mg base (L2N.CX P w) 2 (A 3) (FD 3) ["form"] (spP K cl TT 1 F_check_two) := ok_check_two T TB0
  have G_disc : FnOk P w K mg base (L2N.CX P w) 1 (A 2) (FD 2) ["form"] (spP K cl TT 1 F_disc) := ok_disc T TB0
  have nd := sc_discriminant.nd
  refine fn_pure T.f4 sc_discriminant (fun _ => false) (by decide) d_discriminant (fun cdv A0 outer s H E hr => ?_) sp_discriminant
  exact ⟨_, (pss_cons (ps_expr (pe_call G_check_two (hr.mono (by decide)) (by rfl) T.g3 T.f3.kp T.b3 .nil (L2N.passes_call (L2N.takes_of rfl rfl rfl rfl) (fun _ _ _ _ h => h)) (pa_cons (pv 0) pa_nil)))
  (pss_one (ps_ret (pe_call G_disc (hr.mono (by decide)) (by rfl) T.g2 T.f2.kp T.b2 .nil (L2N.passes_call (L2N.takes_of rfl rfl rfl rfl) (fun _ _ _ _ h => h)) (pa_cons (pv 0) pa_nil))))),
   fun z h0 W he => (ss_seq (ss_drop (SV.se (sv_call he (sa_cons (sv_var 0 rfl) sa_nil))))
  (ss_ret (SV.se (sv_call he (sa_cons (sv_var 0 rfl) sa_nil)))))⟩
theorem ok_made_by (T : Txt K mg A FD cl CC PT TT pe) (TB0 : TB0 base mg CC PT) : FnOk P w K mg base (L2N.CX P w) 1 (A 5) (FD 5) ["form", "step"] (spP K cl TT 2 F_made_by) := by
  have nd := sc_made_by.nd
  refine fn_pure T.f5 sc_made_by (fun _ => false) (by decide) d_made_by (fun cdv A0 outer s H E hr => ?_) sp_made_by
  exact ⟨_, (pss_cons (ps_asg (pv 0) (pg_tupK (K := K) (n := 3) rfl rfl (pgs_cons (pg_name (i := 2) nd rfl (Or.inl rfl)) (pgs_cons (pg_name (i := 3) nd rfl (Or.inl rfl)) (pgs_cons (pg_name (i := 4) nd rfl (Or.inl rfl)) pgs_nil)))))
  (pss_cons (ps_asg (pv 1) (pg_tupK (K := K) (n := 4) rfl rfl (pgs_cons (pg_name (i := 5) nd rfl (Or.inl rfl)) (pgs_cons (pg_name (i := 6) nd rfl (Or.inl rfl)) (pgs_cons (pg_name (i := 7) nd rfl (Or.inl rfl)) (pgs_cons (pg_name (i := 8) nd rfl (Or.inl rfl)) pgs_nil))))))
  (pss_cons (ps_set (i := 9) nd rfl (Or.inl rfl) (pe_op (op_add4K (K := K) rfl) (pe_op op_mulW pe_int (pe_op (op_add4K (K := K) rfl) (pe_op op_mulW (pe_op op_mulW (pv 2) (pv 5)) (pv 6)) (pe_op op_mulW (pe_op op_mulW (pv 4) (pv 7)) (pv 8)))) (pe_op op_mulW (pv 3) (pe_op (op_add4K (K := K) rfl) (pe_op op_mulW (pv 5) (pv 8)) (pe_op op_mulW (pv 6) (pv 7))))))
  (pss_one (ps_ret (pe_tup (pa_cons (pe_op (op_add4K (K := K) rfl) (pe_op (op_add4K (K := K) rfl) (pe_op op_mulW (pe_op op_mulW (pv 2) (pv 5)) (pv 5)) (pe_op op_mulW (pe_op op_mulW (pv 3) (pv 5)) (pv 7))) (pe_op op_mulW (pe_op op_mulW (pv 4) (pv 7)) (pv 7))) (pa_cons (pv 9) (pa_cons (pe_op (op_add4K (K := K) rfl) (pe_op (op_add4K (K := K) rfl) (pe_op op_mulW (pe_op op_mulW (pv 2) (pv 6)) (pv 6)) (pe_op op_mulW (pe_op op_mulW (pv 3) (pv 6)) (pv 8))) (pe_op op_mulW (pe_op op_mulW (pv 4) (pv 8)) (pv 8))) pa_nil))))))))),
   fun z h0 W he => (ss_seq (ss_asg (sv_var 0 rfl) (sg_tup (sgs_cons (sg_name 2 rfl) (sgs_cons (sg_name 3 rfl) (sgs_cons (sg_name 4 rfl) sgs_nil)))))
  (ss_seq (ss_asg (sv_var 1 rfl) (sg_tup (sgs_cons (sg_name 5 rfl) (sgs_cons (sg_name 6 rfl) (sgs_cons (sg_name 7 rfl) (sgs_cons (sg_name 8 rfl) sgs_nil))))))
  (ss_seq (ss_set 9 rfl (sv_op sr_add (SV.se (sv_op sr_mul (SV.se sv_int) (SV.se (sv_op sr_add (SV.se (sv_op sr_mul (SV.se (sv_op sr_mul (SV.se (sv_var 2 rfl)) (SV.se (sv_var 5 rfl)))) (SV.se (sv_var 6 rfl)))) (SV.se (sv_op sr_mul (SV.se (sv_op sr_mul (SV.se (sv_var 4 rfl)) (SV.se (sv_var 7 rfl)))) (SV.se (sv_var 8 rfl)))))))) (SV.se (sv_op sr_mul (SV.se (sv_var 3 rfl)) (SV.se (sv_op sr_add (SV.se (sv_op sr_mul (SV.se (sv_var 5 rfl)) (SV.se (sv_var 8 rfl)))) (SV.se (sv_op sr_mul (SV.se (sv_var 6 rfl)) (SV.se (sv_var 7 rfl))))))))))
  (ss_ret (SV.se (sv_tup (sa_cons (sv_op sr_add (SV.se (sv_op sr_add (SV.se (sv_op sr_mul (SV.se (sv_op sr_mul (SV.se (sv_var 2 rfl)) (SV.se (sv_var 5 rfl)))) (SV.se (sv_var 5 rfl)))) (SV.se (sv_op sr_mul (SV.se (sv_op sr_mul (SV.se (sv_var 3 rfl)) (SV.se (sv_var 5 rfl)))) (SV.se (sv_var 7 rfl)))))) (SV.se (sv_op sr_mul (SV.se (sv_op sr_mul (SV.se (sv_var 4 rfl)) (SV.se (sv_var 7 rfl)))) (SV.se (sv_var 7 rfl))))) (sa_cons (sv_var 9 rfl) (sa_cons (sv_op sr_add (SV.se (sv_op sr_add (SV.se (sv_op sr_mul (SV.se (sv_op sr_mul (SV.se (sv_var 2 rfl)) (SV.se (sv_var 6 rfl)))) (SV.se (sv_var 6 rfl)))) (SV.se (sv_op sr_mul (SV.se (sv_op sr_mul (SV.se (sv_var 3 rfl)) (SV.se (sv_var 6 rfl)))) (SV.se (sv_var 8 rfl)))))) (SV.se (sv_op sr_mul (SV.se (sv_op sr_mul (SV.se (sv_var 4 rfl)) (SV.se (sv_var 8 rfl)))) (SV.se (sv_var 8 rfl))))) sa_nil)))))))))⟩
theorem ok_one_step (T : Txt K mg A FD cl CC PT TT pe) (TB0 : TB0 base mg CC PT) : FnOk P w K mg base (L2N.CX P w) 1 (A 6) (FD 6) ["first", "second"] (spP K cl TT 2 F_one_step) := by
  have nd := sc_one_step.nd
  refine fn_pure T.f6 sc_one_step (fun _ => false) (by decide) d_one_step (fun cdv A0 outer s H E hr => ?_) sp_one_step
  exact ⟨_, (pss_cons (ps_asg (pv 0) (pg_tupK (K := K) (n := 4) rfl rfl (pgs_cons (pg_name (i := 2) nd rfl (Or.inl rfl)) (pgs_cons (pg_name (i := 3) nd rfl (Or.inl rfl)) (pgs_cons (pg_name (i := 4) nd rfl (Or.inl rfl)) (pgs_cons (pg_name (i := 5) nd rfl (Or.inl rfl)) pgs_nil))))))
  (pss_cons (ps_asg (pv 1) (pg_tupK (K := K) (n := 4) rfl rfl (pgs_cons (pg_name (i := 6) nd rfl (Or.inl rfl)) (pgs_cons (pg_name (i := 7) nd rfl (Or.inl rfl)) (pgs_cons (pg_name (i := 8) nd rfl (Or.inl rfl)) (pgs_cons (pg_name (i := 9) nd rfl (Or.inl rfl)) pgs_nil))))))
  (pss_one (ps_ret (pe_tup (pa_cons (pe_op (op_add4K (K := K) rfl) (pe_op op_mulW (pv 2) (pv 6)) (pe_op op_mulW (pv 3) (pv 8))) (pa_cons (pe_op (op_add4K (K := K) rfl) (pe_op op_mulW (pv 2) (pv 7)) (pe_op op_mulW (pv 3) (pv 9))) (pa_cons (pe_op (op_add4K (K := K) rfl) (pe_op op_mulW (pv 4) (pv 6)) (pe_op op_mulW (pv 5) (pv 8))) (pa_cons (pe_op (op_add4K (K := K) rfl) (pe_op op_mulW (pv 4) (pv 7)) (pe_op op_mulW (pv 5) (pv 9))) pa_nil))))))))),
   fun z h0 W he => (ss_seq (ss_asg (sv_var 0 rfl) (sg_tup (sgs_cons (sg_name 2 rfl) (sgs_cons (sg_name 3 rfl) (sgs_cons (sg_name 4 rfl) (sgs_cons (sg_name 5 rfl) sgs_nil))))))
  (ss_seq (ss_asg (sv_var 1 rfl) (sg_tup (sgs_cons (sg_name 6 rfl) (sgs_cons (sg_name 7 rfl) (sgs_cons (sg_name 8 rfl) (sgs_cons (sg_name 9 rfl) sgs_nil))))))
  (ss_ret (SV.se (sv_tup (sa_cons (sv_op sr_add (SV.se (sv_op sr_mul (SV.se (sv_var 2 rfl)) (SV.se (sv_var 6 rfl)))) (SV.se (sv_op sr_mul (SV.se (sv_var 3 rfl)) (SV.se (sv_var 8 rfl))))) (sa_cons (sv_op sr_add (SV.se (sv_op sr_mul (SV.se (sv_var 2 rfl)) (SV.se (sv_var 7 rfl)))) (SV.se (sv_op sr_mul (SV.se (sv_var 3 rfl)) (SV.se (sv_var 9 rfl))))) (sa_cons (sv_op sr_add (SV.se (sv_op sr_mul (SV.se (sv_var 4 rfl)) (SV.se (sv_var 6 rfl)))) (SV.se (sv_op sr_mul (SV.se (sv_var 5 rfl)) (SV.se (sv_var 8 rfl))))) (sa_cons (sv_op sr_add (SV.se (sv_op sr_mul (SV.se (sv_var 4 rfl)) (SV.se (sv_var 7 rfl)))) (SV.se (sv_op sr_mul (SV.se (sv_var 5 rfl)) (SV.se (sv_var 9 rfl))))) sa_nil)))))))))⟩
theorem ok_is_reduced (T : Txt K mg A FD cl CC PT TT pe) (TB0 : TB0 base mg CC PT) : FnOk P w K mg base (L2N.CX P w) 1 (A 8) (FD 8) ["form"] (spP K cl TT 1 F_is_reduced) := by
  have z_abs := T.z_abs
  have nd := sc_is_reduced.nd
  refine fn_pure T.f8 sc_is_reduced (fun _ => false) (by decide) d_is_reduced (fun cdv A0 outer s H E hr => ?_) sp_is_reduced
  exact ⟨_, (pss_cons (ps_asg (pv 0) (pg_tupK (K := K) (n := 3) rfl rfl (pgs_cons (pg_name (i := 1) nd rfl (Or.inl rfl)) (pgs_cons (pg_name (i := 2) nd rfl (Or.inl rfl)) (pgs_cons (pg_name (i := 3) nd rfl (Or.inl rfl)) pgs_nil)))))
  (pss_one (ps_ret (pe_and (pe_chain op_le op_le (pe_callB call_abs (by rfl) z_abs bt_abs (pa_cons (pv 2) pa_nil)) (pv 1) (pv 3)) (pe_one (pe_or (pe_cmpR op_ge (pv 2) pe_int (nomark _)) (pe_one (pe_chain op_lt op_lt (pe_un un_neg (pv 2)) (pv 1) (pv 3))))))))),
   fun z h0 W he => (ss_seq (ss_asg (sv_var 0 rfl) (sg_tup (sgs_cons (sg_name 1 rfl) (sgs_cons (sg_name 2 rfl) (sgs_cons (sg_name 3 rfl) sgs_nil)))))
  (ss_ret (SV.se (sv_andV (sv_chain sr_le sr_le (sv_cb sr_abs (sao_cons (SV.se (sv_var 2 rfl)) sao_nil)) (sv_var 1 rfl) (sv_var 3 rfl)) (sv_orV (sv_op sr_ge (SV.se (sv_var 2 rfl)) (SV.se sv_int)) (sv_chain sr_lt sr_lt (sv_un sr_neg (SV.se (sv_var 2 rfl))) (sv_var 1 rfl) (sv_var 3 rfl)))))))⟩
theorem ok_reduction (T : Txt K mg A FD cl CC PT TT pe) (TB0 : TB0 base mg CC PT) : FnOk P w K mg base (L2N.CX P w) 2 (A 7) (FD 7) ["form"] (spP K cl TT 1 F_reduction) := by
  have G_is_reduced : FnOk P w K mg base (L2N.CX P w) 1 (A 8) (FD 8) ["form"] (spP K cl TT 1 F_is_reduced) := ok_is_reduced T TB0
  have G_made_by : FnOk P w K mg base (L2N.CX P w) 1 (A 5) (FD 5) ["form", "step"] (spP K cl TT 2 F_made_by) := ok_made_by T TB0
  have G_one_step : FnOk P w K mg base (L2N.CX P w) 1 (A 6) (FD 6) ["first", "second"] (spP K cl TT 2 F_one_step) := ok_one_step T TB0
  have nd := sc_reduction.nd
  refine fn_pure T.f7 sc_reduction (fun _ => false) (by decide) d_reduction (fun cdv A0 outer s H E hr => ?_) sp_reduction
  exact ⟨_, (pss_cons (ps_set (i := 1) nd rfl (Or.inl rfl) (pe_tup (pa_cons pe_int (pa_cons pe_int (pa_cons pe_int (pa_cons pe_int pa_nil))))))
  (pss_cons (ps_while (passes_of rfl) (pt_not (pt_val (pe_call G_is_reduced (hr.mono (by decide)) (by rfl) T.g8 T.f8.kp T.b8 .nil (L2N.passes_call (L2N.takes_of rfl rfl rfl rfl) (fun _ _ _ _ h => h)) (pa_cons (pv 0) pa_nil))))
  (pss_cons (ps_asg (pv 0) (pg_tupK (K := K) (n := 3) rfl rfl (pgs_cons (pg_name (i := 2) nd rfl (Or.inl rfl)) (pgs_cons (pg_name (i := 3) nd rfl (Or.inl rfl)) (pgs_cons (pg_name (i := 4) nd rfl (Or.inl rfl)) pgs_nil)))))
  (pss_cons (ps_set (i := 5) nd rfl (Or.inl rfl) (pe_ifExp (pt_not (pt_chain op_lt op_le (pe_un un_neg (pv 2)) (pv 3) (pv 2))) (pe_tup (pa_cons pe_int (pa_cons (pe_op op_fdivW (pe_op op_sub (pv 2) (pv 3)) (pe_op op_mulW pe_int (pv 2))) (pa_cons pe_int (pa_cons pe_int pa_nil))))) (pe_tup (pa_cons pe_int (pa_cons (pe_un un_neg pe_int) (pa_cons pe_int (pa_cons pe_int pa_nil)))))))
  (pss_one (ps_par rfl nd rfl rfl (by decide) rfl rfl (pa_cons (pe_call G_made_by (hr.mono (by decide)) (by rfl) T.g5 T.f5.kp T.b5 .nil (L2N.passes_call (L2N.takes_of rfl rfl rfl rfl) (fun _ _ _ _ h => h)) (pa_cons (pv 0) (pa_cons (pv 5) pa_nil))) (pa_cons (pe_call G_one_step (hr.mono (by decide)) (by rfl) T.g6 T.f6.kp T.b6 .nil (L2N.passes_call (L2N.takes_of rfl rfl rfl rfl) (fun _ _ _ _ h => h)) (pa_cons (pv 1) (pa_cons (pv 5) pa_nil))) pa_nil)) (by rfl))))))
  (pss_one (ps_ret (pe_tup (pa_cons (pv 0) (pa_cons (pv 1) pa_nil))))))),
   fun z h0 W he => (ss_seq (ss_set 1 rfl (sv_tup (sa_cons sv_int (sa_cons sv_int (sa_cons sv_int (sa_cons sv_int sa_nil))))))
  (ss_seq (ss_while (st_not (st_test (sv_call he (sa_cons (sv_var 0 rfl) sa_nil))))
  (ss_seq (ss_asg (sv_var 0 rfl) (sg_tup (sgs_cons (sg_name 2 rfl) (sgs_cons (sg_name 3 rfl) (sgs_cons (sg_name 4 rfl) sgs_nil)))))
  (ss_seq (ss_set 5 rfl (sv_if (st_not (st_testO (sv_chain sr_lt sr_le (sv_un sr_neg (SV.se (sv_var 2 rfl))) (sv_var 3 rfl) (sv_var 2 rfl)))) (sv_tup (sa_cons sv_int (sa_cons (sv_op sr_div (SV.se (sv_op sr_sub (SV.se (sv_var 2 rfl)) (SV.se (sv_var 3 rfl)))) (SV.se (sv_op sr_mul (SV.se sv_int) (SV.se (sv_var 2 rfl))))) (sa_cons sv_int (sa_cons sv_int sa_nil))))) (sv_tup (sa_cons sv_int (sa_cons (sv_un sr_neg (SV.se sv_int)) (sa_cons sv_int (sa_cons sv_int sa_nil)))))))
  (ss_par 0 1 rfl rfl (sa_cons (sv_call he (sa_cons (sv_var 0 rfl) (sa_cons (sv_var 5 rfl) sa_nil))) (sa_cons (sv_call he (sa_cons (sv_var 1 rfl) (sa_cons (sv_var 5 rfl) sa_nil))) sa_nil))))))
  (ss_ret (SV.se (sv_tup (sa_cons (sv_var 0 rfl) (sa_cons (sv_var 1 rfl) sa_nil)))))))⟩
theorem ok_reduced (T : Txt K mg A FD cl CC PT TT pe) (TB0 : TB0 base mg CC PT) : FnOk P w K mg base (L2N.CX P w) 3 (A 9) (FD 9) ["form"] (spP K cl TT 1 F_reduced) := by
  have G_check_two : FnOk P w K mg base (L2N.CX P w) 2 (A 3) (FD 3) ["form"] (spP K cl TT 1 F_check_two) := ok_check_two T TB0
  have G_reduction : FnOk P w K mg base (L2N.CX P w) 2 (A 7) (FD 7) ["form"] (spP K cl TT 1 F_reduction) := ok_reduction T TB0
  have nd := sc_reduced.nd
  refine fn_pure T.f9 sc_reduced (fun _ => false) (by decide) d_reduced (fun cdv A0 outer s H E hr => ?_) sp_reduced
  exact ⟨_, (pss_cons (ps_expr (pe_call G_check_two (hr.mono (by decide)) (by rfl) T.g3 T.f3.kp T.b3 .nil (L2N.passes_call (L2N.takes_of rfl rfl rfl rfl) (fun _ _ _ _ h => h)) (pa_cons (pv 0) pa_nil)))
  (pss_one (ps_ret (pe_call G_reduction (hr.mono (by decide)) (by rfl) T.g7 T.f7.kp T.b7 .nil (L2N.passes_call (L2N.takes_of rfl rfl rfl rfl) (fun _ _ _ _ h => h)) (pa_cons (pv 0) pa_nil))))),
   fun z h0 W he => (ss_seq (ss_drop (SV.se (sv_call he (sa_cons (sv_var 0 rfl) sa_nil))))
  (ss_ret (SV.se (sv_call he (sa_cons (sv_var 0 rfl) sa_nil)))))⟩
theorem ok_check_step (T : Txt K mg A FD cl CC PT TT pe) (TB0 : TB0 base mg CC PT) : FnOk P w K mg base (L2N.CX P w) 2 (A 10) (FD 10) ["step"] (spP K cl TT 1 F_check_step) := by
  have z_all := T.z_all
  have z_isinstance := T.z_isinstance
  have z_len := T.z_len
  have z_tuple := T.z_tuple
  obtain ⟨_, m_GREATEST_STEP⟩ := T.m_GREATEST_STEP
  have G_is_number : FnOk P w K mg base (L2N.CX P w) 1 (A 0) (FD 0) ["told", "least", "most"] (spP K cl TT 3 F_is_number) := ok_is_number T TB0
  have nd := sc_check_step.nd
  refine fn_pure T.f10 sc_check_step (fun _ => false) (by decide) d_check_step (fun cdv A0 outer s H E hr => ?_) sp_check_step
  exact ⟨_, (pss_cons (ps_if (PW.pt (pw_or (pt_not (pt_val (pe_callB (call_isi_K (K := K) rfl) (by rfl) z_isinstance bt_isinstance (pa_cons (pv 0) (pa_cons (pe_bltn (v := .ty "tuple") (by rfl) z_tuple bt_tuple rfl) pa_nil))))) (pw_or1 (pt_cmpR (op_neDK (K := K) rfl hr.units) (pe_callB (call_lenK (K := K) rfl) (by rfl) z_len bt_len (pa_cons (pv 0) pa_nil)) pe_int (nomark _)))))
  (pss_one (L2N.ps_raise rfl (L2N.takes_of rfl rfl rfl rfl) (L2N.pmk_own PySem.F.excBase_ValueError T.x_OutOfRange T.g_OutOfRange T.k_OutOfRange (raises_own T.e_OutOfRange T.t_OutOfRange) rfl)))
  pss_nil)
  (pss_cons (ps_if (pt_not (pt_val (pe_callB (cr_allK (K := K) rfl rfl) (by rfl) z_all bt_all (pa_cons (by exact (pe_lc (own := [("item", 1)]) rfl nd (pi_seqK (K := K) rfl (pv 0)) (blkOk_by (own := [("item", 1)]) (N := ["step", "item"]) (sc := (defScope s_check_step)) (by decide +kernel)) (fun _ _ _ _ _ => by exact (pg_name (i := 1) nd rfl (Or.inl rfl))) (fun _ _ _ _ _ => by exact pts_nil) (fun _ _ _ _ _ => by exact (pe_call G_is_number (hr.mono (by decide)) (by rfl) T.g0 T.f0.kp T.b0 .nil passN (pa_cons (pv 1) (pa_cons (pe_un un_neg (pe_glob (v := .int (10000)) (by rfl) m_GREATEST_STEP ⟨_, rfl⟩)) (pa_cons (pe_glob (v := .int (10000)) (by rfl) m_GREATEST_STEP ⟨_, rfl⟩) pa_nil))))))) pa_nil))))
  (pss_one (L2N.ps_raise rfl (L2N.takes_of rfl rfl rfl rfl) (L2N.pmk_own PySem.F.excBase_ValueError T.x_OutOfRange T.g_OutOfRange T.k_OutOfRange (raises_own T.e_OutOfRange T.t_OutOfRange) rfl)))
  pss_nil)
  (pss_one (ps_if (pt_cmpR (op_neDK (K := K) rfl hr.units) (pe_op op_sub (pe_op op_mulW (pe_ix (ix_seqK (K := K) rfl) (pv 0) pe_int (fun _ _ => rfl)) (pe_ix (ix_seqK (K := K) rfl) (pv 0) pe_int (fun _ _ => rfl))) (pe_op op_mulW (pe_ix (ix_seqK (K := K) rfl) (pv 0) pe_int (fun _ _ => rfl)) (pe_ix (ix_seqK (K := K) rfl) (pv 0) pe_int (fun _ _ => rfl)))) pe_int (nomark _))
  (pss_one (L2N.ps_raise rfl (L2N.takes_of rfl rfl rfl rfl) (L2N.pmk_own PySem.F.excBase_ValueError T.x_OutOfRange T.g_OutOfRange T.k_OutOfRange (raises_own T.e_OutOfRange T.t_OutOfRange) rfl)))
  pss_nil)))),
   fun z h0 W he => (ss_seq (ss_if (st_or (st_not (st_test (sv_isi kit_tup (sv_var 0 rfl)))) (st_testO (sv_op sr_ne (SV.se (sv_cb sr_len (sao_cons (SV.se (sv_var 0 rfl)) sao_nil))) (SV.se sv_int))))
  (ss_raise .range he)
  ss_next)
  (ss_seq (ss_if (st_not (st_test (sv_cb sr_all (sao_cons (SV.se (SFL.v (sfl_lc (vs := [1]) (si_seq (sv_var 0 rfl)) (sg_name 1 rfl) st_yes (sv_call takes_noX (sa_cons (sv_var 1 rfl) (sa_cons (sv_un sr_neg (SV.se sv_int)) (sa_cons sv_int sa_nil)))) rfl rfl))) sao_nil))))
  (ss_raise .range he)
  ss_next)
  (ss_if (st_testO (sv_op sr_ne (SV.se (sv_op sr_sub (SV.se (sv_op sr_mul (SV.se (sv_op sr_ix (SV.se (sv_var 0 rfl)) (SV.se sv_int))) (SV.se (sv_op sr_ix (SV.se (sv_var 0 rfl)) (SV.se sv_int))))) (SV.se (sv_op sr_mul (SV.se (sv_op sr_ix (SV.se (sv_var 0 rfl)) (SV.se sv_int))) (SV.se (sv_op sr_ix (SV.se (sv_var 0 rfl)) (SV.se sv_int))))))) (SV.se sv_int)))
  (ss_raise .range he)
  ss_next)))⟩
theorem ok_stepped (T : Txt K mg A FD cl CC PT TT pe) (TB0 : TB0 base mg CC PT) : FnOk P w K mg base (L2N.CX P w) 3 (A 11) (FD 11) ["form", "step"] (spP K cl TT 2 F_stepped) := by
  have G_check_step : FnOk P w K mg base (L2N.CX P w) 2 (A 10) (FD 10) ["step"] (spP K cl TT 1 F_check_step) := ok_check_step T TB0
  have G_check_two : FnOk P w K mg base (L2N.CX P w) 2 (A 3) (FD 3) ["form"] (spP K cl TT 1 F_check_two) := ok_check_two T TB0
  have G_made_by : FnOk P w K mg base (L2N.CX P w) 1 (A 5) (FD 5) ["form", "step"] (spP K cl TT 2 F_made_by) := ok_made_by T TB0
  have nd := sc_stepped.nd
  refine fn_pure T.f11 sc_stepped (fun _ => false) (by decide) d_stepped (fun cdv A0 outer s H E hr => ?_) sp_stepped
  exact ⟨_, (pss_cons (ps_expr (pe_call G_check_two (hr.mono (by decide)) (by rfl) T.g3 T.f3.kp T.b3 .nil (L2N.passes_call (L2N.takes_of rfl rfl rfl rfl) (fun _ _ _ _ h => h)) (pa_cons (pv 0) pa_nil)))
  (pss_cons (ps_expr (pe_call G_check_step (hr.mono (by decide)) (by rfl) T.g10 T.f10.kp T.b10 .nil (L2N.passes_call (L2N.takes_of rfl rfl rfl rfl) (fun _ _ _ _ h => h)) (pa_cons (pv 1) pa_nil)))
  (pss_one (ps_ret (pe_call G_made_by (hr.mono (by decide)) (by rfl) T.g5 T.f5.kp T.b5 .nil (L2N.passes_call (L2N.takes_of rfl rfl rfl rfl) (fun _ _ _ _ h => h)) (pa_cons (pv 0) (pa_cons (pv 1) pa_nil))))))),
   fun z h0 W he => (ss_seq (ss_drop (SV.se (sv_call he (sa_cons (sv_var 0 rfl) sa_nil))))
  (ss_seq (ss_drop (SV.se (sv_call he (sa_cons (sv_var 1 rfl) sa_nil))))
  (ss_ret (SV.se (sv_call he (sa_cons (sv_var 0 rfl) (sa_cons (sv_var 1 rfl) sa_nil)))))))⟩
theorem ok_same (T : Txt K mg A FD cl CC PT TT pe) (TB0 : TB0 base mg CC PT) : FnOk P w K mg base (L2N.CX P w) 3 (A 12) (FD 12) ["form", "other"] (spP K cl TT 2 F_same) := by
  have G_check_two : FnOk P w K mg base (L2N.CX P w) 2 (A 3) (FD 3) ["form"] (spP K cl TT 1 F_check_two) := ok_check_two T TB0
  have G_one_step : FnOk P w K mg base (L2N.CX P w) 1 (A 6) (FD 6) ["first", "second"] (spP K cl TT 2 F_one_step) := ok_one_step T TB0
  have G_reduction : FnOk P w K mg base (L2N.CX P w) 2 (A 7) (FD 7) ["form"] (spP K cl TT 1 F_reduction) := ok_reduction T TB0
  have nd := sc_same.nd
  refine fn_pure T.f12 sc_same (fun _ => false) (by decide) d_same (fun cdv A0 outer s H E hr => ?_) sp_same
  exact ⟨_, (pss_cons (ps_expr (pe_call G_check_two (hr.mono (by decide)) (by rfl) T.g3 T.f3.kp T.b3 .nil (L2N.passes_call (L2N.takes_of rfl rfl rfl rfl) (fun _ _ _ _ h => h)) (pa_cons (pv 0) pa_nil)))
  (pss_cons (ps_expr (pe_call G_check_two (hr.mono (by decide)) (by rfl) T.g3 T.f3.kp T.b3 .nil (L2N.passes_call (L2N.takes_of rfl rfl rfl rfl) (fun _ _ _ _ h => h)) (pa_cons (pv 1) pa_nil)))
  (pss_cons (ps_asg (pe_call G_reduction (hr.mono (by decide)) (by rfl) T.g7 T.f7.kp T.b7 .nil (L2N.passes_call (L2N.takes_of rfl rfl rfl rfl) (fun _ _ _ _ h => h)) (pa_cons (pv 0) pa_nil)) (pg_tupK (K := K) (n := 2) rfl rfl (pgs_cons (pg_name (i := 2) nd rfl (Or.inl rfl)) (pgs_cons (pg_name (i := 3) nd rfl (Or.inl rfl)) pgs_nil))))
  (pss_cons (ps_asg (pe_call G_reduction (hr.mono (by decide)) (by rfl) T.g7 T.f7.kp T.b7 .nil (L2N.passes_call (L2N.takes_of rfl rfl rfl rfl) (fun _ _ _ _ h => h)) (pa_cons (pv 1) pa_nil)) (pg_tupK (K := K) (n := 2) rfl rfl (pgs_cons (pg_name (i := 4) nd rfl (Or.inl rfl)) (pgs_cons (pg_name (i := 5) nd rfl (Or.inl rfl)) pgs_nil))))
  (pss_cons (ps_asg (pv 5) (pg_tupK (K := K) (n := 4) rfl rfl (pgs_cons (pg_name (i := 6) nd rfl (Or.inl rfl)) (pgs_cons (pg_name (i := 7) nd rfl (Or.inl rfl)) (pgs_cons (pg_name (i := 8) nd rfl (Or.inl rfl)) (pgs_cons (pg_name (i := 9) nd rfl (Or.inl rfl)) pgs_nil))))))
  (pss_one (ps_ret (pe_ifExp (pt_cmpR (op_eqDK (K := K) rfl hr.units) (pv 2) (pv 4) (nomark _)) (pe_call G_one_step (hr.mono (by decide)) (by rfl) T.g6 T.f6.kp T.b6 .nil (L2N.passes_call (L2N.takes_of rfl rfl rfl rfl) (fun _ _ _ _ h => h)) (pa_cons (pv 3) (pa_cons (pe_tup (pa_cons (pv 9) (pa_cons (pe_un un_neg (pv 7)) (pa_cons (pe_un un_neg (pv 8)) (pa_cons (pv 6) pa_nil))))) pa_nil))) pe_non)))))))),
   fun z h0 W he => (ss_seq (ss_drop (SV.se (sv_call he (sa_cons (sv_var 0 rfl) sa_nil))))
  (ss_seq (ss_drop (SV.se (sv_call he (sa_cons (sv_var 1 rfl) sa_nil))))
  (ss_seq (ss_asg (sv_call he (sa_cons (sv_var 0 rfl) sa_nil)) (sg_tup (sgs_cons (sg_name 2 rfl) (sgs_cons (sg_name 3 rfl) sgs_nil))))
  (ss_seq (ss_asg (sv_call he (sa_cons (sv_var 1 rfl) sa_nil)) (sg_tup (sgs_cons (sg_name 4 rfl) (sgs_cons (sg_name 5 rfl) sgs_nil))))
  (ss_seq (ss_asg (sv_var 5 rfl) (sg_tup (sgs_cons (sg_name 6 rfl) (sgs_cons (sg_name 7 rfl) (sgs_cons (sg_name 8 rfl) (sgs_cons (sg_name 9 rfl) sgs_nil))))))
  (ss_ret (SV.se (sv_if (st_testO (sv_op sr_eq (SV.se (sv_var 2 rfl)) (SV.se (sv_var 4 rfl)))) (sv_call he (sa_cons (sv_var 3 rfl) (sa_cons (sv_tup (sa_cons (sv_var 9 rfl) (sa_cons (sv_un sr_neg (SV.se (sv_var 7 rfl))) (sa_cons (sv_un sr_neg (SV.se (sv_var 8 rfl))) (sa_cons (sv_var 6 rfl) sa_nil))))) sa_nil))) sv_non))))))))⟩
theorem ok_turned (T : Txt K mg A FD cl CC PT TT pe) (TB0 : TB0 base mg CC PT) : FnOk P w K mg base (L2N.CX P w) 3 (A 13) (FD 13) ["form"] (spP K cl TT 1 F_turned) := by
  have G_check_two : FnOk P w K mg base (L2N.CX P w) 2 (A 3) (FD 3) ["form"] (spP K cl TT 1 F_check_two) := ok_check_two T TB0
  have G_reduction : FnOk P w K mg base (L2N.CX P w) 2 (A 7) (FD 7) ["form"] (spP K cl TT 1 F_reduction) := ok_reduction T TB0
  have nd := sc_turned.nd
  refine fn_pure T.f13 sc_turned (fun _ => false) (by decide) d_turned (fun cdv A0 outer s H E hr => ?_) sp_turned
  exact ⟨_, (pss_cons (ps_expr (pe_call G_check_two (hr.mono (by decide)) (by rfl) T.g3 T.f3.kp T.b3 .nil (L2N.passes_call (L2N.takes_of rfl rfl rfl rfl) (fun _ _ _ _ h => h)) (pa_cons (pv 0) pa_nil)))
  (pss_one (ps_ret (pe_ix (ix_seqK (K := K) rfl) (pe_call G_reduction (hr.mono (by decide)) (by rfl) T.g7 T.f7.kp T.b7 .nil (L2N.passes_call (L2N.takes_of rfl rfl rfl rfl) (fun _ _ _ _ h => h)) (pa_cons (pe_tup (pa_cons (pe_ix (ix_seqK (K := K) rfl) (pv 0) pe_int (fun _ _ => rfl)) (pa_cons (pe_un un_neg (pe_ix (ix_seqK (K := K) rfl) (pv 0) pe_int (fun _ _ => rfl))) (pa_cons (pe_ix (ix_seqK (K := K) rfl) (pv 0) pe_int (fun _ _ => rfl)) pa_nil)))) pa_nil)) pe_int (fun _ _ => rfl))))),
   fun z h0 W he => (ss_seq (ss_drop (SV.se (sv_call he (sa_cons (sv_var 0 rfl) sa_nil))))
  (ss_ret (SV.se (sv_op sr_ix (SV.se (sv_call he (sa_cons (sv_tup (sa_cons (sv_op sr_ix (SV.se (sv_var 0 rfl)) (SV.se sv_int)) (sa_cons (sv_un sr_neg (SV.se (sv_op sr_ix (SV.se (sv_var 0 rfl)) (SV.se sv_int)))) (sa_cons (sv_op sr_ix (SV.se (sv_var 0 rfl)) (SV.se sv_int)) sa_nil)))) sa_nil))) (SV.se sv_int)))))⟩
theorem step__law_read (T : Txt K mg A FD cl CC PT TT pe) (TB0 : TB0 base mg CC PT) {kk : Nat} {Fi F : FP} (G__law_read : FnOk P w K mg base (L2N.CX P w) kk (A 14) (FD 14) ["told"] (spP K cl TT 1 Fi)) (sp : ∀ args P W, args.length = 1 → F args P W → d__law_read Fi W ⟨fun _ => P .non, fun d ρ => P (retD ρ d), fun _ => False, fun _ => False⟩ (startD 3 args)) : FnOk P w K mg base (L2N.CX P w) (kk + 1) (A 14) (FD 14) ["told"] (spP K cl TT 1 F) := by
  have z_int := T.z_int
  have z_isinstance := T.z_isinstance
  have z_list := T.z_list
  have z_str := T.z_str
  have z_tuple := T.z_tuple
  have nd := sc__law_read.nd
  refine fn_pure T.f14 sc__law_read (fun _ => false) (by decide) (d__law_read Fi) (fun cdv A0 outer s H E hr => ?_) sp
  exact ⟨_, (pss_cons (ps_if (PW.pt (pw_or (pt_cmpR op_isN (pv 0) pe_non (nomark _)) (pw_or (pt_cmpR op_isB2 (pv 0) pe_bl (nomark _)) (pw_or1 (pt_cmpR op_isB2 (pv 0) pe_bl (nomark _))))))
  (pss_one (ps_ret (pv 0)))
  pss_nil)
  (pss_cons (ps_if (pt_val (pe_callB (call_isi_K (K := K) rfl) (by rfl) z_isinstance bt_isinstance (pa_cons (pv 0) (pa_cons (pe_bltn (v := .ty "int") (by rfl) z_int bt_int rfl) pa_nil))))
  (pss_one (ps_ret (pe_callTy call_int1 (by rfl) z_int bt_int (pa_cons (pv 0) pa_nil))))
  pss_nil)
  (pss_cons (ps_if (pt_val (pe_callB (call_isi_K (K := K) rfl) (by rfl) z_isinstance bt_isinstance (pa_cons (pv 0) (pa_cons (pe_bltn (v := .ty "str") (by rfl) z_str bt_str rfl) pa_nil))))
  (pss_one (ps_ret (pe_joinK (K := K) rfl pe_str (by exact (pe_lc (own := [("sign", 1)]) rfl nd (pi_str (pv 0)) (blkOk_by (own := [("sign", 1)]) (N := ["told", "sign", "part"]) (sc := (defScope s__law_read)) (by decide +kernel)) (fun _ _ _ _ _ => by exact (pg_name (i := 1) nd rfl (Or.inl rfl))) (fun _ _ _ _ _ => by exact pts_nil) (fun _ _ _ _ _ => by exact (pv 1)))))))
  pss_nil)
  (pss_cons (ps_if (pt_val (pe_callB (call_isi_K (K := K) rfl) (by rfl) z_isinstance bt_isinstance (pa_cons (pv 0) (pa_cons (pe_bltn (v := .ty "tuple") (by rfl) z_tuple bt_tuple rfl) pa_nil))))
  (pss_one (ps_ret (pe_tupleK (K := K) rfl (by rfl) z_tuple (by exact (pe_lc (own := [("part", 2)]) rfl nd (pi_seqK (K := K) rfl (pv 0)) (blkOk_by (own := [("part", 2)]) (N := ["told", "sign", "part"]) (sc := (defScope s__law_read)) (by decide +kernel)) (fun _ _ _ _ _ => by exact (pg_name (i := 2) nd rfl (Or.inl rfl))) (fun _ _ _ _ _ => by exact pts_nil) (fun _ _ _ _ _ => by exact (pe_call G__law_read hr (by rfl) T.g14 T.f14.kp T.b14 .nil passN (pa_cons (pv 2) pa_nil))))))))
  pss_nil)
  (pss_one (ps_ret (pe_ifExp (pt_val (pe_callB (call_isi_K (K := K) rfl) (by rfl) z_isinstance bt_isinstance (pa_cons (pv 0) (pa_cons (pe_bltn (v := .ty "list") (by rfl) z_list bt_list rfl) pa_nil)))) (by exact (pe_lc (own := [("part", 2)]) rfl nd (pi_seqK (K := K) rfl (pv 0)) (blkOk_by (own := [("part", 2)]) (N := ["told", "sign", "part"]) (sc := (defScope s__law_read)) (by decide +kernel)) (fun _ _ _ _ _ => by exact (pg_name (i := 2) nd rfl (Or.inl rfl))) (fun _ _ _ _ _ => by exact pts_nil) (fun _ _ _ _ _ => by exact (pe_call G__law_read hr (by rfl) T.g14 T.f14.kp T.b14 .nil passN (pa_cons (pv 2) pa_nil))))) pe_str))))))),
   fun z h0 W he => (ss_seq (ss_if (st_or (st_testO (sv_op sr_isN (SV.se (sv_var 0 rfl)) (SV.se sv_non))) (st_or (st_testO (sv_op sr_isB2 (SV.se (sv_var 0 rfl)) (SV.se sv_bl))) (st_testO (sv_op sr_isB2 (SV.se (sv_var 0 rfl)) (SV.se sv_bl)))))
  (ss_ret (SV.se (sv_var 0 rfl)))
  ss_next)
  (ss_seq (ss_if (st_test (sv_isi kit_int (sv_var 0 rfl)))
  (ss_ret (SV.se (sv_cb sr_intC (sao_cons (SV.se (sv_var 0 rfl)) sao_nil))))
  ss_next)
  (ss_seq (ss_if (st_test (sv_isi kit_str (sv_var 0 rfl)))
  (ss_ret (SV.se (sv_join sv_str (SFL.v (sfl_lc (vs := [1]) (si_str (sv_var 0 rfl)) (sg_name 1 rfl) st_yes (sv_var 1 rfl) rfl rfl)))))
  ss_next)
  (ss_seq (ss_if (st_test (sv_isi kit_tup (sv_var 0 rfl)))
  (ss_ret (SV.se (sv_tuple (SV.se (SFL.v (sfl_lc (vs := [2]) (si_seq (sv_var 0 rfl)) (sg_name 2 rfl) st_yes (sv_call takes_noX (sa_cons (sv_var 2 rfl) sa_nil)) rfl rfl))))))
  ss_next)
  (ss_ret (SV.se (sv_if (st_test (sv_isi kit_lst (sv_var 0 rfl))) (SFL.v (sfl_lc (vs := [2]) (si_seq (sv_var 0 rfl)) (sg_name 2 rfl) st_yes (sv_call takes_noX (sa_cons (sv_var 2 rfl) sa_nil)) rfl rfl)) sv_str)))))))⟩
theorem ok__law_read (T : Txt K mg A FD cl CC PT TT pe) (TB0 : TB0 base mg CC PT) : FnOk P w K mg base (L2N.CX P w) 6 (A 14) (FD 14) ["told"] (spP K cl TT 1 F__law_read) := (step__law_read T TB0 (kk := 5) (Fi := readN 3) (F := readN 4) (step__law_read T TB0 (kk := 4) (Fi := readN 2) (F := readN 3) (step__law_read T TB0 (kk := 3) (Fi := readN 1) (F := readN 2) (step__law_read T TB0 (kk := 2) (Fi := readN 0) (F := readN 1) (step__law_read T TB0 (kk := 1) (Fi := fun _ _ _ => False) (F := readN 0) (fn_none (F := fun _ _ _ => False) (fun _ _ _ h => h) rfl) read_zero) read_step) read_step) read_step) read_step)
theorem ok__law_cell (T : Txt K mg A FD cl CC PT TT pe) (TB0 : TB0 base mg CC PT) : FnOk P w K mg base (L2N.CX P w) 1 (A 15) (FD 15) ["script", "k"] (spP K cl TT 2 F__law_cell) := by
  have z_int := T.z_int
  have z_len := T.z_len
  have nd := sc__law_cell.nd
  refine fn_pure T.f15 sc__law_cell (fun _ => false) (by decide) d__law_cell (fun cdv A0 outer s H E hr => ?_) sp__law_cell
  exact ⟨_, (pss_one (ps_ret (pe_ifExp (pt_cmpR op_lt (pv 1) (pe_callB (call_lenK (K := K) rfl) (by rfl) z_len bt_len (pa_cons (pv 0) pa_nil)) (nomark _)) (pe_callTy call_int1 (by rfl) z_int bt_int (pa_cons (pe_ix (ix_seqK (K := K) rfl) (pv 0) (pv 1) (fun _ _ => rfl)) pa_nil)) pe_int))),
   fun z h0 W he => (ss_ret (SV.se (sv_if (st_testO (sv_op sr_lt (SV.se (sv_var 1 rfl)) (SV.se (sv_cb sr_len (sao_cons (SV.se (sv_var 0 rfl)) sao_nil))))) (sv_cb sr_intC (sao_cons (SV.se (sv_op sr_ix (SV.se (sv_var 0 rfl)) (SV.se (sv_var 1 rfl)))) sao_nil)) sv_int)))⟩
theorem ok__law_stream (T : Txt K mg A FD cl CC PT TT pe) (TB0 : TB0 base mg CC PT) : FnOk P w K mg base (L2N.CX P w) 2 (A 16) (FD 16) ["script", "k"] (spN K cl TT 2 F__law_stream) := by
  have z_abs := T.z_abs
  have G__law_cell : FnOk P w K mg base (L2N.CX P w) 1 (A 15) (FD 15) ["script", "k"] (spP K cl TT 2 F__law_cell) := ok__law_cell T TB0
  have nd := sc__law_stream.nd
  refine fn_new (de := d__law_stream) T.f16 sc__law_stream (fun cdv A0 outer s H E hr => ?_) sp__law_stream
  exact ⟨_, pss_one (ps_ret (pe_lst (pa_cons (pe_callB call_abs (by rfl) z_abs bt_abs (pa_cons (pe_call G__law_cell (hr.mono (by decide)) (by rfl) T.g15 T.f15.kp T.b15 .nil passN (pa_cons (pv 0) (pa_cons (pv 1) pa_nil))) pa_nil)) (pa_cons (pe_op (op_add4K (K := K) rfl) (pe_op op_mod (pe_callB call_abs (by rfl) z_abs bt_abs (pa_cons (pe_call G__law_cell (hr.mono (by decide)) (by rfl) T.g15 T.f15.kp T.b15 .nil passN (pa_cons (pv 0) (pa_cons (pv 1) pa_nil))) pa_nil)) pe_int) pe_int) pa_nil)))), fun z h0 => (sf_lst (sa_cons (sv_cb sr_abs (sao_cons (SV.se (sv_call takes_noX (sa_cons (sv_var 0 rfl) (sa_cons (sv_var 1 rfl) sa_nil)))) sao_nil)) (sa_cons (sv_op sr_add (SV.se (sv_op sr_mod (SV.se (sv_cb sr_abs (sao_cons (SV.se (sv_call takes_noX (sa_cons (sv_var 0 rfl) (sa_cons (sv_var 1 rfl) sa_nil)))) sao_nil))) (SV.se sv_int))) (SV.se sv_int)) sa_nil)))⟩
theorem ok__law_draw (T : Txt K mg A FD cl CC PT TT pe) (TB0 : TB0 base mg CC PT) : FnOk P w K mg base (L2N.CX P w) 1 (A 17) (FD 17) ["box", "many"] (spB K cl TT 2 F__law_draw) := by
  have z_int := T.z_int
  have nd := sc__law_draw.nd
  refine fn_box T.f17 sc__law_draw (fun i => i == 0) (by decide) (by decide) d__law_draw (fun cdv A0 outer s H E hr => ?_) sp__law_draw
  exact ⟨_, (pss_cons (ps_if (pt_cmpR op_gt (pe_ix (ix_seqK (K := K) rfl) (pv 0) pe_int (fun _ _ => rfl)) pe_int (nomark _))
  (pss_cons (ps_set (i := 2) nd rfl (Or.inl rfl) (pe_op op_mod (pe_ix (ix_seqK (K := K) rfl) (pv 0) pe_int (fun _ _ => rfl)) (pv 1)))
  (pss_cons (ps_asg (pe_op op_fdivW (pe_ix (ix_seqK (K := K) rfl) (pv 0) pe_int (fun _ _ => rfl)) (pv 1)) (pg_sub (pv 0) pe_int set_list))
  (pss_one (ps_ret (pe_callTy call_int1 (by rfl) z_int bt_int (pa_cons (pv 2) pa_nil))))))
  pss_nil)
  (pss_cons (ps_asg (pe_op op_mod (pe_callTy call_int1 (by rfl) z_int bt_int (pa_cons (pe_op (op_add4K (K := K) rfl) (pe_op op_mulW (pe_ix (ix_seqK (K := K) rfl) (pv 0) pe_int (fun _ _ => rfl)) pe_int) pe_int) pa_nil)) pe_int) (pg_sub (pv 0) pe_int set_list))
  (pss_one (ps_ret (pe_op op_mod (pe_callTy call_int1 (by rfl) z_int bt_int (pa_cons (pe_op op_fdivW (pe_ix (ix_seqK (K := K) rfl) (pv 0) pe_int (fun _ _ => rfl)) pe_int) pa_nil)) (pv 1)))))),
   fun z b h0 W he => (ss_seq (ss_if (st_testO (sv_op sr_gt (SV.se (sv_op sr_ix (se_own 0 rfl) (SV.se sv_int))) (SV.se sv_int)))
  (ss_seq (ss_set 2 rfl (sv_op sr_mod (SV.se (sv_op sr_ix (se_own 0 rfl) (SV.se sv_int))) (SV.se (sv_var 1 rfl))))
  (ss_seq (ss_setIx 0 rfl (sv_op sr_div (SV.se (sv_op sr_ix (se_own 0 rfl) (SV.se sv_int))) (SV.se (sv_var 1 rfl))) sv_int)
  (ss_ret (SV.se (sv_cb sr_intC (sao_cons (SV.se (sv_var 2 rfl)) sao_nil))))))
  ss_next)
  (ss_seq (ss_setIx 0 rfl (sv_op sr_mod (SV.se (sv_cb sr_intC (sao_cons (SV.se (sv_op sr_add (SV.se (sv_op sr_mul (SV.se (sv_op sr_ix (se_own 0 rfl) (SV.se sv_int))) (SV.se sv_int))) (SV.se sv_int))) sao_nil))) (SV.se sv_int)) sv_int)
  (ss_ret (SV.se (sv_op sr_mod (SV.se (sv_cb sr_intC (sao_cons (SV.se (sv_op sr_div (SV.se (sv_op sr_ix (se_own 0 rfl) (SV.se sv_int))) (SV.se sv_int))) sao_nil))) (SV.se (sv_var 1 rfl)))))))⟩
theorem gives_told (T : Txt K mg A FD cl CC PT TT pe) (TB0 : TB0 base mg CC PT) {Ar : Around} {st : List PySem.Env} {cdv : Value} {q : Str} {kk : Nat} (hk : 6 ≤ kk) : GivesToN P w K mg base Ar st ["call", "e", "words", "word", "is_so"] "_law_told" (defScope s__law_told) (A 18) cdv (defBody s__law_told) "call" kk q (TTold K cl TT F__law_read) := by
  have nd := sc__law_told.nd
  have G__law_read : FnOk P w K mg base (L2N.CX P w) 6 (A 14) (FD 14) ["told"] (spP K cl TT 1 F__law_read) := ok__law_read T TB0
  intro f c' s H Q tl hr act hc h
  have hn : Names (cxOf C8.CX0 P w K mg base ["call", "e", "words", "word", "is_so"] "_law_told" (defScope s__law_told) (A 18) cdv Ar st s H C8.E0).nox "PlaceError" (.ref pe) := ⟨rfl, by decide, .inl T.g_PlaceError⟩
  refine ⟨_, pss_one (L2N.ps_try_as (X := (cxOf C8.CX0 P w K mg base ["call", "e", "words", "word", "is_so"] "_law_told" (defScope s__law_told) (A 18) cdv Ar st s H C8.E0).nox) (c := .ref pe) (i := 1) (Wout := fun _ _ _ _ => False) (ts := toldTs K cl) (tb := toldTb K cl TT F__law_read f c' q tl) rfl rfl nd rfl rfl hn (fun u s' x => by obtain ⟨_, _, _, _, _, _, _, _, _, _, _, _, _, _, _, _, z⟩ := x; exact z.elim)
    (fun W pn xe tk po => pss_one (ps_ret (pe_tup (pa_cons pe_int (pa_cons (pe_call G__law_read (hr.mono hk) (by rfl) T.g14 T.f14.kp T.b14 .nil (L2N.passes_call tk (fun _ _ _ _ h => h.elim)) (pa_cons (act W pn xe _ _ tk) pa_nil)) pa_nil))))) (fun a oe cls d pn hz hd => pss_ex fun x hx => ?_)), told_end T.ff hc h⟩
  obtain ⟨rfl, rfl⟩ := hx
  have hot := hot_suite (X := (cxOf C8.CX0 P w K mg base ["call", "e", "words", "word", "is_so"] "_law_told" (defScope s__law_told) (A 18) cdv Ar st s H C8.E0).nox) (a := a) (pn := pn) hz hd
  exact pss_cons (ps_setLcH (i := 2) (own := [("word", 3), ("is_so", 4)]) hot nd rfl rfl (sw_true rfl rfl rfl (by decide +kernel)) (pe_lst (pa_cons (pe_tup (pa_cons pe_str (pa_cons (pe_callB (call_isE (T.ff x).c hz.zc hd) (by rfl) T.z_isinstance bt_isinstance (pa_cons (pv 1) (pa_cons (pe_glob (v := .ref (cl .form)) (by rfl) T.g_BadForm rfl) pa_nil))) pa_nil))) (pa_cons (pe_tup (pa_cons pe_str (pa_cons (pe_callB (call_isE (T.ff x).c hz.zc hd) (by rfl) T.z_isinstance bt_isinstance (pa_cons (pv 1) (pa_cons (pe_glob (v := .ref (cl .range)) (by rfl) T.g_OutOfRange rfl) pa_nil))) pa_nil))) pa_nil))) (blkOk_by (own := [("word", 3), ("is_so", 4)]) (N := ["call", "e", "words", "word", "is_so"]) (sc := defScope s__law_told) (by decide +kernel))
      (fun _ _ _ _ _ hx => by exact (pg_tupH hx (pgs_cons (pg_name (i := 3) nd rfl (Or.inl rfl)) (pgs_cons (pg_name (i := 4) nd rfl (Or.inl rfl)) pgs_nil)))) (fun _ _ _ _ _ => by exact (pts_one (pt_val (pv 4)))) (fun _ _ _ _ _ => by exact (pv 3)))
    (pss_one (ps_ret (pe_tup (pa_cons pe_int (pa_cons (pe_ifExp (pt_cmpR (op_eqDK (K := K) rfl (by exact hr.units)) (pe_callB (call_lenK (K := K) rfl) (by rfl) T.z_len bt_len (pa_cons (pv 2) pa_nil)) pe_int (nomark _)) (pe_ix (ix_seqK (K := K) rfl) (pv 2) pe_int (fun _ _ => rfl)) pe_str) pa_nil)))))
theorem ok__law_common (T : Txt K mg A FD cl CC PT TT pe) (TB0 : TB0 base mg CC PT) : FnOk P w K mg base (L2N.CX P w) 1 (A 19) (FD 19) ["numbers"] (spP K cl TT 1 F__law_common) := by
  have z_abs := T.z_abs
  have nd := sc__law_common.nd
  refine fn_pure T.f19 sc__law_common (fun _ => false) (by decide) d__law_common (fun cdv A0 outer s H E hr => ?_) sp__law_common
  exact ⟨_, (pss_cons (ps_set (i := 1) nd rfl (Or.inl rfl) pe_int)
  (pss_cons (ps_for (passes_of rfl) rfl (pi_seqK (K := K) rfl (pv 0)) (pg_name (i := 2) nd rfl (Or.inl rfl))
  (pss_cons (ps_set (i := 3) nd rfl (Or.inl rfl) (pe_callB call_abs (by rfl) z_abs bt_abs (pa_cons (pv 2) pa_nil)))
  (pss_one (ps_while (passes_of rfl) (pt_cmpR op_gt (pv 3) pe_int (nomark _))
  (pss_one (ps_par rfl nd rfl rfl (by decide) rfl rfl (pa_cons (pv 3) (pa_cons (pe_op op_mod (pv 1) (pv 3)) pa_nil)) (by rfl)))))))
  (pss_one (ps_ret (pv 1))))),
   fun z h0 W he => (ss_seq (ss_set 1 rfl sv_int)
  (ss_seq (ss_for (si_seq (sv_var 0 rfl)) (sg_name 2 rfl)
  (ss_seq (ss_set 3 rfl (sv_cb sr_abs (sao_cons (SV.se (sv_var 2 rfl)) sao_nil)))
  (ss_while (st_testO (sv_op sr_gt (SV.se (sv_var 3 rfl)) (SV.se sv_int)))
  (ss_par 1 3 rfl rfl (sa_cons (sv_var 3 rfl) (sa_cons (sv_op sr_mod (SV.se (sv_var 1 rfl)) (SV.se (sv_var 3 rfl))) sa_nil))))))
  (ss_ret (SV.se (sv_var 1 rfl)))))⟩
theorem ok__law_discriminant (T : Txt K mg A FD cl CC PT TT pe) (TB0 : TB0 base mg CC PT) : FnOk P w K mg base (L2N.CX P w) 1 (A 20) (FD 20) ["form"] (spP K cl TT 1 F__law_discriminant) := by
  have nd := sc__law_discriminant.nd
  refine fn_pure T.f20 sc__law_discriminant (fun _ => false) (by decide) d__law_discriminant (fun cdv A0 outer s H E hr => ?_) sp__law_discriminant
  exact ⟨_, (pss_cons (ps_asg (pv 0) (pg_tupK (K := K) (n := 3) rfl rfl (pgs_cons (pg_name (i := 1) nd rfl (Or.inl rfl)) (pgs_cons (pg_name (i := 2) nd rfl (Or.inl rfl)) (pgs_cons (pg_name (i := 3) nd rfl (Or.inl rfl)) pgs_nil)))))
  (pss_one (ps_ret (pe_op op_sub (pe_op op_mulW (pv 2) (pv 2)) (pe_op op_mulW (pe_op op_mulW pe_int (pv 1)) (pv 3)))))),
   fun z h0 W he => (ss_seq (ss_asg (sv_var 0 rfl) (sg_tup (sgs_cons (sg_name 1 rfl) (sgs_cons (sg_name 2 rfl) (sgs_cons (sg_name 3 rfl) sgs_nil)))))
  (ss_ret (SV.se (sv_op sr_sub (SV.se (sv_op sr_mul (SV.se (sv_var 2 rfl)) (SV.se (sv_var 2 rfl)))) (SV.se (sv_op sr_mul (SV.se (sv_op sr_mul (SV.se sv_int) (SV.se (sv_var 1 rfl)))) (SV.se (sv_var 3 rfl))))))))⟩
theorem ok__law_is_two (T : Txt K mg A FD cl CC PT TT pe) (TB0 : TB0 base mg CC PT) : FnOk P w K mg base (L2N.CX P w) 2 (A 21) (FD 21) ["x"] (spP K cl TT 1 F__law_is_two) := by
  have z_int := T.z_int
  have z_isinstance := T.z_isinstance
  have z_len := T.z_len
  have z_tuple := T.z_tuple
  have G__law_common : FnOk P w K mg base (L2N.CX P w) 1 (A 19) (FD 19) ["numbers"] (spP K cl TT 1 F__law_common) := ok__law_common T TB0
  have G__law_discriminant : FnOk P w K mg base (L2N.CX P w) 1 (A 20) (FD 20) ["form"] (spP K cl TT 1 F__law_discriminant) := ok__law_discriminant T TB0
  have nd := sc__law_is_two.nd
  refine fn_pure T.f21 sc__law_is_two (fun _ => false) (by decide) d__law_is_two (fun cdv A0 outer s H E hr => ?_) sp__law_is_two
  exact ⟨_, (pss_cons (ps_if (PW.pt (pw_or (pt_not (pt_val (pe_callB (call_isi_K (K := K) rfl) (by rfl) z_isinstance bt_isinstance (pa_cons (pv 0) (pa_cons (pe_bltn (v := .ty "tuple") (by rfl) z_tuple bt_tuple rfl) pa_nil))))) (pw_or (pt_cmpR (op_neDK (K := K) rfl hr.units) (pe_callB (call_lenK (K := K) rfl) (by rfl) z_len bt_len (pa_cons (pv 0) pa_nil)) pe_int (nomark _)) (pw_or1 (pt_cmpR op_gt (pe_callB (call_lenK (K := K) rfl) (by rfl) z_len bt_len (pa_cons (by exact (pe_lc (own := [("k", 1)]) rfl nd (pi_seqK (K := K) rfl (pv 0)) (blkOk_by (own := [("k", 1)]) (N := ["x", "k"]) (sc := (defScope s__law_is_two)) (by decide +kernel)) (fun _ _ _ _ _ => by exact (pg_name (i := 1) nd rfl (Or.inl rfl))) (fun _ _ _ _ _ => by exact (pts_one (pt_not (pt_val (pe_callB (call_isi_K (K := K) rfl) (by rfl) z_isinstance bt_isinstance (pa_cons (pv 1) (pa_cons (pe_bltn (v := .ty "int") (by rfl) z_int bt_int rfl) pa_nil))))))) (fun _ _ _ _ _ => by exact (pv 1)))) pa_nil)) pe_int (nomark _))))))
  (pss_one (ps_ret pe_bl))
  pss_nil)
  (pss_one (ps_ret (pe_and (pe_cmpR op_ge (pe_ix (ix_seqK (K := K) rfl) (pv 0) pe_int (fun _ _ => rfl)) pe_int (nomark _)) (pe_and (pe_chain op_le op_le (pe_un un_neg pe_int) (pe_call G__law_discriminant (hr.mono (by decide)) (by rfl) T.g20 T.f20.kp T.b20 .nil (L2N.passes_call (L2N.takes_of rfl rfl rfl rfl) (fun _ _ _ _ h => h)) (pa_cons (pv 0) pa_nil)) (pe_un un_neg pe_int)) (pe_one (pe_cmpR (op_eqDK (K := K) rfl hr.units) (pe_call G__law_common (hr.mono (by decide)) (by rfl) T.g19 T.f19.kp T.b19 .nil (L2N.passes_call (L2N.takes_of rfl rfl rfl rfl) (fun _ _ _ _ h => h)) (pa_cons (pv 0) pa_nil)) pe_int (nomark _)))))))),
   fun z h0 W he => (ss_seq (ss_if (st_or (st_not (st_test (sv_isi kit_tup (sv_var 0 rfl)))) (st_or (st_testO (sv_op sr_ne (SV.se (sv_cb sr_len (sao_cons (SV.se (sv_var 0 rfl)) sao_nil))) (SV.se sv_int))) (st_testO (sv_op sr_gt (SV.se (sv_cb sr_len (sao_cons (SV.se (SFL.v (sfl_lc (vs := [1]) (si_seq (sv_var 0 rfl)) (sg_name 1 rfl) (st_not (st_test (sv_isi kit_int (sv_var 1 rfl)))) (sv_var 1 rfl) rfl rfl))) sao_nil))) (SV.se sv_int)))))
  (ss_ret (SV.se sv_bl))
  ss_next)
  (ss_ret (SV.se (sv_andV (sv_op sr_ge (SV.se (sv_op sr_ix (SV.se (sv_var 0 rfl)) (SV.se sv_int))) (SV.se sv_int)) (sv_andV (sv_chain sr_le sr_le (sv_un sr_neg (SV.se sv_int)) (sv_call he (sa_cons (sv_var 0 rfl) sa_nil)) (sv_un sr_neg (SV.se sv_int))) (sv_op sr_eq (SV.se (sv_call he (sa_cons (sv_var 0 rfl) sa_nil))) (SV.se sv_int)))))))⟩
theorem ok__law_stepped (T : Txt K mg A FD cl CC PT TT pe) (TB0 : TB0 base mg CC PT) : FnOk P w K mg base (L2N.CX P w) 1 (A 22) (FD 22) ["form", "step"] (spP K cl TT 2 F__law_stepped) := by
  have nd := sc__law_stepped.nd
  refine fn_pure T.f22 sc__law_stepped (fun _ => false) (by decide) d__law_stepped (fun cdv A0 outer s H E hr => ?_) sp__law_stepped
  exact ⟨_, (pss_cons (ps_asg (pv 0) (pg_tupK (K := K) (n := 3) rfl rfl (pgs_cons (pg_name (i := 2) nd rfl (Or.inl rfl)) (pgs_cons (pg_name (i := 3) nd rfl (Or.inl rfl)) (pgs_cons (pg_name (i := 4) nd rfl (Or.inl rfl)) pgs_nil)))))
  (pss_cons (ps_asg (pv 1) (pg_tupK (K := K) (n := 4) rfl rfl (pgs_cons (pg_name (i := 5) nd rfl (Or.inl rfl)) (pgs_cons (pg_name (i := 6) nd rfl (Or.inl rfl)) (pgs_cons (pg_name (i := 7) nd rfl (Or.inl rfl)) (pgs_cons (pg_name (i := 8) nd rfl (Or.inl rfl)) pgs_nil))))))
  (pss_one (ps_ret (pe_tup (pa_cons (pe_op (op_add4K (K := K) rfl) (pe_op (op_add4K (K := K) rfl) (pe_op op_mulW (pe_op op_mulW (pv 2) (pv 5)) (pv 5)) (pe_op op_mulW (pe_op op_mulW (pv 3) (pv 5)) (pv 7))) (pe_op op_mulW (pe_op op_mulW (pv 4) (pv 7)) (pv 7))) (pa_cons (pe_op (op_add4K (K := K) rfl) (pe_op (op_add4K (K := K) rfl) (pe_op op_mulW (pe_op op_mulW (pe_op op_mulW pe_int (pv 2)) (pv 5)) (pv 6)) (pe_op op_mulW (pv 3) (pe_op (op_add4K (K := K) rfl) (pe_op op_mulW (pv 5) (pv 8)) (pe_op op_mulW (pv 6) (pv 7))))) (pe_op op_mulW (pe_op op_mulW (pe_op op_mulW pe_int (pv 4)) (pv 7)) (pv 8))) (pa_cons (pe_op (op_add4K (K := K) rfl) (pe_op (op_add4K (K := K) rfl) (pe_op op_mulW (pe_op op_mulW (pv 2) (pv 6)) (pv 6)) (pe_op op_mulW (pe_op op_mulW (pv 3) (pv 6)) (pv 8))) (pe_op op_mulW (pe_op op_mulW (pv 4) (pv 8)) (pv 8))) pa_nil)))))))),
   fun z h0 W he => (ss_seq (ss_asg (sv_var 0 rfl) (sg_tup (sgs_cons (sg_name 2 rfl) (sgs_cons (sg_name 3 rfl) (sgs_cons (sg_name 4 rfl) sgs_nil)))))
  (ss_seq (ss_asg (sv_var 1 rfl) (sg_tup (sgs_cons (sg_name 5 rfl) (sgs_cons (sg_name 6 rfl) (sgs_cons (sg_name 7 rfl) (sgs_cons (sg_name 8 rfl) sgs_nil))))))
  (ss_ret (SV.se (sv_tup (sa_cons (sv_op sr_add (SV.se (sv_op sr_add (SV.se (sv_op sr_mul (SV.se (sv_op sr_mul (SV.se (sv_var 2 rfl)) (SV.se (sv_var 5 rfl)))) (SV.se (sv_var 5 rfl)))) (SV.se (sv_op sr_mul (SV.se (sv_op sr_mul (SV.se (sv_var 3 rfl)) (SV.se (sv_var 5 rfl)))) (SV.se (sv_var 7 rfl)))))) (SV.se (sv_op sr_mul (SV.se (sv_op sr_mul (SV.se (sv_var 4 rfl)) (SV.se (sv_var 7 rfl)))) (SV.se (sv_var 7 rfl))))) (sa_cons (sv_op sr_add (SV.se (sv_op sr_add (SV.se (sv_op sr_mul (SV.se (sv_op sr_mul (SV.se (sv_op sr_mul (SV.se sv_int) (SV.se (sv_var 2 rfl)))) (SV.se (sv_var 5 rfl)))) (SV.se (sv_var 6 rfl)))) (SV.se (sv_op sr_mul (SV.se (sv_var 3 rfl)) (SV.se (sv_op sr_add (SV.se (sv_op sr_mul (SV.se (sv_var 5 rfl)) (SV.se (sv_var 8 rfl)))) (SV.se (sv_op sr_mul (SV.se (sv_var 6 rfl)) (SV.se (sv_var 7 rfl)))))))))) (SV.se (sv_op sr_mul (SV.se (sv_op sr_mul (SV.se (sv_op sr_mul (SV.se sv_int) (SV.se (sv_var 4 rfl)))) (SV.se (sv_var 7 rfl)))) (SV.se (sv_var 8 rfl))))) (sa_cons (sv_op sr_add (SV.se (sv_op sr_add (SV.se (sv_op sr_mul (SV.se (sv_op sr_mul (SV.se (sv_var 2 rfl)) (SV.se (sv_var 6 rfl)))) (SV.se (sv_var 6 rfl)))) (SV.se (sv_op sr_mul (SV.se (sv_op sr_mul (SV.se (sv_var 3 rfl)) (SV.se (sv_var 6 rfl)))) (SV.se (sv_var 8 rfl)))))) (SV.se (sv_op sr_mul (SV.se (sv_op sr_mul (SV.se (sv_var 4 rfl)) (SV.se (sv_var 8 rfl)))) (SV.se (sv_var 8 rfl))))) sa_nil))))))))⟩
theorem ok__law_is_reduced (T : Txt K mg A FD cl CC PT TT pe) (TB0 : TB0 base mg CC PT) : FnOk P w K mg base (L2N.CX P w) 1 (A 23) (FD 23) ["form"] (spP K cl TT 1 F__law_is_reduced) := by
  have z_abs := T.z_abs
  have nd := sc__law_is_reduced.nd
  refine fn_pure T.f23 sc__law_is_reduced (fun _ => false) (by decide) d__law_is_reduced (fun cdv A0 outer s H E hr => ?_) sp__law_is_reduced
  exact ⟨_, (pss_cons (ps_asg (pv 0) (pg_tupK (K := K) (n := 3) rfl rfl (pgs_cons (pg_name (i := 1) nd rfl (Or.inl rfl)) (pgs_cons (pg_name (i := 2) nd rfl (Or.inl rfl)) (pgs_cons (pg_name (i := 3) nd rfl (Or.inl rfl)) pgs_nil)))))
  (pss_one (ps_ret (pe_and (pe_chain op_le op_le (pe_callB call_abs (by rfl) z_abs bt_abs (pa_cons (pv 2) pa_nil)) (pv 1) (pv 3)) (pe_one (pe_or (pe_cmpR op_ge (pv 2) pe_int (nomark _)) (pe_one (pe_and (pe_cmpR (op_neDK (K := K) rfl hr.units) (pe_callB call_abs (by rfl) z_abs bt_abs (pa_cons (pv 2) pa_nil)) (pv 1) (nomark _)) (pe_one (pe_cmpR (op_neDK (K := K) rfl hr.units) (pv 1) (pv 3) (nomark _))))))))))),
   fun z h0 W he => (ss_seq (ss_asg (sv_var 0 rfl) (sg_tup (sgs_cons (sg_name 1 rfl) (sgs_cons (sg_name 2 rfl) (sgs_cons (sg_name 3 rfl) sgs_nil)))))
  (ss_ret (SV.se (sv_andV (sv_chain sr_le sr_le (sv_cb sr_abs (sao_cons (SV.se (sv_var 2 rfl)) sao_nil)) (sv_var 1 rfl) (sv_var 3 rfl)) (sv_orV (sv_op sr_ge (SV.se (sv_var 2 rfl)) (SV.se sv_int)) (sv_andV (sv_op sr_ne (SV.se (sv_cb sr_abs (sao_cons (SV.se (sv_var 2 rfl)) sao_nil))) (SV.se (sv_var 1 rfl))) (sv_op sr_ne (SV.se (sv_var 1 rfl)) (SV.se (sv_var 3 rfl)))))))))⟩
theorem ok__law_reduced (T : Txt K mg A FD cl CC PT TT pe) (TB0 : TB0 base mg CC PT) : FnOk P w K mg base (L2N.CX P w) 2 (A 24) (FD 24) ["form"] (spP K cl TT 1 F__law_reduced) := by
  have G__law_is_reduced : FnOk P w K mg base (L2N.CX P w) 1 (A 23) (FD 23) ["form"] (spP K cl TT 1 F__law_is_reduced) := ok__law_is_reduced T TB0
  have nd := sc__law_reduced.nd
  refine fn_pure T.f24 sc__law_reduced (fun _ => false) (by decide) d__law_reduced (fun cdv A0 outer s H E hr => ?_) sp__law_reduced
  exact ⟨_, (pss_cons (ps_asg (pv 0) (pg_tupK (K := K) (n := 3) rfl rfl (pgs_cons (pg_name (i := 1) nd rfl (Or.inl rfl)) (pgs_cons (pg_name (i := 2) nd rfl (Or.inl rfl)) (pgs_cons (pg_name (i := 3) nd rfl (Or.inl rfl)) pgs_nil)))))
  (pss_cons (ps_while (passes_of rfl) (pt_not (pt_val (pe_call G__law_is_reduced (hr.mono (by decide)) (by rfl) T.g23 T.f23.kp T.b23 .nil (L2N.passes_call (L2N.takes_of rfl rfl rfl rfl) (fun _ _ _ _ h => h)) (pa_cons (pe_tup (pa_cons (pv 1) (pa_cons (pv 2) (pa_cons (pv 3) pa_nil)))) pa_nil))))
  (pss_one (ps_if (PW.pt (pw_or (pt_cmpR op_gt (pv 1) (pv 3) (nomark _)) (pw_or1 (PW.pt (pw_and (pt_cmpR (op_eqDK (K := K) rfl hr.units) (pv 1) (pv 3) (nomark _)) (pw_and1 (pt_cmpR op_lt (pv 2) pe_int (nomark _))))))))
  (pss_one (ps_par3 rfl nd rfl rfl rfl (by decide) (by decide) (by decide) rfl rfl rfl (pa_cons (pv 3) (pa_cons (pe_un un_neg (pv 2)) (pa_cons (pv 1) pa_nil))) (by rfl)))
  (pss_cons (ps_set (i := 4) nd rfl (Or.inl rfl) (pe_op op_fdivW (pe_op op_sub (pv 1) (pv 2)) (pe_op op_mulW pe_int (pv 1))))
  (pss_one (ps_par3 rfl nd rfl rfl rfl (by decide) (by decide) (by decide) rfl rfl rfl (pa_cons (pv 1) (pa_cons (pe_op (op_add4K (K := K) rfl) (pv 2) (pe_op op_mulW (pe_op op_mulW pe_int (pv 1)) (pv 4))) (pa_cons (pe_op (op_add4K (K := K) rfl) (pe_op (op_add4K (K := K) rfl) (pe_op op_mulW (pe_op op_mulW (pv 1) (pv 4)) (pv 4)) (pe_op op_mulW (pv 2) (pv 4))) (pv 3)) pa_nil))) (by rfl)))))))
  (pss_one (ps_ret (pe_tup (pa_cons (pv 1) (pa_cons (pv 2) (pa_cons (pv 3) pa_nil)))))))),
   fun z h0 W he => (ss_seq (ss_asg (sv_var 0 rfl) (sg_tup (sgs_cons (sg_name 1 rfl) (sgs_cons (sg_name 2 rfl) (sgs_cons (sg_name 3 rfl) sgs_nil)))))
  (ss_seq (ss_while (st_not (st_test (sv_call he (sa_cons (sv_tup (sa_cons (sv_var 1 rfl) (sa_cons (sv_var 2 rfl) (sa_cons (sv_var 3 rfl) sa_nil)))) sa_nil))))
  (ss_if (st_or (st_testO (sv_op sr_gt (SV.se (sv_var 1 rfl)) (SV.se (sv_var 3 rfl)))) (st_and (st_testO (sv_op sr_eq (SV.se (sv_var 1 rfl)) (SV.se (sv_var 3 rfl)))) (st_testO (sv_op sr_lt (SV.se (sv_var 2 rfl)) (SV.se sv_int)))))
  (ss_par3 1 2 3 rfl rfl rfl (sa_cons (sv_var 3 rfl) (sa_cons (sv_un sr_neg (SV.se (sv_var 2 rfl))) (sa_cons (sv_var 1 rfl) sa_nil))))
  (ss_seq (ss_set 4 rfl (sv_op sr_div (SV.se (sv_op sr_sub (SV.se (sv_var 1 rfl)) (SV.se (sv_var 2 rfl)))) (SV.se (sv_op sr_mul (SV.se sv_int) (SV.se (sv_var 1 rfl))))))
  (ss_par3 1 2 3 rfl rfl rfl (sa_cons (sv_var 1 rfl) (sa_cons (sv_op sr_add (SV.se (sv_var 2 rfl)) (SV.se (sv_op sr_mul (SV.se (sv_op sr_mul (SV.se sv_int) (SV.se (sv_var 1 rfl)))) (SV.se (sv_var 4 rfl))))) (sa_cons (sv_op sr_add (SV.se (sv_op sr_add (SV.se (sv_op sr_mul (SV.se (sv_op sr_mul (SV.se (sv_var 1 rfl)) (SV.se (sv_var 4 rfl)))) (SV.se (sv_var 4 rfl)))) (SV.se (sv_op sr_mul (SV.se (sv_var 2 rfl)) (SV.se (sv_var 4 rfl)))))) (SV.se (sv_var 3 rfl))) sa_nil)))))))
  (ss_ret (SV.se (sv_tup (sa_cons (sv_var 1 rfl) (sa_cons (sv_var 2 rfl) (sa_cons (sv_var 3 rfl) sa_nil))))))))⟩
theorem ok__law_classes (T : Txt K mg A FD cl CC PT TT pe) (TB0 : TB0 base mg CC PT) : FnOk P w K mg base (L2N.CX P w) 2 (A 25) (FD 25) ["D"] (spP K cl TT 1 F__law_classes) := by
  have z_range := T.z_range
  have z_sorted := T.z_sorted
  have G__law_common : FnOk P w K mg base (L2N.CX P w) 1 (A 19) (FD 19) ["numbers"] (spP K cl TT 1 F__law_common) := ok__law_common T TB0
  have G__law_is_reduced : FnOk P w K mg base (L2N.CX P w) 1 (A 23) (FD 23) ["form"] (spP K cl TT 1 F__law_is_reduced) := ok__law_is_reduced T TB0
  have nd := sc__law_classes.nd
  refine fn_pure T.f25 sc__law_classes (fun i => i == 1) (by decide) d__law_classes (fun cdv A0 outer s H E hr => ?_) sp__law_classes
  exact ⟨_, (pss_cons (ps_set (i := 1) nd rfl (Or.inl rfl) (pe_lst pa_nil))
  (pss_cons (ps_for (passes_of rfl) rfl (pi_range2 rfl z_range (pa_cons pe_int (pa_cons pe_int pa_nil))) (pg_name (i := 2) nd rfl (Or.inl rfl))
  (pss_one (ps_for (passes_of rfl) rfl (pi_range2 rfl z_range (pa_cons (pe_un un_neg (pv 2)) (pa_cons (pe_op (op_add4K (K := K) rfl) (pv 2) pe_int) pa_nil))) (pg_name (i := 3) nd rfl (Or.inl rfl))
  (pss_one (ps_if (pt_cmpR (op_eqDK (K := K) rfl hr.units) (pe_op op_mod (pe_op op_sub (pe_op op_mulW (pv 3) (pv 3)) (pv 0)) (pe_op op_mulW pe_int (pv 2))) pe_int (nomark _))
  (pss_cons (ps_set (i := 4) nd rfl (Or.inl rfl) (pe_tup (pa_cons (pv 2) (pa_cons (pv 3) (pa_cons (pe_op op_fdivW (pe_op op_sub (pe_op op_mulW (pv 3) (pv 3)) (pv 0)) (pe_op op_mulW pe_int (pv 2))) pa_nil)))))
  (pss_one (ps_if (PW.pt (pw_and (pt_val (pe_call G__law_is_reduced (hr.mono (by decide)) (by rfl) T.g23 T.f23.kp T.b23 .nil (L2N.passes_call (L2N.takes_of rfl rfl rfl rfl) (fun _ _ _ _ h => h)) (pa_cons (pv 4) pa_nil))) (pw_and1 (pt_cmpR (op_eqDK (K := K) rfl hr.units) (pe_call G__law_common (hr.mono (by decide)) (by rfl) T.g19 T.f19.kp T.b19 .nil (L2N.passes_call (L2N.takes_of rfl rfl rfl rfl) (fun _ _ _ _ h => h)) (pa_cons (pv 4) pa_nil)) pe_int (nomark _)))))
  (pss_one (ps_expr (pe_appK (K := K) rfl (pv 1) (pv 4))))
  pss_nil)))
  pss_nil)))))
  (pss_one (ps_ret (pe_callB (cr_sortedK (K := K) rfl (units65 hr)) (by rfl) z_sorted bt_sorted (pa_cons (pv 1) pa_nil)))))),
   fun z h0 W he => (ss_seq (ss_setO 1 rfl (.inl rfl) (sf_lst sa_nil))
  (ss_seq (ss_for (si_range2 sv_int sv_int) (sg_name 2 rfl)
  (ss_for (si_range2 (sv_un sr_neg (SV.se (sv_var 2 rfl))) (sv_op sr_add (SV.se (sv_var 2 rfl)) (SV.se sv_int))) (sg_name 3 rfl)
  (ss_if (st_testO (sv_op sr_eq (SV.se (sv_op sr_mod (SV.se (sv_op sr_sub (SV.se (sv_op sr_mul (SV.se (sv_var 3 rfl)) (SV.se (sv_var 3 rfl)))) (SV.se (sv_var 0 rfl)))) (SV.se (sv_op sr_mul (SV.se sv_int) (SV.se (sv_var 2 rfl)))))) (SV.se sv_int)))
  (ss_seq (ss_set 4 rfl (sv_tup (sa_cons (sv_var 2 rfl) (sa_cons (sv_var 3 rfl) (sa_cons (sv_op sr_div (SV.se (sv_op sr_sub (SV.se (sv_op sr_mul (SV.se (sv_var 3 rfl)) (SV.se (sv_var 3 rfl)))) (SV.se (sv_var 0 rfl)))) (SV.se (sv_op sr_mul (SV.se sv_int) (SV.se (sv_var 2 rfl))))) sa_nil)))))
  (ss_if (st_and (st_test (sv_call he (sa_cons (sv_var 4 rfl) sa_nil))) (st_testO (sv_op sr_eq (SV.se (sv_call he (sa_cons (sv_var 4 rfl) sa_nil))) (SV.se sv_int))))
  (ss_app 1 rfl (sv_var 4 rfl))
  ss_next))
  ss_next)))
  (ss_ret (SV.se (sv_cb sr_sortedX (sao_cons (se_own 1 rfl) sao_nil))))))⟩
theorem ok__law_some_discriminant (T : Txt K mg A FD cl CC PT TT pe) (TB0 : TB0 base mg CC PT) : FnOk P w K mg base (L2N.CX P w) 2 (A 26) (FD 26) ["box", "most"] (spB K cl TT 2 F__law_some_discriminant) := by
  have z_abs := T.z_abs
  have G__law_draw : FnOk P w K mg base (L2N.CX P w) 1 (A 17) (FD 17) ["box", "many"] (spB K cl TT 2 F__law_draw) := ok__law_draw T TB0
  have nd := sc__law_some_discriminant.nd
  refine fn_box T.f26 sc__law_some_discriminant (fun i => i == 0) (by decide) (by decide) d__law_some_discriminant (fun cdv A0 outer s H E hr => ?_) sp__law_some_discriminant
  exact ⟨_, (pss_cons (ps_set (i := 2) nd rfl (Or.inl rfl) (pe_call G__law_draw (hr.mono (by decide)) (by rfl) T.g17 T.f17.kp T.b17 .nil (L2N.passes_call (L2N.takes_of rfl rfl rfl rfl) (fun _ _ _ _ h => h)) (pa_cons (pv 0) (pa_cons pe_int pa_nil))))
  (pss_cons (ps_if (pt_cmpR (op_eqDK (K := K) rfl hr.units) (pv 2) pe_int (nomark _))
  (pss_one (ps_set (i := 3) nd rfl (Or.inl rfl) (pe_op op_sub (pe_un un_neg pe_int) (pe_call G__law_draw (hr.mono (by decide)) (by rfl) T.g17 T.f17.kp T.b17 .nil (L2N.passes_call (L2N.takes_of rfl rfl rfl rfl) (fun _ _ _ _ h => h)) (pa_cons (pv 0) (pa_cons pe_int pa_nil))))))
  (pss_one (ps_if (pt_cmpR (op_eqDK (K := K) rfl hr.units) (pv 2) pe_int (nomark _))
  (pss_one (ps_set (i := 3) nd rfl (Or.inl rfl) (pe_ix (ix_seqK (K := K) rfl) (pe_lst (pa_cons (pe_un un_neg pe_int) (pa_cons (pe_un un_neg pe_int) (pa_cons (pe_un un_neg pe_int) (pa_cons (pe_un un_neg pe_int) (pa_cons (pe_un un_neg pe_int) (pa_cons (pe_un un_neg pe_int) (pa_cons (pe_un un_neg pe_int) (pa_cons (pe_un un_neg pe_int) (pa_cons (pe_un un_neg pe_int) (pa_cons (pe_un un_neg pe_int) (pa_cons (pe_un un_neg pe_int) (pa_cons (pe_un un_neg pe_int) (pa_cons (pe_un un_neg pe_int) (pa_cons (pe_un un_neg pe_int) (pa_cons (pe_un un_neg pe_int) (pa_cons (pe_un un_neg pe_int) pa_nil))))))))))))))))) (pe_call G__law_draw (hr.mono (by decide)) (by rfl) T.g17 T.f17.kp T.b17 .nil (L2N.passes_call (L2N.takes_of rfl rfl rfl rfl) (fun _ _ _ _ h => h)) (pa_cons (pv 0) (pa_cons pe_int pa_nil))) (fun _ _ => rfl))))
  (pss_one (ps_set (i := 3) nd rfl (Or.inl rfl) (pe_op op_sub (pe_un un_neg pe_int) (pe_call G__law_draw (hr.mono (by decide)) (by rfl) T.g17 T.f17.kp T.b17 .nil (L2N.passes_call (L2N.takes_of rfl rfl rfl rfl) (fun _ _ _ _ h => h)) (pa_cons (pv 0) (pa_cons (pe_op op_sub (pv 1) pe_int) pa_nil)))))))))
  (pss_one (ps_ret (pe_ifExp (pt_cmpR op_lt (pe_op op_mod (pv 3) pe_int) pe_int (nomark _)) (pv 3) (pe_ifExp (PW.pt (pw_and (pt_cmpR op_le (pe_op op_sub (pe_op (op_add4K (K := K) rfl) (pv 3) (pe_op op_mod (pv 3) pe_int)) pe_int) (pe_un un_neg pe_int) (nomark _)) (pw_and1 (pt_cmpR op_lt (pe_op op_mod (pe_op op_sub (pe_op (op_add4K (K := K) rfl) (pv 3) (pe_op op_mod (pv 3) pe_int)) pe_int) pe_int) pe_int (nomark _))))) (pe_op op_sub (pe_op (op_add4K (K := K) rfl) (pv 3) (pe_op op_mod (pv 3) pe_int)) pe_int) (pe_op op_mulW (pe_un un_neg pe_int) (pe_op (op_add4K (K := K) rfl) pe_int (pe_op op_fdivW (pe_callB call_abs (by rfl) z_abs bt_abs (pa_cons (pv 3) pa_nil)) pe_int))))))))),
   fun z b h0 W he => (ss_seq (ss_set 2 rfl (sv_callB 0 rfl he (sa_cons sv_int sa_nil)))
  (ss_seq (ss_if (st_testO (sv_op sr_eq (SV.se (sv_var 2 rfl)) (SV.se sv_int)))
  (ss_set 3 rfl (sv_op sr_sub (SV.se (sv_un sr_neg (SV.se sv_int))) (SV.se (sv_callB 0 rfl he (sa_cons sv_int sa_nil)))))
  (ss_if (st_testO (sv_op sr_eq (SV.se (sv_var 2 rfl)) (SV.se sv_int)))
  (ss_set 3 rfl (sv_op sr_ix (SV.se (sv_lst (sa_cons (sv_un sr_neg (SV.se sv_int)) (sa_cons (sv_un sr_neg (SV.se sv_int)) (sa_cons (sv_un sr_neg (SV.se sv_int)) (sa_cons (sv_un sr_neg (SV.se sv_int)) (sa_cons (sv_un sr_neg (SV.se sv_int)) (sa_cons (sv_un sr_neg (SV.se sv_int)) (sa_cons (sv_un sr_neg (SV.se sv_int)) (sa_cons (sv_un sr_neg (SV.se sv_int)) (sa_cons (sv_un sr_neg (SV.se sv_int)) (sa_cons (sv_un sr_neg (SV.se sv_int)) (sa_cons (sv_un sr_neg (SV.se sv_int)) (sa_cons (sv_un sr_neg (SV.se sv_int)) (sa_cons (sv_un sr_neg (SV.se sv_int)) (sa_cons (sv_un sr_neg (SV.se sv_int)) (sa_cons (sv_un sr_neg (SV.se sv_int)) (sa_cons (sv_un sr_neg (SV.se sv_int)) sa_nil)))))))))))))))))) (SV.se (sv_callB 0 rfl he (sa_cons sv_int sa_nil)))))
  (ss_set 3 rfl (sv_op sr_sub (SV.se (sv_un sr_neg (SV.se sv_int))) (SV.se (sv_callB 0 rfl he (sa_cons (sv_op sr_sub (SV.se (sv_var 1 rfl)) (SV.se sv_int)) sa_nil)))))))
  (ss_ret (SV.se (sv_if (st_testO (sv_op sr_lt (SV.se (sv_op sr_mod (SV.se (sv_var 3 rfl)) (SV.se sv_int))) (SV.se sv_int))) (sv_var 3 rfl) (sv_if (st_and (st_testO (sv_op sr_le (SV.se (sv_op sr_sub (SV.se (sv_op sr_add (SV.se (sv_var 3 rfl)) (SV.se (sv_op sr_mod (SV.se (sv_var 3 rfl)) (SV.se sv_int))))) (SV.se sv_int))) (SV.se (sv_un sr_neg (SV.se sv_int))))) (st_testO (sv_op sr_lt (SV.se (sv_op sr_mod (SV.se (sv_op sr_sub (SV.se (sv_op sr_add (SV.se (sv_var 3 rfl)) (SV.se (sv_op sr_mod (SV.se (sv_var 3 rfl)) (SV.se sv_int))))) (SV.se sv_int))) (SV.se sv_int))) (SV.se sv_int)))) (sv_op sr_sub (SV.se (sv_op sr_add (SV.se (sv_var 3 rfl)) (SV.se (sv_op sr_mod (SV.se (sv_var 3 rfl)) (SV.se sv_int))))) (SV.se sv_int)) (sv_op sr_mul (SV.se (sv_un sr_neg (SV.se sv_int))) (SV.se (sv_op sr_add (SV.se sv_int) (SV.se (sv_op sr_div (SV.se (sv_cb sr_abs (sao_cons (SV.se (sv_var 3 rfl)) sao_nil))) (SV.se sv_int))))))))))))⟩
theorem ok__law_some_two (T : Txt K mg A FD cl CC PT TT pe) (TB0 : TB0 base mg CC PT) : FnOk P w K mg base (L2N.CX P w) 3 (A 27) (FD 27) ["box", "D"] (spB K cl TT 2 F__law_some_two) := by
  have z_len := T.z_len
  have z_range := T.z_range
  have G__law_classes : FnOk P w K mg base (L2N.CX P w) 2 (A 25) (FD 25) ["D"] (spP K cl TT 1 F__law_classes) := ok__law_classes T TB0
  have G__law_draw : FnOk P w K mg base (L2N.CX P w) 1 (A 17) (FD 17) ["box", "many"] (spB K cl TT 2 F__law_draw) := ok__law_draw T TB0
  have G__law_stepped : FnOk P w K mg base (L2N.CX P w) 1 (A 22) (FD 22) ["form", "step"] (spP K cl TT 2 F__law_stepped) := ok__law_stepped T TB0
  have nd := sc__law_some_two.nd
  refine fn_box T.f27 sc__law_some_two (fun i => i == 0) (by decide) (by decide) d__law_some_two (fun cdv A0 outer s H E hr => ?_) sp__law_some_two
  exact ⟨_, (pss_cons (ps_set (i := 2) nd rfl (Or.inl rfl) (pe_call G__law_classes (hr.mono (by decide)) (by rfl) T.g25 T.f25.kp T.b25 .nil (L2N.passes_call (L2N.takes_of rfl rfl rfl rfl) (fun _ _ _ _ h => h)) (pa_cons (pv 1) pa_nil)))
  (pss_cons (ps_set (i := 3) nd rfl (Or.inl rfl) (pe_ix (ix_seqK (K := K) rfl) (pv 2) (pe_call G__law_draw (hr.mono (by decide)) (by rfl) T.g17 T.f17.kp T.b17 .nil (L2N.passes_call (L2N.takes_of rfl rfl rfl rfl) (fun _ _ _ _ h => h)) (pa_cons (pv 0) (pa_cons (pe_callB (call_lenK (K := K) rfl) (by rfl) z_len bt_len (pa_cons (pv 2) pa_nil)) pa_nil))) (fun _ _ => rfl)))
  (pss_cons (ps_for (passes_of rfl) rfl (pi_range1 rfl z_range (pa_cons (pe_call G__law_draw (hr.mono (by decide)) (by rfl) T.g17 T.f17.kp T.b17 .nil (L2N.passes_call (L2N.takes_of rfl rfl rfl rfl) (fun _ _ _ _ h => h)) (pa_cons (pv 0) (pa_cons pe_int pa_nil))) pa_nil)) (pg_name (i := 4) nd rfl (Or.inl rfl))
  (pss_cons (ps_set (i := 5) nd rfl (Or.inl rfl) (pe_op op_sub (pe_call G__law_draw (hr.mono (by decide)) (by rfl) T.g17 T.f17.kp T.b17 .nil (L2N.passes_call (L2N.takes_of rfl rfl rfl rfl) (fun _ _ _ _ h => h)) (pa_cons (pv 0) (pa_cons pe_int pa_nil))) pe_int))
  (pss_one (ps_set (i := 3) nd rfl (Or.inl rfl) (pe_call G__law_stepped (hr.mono (by decide)) (by rfl) T.g22 T.f22.kp T.b22 .nil (L2N.passes_call (L2N.takes_of rfl rfl rfl rfl) (fun _ _ _ _ h => h)) (pa_cons (pv 3) (pa_cons (pe_ix (ix_seqK (K := K) rfl) (pe_lst (pa_cons (pe_tup (pa_cons pe_int (pa_cons (pv 5) (pa_cons pe_int (pa_cons pe_int pa_nil))))) (pa_cons (pe_tup (pa_cons pe_int (pa_cons pe_int (pa_cons (pv 5) (pa_cons pe_int pa_nil))))) (pa_cons (pe_tup (pa_cons pe_int (pa_cons pe_int (pa_cons (pe_un un_neg pe_int) (pa_cons (pv 5) pa_nil))))) pa_nil)))) (pe_call G__law_draw (hr.mono (by decide)) (by rfl) T.g17 T.f17.kp T.b17 .nil (L2N.passes_call (L2N.takes_of rfl rfl rfl rfl) (fun _ _ _ _ h => h)) (pa_cons (pv 0) (pa_cons pe_int pa_nil))) (fun _ _ => rfl)) pa_nil)))))))
  (pss_one (ps_ret (pv 3)))))),
   fun z b h0 W he => (ss_seq (ss_set 2 rfl (sv_call he (sa_cons (sv_var 1 rfl) sa_nil)))
  (ss_seq (ss_set 3 rfl (sv_op sr_ix (SV.se (sv_var 2 rfl)) (SV.se (sv_callB 0 rfl he (sa_cons (sv_cb sr_len (sao_cons (SV.se (sv_var 2 rfl)) sao_nil)) sa_nil)))))
  (ss_seq (ss_for (si_range1 (sv_callB 0 rfl he (sa_cons sv_int sa_nil))) (sg_name 4 rfl)
  (ss_seq (ss_set 5 rfl (sv_op sr_sub (SV.se (sv_callB 0 rfl he (sa_cons sv_int sa_nil))) (SV.se sv_int)))
  (ss_set 3 rfl (sv_call he (sa_cons (sv_var 3 rfl) (sa_cons (sv_op sr_ix (SV.se (sv_lst (sa_cons (sv_tup (sa_cons sv_int (sa_cons (sv_var 5 rfl) (sa_cons sv_int (sa_cons sv_int sa_nil))))) (sa_cons (sv_tup (sa_cons sv_int (sa_cons sv_int (sa_cons (sv_var 5 rfl) (sa_cons sv_int sa_nil))))) (sa_cons (sv_tup (sa_cons sv_int (sa_cons sv_int (sa_cons (sv_un sr_neg (SV.se sv_int)) (sa_cons (sv_var 5 rfl) sa_nil))))) sa_nil))))) (SV.se (sv_callB 0 rfl he (sa_cons sv_int sa_nil)))) sa_nil))))))
  (ss_ret (SV.se (sv_var 3 rfl))))))⟩
theorem ok__law_no_two (T : Txt K mg A FD cl CC PT TT pe) (TB0 : TB0 base mg CC PT) : FnOk P w K mg base (L2N.CX P w) 2 (A 28) (FD 28) ["box", "form"] (spB K cl TT 2 F__law_no_two) := by
  have z_len := T.z_len
  have G__law_draw : FnOk P w K mg base (L2N.CX P w) 1 (A 17) (FD 17) ["box", "many"] (spB K cl TT 2 F__law_draw) := ok__law_draw T TB0
  have nd := sc__law_no_two.nd
  refine fn_box T.f28 sc__law_no_two (fun i => i == 0) (by decide) (by decide) d__law_no_two (fun cdv A0 outer s H E hr => ?_) sp__law_no_two
  exact ⟨_, (pss_cons (ps_asg (pv 1) (pg_tupK (K := K) (n := 3) rfl rfl (pgs_cons (pg_name (i := 2) nd rfl (Or.inl rfl)) (pgs_cons (pg_name (i := 3) nd rfl (Or.inl rfl)) (pgs_cons (pg_name (i := 4) nd rfl (Or.inl rfl)) pgs_nil)))))
  (pss_cons (ps_set (i := 5) nd rfl (Or.inl rfl) (pe_lst (pa_cons (pe_tup (pa_cons (pe_op op_mulW pe_int (pv 2)) (pa_cons (pe_op op_mulW pe_int (pv 3)) (pa_cons (pe_op op_mulW pe_int (pv 4)) pa_nil)))) (pa_cons (pe_tup (pa_cons (pe_un un_neg (pv 2)) (pa_cons (pv 3) (pa_cons (pe_un un_neg (pv 4)) pa_nil)))) (pa_cons (pe_tup (pa_cons (pv 2) (pa_cons (pv 3) pa_nil))) (pa_cons (pe_tup (pa_cons (pv 2) (pa_cons (pv 3) (pa_cons (pv 4) (pa_cons pe_int pa_nil))))) (pa_cons (pe_tup (pa_cons pe_int (pa_cons (pv 3) (pa_cons (pv 4) pa_nil)))) (pa_cons (pe_tup (pa_cons (pv 2) (pa_cons (pv 3) (pa_cons (pe_op (op_add4K (K := K) rfl) (pv 4) pe_int) pa_nil)))) (pa_cons (pe_tup (pa_cons pe_int (pa_cons pe_int (pa_cons pe_int pa_nil)))) (pa_cons (pe_tup (pa_cons pe_int (pa_cons pe_int (pa_cons pe_int pa_nil)))) (pa_cons pe_int (pa_cons pe_str (pa_cons (pe_tup (pa_cons (pv 2) (pa_cons pe_str (pa_cons (pv 4) pa_nil)))) (pa_cons (pe_tup pa_nil) pa_nil))))))))))))))
  (pss_one (ps_ret (pe_ix (ix_seqK (K := K) rfl) (pv 5) (pe_call G__law_draw (hr.mono (by decide)) (by rfl) T.g17 T.f17.kp T.b17 .nil (L2N.passes_call (L2N.takes_of rfl rfl rfl rfl) (fun _ _ _ _ h => h)) (pa_cons (pv 0) (pa_cons (pe_callB (call_lenK (K := K) rfl) (by rfl) z_len bt_len (pa_cons (pv 5) pa_nil)) pa_nil))) (fun _ _ => rfl)))))),
   fun z b h0 W he => (ss_seq (ss_asg (sv_var 1 rfl) (sg_tup (sgs_cons (sg_name 2 rfl) (sgs_cons (sg_name 3 rfl) (sgs_cons (sg_name 4 rfl) sgs_nil)))))
  (ss_seq (ss_set 5 rfl (sv_lst (sa_cons (sv_tup (sa_cons (sv_op sr_mul (SV.se sv_int) (SV.se (sv_var 2 rfl))) (sa_cons (sv_op sr_mul (SV.se sv_int) (SV.se (sv_var 3 rfl))) (sa_cons (sv_op sr_mul (SV.se sv_int) (SV.se (sv_var 4 rfl))) sa_nil)))) (sa_cons (sv_tup (sa_cons (sv_un sr_neg (SV.se (sv_var 2 rfl))) (sa_cons (sv_var 3 rfl) (sa_cons (sv_un sr_neg (SV.se (sv_var 4 rfl))) sa_nil)))) (sa_cons (sv_tup (sa_cons (sv_var 2 rfl) (sa_cons (sv_var 3 rfl) sa_nil))) (sa_cons (sv_tup (sa_cons (sv_var 2 rfl) (sa_cons (sv_var 3 rfl) (sa_cons (sv_var 4 rfl) (sa_cons sv_int sa_nil))))) (sa_cons (sv_tup (sa_cons sv_int (sa_cons (sv_var 3 rfl) (sa_cons (sv_var 4 rfl) sa_nil)))) (sa_cons (sv_tup (sa_cons (sv_var 2 rfl) (sa_cons (sv_var 3 rfl) (sa_cons (sv_op sr_add (SV.se (sv_var 4 rfl)) (SV.se sv_int)) sa_nil)))) (sa_cons (sv_tup (sa_cons sv_int (sa_cons sv_int (sa_cons sv_int sa_nil)))) (sa_cons (sv_tup (sa_cons sv_int (sa_cons sv_int (sa_cons sv_int sa_nil)))) (sa_cons sv_int (sa_cons sv_str (sa_cons (sv_tup (sa_cons (sv_var 2 rfl) (sa_cons sv_str (sa_cons (sv_var 4 rfl) sa_nil)))) (sa_cons (sv_tup sa_nil) sa_nil))))))))))))))
  (ss_ret (SV.se (sv_op sr_ix (SV.se (sv_var 5 rfl)) (SV.se (sv_callB 0 rfl he (sa_cons (sv_cb sr_len (sao_cons (SV.se (sv_var 5 rfl)) sao_nil)) sa_nil))))))))⟩
theorem ok__law_is_step (T : Txt K mg A FD cl CC PT TT pe) (TB0 : TB0 base mg CC PT) : FnOk P w K mg base (L2N.CX P w) 1 (A 29) (FD 29) ["x"] (spP K cl TT 1 F__law_is_step) := by
  have z_int := T.z_int
  have z_isinstance := T.z_isinstance
  have z_len := T.z_len
  have z_tuple := T.z_tuple
  have nd := sc__law_is_step.nd
  refine fn_pure T.f29 sc__law_is_step (fun _ => false) (by decide) d__law_is_step (fun cdv A0 outer s H E hr => ?_) sp__law_is_step
  exact ⟨_, (pss_one (ps_ret (pe_and (pe_callB (call_isi_K (K := K) rfl) (by rfl) z_isinstance bt_isinstance (pa_cons (pv 0) (pa_cons (pe_bltn (v := .ty "tuple") (by rfl) z_tuple bt_tuple rfl) pa_nil))) (pe_and (pe_cmpR (op_eqDK (K := K) rfl hr.units) (pe_callB (call_lenK (K := K) rfl) (by rfl) z_len bt_len (pa_cons (pv 0) pa_nil)) pe_int (nomark _)) (pe_and (pe_cmpR (op_eqDK (K := K) rfl hr.units) (pe_callB (call_lenK (K := K) rfl) (by rfl) z_len bt_len (pa_cons (by exact (pe_lc (own := [("a", 1)]) rfl nd (pi_seqK (K := K) rfl (pv 0)) (blkOk_by (own := [("a", 1)]) (N := ["x", "a"]) (sc := (defScope s__law_is_step)) (by decide +kernel)) (fun _ _ _ _ _ => by exact (pg_name (i := 1) nd rfl (Or.inl rfl))) (fun _ _ _ _ _ => by exact (pts_one (pt_not (pt_val (pe_callB (call_isi_K (K := K) rfl) (by rfl) z_isinstance bt_isinstance (pa_cons (pv 1) (pa_cons (pe_bltn (v := .ty "int") (by rfl) z_int bt_int rfl) pa_nil))))))) (fun _ _ _ _ _ => by exact (pv 1)))) pa_nil)) pe_int (nomark _)) (pe_one (pe_cmpR (op_eqDK (K := K) rfl hr.units) (pe_op op_sub (pe_op op_mulW (pe_ix (ix_seqK (K := K) rfl) (pv 0) pe_int (fun _ _ => rfl)) (pe_ix (ix_seqK (K := K) rfl) (pv 0) pe_int (fun _ _ => rfl))) (pe_op op_mulW (pe_ix (ix_seqK (K := K) rfl) (pv 0) pe_int (fun _ _ => rfl)) (pe_ix (ix_seqK (K := K) rfl) (pv 0) pe_int (fun _ _ => rfl)))) pe_int (nomark _)))))))),
   fun z h0 W he => (ss_ret (SV.se (sv_andV (sv_isi kit_tup (sv_var 0 rfl)) (sv_andV (sv_op sr_eq (SV.se (sv_cb sr_len (sao_cons (SV.se (sv_var 0 rfl)) sao_nil))) (SV.se sv_int)) (sv_andV (sv_op sr_eq (SV.se (sv_cb sr_len (sao_cons (SV.se (SFL.v (sfl_lc (vs := [1]) (si_seq (sv_var 0 rfl)) (sg_name 1 rfl) (st_not (st_test (sv_isi kit_int (sv_var 1 rfl)))) (sv_var 1 rfl) rfl rfl))) sao_nil))) (SV.se sv_int)) (sv_op sr_eq (SV.se (sv_op sr_sub (SV.se (sv_op sr_mul (SV.se (sv_op sr_ix (SV.se (sv_var 0 rfl)) (SV.se sv_int))) (SV.se (sv_op sr_ix (SV.se (sv_var 0 rfl)) (SV.se sv_int))))) (SV.se (sv_op sr_mul (SV.se (sv_op sr_ix (SV.se (sv_var 0 rfl)) (SV.se sv_int))) (SV.se (sv_op sr_ix (SV.se (sv_var 0 rfl)) (SV.se sv_int))))))) (SV.se sv_int)))))))⟩
theorem ok__law_right (T : Txt K mg A FD cl CC PT TT pe) (TB0 : TB0 base mg CC PT) : FnOk P w K mg base (L2N.CX P w) 9 (A 30) (FD 30) ["box", "form", "other"] (spB K cl TT 3 F__law_right) := by
  have z_isinstance := T.z_isinstance
  have z_len := T.z_len
  have z_tuple := T.z_tuple
  have G__law_discriminant : FnOk P w K mg base (L2N.CX P w) 1 (A 20) (FD 20) ["form"] (spP K cl TT 1 F__law_discriminant) := ok__law_discriminant T TB0
  have G__law_is_step : FnOk P w K mg base (L2N.CX P w) 1 (A 29) (FD 29) ["x"] (spP K cl TT 1 F__law_is_step) := ok__law_is_step T TB0
  have G__law_reduced : FnOk P w K mg base (L2N.CX P w) 2 (A 24) (FD 24) ["form"] (spP K cl TT 1 F__law_reduced) := ok__law_reduced T TB0
  have G__law_stepped : FnOk P w K mg base (L2N.CX P w) 1 (A 22) (FD 22) ["form", "step"] (spP K cl TT 2 F__law_stepped) := ok__law_stepped T TB0
  have G_check_two : FnOk P w K mg base (L2N.CX P w) 2 (A 3) (FD 3) ["form"] (spP K cl TT 1 F_check_two) := ok_check_two T TB0
  have G_discriminant : FnOk P w K mg base (L2N.CX P w) 3 (A 4) (FD 4) ["form"] (spP K cl TT 1 F_discriminant) := ok_discriminant T TB0
  have G_reduced : FnOk P w K mg base (L2N.CX P w) 3 (A 9) (FD 9) ["form"] (spP K cl TT 1 F_reduced) := ok_reduced T TB0
  have G_same : FnOk P w K mg base (L2N.CX P w) 3 (A 12) (FD 12) ["form", "other"] (spP K cl TT 2 F_same) := ok_same T TB0
  have G_turned : FnOk P w K mg base (L2N.CX P w) 3 (A 13) (FD 13) ["form"] (spP K cl TT 1 F_turned) := ok_turned T TB0
  have nd := sc__law_right.nd
  have TB := TB0.1
  refine fn_boxC T.f30 sc__law_right (fun i => i == 0) (by decide) (by decide) d__law_right (fun A0 outer s H E hr => ?_) sp__law_right
  exact ⟨_, (pss_cons (ps_par rfl nd rfl rfl (by decide) rfl rfl (pa_cons (pe_call G__law_reduced (hr.mono (by decide)) (by rfl) T.g24 T.f24.kp T.b24 .nil (L2N.passes_call (L2N.takes_of rfl rfl rfl rfl) (fun _ _ _ _ h => h)) (pa_cons (pv 1) pa_nil)) (pa_cons (pe_told (T := TT) (TT := TTold K cl TT F__law_read) T.f18 T.b18 sc__law_told (fun cdv => gives_told T TB0 (by decide)) (fun A outer s H E f c' hr => by exact (pe_call G_reduced (hr.mono (by decide)) (by rfl) T.g9 T.f9.kp T.b9 .nil (L2N.passes_call takes_lam (fun _ _ _ _ h => h)) (pa_cons (pv 1) pa_nil))) rfl T.g18 hr TB rfl T.t30 T.u30 rfl (by first | exact Or.inl rfl | exact Or.inr (Or.inl rfl)) (by exact LamX.lamS_by (sc := defScope s__law_right) (by decide +kernel)) rfl (fun _ _ _ _ _ => rfl)) pa_nil)) (by rfl))
  (pss_cons (ps_if (pt_cmpR (op_neDK (K := K) rfl hr.units) (pe_told (T := TT) (TT := TTold K cl TT F__law_read) T.f18 T.b18 sc__law_told (fun cdv => gives_told T TB0 (by decide)) (fun A outer s H E f c' hr => by exact (pe_call G_check_two (hr.mono (by decide)) (by rfl) T.g3 T.f3.kp T.b3 .nil (L2N.passes_call takes_lam (fun _ _ _ _ h => h)) (pa_cons (pv 1) pa_nil))) rfl T.g18 hr TB rfl T.t30 T.u30 rfl (by first | exact Or.inl rfl | exact Or.inr (Or.inl rfl)) (by exact LamX.lamS_by (sc := defScope s__law_right) (by decide +kernel)) rfl (fun _ _ _ _ _ => rfl)) (pe_tup (pa_cons pe_int (pa_cons pe_non pa_nil))) (nomark _))
  (pss_one (ps_ret pe_bl))
  pss_nil)
  (pss_cons (ps_if (pt_cmpR (op_neDK (K := K) rfl hr.units) (pe_told (T := TT) (TT := TTold K cl TT F__law_read) T.f18 T.b18 sc__law_told (fun cdv => gives_told T TB0 (by decide)) (fun A outer s H E f c' hr => by exact (pe_call G_discriminant (hr.mono (by decide)) (by rfl) T.g4 T.f4.kp T.b4 .nil (L2N.passes_call takes_lam (fun _ _ _ _ h => h)) (pa_cons (pv 1) pa_nil))) rfl T.g18 hr TB rfl T.t30 T.u30 rfl (by first | exact Or.inl rfl | exact Or.inr (Or.inl rfl)) (by exact LamX.lamS_by (sc := defScope s__law_right) (by decide +kernel)) rfl (fun _ _ _ _ _ => rfl)) (pe_tup (pa_cons pe_int (pa_cons (pe_call G__law_discriminant (hr.mono (by decide)) (by rfl) T.g20 T.f20.kp T.b20 .nil (L2N.passes_call (L2N.takes_of rfl rfl rfl rfl) (fun _ _ _ _ h => h)) (pa_cons (pv 1) pa_nil)) pa_nil))) (nomark _))
  (pss_one (ps_ret pe_bl))
  pss_nil)
  (pss_cons (ps_if (PW.pt (pw_or (pt_cmpR (op_neDK (K := K) rfl hr.units) (pe_ix (ix_seqK (K := K) rfl) (pv 4) pe_int (fun _ _ => rfl)) pe_int (nomark _)) (pw_or (pt_not (pt_val (pe_callB (call_isi_K (K := K) rfl) (by rfl) z_isinstance bt_isinstance (pa_cons (pe_ix (ix_seqK (K := K) rfl) (pv 4) pe_int (fun _ _ => rfl)) (pa_cons (pe_bltn (v := .ty "tuple") (by rfl) z_tuple bt_tuple rfl) pa_nil))))) (pw_or (pt_cmpR (op_neDK (K := K) rfl hr.units) (pe_callB (call_lenK (K := K) rfl) (by rfl) z_len bt_len (pa_cons (pe_ix (ix_seqK (K := K) rfl) (pv 4) pe_int (fun _ _ => rfl)) pa_nil)) pe_int (nomark _)) (pw_or (pt_cmpR (op_neDK (K := K) rfl hr.units) (pe_ix (ix_seqK (K := K) rfl) (pe_ix (ix_seqK (K := K) rfl) (pv 4) pe_int (fun _ _ => rfl)) pe_int (fun _ _ => rfl)) (pv 3) (nomark _)) (pw_or1 (pt_not (pt_val (pe_call G__law_is_step (hr.mono (by decide)) (by rfl) T.g29 T.f29.kp T.b29 .nil (L2N.passes_call (L2N.takes_of rfl rfl rfl rfl) (fun _ _ _ _ h => h)) (pa_cons (pe_ix (ix_seqK (K := K) rfl) (pe_ix (ix_seqK (K := K) rfl) (pv 4) pe_int (fun _ _ => rfl)) pe_int (fun _ _ => rfl)) pa_nil))))))))))
  (pss_one (ps_ret pe_bl))
  pss_nil)
  (pss_cons (ps_if (PW.pt (pw_or (pt_cmpR (op_neDK (K := K) rfl hr.units) (pe_call G__law_stepped (hr.mono (by decide)) (by rfl) T.g22 T.f22.kp T.b22 .nil (L2N.passes_call (L2N.takes_of rfl rfl rfl rfl) (fun _ _ _ _ h => h)) (pa_cons (pv 1) (pa_cons (pe_ix (ix_seqK (K := K) rfl) (pe_ix (ix_seqK (K := K) rfl) (pv 4) pe_int (fun _ _ => rfl)) pe_int (fun _ _ => rfl)) pa_nil))) (pv 3) (nomark _)) (pw_or1 (pt_cmpR (op_neDK (K := K) rfl hr.units) (pe_told (T := TT) (TT := TTold K cl TT F__law_read) T.f18 T.b18 sc__law_told (fun cdv => gives_told T TB0 (by decide)) (fun A outer s H E f c' hr => by exact (pe_call G_turned (hr.mono (by decide)) (by rfl) T.g13 T.f13.kp T.b13 .nil (L2N.passes_call takes_lam (fun _ _ _ _ h => h)) (pa_cons (pv 1) pa_nil))) rfl T.g18 hr TB rfl T.t30 T.u30 rfl (by first | exact Or.inl rfl | exact Or.inr (Or.inl rfl)) (by exact LamX.lamS_by (sc := defScope s__law_right) (by decide +kernel)) rfl (fun _ _ _ _ _ => rfl)) (pe_tup (pa_cons pe_int (pa_cons (pe_call G__law_reduced (hr.mono (by decide)) (by rfl) T.g24 T.f24.kp T.b24 .nil (L2N.passes_call (L2N.takes_of rfl rfl rfl rfl) (fun _ _ _ _ h => h)) (pa_cons (pe_tup (pa_cons (pe_ix (ix_seqK (K := K) rfl) (pv 1) pe_int (fun _ _ => rfl)) (pa_cons (pe_un un_neg (pe_ix (ix_seqK (K := K) rfl) (pv 1) pe_int (fun _ _ => rfl))) (pa_cons (pe_ix (ix_seqK (K := K) rfl) (pv 1) pe_int (fun _ _ => rfl)) pa_nil)))) pa_nil)) pa_nil))) (nomark _)))))
  (pss_one (ps_ret pe_bl))
  pss_nil)
  (pss_cons (ps_set (i := 4) nd rfl (Or.inl rfl) (pe_told (T := TT) (TT := TTold K cl TT F__law_read) T.f18 T.b18 sc__law_told (fun cdv => gives_told T TB0 (by decide)) (fun A outer s H E f c' hr => by exact (pe_call G_same (hr.mono (by decide)) (by rfl) T.g12 T.f12.kp T.b12 .nil (L2N.passes_call takes_lam (fun _ _ _ _ h => h)) (pa_cons (pv 1) (pa_cons (pv 2) pa_nil)))) rfl T.g18 hr TB rfl T.t30 T.u30 rfl (by first | exact Or.inl rfl | exact Or.inr (Or.inl rfl)) (by exact LamX.lamS_by (sc := defScope s__law_right) (by decide +kernel)) rfl (fun _ _ _ _ _ => rfl)))
  (pss_cons (ps_if (pt_cmpR (op_neDK (K := K) rfl hr.units) (pe_call G__law_reduced (hr.mono (by decide)) (by rfl) T.g24 T.f24.kp T.b24 .nil (L2N.passes_call (L2N.takes_of rfl rfl rfl rfl) (fun _ _ _ _ h => h)) (pa_cons (pv 2) pa_nil)) (pv 3) (nomark _))
  (pss_one (ps_ret (pe_cmpR (op_eqDK (K := K) rfl hr.units) (pv 4) (pe_tup (pa_cons pe_int (pa_cons pe_non pa_nil))) (nomark _))))
  pss_nil)
  (pss_one (ps_ret (pe_and (pe_cmpR (op_eqDK (K := K) rfl hr.units) (pe_ix (ix_seqK (K := K) rfl) (pv 4) pe_int (fun _ _ => rfl)) pe_int (nomark _)) (pe_and (pe_call G__law_is_step (hr.mono (by decide)) (by rfl) T.g29 T.f29.kp T.b29 .nil (L2N.passes_call (L2N.takes_of rfl rfl rfl rfl) (fun _ _ _ _ h => h)) (pa_cons (pe_ix (ix_seqK (K := K) rfl) (pv 4) pe_int (fun _ _ => rfl)) pa_nil)) (pe_one (pe_cmpR (op_eqDK (K := K) rfl hr.units) (pe_call G__law_stepped (hr.mono (by decide)) (by rfl) T.g22 T.f22.kp T.b22 .nil (L2N.passes_call (L2N.takes_of rfl rfl rfl rfl) (fun _ _ _ _ h => h)) (pa_cons (pv 1) (pa_cons (pe_ix (ix_seqK (K := K) rfl) (pv 4) pe_int (fun _ _ => rfl)) pa_nil))) (pv 2) (nomark _)))))))))))))),
   fun z b h0 W he => (ss_seq (ss_par 3 4 rfl rfl (sa_cons (sv_call he (sa_cons (sv_var 1 rfl) sa_nil)) (sa_cons (sv_told (fun z h0 E W he => by exact (sv_call he (sa_cons (sv_var 1 rfl) sa_nil)))) sa_nil)))
  (ss_seq (ss_if (st_testO (sv_op sr_ne (SV.se (sv_told (fun z h0 E W he => by exact (sv_call he (sa_cons (sv_var 1 rfl) sa_nil))))) (SV.se (sv_tup (sa_cons sv_int (sa_cons sv_non sa_nil))))))
  (ss_ret (SV.se sv_bl))
  ss_next)
  (ss_seq (ss_if (st_testO (sv_op sr_ne (SV.se (sv_told (fun z h0 E W he => by exact (sv_call he (sa_cons (sv_var 1 rfl) sa_nil))))) (SV.se (sv_tup (sa_cons sv_int (sa_cons (sv_call he (sa_cons (sv_var 1 rfl) sa_nil)) sa_nil))))))
  (ss_ret (SV.se sv_bl))
  ss_next)
  (ss_seq (ss_if (st_or (st_testO (sv_op sr_ne (SV.se (sv_op sr_ix (SV.se (sv_var 4 rfl)) (SV.se sv_int))) (SV.se sv_int))) (st_or (st_not (st_test (sv_isi kit_tup (sv_op sr_ix (SV.se (sv_var 4 rfl)) (SV.se sv_int))))) (st_or (st_testO (sv_op sr_ne (SV.se (sv_cb sr_len (sao_cons (SV.se (sv_op sr_ix (SV.se (sv_var 4 rfl)) (SV.se sv_int))) sao_nil))) (SV.se sv_int))) (st_or (st_testO (sv_op sr_ne (SV.se (sv_op sr_ix (SV.se (sv_op sr_ix (SV.se (sv_var 4 rfl)) (SV.se sv_int))) (SV.se sv_int))) (SV.se (sv_var 3 rfl)))) (st_not (st_test (sv_call he (sa_cons (sv_op sr_ix (SV.se (sv_op sr_ix (SV.se (sv_var 4 rfl)) (SV.se sv_int))) (SV.se sv_int)) sa_nil))))))))
  (ss_ret (SV.se sv_bl))
  ss_next)
  (ss_seq (ss_if (st_or (st_testO (sv_op sr_ne (SV.se (sv_call he (sa_cons (sv_var 1 rfl) (sa_cons (sv_op sr_ix (SV.se (sv_op sr_ix (SV.se (sv_var 4 rfl)) (SV.se sv_int))) (SV.se sv_int)) sa_nil)))) (SV.se (sv_var 3 rfl)))) (st_testO (sv_op sr_ne (SV.se (sv_told (fun z h0 E W he => by exact (sv_call he (sa_cons (sv_var 1 rfl) sa_nil))))) (SV.se (sv_tup (sa_cons sv_int (sa_cons (sv_call he (sa_cons (sv_tup (sa_cons (sv_op sr_ix (SV.se (sv_var 1 rfl)) (SV.se sv_int)) (sa_cons (sv_un sr_neg (SV.se (sv_op sr_ix (SV.se (sv_var 1 rfl)) (SV.se sv_int)))) (sa_cons (sv_op sr_ix (SV.se (sv_var 1 rfl)) (SV.se sv_int)) sa_nil)))) sa_nil)) sa_nil)))))))
  (ss_ret (SV.se sv_bl))
  ss_next)
  (ss_seq (ss_set 4 rfl (sv_told (fun z h0 E W he => by exact (sv_call he (sa_cons (sv_var 1 rfl) (sa_cons (sv_var 2 rfl) sa_nil))))))
  (ss_seq (ss_if (st_testO (sv_op sr_ne (SV.se (sv_call he (sa_cons (sv_var 2 rfl) sa_nil))) (SV.se (sv_var 3 rfl))))
  (ss_ret (SV.se (sv_op sr_eq (SV.se (sv_var 4 rfl)) (SV.se (sv_tup (sa_cons sv_int (sa_cons sv_non sa_nil)))))))
  ss_next)
  (ss_ret (SV.se (sv_andV (sv_op sr_eq (SV.se (sv_op sr_ix (SV.se (sv_var 4 rfl)) (SV.se sv_int))) (SV.se sv_int)) (sv_andV (sv_call he (sa_cons (sv_op sr_ix (SV.se (sv_var 4 rfl)) (SV.se sv_int)) sa_nil)) (sv_op sr_eq (SV.se (sv_call he (sa_cons (sv_var 1 rfl) (sa_cons (sv_op sr_ix (SV.se (sv_var 4 rfl)) (SV.se sv_int)) sa_nil)))) (SV.se (sv_var 2 rfl))))))))))))))⟩
theorem ok_law (T : Txt K mg A FD cl CC PT TT pe) (TB0 : TB0 base mg CC PT) : FnOkG P w K mg base (L2N.CX P w) 10 (A 31) (FD 31) ["script"] (spP K cl TT 1 F_law) := by
  have z_range := T.z_range
  have z_repr := T.z_repr
  have G__law_draw : FnOk P w K mg base (L2N.CX P w) 1 (A 17) (FD 17) ["box", "many"] (spB K cl TT 2 F__law_draw) := ok__law_draw T TB0
  have G__law_is_two : FnOk P w K mg base (L2N.CX P w) 2 (A 21) (FD 21) ["x"] (spP K cl TT 1 F__law_is_two) := ok__law_is_two T TB0
  have G__law_no_two : FnOk P w K mg base (L2N.CX P w) 2 (A 28) (FD 28) ["box", "form"] (spB K cl TT 2 F__law_no_two) := ok__law_no_two T TB0
  have G__law_right : FnOk P w K mg base (L2N.CX P w) 9 (A 30) (FD 30) ["box", "form", "other"] (spB K cl TT 3 F__law_right) := ok__law_right T TB0
  have G__law_some_discriminant : FnOk P w K mg base (L2N.CX P w) 2 (A 26) (FD 26) ["box", "most"] (spB K cl TT 2 F__law_some_discriminant) := ok__law_some_discriminant T TB0
  have G__law_some_two : FnOk P w K mg base (L2N.CX P w) 3 (A 27) (FD 27) ["box", "D"] (spB K cl TT 2 F__law_some_two) := ok__law_some_two T TB0
  have G__law_stepped : FnOk P w K mg base (L2N.CX P w) 1 (A 22) (FD 22) ["form", "step"] (spP K cl TT 2 F__law_stepped) := ok__law_stepped T TB0
  have G__law_stream : FnOk P w K mg base (L2N.CX P w) 2 (A 16) (FD 16) ["script", "k"] (spN K cl TT 2 F__law_stream) := ok__law_stream T TB0
  have G_same : FnOk P w K mg base (L2N.CX P w) 3 (A 12) (FD 12) ["form", "other"] (spP K cl TT 2 F_same) := ok_same T TB0
  have G_stepped : FnOk P w K mg base (L2N.CX P w) 3 (A 11) (FD 11) ["form", "step"] (spP K cl TT 2 F_stepped) := ok_stepped T TB0
  have nd := sc_law.nd
  have TB := TB0.2.1
  have G_check_two : FnOk P w K mg base (L2N.CX P w) 2 (A 3) (FD 3) ["form"] (spP K cl TT 1 F_check_two) := ok_check_two T TB0
  have G_discriminant : FnOk P w K mg base (L2N.CX P w) 3 (A 4) (FD 4) ["form"] (spP K cl TT 1 F_discriminant) := ok_discriminant T TB0
  have G_reduced : FnOk P w K mg base (L2N.CX P w) 3 (A 9) (FD 9) ["form"] (spP K cl TT 1 F_reduced) := ok_reduced T TB0
  have G_turned : FnOk P w K mg base (L2N.CX P w) 3 (A 13) (FD 13) ["form"] (spP K cl TT 1 F_turned) := ok_turned T TB0
  have HF : ∀ p ∈ ([(A 3, F_check_two), (A 4, F_discriminant), (A 9, F_reduced), (A 13, F_turned)] : List (Addr × FP)), ∃ (fd : FuncData) (ps : List Str), FnOk P w K mg base (L2N.CX P w) 3 p.1 fd ps (spP K cl TT 1 p.2) ∧ PySem.W.keepIn K (.ref p.1) = true ∧ Binds K fd ps [] := by
    intro p hp
    simp only [List.mem_cons, List.not_mem_nil, or_false] at hp
    rcases hp with rfl | rfl | rfl | rfl
    · exact ⟨_, _, G_check_two.mono (by decide), T.f3.kp, T.b3⟩
    · exact ⟨_, _, G_discriminant.mono (by decide), T.f4.kp, T.b4⟩
    · exact ⟨_, _, G_reduced.mono (by decide), T.f9.kp, T.b9⟩
    · exact ⟨_, _, G_turned.mono (by decide), T.f13.kp, T.b13⟩
  refine fn_pureG T.f31 sc_law (fun i => i == 2) (by decide) (d_law A) (fun A0 outer s H E hg hr => ?_) (sp_law (A := A))
  exact ⟨_, (pss_cons (ps_for (passes_of rfl) rfl (pi_range1 rfl z_range (pa_cons pe_int pa_nil)) (pg_name (i := 1) nd rfl (Or.inl rfl))
  (pss_cons (ps_set (i := 2) nd rfl (Or.inl rfl) (pe_call G__law_stream (hr.mono (by decide)) (by rfl) T.g16 T.f16.kp T.b16 .nil (L2N.passes_call (L2N.takes_of rfl rfl rfl rfl) (fun _ _ _ _ h => h)) (pa_cons (pv 0) (pa_cons (pv 1) pa_nil))))
  (pss_cons (ps_set (i := 3) nd rfl (Or.inl rfl) (pe_call G__law_some_discriminant (hr.mono (by decide)) (by rfl) T.g26 T.f26.kp T.b26 .nil (L2N.passes_call (L2N.takes_of rfl rfl rfl rfl) (fun _ _ _ _ h => h)) (pa_cons (pv 2) (pa_cons pe_int pa_nil))))
  (pss_cons (ps_asg (pe_tup (pa_cons (pe_call G__law_some_two (hr.mono (by decide)) (by rfl) T.g27 T.f27.kp T.b27 .nil (L2N.passes_call (L2N.takes_of rfl rfl rfl rfl) (fun _ _ _ _ h => h)) (pa_cons (pv 2) (pa_cons (pv 3) pa_nil))) (pa_cons (pe_call G__law_some_two (hr.mono (by decide)) (by rfl) T.g27 T.f27.kp T.b27 .nil (L2N.passes_call (L2N.takes_of rfl rfl rfl rfl) (fun _ _ _ _ h => h)) (pa_cons (pv 2) (pa_cons (pv 3) pa_nil))) (pa_cons (pe_call G__law_some_two (hr.mono (by decide)) (by rfl) T.g27 T.f27.kp T.b27 .nil (L2N.passes_call (L2N.takes_of rfl rfl rfl rfl) (fun _ _ _ _ h => h)) (pa_cons (pv 2) (pa_cons (pe_call G__law_some_discriminant (hr.mono (by decide)) (by rfl) T.g26 T.f26.kp T.b26 .nil (L2N.passes_call (L2N.takes_of rfl rfl rfl rfl) (fun _ _ _ _ h => h)) (pa_cons (pv 2) (pa_cons pe_int pa_nil))) pa_nil))) pa_nil)))) (pg_tupK (K := K) (n := 3) rfl rfl (pgs_cons (pg_name (i := 4) nd rfl (Or.inr rfl)) (pgs_cons (pg_name (i := 5) nd rfl (Or.inl rfl)) (pgs_cons (pg_name (i := 6) nd rfl (Or.inl rfl)) pgs_nil)))))
  (pss_cons (ps_set (i := 7) nd rfl (Or.inl rfl) (pe_op op_sub (pe_call G__law_draw (hr.mono (by decide)) (by rfl) T.g17 T.f17.kp T.b17 .nil (L2N.passes_call (L2N.takes_of rfl rfl rfl rfl) (fun _ _ _ _ h => h)) (pa_cons (pv 2) (pa_cons pe_int pa_nil))) pe_int))
  (pss_cons (ps_set (i := 8) nd rfl (Or.inl rfl) (pe_call G__law_stepped (hr.mono (by decide)) (by rfl) T.g22 T.f22.kp T.b22 .nil (L2N.passes_call (L2N.takes_of rfl rfl rfl rfl) (fun _ _ _ _ h => h)) (pa_cons (pv 4) (pa_cons (pe_ix (ix_seqK (K := K) rfl) (pe_lst (pa_cons (pe_tup (pa_cons pe_int (pa_cons (pv 7) (pa_cons pe_int (pa_cons pe_int pa_nil))))) (pa_cons (pe_tup (pa_cons pe_int (pa_cons pe_int (pa_cons (pv 7) (pa_cons pe_int pa_nil))))) (pa_cons (pe_tup (pa_cons pe_int (pa_cons (pe_un un_neg pe_int) (pa_cons pe_int (pa_cons (pv 7) pa_nil))))) pa_nil)))) (pe_call G__law_draw (hr.mono (by decide)) (by rfl) T.g17 T.f17.kp T.b17 .nil (L2N.passes_call (L2N.takes_of rfl rfl rfl rfl) (fun _ _ _ _ h => h)) (pa_cons (pv 2) (pa_cons pe_int pa_nil))) (fun _ _ => rfl)) pa_nil))))
  (pss_cons (ps_set (i := 9) nd rfl (Or.inl rfl) (pe_callB (cr_reprK (K := K) rfl hg (units65 hr)) (by rfl) z_repr bt_repr (pa_cons (pe_lst (pa_cons (pv 4) (pa_cons (pv 5) (pa_cons (pv 6) (pa_cons (pv 8) pa_nil))))) pa_nil)))
  (pss_cons (ps_for (passes_of rfl) rfl (pi_seqK (K := K) rfl (pe_lst (pa_cons (pe_tup (pa_cons (pv 4) (pa_cons (pv 5) pa_nil))) (pa_cons (pe_tup (pa_cons (pv 4) (pa_cons (pv 8) pa_nil))) (pa_cons (pe_tup (pa_cons (pv 4) (pa_cons (pv 6) pa_nil))) (pa_cons (pe_tup (pa_cons (pv 8) (pa_cons (pv 4) pa_nil))) (pa_cons (pe_tup (pa_cons (pv 5) (pa_cons (pv 5) pa_nil))) pa_nil))))))) (pg_tupK (K := K) (n := 2) rfl rfl (pgs_cons (pg_name (i := 10) nd rfl (Or.inr rfl)) (pgs_cons (pg_name (i := 11) nd rfl (Or.inr rfl)) pgs_nil)))
  (pss_one (ps_if (pt_not (pt_val (pe_call G__law_right (hr.mono (by decide)) (by rfl) T.g30 T.f30.kp T.b30 .nil (L2N.passes_call (L2N.takes_of rfl rfl rfl rfl) (fun _ _ _ _ h => h)) (pa_cons (pv 2) (pa_cons (pv 10) (pa_cons (pv 11) pa_nil))))))
  (pss_one (ps_ret pe_bl))
  pss_nil)))
  (pss_cons (ps_set (i := 12) nd rfl (Or.inr rfl) (pe_ix (ix_seqK (K := K) rfl) (pe_lst (pa_cons (pe_tup (pa_cons pe_int (pa_cons (pv 7) (pa_cons pe_int (pa_cons pe_int pa_nil))))) (pa_cons (pe_tup (pa_cons (pv 7) (pa_cons (pe_un un_neg pe_int) (pa_cons pe_int (pa_cons pe_int pa_nil))))) (pa_cons (pe_tup (pa_cons pe_int (pa_cons pe_int (pa_cons pe_int (pa_cons pe_int pa_nil))))) (pa_cons (pe_tup (pa_cons pe_int (pa_cons pe_int (pa_cons pe_int (pa_cons pe_int pa_nil))))) pa_nil))))) (pe_call G__law_draw (hr.mono (by decide)) (by rfl) T.g17 T.f17.kp T.b17 .nil (L2N.passes_call (L2N.takes_of rfl rfl rfl rfl) (fun _ _ _ _ h => h)) (pa_cons (pv 2) (pa_cons pe_int pa_nil))) (fun _ _ => rfl)))
  (pss_cons (ps_if (pt_cmpR (op_neDK (K := K) rfl hr.units) (pe_told (T := TT) (TT := TTold K cl TT F__law_read) T.f18 T.b18 sc__law_told (fun cdv => gives_told T TB0 (by decide)) (fun A outer s H E f c' hr => by exact (pe_call G_stepped (hr.mono (by decide)) (by rfl) T.g11 T.f11.kp T.b11 .nil (L2N.passes_call takes_lam (fun _ _ _ _ h => h)) (pa_cons (pv 4) (pa_cons (pv 12) pa_nil)))) rfl T.g18 hr TB rfl T.t31 T.u31 rfl (by first | exact Or.inl rfl | exact Or.inr (Or.inl rfl)) (by exact LamX.lamS_by (sc := defScope s_law) (by decide +kernel)) rfl (fun _ _ _ _ _ => rfl)) (pe_tup (pa_cons pe_int (pa_cons (pe_call G__law_stepped (hr.mono (by decide)) (by rfl) T.g22 T.f22.kp T.b22 .nil (L2N.passes_call (L2N.takes_of rfl rfl rfl rfl) (fun _ _ _ _ h => h)) (pa_cons (pv 4) (pa_cons (pv 12) pa_nil))) pa_nil))) (nomark _))
  (pss_one (ps_ret pe_bl))
  pss_nil)
  (pss_cons (ps_for (passes_of rfl) rfl (pi_seqK (K := K) rfl (pe_lst (pa_cons (pe_tup (pa_cons pe_int (pa_cons pe_int (pa_cons pe_int (pa_cons (pe_un un_neg pe_int) pa_nil))))) (pa_cons (pe_tup (pa_cons pe_int (pa_cons pe_int (pa_cons pe_int (pa_cons pe_int pa_nil))))) (pa_cons (pe_tup (pa_cons pe_int (pa_cons pe_int (pa_cons pe_int pa_nil)))) (pa_cons (pe_tup (pa_cons pe_int (pa_cons pe_int (pa_cons pe_int (pa_cons pe_int (pa_cons pe_int pa_nil)))))) (pa_cons (pe_tup (pa_cons pe_int (pa_cons pe_int (pa_cons pe_int (pa_cons pe_int pa_nil))))) (pa_cons pe_int (pa_cons pe_str (pa_cons (pe_tup (pa_cons pe_str (pa_cons pe_int (pa_cons pe_int (pa_cons pe_int pa_nil))))) (pa_cons (pe_tup (pa_cons pe_int (pa_cons pe_int (pa_cons (pe_un un_neg pe_int) (pa_cons pe_int pa_nil))))) (pa_cons (pe_tup pa_nil) pa_nil)))))))))))) (pg_name (i := 13) nd rfl (Or.inr rfl))
  (pss_one (ps_if (pt_cmpR (op_neDK (K := K) rfl hr.units) (pe_told (T := TT) (TT := TTold K cl TT F__law_read) T.f18 T.b18 sc__law_told (fun cdv => gives_told T TB0 (by decide)) (fun A outer s H E f c' hr => by exact (pe_call G_stepped (hr.mono (by decide)) (by rfl) T.g11 T.f11.kp T.b11 .nil (L2N.passes_call takes_lam (fun _ _ _ _ h => h)) (pa_cons (pv 4) (pa_cons (pv 13) pa_nil)))) rfl T.g18 hr TB rfl T.t31 T.u31 rfl (by first | exact Or.inl rfl | exact Or.inr (Or.inl rfl)) (by exact LamX.lamS_by (sc := defScope s_law) (by decide +kernel)) rfl (fun _ _ _ _ _ => rfl)) (pe_tup (pa_cons pe_int (pa_cons pe_str pa_nil))) (nomark _))
  (pss_one (ps_ret pe_bl))
  pss_nil)))
  (pss_cons (ps_set (i := 13) nd rfl (Or.inr rfl) (pe_call G__law_no_two (hr.mono (by decide)) (by rfl) T.g28 T.f28.kp T.b28 .nil (L2N.passes_call (L2N.takes_of rfl rfl rfl rfl) (fun _ _ _ _ h => h)) (pa_cons (pv 2) (pa_cons (pv 4) pa_nil))))
  (pss_cons (ps_if (pt_not (pt_val (pe_call G__law_is_two (hr.mono (by decide)) (by rfl) T.g21 T.f21.kp T.b21 .nil (L2N.passes_call (L2N.takes_of rfl rfl rfl rfl) (fun _ _ _ _ h => h)) (pa_cons (pv 13) pa_nil))))
  (pss_cons (ps_for (passes_of rfl) rfl (pi_seqK (K := K) rfl (pe_lst (pa_cons (pe_glob (v := .ref (A 3)) (by rfl) T.g3 rfl) (pa_cons (pe_glob (v := .ref (A 4)) (by rfl) T.g4 rfl) (pa_cons (pe_glob (v := .ref (A 9)) (by rfl) T.g9 rfl) (pa_cons (pe_glob (v := .ref (A 13)) (by rfl) T.g13 rfl) pa_nil)))))) (pg_name (i := 14) nd rfl (Or.inr rfl))
  (pss_one (ps_if (pt_cmpR (op_neDK (K := K) rfl hr.units) (pe_told (T := TT) (TT := TTold K cl TT F__law_read) T.f18 T.b18 sc__law_told (fun cdv => gives_told T TB0 (by decide)) (fun A outer s H E f c' hr => by exact (pe_callH (i := 14) (held_all HF) (hr.mono (by decide)) rfl (by first | exact Or.inl rfl | exact Or.inr (Or.inl rfl) | exact Or.inr (Or.inr rfl)) (L2N.passes_call takes_lam (fun _ _ _ _ h => h)) (pa_cons (pv 13) pa_nil))) rfl T.g18 hr TB rfl T.t31 T.u31 rfl (by first | exact Or.inl rfl | exact Or.inr (Or.inl rfl)) (by exact LamX.lamS_by (sc := defScope s_law) (by decide +kernel)) rfl (fun _ _ _ _ _ => rfl)) (pe_tup (pa_cons pe_int (pa_cons pe_str pa_nil))) (nomark _))
  (pss_one (ps_ret pe_bl))
  pss_nil)))
  (pss_cons (ps_if (pt_cmpR (op_neDK (K := K) rfl hr.units) (pe_told (T := TT) (TT := TTold K cl TT F__law_read) T.f18 T.b18 sc__law_told (fun cdv => gives_told T TB0 (by decide)) (fun A outer s H E f c' hr => by exact (pe_call G_stepped (hr.mono (by decide)) (by rfl) T.g11 T.f11.kp T.b11 .nil (L2N.passes_call takes_lam (fun _ _ _ _ h => h)) (pa_cons (pv 13) (pa_cons pe_int pa_nil)))) rfl T.g18 hr TB rfl T.t31 T.u31 rfl (by first | exact Or.inl rfl | exact Or.inr (Or.inl rfl)) (by exact LamX.lamS_by (sc := defScope s_law) (by decide +kernel)) rfl (fun _ _ _ _ _ => rfl)) (pe_tup (pa_cons pe_int (pa_cons pe_str pa_nil))) (nomark _))
  (pss_one (ps_ret pe_bl))
  pss_nil)
  (pss_one (ps_for (passes_of rfl) rfl (pi_seqK (K := K) rfl (pe_lst (pa_cons (pe_tup (pa_cons (pv 13) (pa_cons (pv 4) pa_nil))) (pa_cons (pe_tup (pa_cons (pv 4) (pa_cons (pv 13) pa_nil))) pa_nil)))) (pg_tupK (K := K) (n := 2) rfl rfl (pgs_cons (pg_name (i := 10) nd rfl (Or.inr rfl)) (pgs_cons (pg_name (i := 11) nd rfl (Or.inr rfl)) pgs_nil)))
  (pss_one (ps_if (pt_cmpR (op_neDK (K := K) rfl hr.units) (pe_told (T := TT) (TT := TTold K cl TT F__law_read) T.f18 T.b18 sc__law_told (fun cdv => gives_told T TB0 (by decide)) (fun A outer s H E f c' hr => by exact (pe_call G_same (hr.mono (by decide)) (by rfl) T.g12 T.f12.kp T.b12 .nil (L2N.passes_call takes_lam (fun _ _ _ _ h => h)) (pa_cons (pv 10) (pa_cons (pv 11) pa_nil)))) rfl T.g18 hr TB rfl T.t31 T.u31 rfl (by first | exact Or.inl rfl | exact Or.inr (Or.inl rfl)) (by exact LamX.lamS_by (sc := defScope s_law) (by decide +kernel)) rfl (fun _ _ _ _ _ => rfl)) (pe_tup (pa_cons pe_int (pa_cons pe_str pa_nil))) (nomark _))
  (pss_one (ps_ret pe_bl))
  pss_nil))))))
  pss_nil)
  (pss_one (ps_if (pt_cmpR (op_neDK (K := K) rfl hr.units) (pe_callB (cr_reprK (K := K) rfl hg (units65 hr)) (by rfl) z_repr bt_repr (pa_cons (pe_lst (pa_cons (pv 4) (pa_cons (pv 5) (pa_cons (pv 6) (pa_cons (pv 8) pa_nil))))) pa_nil)) (pv 9) (nomark _))
  (pss_one (ps_ret pe_bl))
  pss_nil)))))))))))))))
  (pss_one (ps_ret pe_bl))),
   fun z h0 W he => (ss_seq (ss_for (si_range1 sv_int) (sg_name 1 rfl)
  (ss_seq (ss_setO 2 rfl (.inl rfl) (sf_callN (sa_cons (sv_var 0 rfl) (sa_cons (sv_var 1 rfl) sa_nil))))
  (ss_seq (ss_set 3 rfl (sv_callB 2 rfl he (sa_cons sv_int sa_nil)))
  (ss_seq (ss_asg (sv_tup (sa_cons (sv_callB 2 rfl he (sa_cons (sv_var 3 rfl) sa_nil)) (sa_cons (sv_callB 2 rfl he (sa_cons (sv_var 3 rfl) sa_nil)) (sa_cons (sv_callB 2 rfl he (sa_cons (sv_callB 2 rfl he (sa_cons sv_int sa_nil)) sa_nil)) sa_nil)))) (sg_tup (sgs_cons (sg_name 4 rfl) (sgs_cons (sg_name 5 rfl) (sgs_cons (sg_name 6 rfl) sgs_nil)))))
  (ss_seq (ss_set 7 rfl (sv_op sr_sub (SV.se (sv_callB 2 rfl he (sa_cons sv_int sa_nil))) (SV.se sv_int)))
  (ss_seq (ss_set 8 rfl (sv_call he (sa_cons (sv_var 4 rfl) (sa_cons (sv_op sr_ix (SV.se (sv_lst (sa_cons (sv_tup (sa_cons sv_int (sa_cons (sv_var 7 rfl) (sa_cons sv_int (sa_cons sv_int sa_nil))))) (sa_cons (sv_tup (sa_cons sv_int (sa_cons sv_int (sa_cons (sv_var 7 rfl) (sa_cons sv_int sa_nil))))) (sa_cons (sv_tup (sa_cons sv_int (sa_cons (sv_un sr_neg (SV.se sv_int)) (sa_cons sv_int (sa_cons (sv_var 7 rfl) sa_nil))))) sa_nil))))) (SV.se (sv_callB 2 rfl he (sa_cons sv_int sa_nil)))) sa_nil))))
  (ss_seq (ss_set 9 rfl (sv_cb sr_reprX (sao_cons (SV.se (sv_lst (sa_cons (sv_var 4 rfl) (sa_cons (sv_var 5 rfl) (sa_cons (sv_var 6 rfl) (sa_cons (sv_var 8 rfl) sa_nil)))))) sao_nil)))
  (ss_seq (ss_for (si_seq (sv_lst (sa_cons (sv_tup (sa_cons (sv_var 4 rfl) (sa_cons (sv_var 5 rfl) sa_nil))) (sa_cons (sv_tup (sa_cons (sv_var 4 rfl) (sa_cons (sv_var 8 rfl) sa_nil))) (sa_cons (sv_tup (sa_cons (sv_var 4 rfl) (sa_cons (sv_var 6 rfl) sa_nil))) (sa_cons (sv_tup (sa_cons (sv_var 8 rfl) (sa_cons (sv_var 4 rfl) sa_nil))) (sa_cons (sv_tup (sa_cons (sv_var 5 rfl) (sa_cons (sv_var 5 rfl) sa_nil))) sa_nil))))))) (sg_tup (sgs_cons (sg_name 10 rfl) (sgs_cons (sg_name 11 rfl) sgs_nil)))
  (ss_if (st_not (st_test (sv_callB 2 rfl he (sa_cons (sv_var 10 rfl) (sa_cons (sv_var 11 rfl) sa_nil)))))
  (ss_ret (SV.se sv_bl))
  ss_next))
  (ss_seq (ss_set 12 rfl (sv_op sr_ix (SV.se (sv_lst (sa_cons (sv_tup (sa_cons sv_int (sa_cons (sv_var 7 rfl) (sa_cons sv_int (sa_cons sv_int sa_nil))))) (sa_cons (sv_tup (sa_cons (sv_var 7 rfl) (sa_cons (sv_un sr_neg (SV.se sv_int)) (sa_cons sv_int (sa_cons sv_int sa_nil))))) (sa_cons (sv_tup (sa_cons sv_int (sa_cons sv_int (sa_cons sv_int (sa_cons sv_int sa_nil))))) (sa_cons (sv_tup (sa_cons sv_int (sa_cons sv_int (sa_cons sv_int (sa_cons sv_int sa_nil))))) sa_nil)))))) (SV.se (sv_callB 2 rfl he (sa_cons sv_int sa_nil)))))
  (ss_seq (ss_if (st_testO (sv_op sr_ne (SV.se (sv_told (fun z h0 E W he => by exact (sv_call he (sa_cons (sv_var 4 rfl) (sa_cons (sv_var 12 rfl) sa_nil)))))) (SV.se (sv_tup (sa_cons sv_int (sa_cons (sv_call he (sa_cons (sv_var 4 rfl) (sa_cons (sv_var 12 rfl) sa_nil))) sa_nil))))))
  (ss_ret (SV.se sv_bl))
  ss_next)
  (ss_seq (ss_for (si_seq (sv_lst (sa_cons (sv_tup (sa_cons sv_int (sa_cons sv_int (sa_cons sv_int (sa_cons (sv_un sr_neg (SV.se sv_int)) sa_nil))))) (sa_cons (sv_tup (sa_cons sv_int (sa_cons sv_int (sa_cons sv_int (sa_cons sv_int sa_nil))))) (sa_cons (sv_tup (sa_cons sv_int (sa_cons sv_int (sa_cons sv_int sa_nil)))) (sa_cons (sv_tup (sa_cons sv_int (sa_cons sv_int (sa_cons sv_int (sa_cons sv_int (sa_cons sv_int sa_nil)))))) (sa_cons (sv_tup (sa_cons sv_int (sa_cons sv_int (sa_cons sv_int (sa_cons sv_int sa_nil))))) (sa_cons sv_int (sa_cons sv_str (sa_cons (sv_tup (sa_cons sv_str (sa_cons sv_int (sa_cons sv_int (sa_cons sv_int sa_nil))))) (sa_cons (sv_tup (sa_cons sv_int (sa_cons sv_int (sa_cons (sv_un sr_neg (SV.se sv_int)) (sa_cons sv_int sa_nil))))) (sa_cons (sv_tup sa_nil) sa_nil)))))))))))) (sg_name 13 rfl)
  (ss_if (st_testO (sv_op sr_ne (SV.se (sv_told (fun z h0 E W he => by exact (sv_call he (sa_cons (sv_var 4 rfl) (sa_cons (sv_var 13 rfl) sa_nil)))))) (SV.se (sv_tup (sa_cons sv_int (sa_cons sv_str sa_nil))))))
  (ss_ret (SV.se sv_bl))
  ss_next))
  (ss_seq (ss_set 13 rfl (sv_callB 2 rfl he (sa_cons (sv_var 4 rfl) sa_nil)))
  (ss_seq (ss_if (st_not (st_test (sv_call he (sa_cons (sv_var 13 rfl) sa_nil))))
  (ss_seq (ss_for (si_seq (sv_lst (sa_cons sv_fn (sa_cons sv_fn (sa_cons sv_fn (sa_cons sv_fn sa_nil)))))) (sg_name 14 rfl)
  (ss_if (st_testO (sv_op sr_ne (SV.se (sv_told (fun z h0 E W he => by exact (sv_callH rfl he (sa_cons (sv_var 13 rfl) sa_nil))))) (SV.se (sv_tup (sa_cons sv_int (sa_cons sv_str sa_nil))))))
  (ss_ret (SV.se sv_bl))
  ss_next))
  (ss_seq (ss_if (st_testO (sv_op sr_ne (SV.se (sv_told (fun z h0 E W he => by exact (sv_call he (sa_cons (sv_var 13 rfl) (sa_cons sv_int sa_nil)))))) (SV.se (sv_tup (sa_cons sv_int (sa_cons sv_str sa_nil))))))
  (ss_ret (SV.se sv_bl))
  ss_next)
  (ss_for (si_seq (sv_lst (sa_cons (sv_tup (sa_cons (sv_var 13 rfl) (sa_cons (sv_var 4 rfl) sa_nil))) (sa_cons (sv_tup (sa_cons (sv_var 4 rfl) (sa_cons (sv_var 13 rfl) sa_nil))) sa_nil)))) (sg_tup (sgs_cons (sg_name 10 rfl) (sgs_cons (sg_name 11 rfl) sgs_nil)))
  (ss_if (st_testO (sv_op sr_ne (SV.se (sv_told (fun z h0 E W he => by exact (sv_call he (sa_cons (sv_var 10 rfl) (sa_cons (sv_var 11 rfl) sa_nil)))))) (SV.se (sv_tup (sa_cons sv_int (sa_cons sv_str sa_nil))))))
  (ss_ret (SV.se sv_bl))
  ss_next))))
  ss_next)
  (ss_if (st_testO (sv_op sr_ne (SV.se (sv_cb sr_reprX (sao_cons (SV.se (sv_lst (sa_cons (sv_var 4 rfl) (sa_cons (sv_var 5 rfl) (sa_cons (sv_var 6 rfl) (sa_cons (sv_var 8 rfl) sa_nil)))))) sao_nil))) (SV.se (sv_var 9 rfl))))
  (ss_ret (SV.se sv_bl))
  ss_next))))))))))))))
  (ss_ret (SV.se sv_bl)))⟩
end
theorem end_mk {K : PySem.W.Frag} {w : World} {h : Heap} {mg : Str → Option Value} {fa : Addr} (X : K.In h) (G : h.Ns mainGlobals mg) (hfa : mg "law" = some (.ref fa)) {a0 a1 a2 a3 a4 a5 a6 a7 a8 a9 a10 a11 a12 a13 a14 a15 a16 a17 a18 a19 a20 a21 a22 a23 a24 a25 a26 a27 a28 a29 a30 a31 c30 p30 c31 p31 cF cR cP : Addr}
    (n0 : PySem.W.nsIn K mainGlobals "is_number" = some (some (.ref a0)))
    (d0 : ∃ fd, Fun K "is_number" "is_number" s_is_number a0 fd)
    (n1 : PySem.W.nsIn K mainGlobals "divisor" = some (some (.ref a1)))
    (d1 : ∃ fd, Fun K "divisor" "divisor" s_divisor a1 fd)
    (n2 : PySem.W.nsIn K mainGlobals "disc" = some (some (.ref a2)))
    (d2 : ∃ fd, Fun K "disc" "disc" s_disc a2 fd)
    (n3 : PySem.W.nsIn K mainGlobals "check_two" = some (some (.ref a3)))
    (d3 : ∃ fd, Fun K "check_two" "check_two" s_check_two a3 fd)
    (n4 : PySem.W.nsIn K mainGlobals "discriminant" = some (some (.ref a4)))
    (d4 : ∃ fd, Fun K "discriminant" "discriminant" s_discriminant a4 fd)
    (n5 : PySem.W.nsIn K mainGlobals "made_by" = some (some (.ref a5)))
    (d5 : ∃ fd, Fun K "made_by" "made_by" s_made_by a5 fd)
    (n6 : PySem.W.nsIn K mainGlobals "one_step" = some (some (.ref a6)))
    (d6 : ∃ fd, Fun K "one_step" "one_step" s_one_step a6 fd)
    (n7 : PySem.W.nsIn K mainGlobals "reduction" = some (some (.ref a7)))
    (d7 : ∃ fd, Fun K "reduction" "reduction" s_reduction a7 fd)
    (n8 : PySem.W.nsIn K mainGlobals "is_reduced" = some (some (.ref a8)))
    (d8 : ∃ fd, Fun K "is_reduced" "is_reduced" s_is_reduced a8 fd)
    (n9 : PySem.W.nsIn K mainGlobals "reduced" = some (some (.ref a9)))
    (d9 : ∃ fd, Fun K "reduced" "reduced" s_reduced a9 fd)
    (n10 : PySem.W.nsIn K mainGlobals "check_step" = some (some (.ref a10)))
    (d10 : ∃ fd, Fun K "check_step" "check_step" s_check_step a10 fd)
    (n11 : PySem.W.nsIn K mainGlobals "stepped" = some (some (.ref a11)))
    (d11 : ∃ fd, Fun K "stepped" "stepped" s_stepped a11 fd)
    (n12 : PySem.W.nsIn K mainGlobals "same" = some (some (.ref a12)))
    (d12 : ∃ fd, Fun K "same" "same" s_same a12 fd)
    (n13 : PySem.W.nsIn K mainGlobals "turned" = some (some (.ref a13)))
    (d13 : ∃ fd, Fun K "turned" "turned" s_turned a13 fd)
    (n14 : PySem.W.nsIn K mainGlobals "_law_read" = some (some (.ref a14)))
    (d14 : ∃ fd, Fun K "_law_read" "_law_read" s__law_read a14 fd)
    (n15 : PySem.W.nsIn K mainGlobals "_law_cell" = some (some (.ref a15)))
    (d15 : ∃ fd, Fun K "_law_cell" "_law_cell" s__law_cell a15 fd)
    (n16 : PySem.W.nsIn K mainGlobals "_law_stream" = some (some (.ref a16)))
    (d16 : ∃ fd, Fun K "_law_stream" "_law_stream" s__law_stream a16 fd)
    (n17 : PySem.W.nsIn K mainGlobals "_law_draw" = some (some (.ref a17)))
    (d17 : ∃ fd, Fun K "_law_draw" "_law_draw" s__law_draw a17 fd)
    (n18 : PySem.W.nsIn K mainGlobals "_law_told" = some (some (.ref a18)))
    (d18 : ∃ fd, Fun K "_law_told" "_law_told" s__law_told a18 fd)
    (n19 : PySem.W.nsIn K mainGlobals "_law_common" = some (some (.ref a19)))
    (d19 : ∃ fd, Fun K "_law_common" "_law_common" s__law_common a19 fd)
    (n20 : PySem.W.nsIn K mainGlobals "_law_discriminant" = some (some (.ref a20)))
    (d20 : ∃ fd, Fun K "_law_discriminant" "_law_discriminant" s__law_discriminant a20 fd)
    (n21 : PySem.W.nsIn K mainGlobals "_law_is_two" = some (some (.ref a21)))
    (d21 : ∃ fd, Fun K "_law_is_two" "_law_is_two" s__law_is_two a21 fd)
    (n22 : PySem.W.nsIn K mainGlobals "_law_stepped" = some (some (.ref a22)))
    (d22 : ∃ fd, Fun K "_law_stepped" "_law_stepped" s__law_stepped a22 fd)
    (n23 : PySem.W.nsIn K mainGlobals "_law_is_reduced" = some (some (.ref a23)))
    (d23 : ∃ fd, Fun K "_law_is_reduced" "_law_is_reduced" s__law_is_reduced a23 fd)
    (n24 : PySem.W.nsIn K mainGlobals "_law_reduced" = some (some (.ref a24)))
    (d24 : ∃ fd, Fun K "_law_reduced" "_law_reduced" s__law_reduced a24 fd)
    (n25 : PySem.W.nsIn K mainGlobals "_law_classes" = some (some (.ref a25)))
    (d25 : ∃ fd, Fun K "_law_classes" "_law_classes" s__law_classes a25 fd)
    (n26 : PySem.W.nsIn K mainGlobals "_law_some_discriminant" = some (some (.ref a26)))
    (d26 : ∃ fd, Fun K "_law_some_discriminant" "_law_some_discriminant" s__law_some_discriminant a26 fd)
    (n27 : PySem.W.nsIn K mainGlobals "_law_some_two" = some (some (.ref a27)))
    (d27 : ∃ fd, Fun K "_law_some_two" "_law_some_two" s__law_some_two a27 fd)
    (n28 : PySem.W.nsIn K mainGlobals "_law_no_two" = some (some (.ref a28)))
    (d28 : ∃ fd, Fun K "_law_no_two" "_law_no_two" s__law_no_two a28 fd)
    (n29 : PySem.W.nsIn K mainGlobals "_law_is_step" = some (some (.ref a29)))
    (d29 : ∃ fd, Fun K "_law_is_step" "_law_is_step" s__law_is_step a29 fd)
    (n30 : PySem.W.nsIn K mainGlobals "_law_right" = some (some (.ref a30)))
    (d30 : ∃ fd, FunC K "_law_right" "_law_right" s__law_right a30 c30 fd)
    (n31 : PySem.W.nsIn K mainGlobals "law" = some (some (.ref a31)))
    (d31 : ∃ fd, FunC K "law" "law" s_law a31 c31 fd)
    (z_abs : PySem.W.nsIn K mainGlobals "abs" = some none)
    (z_all : PySem.W.nsIn K mainGlobals "all" = some none)
    (z_any : PySem.W.nsIn K mainGlobals "any" = some none)
    (z_bool : PySem.W.nsIn K mainGlobals "bool" = some none)
    (z_enumerate : PySem.W.nsIn K mainGlobals "enumerate" = some none)
    (z_int : PySem.W.nsIn K mainGlobals "int" = some none)
    (z_isinstance : PySem.W.nsIn K mainGlobals "isinstance" = some none)
    (z_len : PySem.W.nsIn K mainGlobals "len" = some none)
    (z_list : PySem.W.nsIn K mainGlobals "list" = some none)
    (z_max : PySem.W.nsIn K mainGlobals "max" = some none)
    (z_min : PySem.W.nsIn K mainGlobals "min" = some none)
    (z_range : PySem.W.nsIn K mainGlobals "range" = some none)
    (z_repr : PySem.W.nsIn K mainGlobals "repr" = some none)
    (z_set : PySem.W.nsIn K mainGlobals "set" = some none)
    (z_sorted : PySem.W.nsIn K mainGlobals "sorted" = some none)
    (z_str : PySem.W.nsIn K mainGlobals "str" = some none)
    (z_sum : PySem.W.nsIn K mainGlobals "sum" = some none)
    (z_tuple : PySem.W.nsIn K mainGlobals "tuple" = some none)
    (z_zip : PySem.W.nsIn K mainGlobals "zip" = some none)
    (m_GREATEST_STEP : ∃ t, PySem.W.nsIn K mainGlobals "GREATEST_STEP" = some (some (.int (10000) t)))
    (m_LEAST : ∃ t, PySem.W.nsIn K mainGlobals "LEAST" = some (some (.int (-4000) t)))
    (q30 : h.get? p30 = some { cls := .none, data := .fields #[] })
    (h30 : PySem.W.codeHdIn K c30 p30 = true)
    (l30 : K.lookup p30 = none)
    (q31 : h.get? p31 = some { cls := .none, data := .fields #[] })
    (h31 : PySem.W.codeHdIn K c31 p31 = true)
    (l31 : K.lookup p31 = none)
    (n_PlaceError : PySem.W.nsIn K mainGlobals "PlaceError" = some (some (.ref cP)))
    (n_BadForm : PySem.W.nsIn K mainGlobals "BadForm" = some (some (.ref cF)))
    (x_BadForm : PySem.W.excIn K cF [.type "ValueError", .type "Exception", .type "BaseException", .type "object"] "ValueError.__new__" = true)
    (k_BadForm : PySem.W.keepIn K (.ref cF) = true)
    (e_BadForm : PySem.W.subIn K (.ref cF) (.type "BaseException") = some true)
    (t_BadForm : PySem.W.typeIn K (.ref cF) = some (.type "type"))
    (y0_BadForm : PySem.W.findIn K (.ref cF) "__getattribute__" = some (some (.builtin "BaseException.__getattribute__")))
    (y1_BadForm : PySem.W.findIn K (.ref cF) "__getattr__" = some none)
    (y2_BadForm : PySem.W.hasDictIn K cF = true)
    (y3_BadForm : PySem.W.findIn K (.ref cF) "__class__" = some (some (.builtin "object.__class__")))
    (y4_BadForm : PySem.W.mroIn K cF (.type "object") = some true)
    (y5_BadForm : PySem.W.exmOne K (.ref cF) (.ref cP) = some true)
    (y6_BadForm : PySem.W.kitOne K (.ref cF) (.ref cF) = some true)
    (y7_BadForm : PySem.W.kitOne K (.ref cF) (.ref cR) = some false)
    (n_OutOfRange : PySem.W.nsIn K mainGlobals "OutOfRange" = some (some (.ref cR)))
    (x_OutOfRange : PySem.W.excIn K cR [.type "ValueError", .type "Exception", .type "BaseException", .type "object"] "ValueError.__new__" = true)
    (k_OutOfRange : PySem.W.keepIn K (.ref cR) = true)
    (e_OutOfRange : PySem.W.subIn K (.ref cR) (.type "BaseException") = some true)
    (t_OutOfRange : PySem.W.typeIn K (.ref cR) = some (.type "type"))
    (y0_OutOfRange : PySem.W.findIn K (.ref cR) "__getattribute__" = some (some (.builtin "BaseException.__getattribute__")))
    (y1_OutOfRange : PySem.W.findIn K (.ref cR) "__getattr__" = some none)
    (y2_OutOfRange : PySem.W.hasDictIn K cR = true)
    (y3_OutOfRange : PySem.W.findIn K (.ref cR) "__class__" = some (some (.builtin "object.__class__")))
    (y4_OutOfRange : PySem.W.mroIn K cR (.type "object") = some true)
    (y5_OutOfRange : PySem.W.exmOne K (.ref cR) (.ref cP) = some true)
    (y6_OutOfRange : PySem.W.kitOne K (.ref cR) (.ref cF) = some false)
    (y7_OutOfRange : PySem.W.kitOne K (.ref cR) (.ref cR) = some true)
    (y8 : PySem.W.specialIn K (.builtin "object.__class__") "__get__" = some (some (.builtin "getset_descriptor.__get__")))
    (y9 : PySem.W.takesIn K (.builtin "object.__class__") = some true)
    (hpp : p30 ≠ p31)
    : PD.LawAtG PySem.Challenge.rw_allplaces_k08_reduced_and_same w K (L2N.CX PySem.Challenge.rw_allplaces_k08_reduced_and_same.prog w) 10 63 "script" mg fa h := by
  obtain ⟨fd0, F0⟩ := d0
  obtain ⟨fd1, F1⟩ := d1
  obtain ⟨fd2, F2⟩ := d2
  obtain ⟨fd3, F3⟩ := d3
  obtain ⟨fd4, F4⟩ := d4
  obtain ⟨fd5, F5⟩ := d5
  obtain ⟨fd6, F6⟩ := d6
  obtain ⟨fd7, F7⟩ := d7
  obtain ⟨fd8, F8⟩ := d8
  obtain ⟨fd9, F9⟩ := d9
  obtain ⟨fd10, F10⟩ := d10
  obtain ⟨fd11, F11⟩ := d11
  obtain ⟨fd12, F12⟩ := d12
  obtain ⟨fd13, F13⟩ := d13
  obtain ⟨fd14, F14⟩ := d14
  obtain ⟨fd15, F15⟩ := d15
  obtain ⟨fd16, F16⟩ := d16
  obtain ⟨fd17, F17⟩ := d17
  obtain ⟨fd18, F18⟩ := d18
  obtain ⟨fd19, F19⟩ := d19
  obtain ⟨fd20, F20⟩ := d20
  obtain ⟨fd21, F21⟩ := d21
  obtain ⟨fd22, F22⟩ := d22
  obtain ⟨fd23, F23⟩ := d23
  obtain ⟨fd24, F24⟩ := d24
  obtain ⟨fd25, F25⟩ := d25
  obtain ⟨fd26, F26⟩ := d26
  obtain ⟨fd27, F27⟩ := d27
  obtain ⟨fd28, F28⟩ := d28
  obtain ⟨fd29, F29⟩ := d29
  obtain ⟨fd30, F30⟩ := d30
  obtain ⟨fd31, F31⟩ := d31
  have tabs_one_30 : p30 ≠ p31 → ∀ q ∈ ([(p30, "_law_right.<locals>.<lambda>"), (p31, "law.<locals>.<lambda>")] : List (Addr × Str)), q.1 = p30 → q.2 = "_law_right.<locals>.<lambda>" := fun hp q hq e => by
    rcases List.mem_cons.mp hq with z | z
    · rw [z]
    · rcases List.mem_cons.mp z with z | z
      · rw [z] at e; exact (hp e.symm).elim
      · cases z
  have tabs_one_31 : p30 ≠ p31 → ∀ q ∈ ([(p30, "_law_right.<locals>.<lambda>"), (p31, "law.<locals>.<lambda>")] : List (Addr × Str)), q.1 = p31 → q.2 = "law.<locals>.<lambda>" := fun hp q hq e => by
    rcases List.mem_cons.mp hq with z | z
    · rw [z] at e; exact (hp e).elim
    · rcases List.mem_cons.mp z with z | z
      · rw [z]
      · cases z
  have T : Txt K mg (fun k => [a0, a1, a2, a3, a4, a5, a6, a7, a8, a9, a10, a11, a12, a13, a14, a15, a16, a17, a18, a19, a20, a21, a22, a23, a24, a25, a26, a27, a28, a29, a30, a31].getD k 0) (fun k => [fd0, fd1, fd2, fd3, fd4, fd5, fd6, fd7, fd8, fd9, fd10, fd11, fd12, fd13, fd14, fd15, fd16, fd17, fd18, fd19, fd20, fd21, fd22, fd23, fd24, fd25, fd26, fd27, fd28, fd29, fd30, fd31].getD k fd0) (fun e => match e with | .form => cF | .range => cR) (fun k => [0, 0, 0, 0, 0, 0, 0, 0, 0, 0, 0, 0, 0, 0, 0, 0, 0, 0, 0, 0, 0, 0, 0, 0, 0, 0, 0, 0, 0, 0, c30, c31].getD k 0) (fun k => [0, 0, 0, 0, 0, 0, 0, 0, 0, 0, 0, 0, 0, 0, 0, 0, 0, 0, 0, 0, 0, 0, 0, 0, 0, 0, 0, 0, 0, 0, p30, p31].getD k 0) [(p30, "_law_right.<locals>.<lambda>"), (p31, "law.<locals>.<lambda>")] cP := {
    f0 := F0
    g0 := PySem.W.mg_of X G n0
    b0 := F0.binds (ps := ["told", "least", "most"]) fun _ _ _ _ _ _ us hl => match us, hl with | [_, _, _], _ => rfl
    f1 := F1
    g1 := PySem.W.mg_of X G n1
    b1 := F1.binds (ps := ["numbers"]) fun _ _ _ _ _ _ us hl => match us, hl with | [_], _ => rfl
    f2 := F2
    g2 := PySem.W.mg_of X G n2
    b2 := F2.binds (ps := ["form"]) fun _ _ _ _ _ _ us hl => match us, hl with | [_], _ => rfl
    f3 := F3
    g3 := PySem.W.mg_of X G n3
    b3 := F3.binds (ps := ["form"]) fun _ _ _ _ _ _ us hl => match us, hl with | [_], _ => rfl
    f4 := F4
    g4 := PySem.W.mg_of X G n4
    b4 := F4.binds (ps := ["form"]) fun _ _ _ _ _ _ us hl => match us, hl with | [_], _ => rfl
    f5 := F5
    g5 := PySem.W.mg_of X G n5
    b5 := F5.binds (ps := ["form", "step"]) fun _ _ _ _ _ _ us hl => match us, hl with | [_, _], _ => rfl
    f6 := F6
    g6 := PySem.W.mg_of X G n6
    b6 := F6.binds (ps := ["first", "second"]) fun _ _ _ _ _ _ us hl => match us, hl with | [_, _], _ => rfl
    f7 := F7
    g7 := PySem.W.mg_of X G n7
    b7 := F7.binds (ps := ["form"]) fun _ _ _ _ _ _ us hl => match us, hl with | [_], _ => rfl
    f8 := F8
    g8 := PySem.W.mg_of X G n8
    b8 := F8.binds (ps := ["form"]) fun _ _ _ _ _ _ us hl => match us, hl with | [_], _ => rfl
    f9 := F9
    g9 := PySem.W.mg_of X G n9
    b9 := F9.binds (ps := ["form"]) fun _ _ _ _ _ _ us hl => match us, hl with | [_], _ => rfl
    f10 := F10
    g10 := PySem.W.mg_of X G n10
    b10 := F10.binds (ps := ["step"]) fun _ _ _ _ _ _ us hl => match us, hl with | [_], _ => rfl
    f11 := F11
    g11 := PySem.W.mg_of X G n11
    b11 := F11.binds (ps := ["form", "step"]) fun _ _ _ _ _ _ us hl => match us, hl with | [_, _], _ => rfl
    f12 := F12
    g12 := PySem.W.mg_of X G n12
    b12 := F12.binds (ps := ["form", "other"]) fun _ _ _ _ _ _ us hl => match us, hl with | [_, _], _ => rfl
    f13 := F13
    g13 := PySem.W.mg_of X G n13
    b13 := F13.binds (ps := ["form"]) fun _ _ _ _ _ _ us hl => match us, hl with | [_], _ => rfl
    f14 := F14
    g14 := PySem.W.mg_of X G n14
    b14 := F14.binds (ps := ["told"]) fun _ _ _ _ _ _ us hl => match us, hl with | [_], _ => rfl
    f15 := F15
    g15 := PySem.W.mg_of X G n15
    b15 := F15.binds (ps := ["script", "k"]) fun _ _ _ _ _ _ us hl => match us, hl with | [_, _], _ => rfl
    f16 := F16
    g16 := PySem.W.mg_of X G n16
    b16 := F16.binds (ps := ["script", "k"]) fun _ _ _ _ _ _ us hl => match us, hl with | [_, _], _ => rfl
    f17 := F17
    g17 := PySem.W.mg_of X G n17
    b17 := F17.binds (ps := ["box", "many"]) fun _ _ _ _ _ _ us hl => match us, hl with | [_, _], _ => rfl
    f18 := F18
    g18 := PySem.W.mg_of X G n18
    b18 := F18.binds (ps := ["call"]) fun _ _ _ _ _ _ us hl => match us, hl with | [_], _ => rfl
    f19 := F19
    g19 := PySem.W.mg_of X G n19
    b19 := F19.binds (ps := ["numbers"]) fun _ _ _ _ _ _ us hl => match us, hl with | [_], _ => rfl
    f20 := F20
    g20 := PySem.W.mg_of X G n20
    b20 := F20.binds (ps := ["form"]) fun _ _ _ _ _ _ us hl => match us, hl with | [_], _ => rfl
    f21 := F21
    g21 := PySem.W.mg_of X G n21
    b21 := F21.binds (ps := ["x"]) fun _ _ _ _ _ _ us hl => match us, hl with | [_], _ => rfl
    f22 := F22
    g22 := PySem.W.mg_of X G n22
    b22 := F22.binds (ps := ["form", "step"]) fun _ _ _ _ _ _ us hl => match us, hl with | [_, _], _ => rfl
    f23 := F23
    g23 := PySem.W.mg_of X G n23
    b23 := F23.binds (ps := ["form"]) fun _ _ _ _ _ _ us hl => match us, hl with | [_], _ => rfl
    f24 := F24
    g24 := PySem.W.mg_of X G n24
    b24 := F24.binds (ps := ["form"]) fun _ _ _ _ _ _ us hl => match us, hl with | [_], _ => rfl
    f25 := F25
    g25 := PySem.W.mg_of X G n25
    b25 := F25.binds (ps := ["D"]) fun _ _ _ _ _ _ us hl => match us, hl with | [_], _ => rfl
    f26 := F26
    g26 := PySem.W.mg_of X G n26
    b26 := F26.binds (ps := ["box", "most"]) fun _ _ _ _ _ _ us hl => match us, hl with | [_, _], _ => rfl
    f27 := F27
    g27 := PySem.W.mg_of X G n27
    b27 := F27.binds (ps := ["box", "D"]) fun _ _ _ _ _ _ us hl => match us, hl with | [_, _], _ => rfl
    f28 := F28
    g28 := PySem.W.mg_of X G n28
    b28 := F28.binds (ps := ["box", "form"]) fun _ _ _ _ _ _ us hl => match us, hl with | [_, _], _ => rfl
    f29 := F29
    g29 := PySem.W.mg_of X G n29
    b29 := F29.binds (ps := ["x"]) fun _ _ _ _ _ _ us hl => match us, hl with | [_], _ => rfl
    f30 := F30
    g30 := PySem.W.mg_of X G n30
    b30 := F30.fn.binds (ps := ["box", "form", "other"]) fun _ _ _ _ _ _ us hl => match us, hl with | [_, _, _], _ => rfl
    t30 := by first | exact List.mem_cons_self | exact List.mem_cons_of_mem _ List.mem_cons_self
    u30 := tabs_one_30 hpp
    f31 := F31
    g31 := PySem.W.mg_of X G n31
    b31 := F31.fn.binds (ps := ["script"]) fun _ _ _ _ _ _ us hl => match us, hl with | [_], _ => rfl
    t31 := by first | exact List.mem_cons_self | exact List.mem_cons_of_mem _ List.mem_cons_self
    u31 := tabs_one_31 hpp
    z_abs := PySem.W.mg_none_of X G z_abs
    z_all := PySem.W.mg_none_of X G z_all
    z_any := PySem.W.mg_none_of X G z_any
    z_bool := PySem.W.mg_none_of X G z_bool
    z_enumerate := PySem.W.mg_none_of X G z_enumerate
    z_int := PySem.W.mg_none_of X G z_int
    z_isinstance := PySem.W.mg_none_of X G z_isinstance
    z_len := PySem.W.mg_none_of X G z_len
    z_list := PySem.W.mg_none_of X G z_list
    z_max := PySem.W.mg_none_of X G z_max
    z_min := PySem.W.mg_none_of X G z_min
    z_range := PySem.W.mg_none_of X G z_range
    z_repr := PySem.W.mg_none_of X G z_repr
    z_set := PySem.W.mg_none_of X G z_set
    z_sorted := PySem.W.mg_none_of X G z_sorted
    z_str := PySem.W.mg_none_of X G z_str
    z_sum := PySem.W.mg_none_of X G z_sum
    z_tuple := PySem.W.mg_none_of X G z_tuple
    z_zip := PySem.W.mg_none_of X G z_zip
    m_GREATEST_STEP := m_GREATEST_STEP.elim fun t e => ⟨t, PySem.W.mg_of X G e⟩
    m_LEAST := m_LEAST.elim fun t e => ⟨t, PySem.W.mg_of X G e⟩
    g_PlaceError := PySem.W.mg_of X G n_PlaceError
    x_BadForm := x_BadForm
    g_BadForm := PySem.W.mg_of X G n_BadForm
    k_BadForm := k_BadForm
    e_BadForm := e_BadForm
    t_BadForm := t_BadForm
    x_OutOfRange := x_OutOfRange
    g_OutOfRange := PySem.W.mg_of X G n_OutOfRange
    k_OutOfRange := k_OutOfRange
    e_OutOfRange := e_OutOfRange
    t_OutOfRange := t_OutOfRange
    ff := fun x => match x with | .form => ⟨⟨y0_BadForm, y1_BadForm, e_BadForm, y2_BadForm, y3_BadForm, y8, y9, y4_BadForm⟩, y5_BadForm, fun y => match y with | .form => y6_BadForm | .range => y7_BadForm⟩ | .range => ⟨⟨y0_OutOfRange, y1_OutOfRange, e_OutOfRange, y2_OutOfRange, y3_OutOfRange, y8, y9, y4_OutOfRange⟩, y5_OutOfRange, fun y => match y with | .form => y6_OutOfRange | .range => y7_OutOfRange⟩ }
  have e := hfa.symm.trans T.g31
  cases e
  refine ⟨fd31, [(c30, p30), (c31, p31)], spP K (fun e => match e with | .form => cF | .range => cR) [(p30, "_law_right.<locals>.<lambda>"), (p31, "law.<locals>.<lambda>")] 1 F_law, (fun p hp => by
    rcases List.mem_cons.mp hp with z | hp
    · rw [z]; exact q30
    rcases List.mem_cons.mp hp with z | hp
    · rw [z]; exact q31
    · cases hp), (fun p hp => by
    rcases List.mem_cons.mp hp with z | hp
    · rw [z]; exact l30
    rcases List.mem_cons.mp hp with z | hp
    · rw [z]; exact l31
    · cases hp), (fun p hp => by
    rcases List.mem_cons.mp hp with z | hp
    · rw [z]; exact PySem.W.codeHd_of_K X h30
    rcases List.mem_cons.mp hp with z | hp
    · rw [z]; exact PySem.W.codeHd_of_K X h31
    · cases hp), fun s u => ?_, fun H a ns hl hb hT hS => law_asked ?_ hS fun P W hP => ⟨ns, rfl, hl, hb, hP⟩, fun base hK hN hTB => ?_⟩
  · obtain ⟨oc, od, kV, doc, pm, an, ct, osl, rfl, _⟩ := F31.ex
    exact .of_eq rfl
  · intro p hp
    rcases List.mem_cons.mp hp with z | hp
    · rw [z]; exact LamX.TabS.nil (hT (c30, p30) (by first | exact List.mem_cons_self | exact List.mem_cons_of_mem _ List.mem_cons_self))
    rcases List.mem_cons.mp hp with z | hp
    · rw [z]; exact LamX.TabS.nil (hT (c31, p31) (by first | exact List.mem_cons_self | exact List.mem_cons_of_mem _ List.mem_cons_self))
    · cases hp
  · exact ok_law T ⟨hTB (c30, p30) (by first | exact List.mem_cons_self | exact List.mem_cons_of_mem _ List.mem_cons_self), hTB (c31, p31) (by first | exact List.mem_cons_self | exact List.mem_cons_of_mem _ List.mem_cons_self), trivial⟩
end K08
open PySem PySem.W PyProof.Rows PD
set_option maxHeartbeats 0 in
theorem PySem.Challenge.cw_allplaces_k08_reduced_and_same_holds : PySem.Challenge.rw_allplaces_k08_reduced_and_same.Holds := by
  w_on; o_law; k_head; (case hw => w_witness2)
  k_fill
  refine PD.walk_ofG (l := PySem.Challenge.rw_allplaces_k08_reduced_and_same) (n := 63) (k := 10) (x := "script") (CX := fun w => L2N.CX PySem.Challenge.rw_allplaces_k08_reduced_and_same.prog w) rfl (by decide) rfl ⟨rfl, by decide, by decide⟩ (fun w h Y => PySem.W.km_in_of Y) ?F (fun _ H s e s' c => PD.no_errorN c)
  case F =>
    intro w mg fa h Y KX G hmg
    refine' K08.end_mk KX G hmg ?n0 ?d0 ?n1 ?d1 ?n2 ?d2 ?n3 ?d3 ?n4 ?d4 ?n5 ?d5 ?n6 ?d6 ?n7 ?d7 ?n8 ?d8 ?n9 ?d9 ?n10 ?d10 ?n11 ?d11 ?n12 ?d12 ?n13 ?d13 ?n14 ?d14 ?n15 ?d15 ?n16 ?d16 ?n17 ?d17 ?n18 ?d18 ?n19 ?d19 ?n20 ?d20 ?n21 ?d21 ?n22 ?d22 ?n23 ?d23 ?n24 ?d24 ?n25 ?d25 ?n26 ?d26 ?n27 ?d27 ?n28 ?d28 ?n29 ?d29 ?n30 ?d30 ?n31 ?d31 ?z_abs ?z_all ?z_any ?z_bool ?z_enumerate ?z_int ?z_isinstance ?z_len ?z_list ?z_max ?z_min ?z_range ?z_repr ?z_set ?z_sorted ?z_str ?z_sum ?z_tuple ?z_zip ?m_GREATEST_STEP ?m_LEAST ?q30 ?h30 ?l30 ?q31 ?h31 ?l31 ?n_PlaceError ?n_BadForm ?x_BadForm ?k_BadForm ?e_BadForm ?t_BadForm ?y0_BadForm ?y1_BadForm ?y2_BadForm ?y3_BadForm ?y4_BadForm ?y5_BadForm ?y6_BadForm ?y7_BadForm ?n_OutOfRange ?x_OutOfRange ?k_OutOfRange ?e_OutOfRange ?t_OutOfRange ?y0_OutOfRange ?y1_OutOfRange ?y2_OutOfRange ?y3_OutOfRange ?y4_OutOfRange ?y5_OutOfRange ?y6_OutOfRange ?y7_OutOfRange ?y8 ?y9 ?hpp
    (case n0 => k_is)
    (case d0 => (refine' ⟨_, L2.fun_mk ?l ?c ?k⟩; (case l => k_is); (case c => k_is); (case k => k_is)))
    (case n1 => k_is)
    (case d1 => (refine' ⟨_, L2.fun_mk ?l ?c ?k⟩; (case l => k_is); (case c => k_is); (case k => k_is)))
    (case n2 => k_is)
    (case d2 => (refine' ⟨_, L2.fun_mk ?l ?c ?k⟩; (case l => k_is); (case c => k_is); (case k => k_is)))
    (case n3 => k_is)
    (case d3 => (refine' ⟨_, L2.fun_mk ?l ?c ?k⟩; (case l => k_is); (case c => k_is); (case k => k_is)))
    (case n4 => k_is)
    (case d4 => (refine' ⟨_, L2.fun_mk ?l ?c ?k⟩; (case l => k_is); (case c => k_is); (case k => k_is)))
    (case n5 => k_is)
    (case d5 => (refine' ⟨_, L2.fun_mk ?l ?c ?k⟩; (case l => k_is); (case c => k_is); (case k => k_is)))
    (case n6 => k_is)
    (case d6 => (refine' ⟨_, L2.fun_mk ?l ?c ?k⟩; (case l => k_is); (case c => k_is); (case k => k_is)))
    (case n7 => k_is)
    (case d7 => (refine' ⟨_, L2.fun_mk ?l ?c ?k⟩; (case l => k_is); (case c => k_is); (case k => k_is)))
    (case n8 => k_is)
    (case d8 => (refine' ⟨_, L2.fun_mk ?l ?c ?k⟩; (case l => k_is); (case c => k_is); (case k => k_is)))
    (case n9 => k_is)
    (case d9 => (refine' ⟨_, L2.fun_mk ?l ?c ?k⟩; (case l => k_is); (case c => k_is); (case k => k_is)))
    (case n10 => k_is)
    (case d10 => (refine' ⟨_, L2.fun_mk ?l ?c ?k⟩; (case l => k_is); (case c => k_is); (case k => k_is)))
    (case n11 => k_is)
    (case d11 => (refine' ⟨_, L2.fun_mk ?l ?c ?k⟩; (case l => k_is); (case c => k_is); (case k => k_is)))
    (case n12 => k_is)
    (case d12 => (refine' ⟨_, L2.fun_mk ?l ?c ?k⟩; (case l => k_is); (case c => k_is); (case k => k_is)))
    (case n13 => k_is)
    (case d13 => (refine' ⟨_, L2.fun_mk ?l ?c ?k⟩; (case l => k_is); (case c => k_is); (case k => k_is)))
    (case n14 => k_is)
    (case d14 => (refine' ⟨_, L2.fun_mk ?l ?c ?k⟩; (case l => k_is); (case c => k_is); (case k => k_is)))
    (case n15 => k_is)
    (case d15 => (refine' ⟨_, L2.fun_mk ?l ?c ?k⟩; (case l => k_is); (case c => k_is); (case k => k_is)))
    (case n16 => k_is)
    (case d16 => (refine' ⟨_, L2.fun_mk ?l ?c ?k⟩; (case l => k_is); (case c => k_is); (case k => k_is)))
    (case n17 => k_is)
    (case d17 => (refine' ⟨_, L2.fun_mk ?l ?c ?k⟩; (case l => k_is); (case c => k_is); (case k => k_is)))
    (case n18 => k_is)
    (case d18 => (refine' ⟨_, L2.fun_mk ?l ?c ?k⟩; (case l => k_is); (case c => k_is); (case k => k_is)))
    (case n19 => k_is)
    (case d19 => (refine' ⟨_, L2.fun_mk ?l ?c ?k⟩; (case l => k_is); (case c => k_is); (case k => k_is)))
    (case n20 => k_is)
    (case d20 => (refine' ⟨_, L2.fun_mk ?l ?c ?k⟩; (case l => k_is); (case c => k_is); (case k => k_is)))
    (case n21 => k_is)
    (case d21 => (refine' ⟨_, L2.fun_mk ?l ?c ?k⟩; (case l => k_is); (case c => k_is); (case k => k_is)))
    (case n22 => k_is)
    (case d22 => (refine' ⟨_, L2.fun_mk ?l ?c ?k⟩; (case l => k_is); (case c => k_is); (case k => k_is)))
    (case n23 => k_is)
    (case d23 => (refine' ⟨_, L2.fun_mk ?l ?c ?k⟩; (case l => k_is); (case c => k_is); (case k => k_is)))
    (case n24 => k_is)
    (case d24 => (refine' ⟨_, L2.fun_mk ?l ?c ?k⟩; (case l => k_is); (case c => k_is); (case k => k_is)))
    (case n25 => k_is)
    (case d25 => (refine' ⟨_, L2.fun_mk ?l ?c ?k⟩; (case l => k_is); (case c => k_is); (case k => k_is)))
    (case n26 => k_is)
    (case d26 => (refine' ⟨_, L2.fun_mk ?l ?c ?k⟩; (case l => k_is); (case c => k_is); (case k => k_is)))
    (case n27 => k_is)
    (case d27 => (refine' ⟨_, L2.fun_mk ?l ?c ?k⟩; (case l => k_is); (case c => k_is); (case k => k_is)))
    (case n28 => k_is)
    (case d28 => (refine' ⟨_, L2.fun_mk ?l ?c ?k⟩; (case l => k_is); (case c => k_is); (case k => k_is)))
    (case n29 => k_is)
    (case d29 => (refine' ⟨_, L2.fun_mk ?l ?c ?k⟩; (case l => k_is); (case c => k_is); (case k => k_is)))
    (case n30 => k_is)
    (case d30 => (refine' FunC.mk1 ?l ?c ?k; (case l => k_is); (case c => k_is); (case k => k_is)))
    (case n31 => k_is)
    (case d31 => (refine' FunC.mk1 ?l ?c ?k; (case l => k_is); (case c => k_is); (case k => k_is)))
    (case z_abs => k_is)
    (case z_all => k_is)
    (case z_any => k_is)
    (case z_bool => k_is)
    (case z_enumerate => k_is)
    (case z_int => k_is)
    (case z_isinstance => k_is)
    (case z_len => k_is)
    (case z_list => k_is)
    (case z_max => k_is)
    (case z_min => k_is)
    (case z_range => k_is)
    (case z_repr => k_is)
    (case z_set => k_is)
    (case z_sorted => k_is)
    (case z_str => k_is)
    (case z_sum => k_is)
    (case z_tuple => k_is)
    (case z_zip => k_is)
    (case m_GREATEST_STEP => first | exact ⟨_, by k_is⟩ | exact ⟨0, by kernel_rfl⟩ | exact ⟨_, rfl⟩ | (constructor; k_is))
    (case m_LEAST => first | exact ⟨_, by k_is⟩ | exact ⟨0, by kernel_rfl⟩ | exact ⟨_, rfl⟩ | (constructor; k_is))
    ((case q30 => exact PySem.W.km_tabs_of Y _ List.mem_cons_self); (case h30 => kernel_rfl))
    (case l30 => first | k_is | kernel_rfl)
    ((case q31 => exact PySem.W.km_tabs_of Y _ (List.mem_cons_of_mem _ List.mem_cons_self)); (case h31 => kernel_rfl))
    (case l31 => first | k_is | kernel_rfl)
    (case n_PlaceError => k_is)
    (case n_BadForm => first | k_is | kernel_rfl)
    (case x_BadForm => first | k_is | kernel_rfl)
    (case k_BadForm => first | k_is | kernel_rfl)
    (case e_BadForm => first | k_is | kernel_rfl)
    (case t_BadForm => first | k_is | kernel_rfl)
    (case y0_BadForm => first | k_is | kernel_rfl)
    (case y1_BadForm => first | k_is | kernel_rfl)
    (case y2_BadForm => first | k_is | kernel_rfl)
    (case y3_BadForm => first | k_is | kernel_rfl)
    (case y4_BadForm => first | k_is | kernel_rfl)
    (case y5_BadForm => first | k_is | kernel_rfl)
    (case y6_BadForm => first | k_is | kernel_rfl)
    (case y7_BadForm => first | k_is | kernel_rfl)
    (case n_OutOfRange => first | k_is | kernel_rfl)
    (case x_OutOfRange => first | k_is | kernel_rfl)
    (case k_OutOfRange => first | k_is | kernel_rfl)
    (case e_OutOfRange => first | k_is | kernel_rfl)
    (case t_OutOfRange => first | k_is | kernel_rfl)
    (case y0_OutOfRange => first | k_is | kernel_rfl)
    (case y1_OutOfRange => first | k_is | kernel_rfl)
    (case y2_OutOfRange => first | k_is | kernel_rfl)
    (case y3_OutOfRange => first | k_is | kernel_rfl)
    (case y4_OutOfRange => first | k_is | kernel_rfl)
    (case y5_OutOfRange => first | k_is | kernel_rfl)
    (case y6_OutOfRange => first | k_is | kernel_rfl)
    (case y7_OutOfRange => first | k_is | kernel_rfl)
    (case y8 => k_is)
    (case y9 => k_is)
    (case hpp => decide)
end

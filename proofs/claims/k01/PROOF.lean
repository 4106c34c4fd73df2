import PyProof.Rows.All
import Wide.All
import OpenK.AllK
import Wide.FinOn
import HandS.ForMost
import HandS.Exc
import HandS.TryOnly
import HandS.ExcOwn
import HandS.WordsExc
import HandS.Wide
import HandS.WideMore
import HandS.WideBits
import HandS.Style
import HandS.IsInst
import HandS.Conv
import HandS.Zip
import HandS.Flow
import HandS.Lambda
import HandS.ExcCtx
import HandS.TupAny
import HandS.TupMul
import HandS.Deep
import KE.SortData
import PyProof.TupleOfSeq
import KE.KRevSl
import HandS.HotCalls
import HandS.ExcIs
import HandS.Iter
import HandS.EndTab
import HandS.CallLocal
import PyProof.ReprRoads
import PyProof.ReprLen
import HandS.Dict
import HandS.More
import HandS.Strs
import PyProof.Rows.SetFrom
import HandS.Set
import PySem.Challenge.RW_allplaces_k01_symbols
section
set_option Elab.async false
set_option linter.all false
set_option maxRecDepth 100000
/-! Pure data over the layer of readings: D, what stands for it, the environments, and for each reading the same over data. -/
namespace PD
open PySem L2

/-- data: own i is the object that the slot i alone holds (a list or a dict that the def changes) -/
inductive D where
  | non | bl (b : Bool) | int (i : Int) | str (s : Str)
  | tup (xs : List D) | lst (xs : List D)
  | fn (a : Addr) | own (i : Nat)
  | dct (ks : List Int) (vs : List D)
  | scr (ns : List Int)

/-- what stands at a is known to the module -/
def KLst (K : PySem.W.Frag) (a : Addr) (xs : List V) : Prop :=
  ∃ (o : Obj) (its : Array Value) (n : Nat), K.lookup a = some o ∧ o.cls = .type "list" ∧ o.dict = none ∧ o.data = .seq its n ∧ its.size ≤ sizeLine ∧ Vals xs its.toList

/-- all but tables and what is told by its one object -/
def Pn : HO → Prop
  | .tbl _ => False
  | .ext _ => False
  | _ => True
mutual
/-- v stands for d; nothing of it lies in A -/
inductive Rp (K : PySem.W.Frag) (A : Addr → Prop) (H : Hp) : D → V → Prop
  | non : Rp K A H .non .non
  | bl (b : Bool) : Rp K A H (.bl b) (.bl b)
  | int (i : Int) : Rp K A H (.int i) (.int i)
  | str (s : Str) : Rp K A H (.str s) (.str s)
  | tup {a : Addr} {ds : List D} {vs : List V} : ¬ A a → H a = some (.tup vs) → RpL K A H ds vs → Rp K A H (.tup ds) (.ref a)
  | lst {a : Addr} {ds : List D} {vs : List V} : ¬ A a → H a = some (.lst vs) → RpL K A H ds vs → Rp K A H (.lst ds) (.ref a)
  | frz {a : Addr} {o : Obj} (ns : List Int) : ¬ A a → H a = some (.frz o (.lst (ns.map V.int))) → Rp K A H (.scr ns) (.ref a)
  | slst {a : Addr} (ns : List Int) : ¬ A a → H a = some (.lst (ns.map V.int)) → Rp K A H (.scr ns) (.ref a)
  | klst {a : Addr} (ns : List Int) : KLst K a (ns.map V.int) → Rp K A H (.scr ns) (.ref a)
  | dct {a : Addr} {ks : List Int} {ds : List D} {vs : List V} : ¬ A a → H a = some (.dK ((ks.map Sum.inl).zip vs)) → ks.length = vs.length → RpL K A H ds vs → Rp K A H (.dct ks ds) (.ref a)
  | fn (a : Addr) : Rp K A H (.fn a) (.ref a)
inductive RpL (K : PySem.W.Frag) (A : Addr → Prop) (H : Hp) : List D → List V → Prop
  | nil : RpL K A H [] []
  | cons {d : D} {v : V} {ds : List D} {vs : List V} : Rp K A H d v → RpL K A H ds vs → RpL K A H (d :: ds) (v :: vs)
end

section
variable {K : PySem.W.Frag} {A A' : Addr → Prop} {H H' : Hp}
mutual
theorem Rp.move (h : ∀ a o, ¬ A a → H a = some o → Pn o → ¬ A' a ∧ H' a = some o) : ∀ {d : D} {v : V}, Rp K A H d v → Rp K A' H' d v
  | _, _, .non => .non
  | _, _, .bl b => .bl b
  | _, _, .int b => .int b
  | _, _, .str b => .str b
  | _, _, .tup n e r => .tup (h _ _ n e trivial).1 (h _ _ n e trivial).2 (RpL.move h r)
  | _, _, .lst n e r => .lst (h _ _ n e trivial).1 (h _ _ n e trivial).2 (RpL.move h r)
  | _, _, .frz ns n e => .frz ns (h _ _ n e trivial).1 (h _ _ n e trivial).2
  | _, _, .slst ns n e => .slst ns (h _ _ n e trivial).1 (h _ _ n e trivial).2
  | _, _, .klst ns k => .klst ns k
  | _, _, .dct n e l r => .dct (h _ _ n e trivial).1 (h _ _ n e trivial).2 l (RpL.move h r)
  | _, _, .fn a => .fn a
theorem RpL.move (h : ∀ a o, ¬ A a → H a = some o → Pn o → ¬ A' a ∧ H' a = some o) : ∀ {ds : List D} {vs : List V}, RpL K A H ds vs → RpL K A' H' ds vs
  | _, _, .nil => .nil
  | _, _, .cons a b => .cons (Rp.move h a) (RpL.move h b)
end
theorem RpL.length : ∀ {ds : List D} {vs : List V}, RpL K A H ds vs → ds.length = vs.length
  | _, _, .nil => rfl
  | _, _, .cons _ b => congrArg (· + 1) (RpL.length b)
theorem RpL.append : ∀ {ds : List D} {vs : List V} {es : List D} {ws : List V}, RpL K A H ds vs → RpL K A H es ws → RpL K A H (ds ++ es) (vs ++ ws)
  | _, _, _, _, .nil, h => h
  | _, _, _, _, .cons a b, h => .cons a (RpL.append b h)
theorem RpL.get : ∀ {ds : List D} {vs : List V} {i : Nat} {v : V}, RpL K A H ds vs → vs[i]? = some v → ∃ d, ds[i]? = some d ∧ Rp K A H d v
  | _, _, _, _, .nil, e => by simp at e
  | _, _, 0, _, .cons a _, e => by simp at e; subst e; exact ⟨_, rfl, a⟩
  | _, _, i + 1, _, .cons _ b, e => by
    obtain ⟨d, e1, r⟩ := RpL.get (i := i) b (by simpa using e)
    exact ⟨d, by simpa using e1, r⟩
theorem RpL.got : ∀ {ds : List D} {vs : List V} {i : Nat} {d : D}, RpL K A H ds vs → ds[i]? = some d → ∃ v, vs[i]? = some v ∧ Rp K A H d v
  | _, _, _, _, .nil, e => by simp at e
  | _, _, 0, _, .cons a _, e => by simp at e; subst e; exact ⟨_, rfl, a⟩
  | _, _, i + 1, _, .cons _ b, e => by
    obtain ⟨d, e1, r⟩ := RpL.got (i := i) b (by simpa using e)
    exact ⟨d, by simpa using e1, r⟩
theorem RpL.set : ∀ {ds : List D} {vs : List V} (i : Nat) {d : D} {v : V}, RpL K A H ds vs → Rp K A H d v → RpL K A H (ds.set i d) (vs.set i v)
  | _, _, _, _, _, .nil, _ => .nil
  | _, _, 0, _, _, .cons _ b, r => .cons r b
  | _, _, i + 1, _, _, .cons a b, r => .cons a (RpL.set i b r)
theorem RpL.take : ∀ {ds : List D} {vs : List V} (n : Nat), RpL K A H ds vs → RpL K A H (ds.take n) (vs.take n)
  | _, _, 0, _ => by rw [List.take_zero, List.take_zero]; exact .nil
  | _, _, _ + 1, .nil => .nil
  | _, _, n + 1, .cons a b => .cons a (RpL.take n b)
theorem RpL.drop : ∀ {ds : List D} {vs : List V} (n : Nat), RpL K A H ds vs → RpL K A H (ds.drop n) (vs.drop n)
  | _, _, 0, h => h
  | _, _, _ + 1, .nil => .nil
  | _, _, n + 1, .cons _ b => RpL.drop n b
theorem RpL.eraseIdx : ∀ {ds : List D} {vs : List V} (n : Nat), RpL K A H ds vs → RpL K A H (ds.eraseIdx n) (vs.eraseIdx n)
  | _, _, _, .nil => .nil
  | _, _, 0, .cons _ b => b
  | _, _, n + 1, .cons a b => .cons a (RpL.eraseIdx n b)
theorem RpL.reverse {ds : List D} {vs : List V} (h : RpL K A H ds vs) : RpL K A H ds.reverse vs.reverse := by
  induction ds generalizing vs with
  | nil => cases h; exact .nil
  | cons d ds ih =>
    cases h with
    | cons a b =>
      rw [List.reverse_cons, List.reverse_cons]
      exact (ih b).append (.cons a .nil)
theorem RpL.rep {ds : List D} {vs : List V} (h : RpL K A H ds vs) : ∀ k : Nat, RpL K A H (List.replicate k ds).flatten (List.replicate k vs).flatten
  | 0 => .nil
  | k + 1 => by
    rw [List.replicate_succ, List.replicate_succ, List.flatten_cons, List.flatten_cons]
    exact h.append (RpL.rep h k)
theorem RpL.ints : ∀ {ns : List Int} {vs : List V}, RpL K A H (ns.map D.int) vs → vs = ns.map V.int
  | [], _, .nil => rfl
  | _ :: _, _, .cons (.int _) b => congrArg (_ :: ·) (RpL.ints b)
theorem RpL.of_ints : ∀ (ns : List Int), RpL K A H (ns.map D.int) (ns.map V.int)
  | [] => .nil
  | n :: ns => .cons (.int n) (RpL.of_ints ns)
theorem RpL.bls : ∀ {ns : List Bool} {vs : List V}, RpL K A H (ns.map D.bl) vs → vs = ns.map V.bl
  | [], _, .nil => rfl
  | _ :: _, _, .cons (.bl _) b => congrArg (_ :: ·) (RpL.bls b)
/-- a list that is read -/
theorem Rp.seqL {ds : List D} {v : V} (h : Rp K A H (.lst ds) v) : ∃ a vs, v = .ref a ∧ ¬ A a ∧ H a = some (.lst vs) ∧ RpL K A H ds vs := by
  cases h with
  | lst n e r => exact ⟨_, _, rfl, n, e, r⟩
theorem Rp.seqS {ns : List Int} {v : V} (h : Rp K A H (.scr ns) v) : ∃ a, v = .ref a ∧ SqL K H a (ns.map V.int) := by
  cases h with
  | frz ns n e => exact ⟨_, rfl, .inl (.inr ⟨_, e⟩)⟩
  | slst ns n e => exact ⟨_, rfl, .of e⟩
  | klst ns k => exact ⟨_, rfl, .inr k⟩
theorem Rp.seqT {ds : List D} {v : V} (h : Rp K A H (.tup ds) v) : ∃ a vs, v = .ref a ∧ ¬ A a ∧ H a = some (.tup vs) ∧ RpL K A H ds vs := by
  cases h with
  | tup n e r => exact ⟨_, _, rfl, n, e, r⟩
end

/-! ### the environment of a def that runs -/
/-- the program's errors -/
inductive Ex where
  | form | range
/-- what is fixed through a def: the written part, what must not be touched nor held (z), the caller's object in slot 0 that may be changed, the heap at the start, the slots that hold objects of their own, the wish of an error -/
structure C0 where
  K : PySem.W.Frag
  z : Addr → Prop
  box : Option Addr
  h0 : Hp
  own : Nat → Bool
  ew : L2.XK
  dw : Ex → Prop
  cl : Ex → Addr
  T : List (Addr × Str)
/-- what is wanted of errors -/
def C0.Good (c : C0) : Prop := ∀ x H', (∀ a o, c.h0 a = some o → Pn o → c.box ≠ some a → H' a = some o) → LamX.Tabs c.T H' → c.dw x → c.ew (.ref (c.cl x)) none H'

/-- what is held besides: values on the way, objects on the way -/
structure Tm where
  vals : List (D × V)
  hold : List (Addr × HO)

abbrev Env := List (Option D)

/-- where one must not reach -/
def Far (c : C0) (t : Tm) (σ : L2.St) (a : Addr) : Prop :=
  c.z a ∨ (∃ o, (a, o) ∈ t.hold) ∨ ∃ i, c.own i = true ∧ σ[i]? = some (some (.ref a))

/-- what an object that a slot alone holds is -/
def OwnC (K : PySem.W.Frag) (A : Addr → Prop) (H : Hp) (o : HO) : D → Prop
  | .lst ds => ∃ vs, o = .lst vs ∧ RpL K A H ds vs
  | .dct ks ds => ∃ vs : List V, o = .dK ((ks.map Sum.inl).zip vs) ∧ ks.length = vs.length ∧ RpL K A H ds vs
  | _ => False
def OwnAt (K : PySem.W.Frag) (A : Addr → Prop) (H : Hp) (l : Addr) (d : D) : Prop := ∃ o, H l = some o ∧ OwnC K A H o d

structure EnvOk (c : C0) (t : Tm) (σ : L2.St) (H : Hp) (ρ : Env) : Prop where
  len : σ.length = ρ.length
  frame : ∀ a o, c.h0 a = some o → Pn o → c.box ≠ some a → H a = some o
  tabs : LamX.Tabs c.T H
  trk : ∀ a, Far c t σ a → ∃ o, H a = some o ∧ Pn o
  val : ∀ i d, ρ[i]? = some (some d) → c.own i = false → ∃ v, σ[i]? = some (some v) ∧ Rp c.K (Far c t σ) H d v
  ownv : ∀ i d, ρ[i]? = some (some d) → c.own i = true → ∃ l, σ[i]? = some (some (.ref l)) ∧ OwnAt c.K (Far c t σ) H l d ∧ (c.box = some l ∨ ∀ o, c.h0 l = some o → Pn o → False)
  ownn : ∀ i, c.own i = true → ρ[i]? = some none → σ[i]? = some none
  dist : ∀ i j l, c.own i = true → c.own j = true → σ[i]? = some (some (.ref l)) → σ[j]? = some (some (.ref l)) → i = j
  bx : ∀ b, c.box = some b → c.own 0 = true ∧ σ[0]? = some (some (.ref b))
  tv : ∀ p ∈ t.vals, Rp c.K (Far c t σ) H p.1 p.2
  th : ∀ p ∈ t.hold, H p.1 = some p.2 ∧ (∀ i, c.own i = true → σ[i]? ≠ some (some (.ref p.1))) ∧ (∀ o, c.h0 p.1 = some o → Pn o → False) ∧ Pn p.2

/-- a value on the way: what stands for d, or the own object of a slot -/
def RpO (c : C0) (t : Tm) (σ : L2.St) (H : Hp) (d : D) (v : V) : Prop :=
  Rp c.K (Far c t σ) H d v ∨ ∃ i, d = .own i ∧ c.own i = true ∧ σ[i]? = some (some v)

end PD

end
section
set_option Elab.async false
set_option linter.all false
set_option maxRecDepth 100000
namespace PD
open PySem L2

/-! ### environments: growth, a change, a store -/
section
variable {c : C0} {t : Tm} {σ : L2.St} {H H' : Hp} {ρ : Env}

theorem OwnC.move {K : PySem.W.Frag} {A A' : Addr → Prop} {o : HO} {d : D} (h : ∀ a o, ¬ A a → H a = some o → Pn o → ¬ A' a ∧ H' a = some o) (x : OwnC K A H o d) : OwnC K A' H' o d := by
  cases d with
  | lst ds => obtain ⟨vs, e, r⟩ := x; exact ⟨vs, e, RpL.move h r⟩
  | dct ks ds => obtain ⟨vs, e, n, r⟩ := x; exact ⟨vs, e, n, RpL.move h r⟩
  | _ => exact False.elim x
theorem OwnC.pn {K : PySem.W.Frag} {A : Addr → Prop} {o : HO} {d : D} (x : OwnC K A H o d) : Pn o := by
  cases d with
  | lst ds => obtain ⟨vs, e, r⟩ := x; subst e; trivial
  | dct ks ds => obtain ⟨vs, e, n, r⟩ := x; subst e; trivial
  | _ => exact False.elim x
theorem OwnAt.move {K : PySem.W.Frag} {A A' : Addr → Prop} {l : Addr} {d : D} (hl : ∀ o, H l = some o → Pn o → H' l = some o) (h : ∀ a o, ¬ A a → H a = some o → Pn o → ¬ A' a ∧ H' a = some o) (x : OwnAt K A H l d) : OwnAt K A' H' l d := by
  obtain ⟨o, e, x⟩ := x
  exact ⟨o, hl _ e x.pn, x.move h⟩
/-- nothing but tables grows, nothing is lost -/
def Gr (T : List (Addr × Str)) (H H' : Hp) : Prop := (∀ a o, H a = some o → Pn o → H' a = some o) ∧ (LamX.Tabs T H → LamX.Tabs T H')
theorem Gr.refl {T : List (Addr × Str)} : Gr T H H := ⟨fun _ _ e _ => e, id⟩
theorem Gr.of {T : List (Addr × Str)} (g : ∀ a o, H a = some o → H' a = some o) : Gr T H H' := ⟨fun a o e _ => g a o e, fun t => t.ext g⟩
/-- tables stay behind a change of a plain object -/
theorem tabs_upd {T : List (Addr × Str)} {l : Addr} {o o' : HO} (t : LamX.Tabs T H) (e : H l = some o) (pn : Pn o) : LamX.Tabs T (upd H l o') := fun p hp => by
  obtain ⟨ps, h1, h2, h3⟩ := t p hp
  refine ⟨ps, by rw [upd_ne (fun z => by rw [z, e] at h1; cases h1; exact pn)]; exact h1, h2, fun pos cv hc => ?_⟩
  obtain ⟨c, e1, e2⟩ := h3 pos cv hc
  exact ⟨c, e1, by rw [upd_ne (fun z => by rw [z, e] at e2; unfold LamX.CodeO at e2; cases e2; exact pn)]; exact e2⟩
theorem OwnAt.there {K : PySem.W.Frag} {A : Addr → Prop} {l : Addr} {d : D} (x : OwnAt K A H l d) : ∃ o, H l = some o ∧ Pn o := x.imp fun _ h => ⟨h.1, h.2.pn⟩

/-- all that is tracked stays -/
theorem EnvOk.grow (h : EnvOk c t σ H ρ) (g : Gr c.T H H') : EnvOk c t σ H' ρ where
  len := h.len
  frame := fun a o e p n => g.1 _ _ (h.frame a o e p n) p
  tabs := g.2 h.tabs
  trk := fun a f => let ⟨o, e, p⟩ := h.trk a f; ⟨o, g.1 _ _ e p, p⟩
  val := fun i d e n => let ⟨v, e1, r⟩ := h.val i d e n; ⟨v, e1, r.move fun a o na ea p => ⟨na, g.1 _ _ ea p⟩⟩
  ownv := fun i d e n => let ⟨l, e1, x, z⟩ := h.ownv i d e n; ⟨l, e1, x.move (fun o => g.1 l o) (fun a o na ea p => ⟨na, g.1 _ _ ea p⟩), z⟩
  ownn := h.ownn
  dist := h.dist
  bx := h.bx
  tv := fun p hp => (h.tv p hp).move fun a o na ea q => ⟨na, g.1 _ _ ea q⟩
  th := fun p hp => let ⟨a, b, e, q⟩ := h.th p hp; ⟨g.1 _ _ a q, b, e, q⟩
theorem upd_grow {p : Addr} {o : HO} (hp : H p = none) : ∀ a o', H a = some o' → upd H p o a = some o' := fun a o' e => by
  rw [upd_ne (ne_of_none e hp)]; exact e
theorem EnvOk.new {p : Addr} {o : HO} (h : EnvOk c t σ H ρ) (hp : H p = none) : EnvOk c t σ (upd H p o) ρ := h.grow (.of (upd_grow hp))
theorem EnvOk.far {p : Addr} (h : EnvOk c t σ H ρ) (hp : H p = none) : ¬ Far c t σ p := fun f => by
  obtain ⟨o, e, _⟩ := h.trk p f
  rw [hp] at e; cases e
theorem EnvOk.h0n {p : Addr} (h : EnvOk c t σ H ρ) (hp : H p = none) : ∀ o, c.h0 p = some o → Pn o → False := fun o e pn => by
  by_cases hb : c.box = some p
  · obtain ⟨a, b⟩ := h.bx p hb
    exact absurd (.inr (.inr ⟨0, a, b⟩)) (h.far hp)
  · have := h.frame p o e pn hb
    rw [hp] at this; cases this
theorem Rp.grow {d : D} {v : V} {A : Addr → Prop} {K : PySem.W.Frag} (r : Rp K A H d v) (g : ∀ a o, H a = some o → H' a = some o) : Rp K A H' d v := r.move fun a o na ea _ => ⟨na, g _ _ ea⟩
theorem RpL.grow {d : List D} {v : List V} {A : Addr → Prop} {K : PySem.W.Frag} (r : RpL K A H d v) (g : ∀ a o, H a = some o → H' a = some o) : RpL K A H' d v := r.move fun a o na ea _ => ⟨na, g _ _ ea⟩

theorem RpO.grow {d : D} {v : V} (r : RpO c t σ H d v) (g : ∀ a o, H a = some o → H' a = some o) : RpO c t σ H' d v := r.imp (fun r => r.grow g) id
/-- an own object is changed -/
theorem EnvOk.mut {i : Nat} {l : Addr} {d d' : D} {o : HO} (h : EnvOk c t σ H ρ) (hi : c.own i = true) (hd : ρ[i]? = some (some d)) (hl : σ[i]? = some (some (.ref l)))
    (new : OwnC c.K (Far c t σ) H o d') : EnvOk c t σ (upd H l o) (ρ.set i (some d')) := by
  have fl : Far c t σ l := .inr (.inr ⟨i, hi, hl⟩)
  have keep : ∀ a o', ¬ Far c t σ a → H a = some o' → Pn o' → ¬ Far c t σ a ∧ upd H l o a = some o' := fun a o' na e _ => ⟨na, by
    rw [upd_ne (fun z => na (by rw [z]; exact fl))]; exact e⟩
  have hlen : i < ρ.length := (List.getElem?_eq_some_iff.mp hd).1
  obtain ⟨l', e1, x, bz⟩ := h.ownv i d hd hi
  rw [hl] at e1; cases e1
  refine ⟨by rw [List.length_set]; exact h.len, fun a o' e pn n => ?_, let ⟨o, e, pn⟩ := h.trk l fl; tabs_upd h.tabs e pn, fun a f => ?_, fun j dj e n => ?_, fun j dj e n => ?_, fun j n e => ?_, h.dist, h.bx, fun p hp => (h.tv p hp).move keep, fun p hp => ?_⟩
  · have hne : a ≠ l := fun z => by
      subst z
      rcases bz with z | z
      · exact n z
      · exact z o' e pn
    rw [upd_ne hne]; exact h.frame a o' e pn n
  · by_cases z : a = l
    · subst z; exact ⟨_, upd_same, new.pn⟩
    · obtain ⟨o', e, pn⟩ := h.trk a f
      exact ⟨o', by rw [upd_ne z]; exact e, pn⟩
  · have hij : i ≠ j := fun z => by subst z; rw [hi] at n; cases n
    rw [List.getElem?_set_ne hij] at e
    obtain ⟨v, e1, r⟩ := h.val j dj e n
    exact ⟨v, e1, r.move keep⟩
  · by_cases hij : i = j
    · subst hij
      rw [List.getElem?_set_self hlen] at e
      cases e
      exact ⟨l, hl, ⟨o, upd_same, new.move keep⟩, bz⟩
    · rw [List.getElem?_set_ne hij] at e
      obtain ⟨l2, e1, x2, z2⟩ := h.ownv j dj e n
      have hne : l2 ≠ l := fun z => by subst z; exact hij (h.dist i j _ hi n hl e1)
      exact ⟨l2, e1, x2.move (fun o' q _ => by rw [upd_ne hne]; exact q) keep, z2⟩
  · by_cases hij : i = j
    · subst hij
      rw [List.getElem?_set_self hlen] at e; cases e
    · rw [List.getElem?_set_ne hij] at e
      exact h.ownn j n e
  · obtain ⟨a, b, e, q⟩ := h.th p hp
    have hne : p.1 ≠ l := fun z => b i hi (by rw [z]; exact hl)
    exact ⟨by rw [upd_ne hne]; exact a, b, e, q⟩

theorem far_set {i : Nat} {x : Option V} {a : Addr} (hi : c.own i = false) : Far c t (σ.set i x) a ↔ Far c t σ a := by
  unfold Far
  have e : ∀ j, c.own j = true → (σ.set i x)[j]? = σ[j]? := fun j hj => List.getElem?_set_ne fun z => by subst z; rw [hi] at hj; cases hj
  constructor
  · rintro (f | f | ⟨j, hj, f⟩)
    · exact .inl f
    · exact .inr (.inl f)
    · rw [e j hj] at f; exact .inr (.inr ⟨j, hj, f⟩)
  · rintro (f | f | ⟨j, hj, f⟩)
    · exact .inl f
    · exact .inr (.inl f)
    · exact .inr (.inr ⟨j, hj, by rw [e j hj]; exact f⟩)
/-- a slot is stored (or forgotten) -/
theorem EnvOk.put {i : Nat} {x : Option V} {y : Option D} (h : EnvOk c t σ H ρ) (hi : c.own i = false) (r : ∀ d, y = some d → ∃ v, x = some v ∧ Rp c.K (Far c t σ) H d v) : EnvOk c t (σ.set i x) H (ρ.set i y) := by
  have ff : Far c t (σ.set i x) = Far c t σ := funext fun a => propext (far_set hi)
  have e : ∀ j, c.own j = true → (σ.set i x)[j]? = σ[j]? ∧ (ρ.set i y)[j]? = ρ[j]? := fun j hj => by
    have hij : i ≠ j := fun z => by subst z; rw [hi] at hj; cases hj
    exact ⟨List.getElem?_set_ne hij, List.getElem?_set_ne hij⟩
  refine ⟨by rw [List.length_set, List.length_set]; exact h.len, h.frame, h.tabs, fun a f => h.trk a (by rw [ff] at f; exact f), fun j d ej n => ?_, fun j d ej n => ?_, fun j n ej => ?_, fun j k l hj hk e1 e2 => ?_, fun b hb => ?_, fun p hp => by rw [ff]; exact h.tv p hp, fun p hp => ?_⟩
  · rw [ff]
    by_cases hij : i = j
    · subst hij
      have hlt : i < ρ.length := by
        have := (List.getElem?_eq_some_iff.mp ej).1
        rwa [List.length_set] at this
      rw [List.getElem?_set_self hlt] at ej
      obtain ⟨v, e1, r1⟩ := r d (Option.some.inj ej)
      exact ⟨v, by rw [List.getElem?_set_self (by rw [h.len]; exact hlt), e1], r1⟩
    · rw [List.getElem?_set_ne hij] at ej ⊢
      exact h.val j d ej n
  · rw [(e j n).2] at ej
    rw [(e j n).1, ff]
    exact h.ownv j d ej n
  · rw [(e j n).2] at ej
    rw [(e j n).1]
    exact h.ownn j n ej
  · rw [(e j hj).1] at e1
    rw [(e k hk).1] at e2
    exact h.dist j k l hj hk e1 e2
  · obtain ⟨a, z⟩ := h.bx b hb
    exact ⟨a, by rw [(e 0 a).1]; exact z⟩
  · obtain ⟨a, b, z⟩ := h.th p hp
    exact ⟨a, fun j hj => by rw [(e j hj).1]; exact b j hj, z⟩
/-- a new object of its own is stored in a slot -/
theorem EnvOk.putNew {i : Nat} {p : Addr} {o : HO} {d : D} (h : EnvOk c t σ H ρ) (hi : c.own i = true) (hb : c.box = none ∨ i ≠ 0) (hlt : i < ρ.length) (hp : H p = none)
    (new : OwnC c.K (Far c t σ) H o d) : EnvOk c t (σ.set i (some (.ref p))) (upd H p o) (ρ.set i (some d)) := by
  have fp := h.far hp
  have keep : ∀ a o', ¬ Far c t σ a → H a = some o' → Pn o' → ¬ Far c t (σ.set i (some (.ref p))) a ∧ upd H p o a = some o' := fun a o' na e _ => by
    have hne : a ≠ p := ne_of_none e hp
    refine ⟨?_, by rw [upd_ne hne]; exact e⟩
    rintro (f | f | ⟨j, hj, f⟩)
    · exact na (.inl f)
    · exact na (.inr (.inl f))
    · by_cases hij : i = j
      · subst hij
        rw [List.getElem?_set_self (by rw [h.len]; exact hlt)] at f
        cases f; exact hne rfl
      · rw [List.getElem?_set_ne hij] at f
        exact na (.inr (.inr ⟨j, hj, f⟩))
  refine ⟨by rw [List.length_set, List.length_set]; exact h.len, fun a o' e pn n => ?_, h.tabs.ext (upd_grow hp), fun a f => ?_, fun j dj ej n => ?_, fun j dj ej n => ?_, fun j n ej => ?_, fun j k l hj hk e1 e2 => ?_, fun b hb' => ?_, fun q hq => (h.tv q hq).move keep, fun q hq => ?_⟩
  · have := h.frame a o' e pn n
    rw [upd_ne (ne_of_none this hp)]; exact this
  · by_cases z : a = p
    · subst z; exact ⟨_, upd_same, new.pn⟩
    · rw [upd_ne z]
      refine h.trk a ?_
      rcases f with f | f | ⟨j, hj, f⟩
      · exact .inl f
      · exact .inr (.inl f)
      · by_cases hij : i = j
        · subst hij
          rw [List.getElem?_set_self (by rw [h.len]; exact hlt)] at f
          cases f; exact absurd rfl z
        · rw [List.getElem?_set_ne hij] at f
          exact .inr (.inr ⟨j, hj, f⟩)
  · have hij : i ≠ j := fun z => by subst z; rw [hi] at n; cases n
    rw [List.getElem?_set_ne hij] at ej ⊢
    obtain ⟨v, e1, r⟩ := h.val j dj ej n
    exact ⟨v, e1, r.move keep⟩
  · by_cases hij : i = j
    · subst hij
      rw [List.getElem?_set_self hlt] at ej
      cases ej
      exact ⟨p, by rw [List.getElem?_set_self (by rw [h.len]; exact hlt)], ⟨o, upd_same, new.move keep⟩, .inr (h.h0n hp)⟩
    · rw [List.getElem?_set_ne hij] at ej ⊢
      obtain ⟨l2, e1, x2, z2⟩ := h.ownv j dj ej n
      exact ⟨l2, e1, x2.move (fun o' q _ => by rw [upd_ne (ne_of_none q hp)]; exact q) keep, z2⟩
  · by_cases hij : i = j
    · subst hij
      rw [List.getElem?_set_self hlt] at ej; cases ej
    · rw [List.getElem?_set_ne hij] at ej ⊢
      exact h.ownn j n ej
  · by_cases hij : i = j
    · subst hij
      by_cases hik : i = k
      · exact hik
      · rw [List.getElem?_set_self (by rw [h.len]; exact hlt)] at e1
        rw [List.getElem?_set_ne hik] at e2
        cases e1
        exact absurd (.inr (.inr ⟨k, hk, e2⟩)) fp
    · rw [List.getElem?_set_ne hij] at e1
      by_cases hik : i = k
      · subst hik
        rw [List.getElem?_set_self (by rw [h.len]; exact hlt)] at e2
        cases e2
        exact absurd (.inr (.inr ⟨j, hj, e1⟩)) fp
      · rw [List.getElem?_set_ne hik] at e2
        exact h.dist j k l hj hk e1 e2
  · obtain ⟨a, z⟩ := h.bx b hb'
    have hij : i ≠ 0 := hb.resolve_left (by rw [hb']; simp)
    exact ⟨a, by rw [List.getElem?_set_ne hij]; exact z⟩
  · obtain ⟨a, b, z⟩ := h.th q hq
    have hne : q.1 ≠ p := ne_of_none a hp
    refine ⟨by rw [upd_ne hne]; exact a, fun j hj e => ?_, z⟩
    by_cases hij : i = j
    · subst hij
      rw [List.getElem?_set_self (by rw [h.len]; exact hlt)] at e
      cases e; exact hne rfl
    · rw [List.getElem?_set_ne hij] at e
      exact b j hj e
end
end PD

end
section
set_option Elab.async false
set_option linter.all false
set_option maxRecDepth 100000
namespace PD
open PySem L2

/-! ### the readings over data -/
abbrev DE := Env → (D → Env → Prop) → Prop
abbrev DT := Env → (Bool → Env → Prop) → Prop
abbrev DA := Env → (List D → Env → Prop) → Prop
structure DEnds where
  nx : Env → Prop
  rt : D → Env → Prop
  bk : Env → Prop
  ct : Env → Prop
abbrev DS := DEnds → Env → Prop

inductive RpOL (c : C0) (t : Tm) (σ : L2.St) (H : Hp) : List D → List V → Prop
  | nil : RpOL c t σ H [] []
  | cons {d : D} {v : V} {ds : List D} {vs : List V} : RpO c t σ H d v → RpOL c t σ H ds vs → RpOL c t σ H (d :: ds) (v :: vs)

def SE (c : C0) (te : TE) (de : DE) : Prop := ∀ (t : Tm) (σ : L2.St) (H : Hp) (ρ : Env) (P : D → Env → Prop) (Q : VK), EnvOk c t σ H ρ → de ρ P →
  (∀ v d H' ρ', EnvOk c t σ H' ρ' → RpO c t σ H' d v → P d ρ' → Q v H') → te σ H Q
/-- .. whose value is no slot's own object -/
def SV (c : C0) (te : TE) (de : DE) : Prop := ∀ (t : Tm) (σ : L2.St) (H : Hp) (ρ : Env) (P : D → Env → Prop) (Q : VK), EnvOk c t σ H ρ → de ρ P →
  (∀ v d H' ρ', EnvOk c t σ H' ρ' → Rp c.K (Far c t σ) H' d v → P d ρ' → Q v H') → te σ H Q
theorem SV.se {c : C0} {te : TE} {de : DE} (h : SV c te de) : SE c te de := fun t σ H ρ P Q e q k => h t σ H ρ P Q e q fun v d H' ρ' e' r p => k v d H' ρ' e' (.inl r) p
def ST (c : C0) (tt : TT) (dt : DT) : Prop := ∀ (t : Tm) (σ : L2.St) (H : Hp) (ρ : Env) (P : Bool → Env → Prop) (Q : Bool → Hp → Prop), EnvOk c t σ H ρ → dt ρ P →
  (∀ b H' ρ', EnvOk c t σ H' ρ' → P b ρ' → Q b H') → tt σ H Q
/-- n arguments -/
def SA (c : C0) (n : Nat) (ta : TA) (da : DA) : Prop := ∀ (t : Tm) (σ : L2.St) (H : Hp) (ρ : Env) (P : List D → Env → Prop) (Q : List V → Hp → Prop), EnvOk c t σ H ρ → da ρ P →
  (∀ vs ds H' ρ', EnvOk c t σ H' ρ' → RpL c.K (Far c t σ) H' ds vs → vs.length = n → P ds ρ' → Q vs H') → ta σ H Q
def SAO (c : C0) (ta : TA) (da : DA) : Prop := ∀ (t : Tm) (σ : L2.St) (H : Hp) (ρ : Env) (P : List D → Env → Prop) (Q : List V → Hp → Prop), EnvOk c t σ H ρ → da ρ P →
  (∀ vs ds H' ρ', EnvOk c t σ H' ρ' → RpOL c t σ H' ds vs → P ds ρ' → Q vs H') → ta σ H Q
def SS (c : C0) (ts : TS) (ds : DS) : Prop := ∀ (t : Tm) (σ : L2.St) (H : Hp) (ρ : Env) (De : DEnds) (E : Ends), EnvOk c t σ H ρ → ds De ρ →
  (∀ σ' H' ρ', EnvOk c t σ' H' ρ' → De.nx ρ' → E.nx σ' H') → (∀ v d σ' H' ρ', EnvOk c t σ' H' ρ' → RpO c t σ' H' d v → De.rt d ρ' → E.rt v H') →
  (∀ σ' H' ρ', EnvOk c t σ' H' ρ' → De.bk ρ' → E.bk σ' H') → (∀ σ' H' ρ', EnvOk c t σ' H' ρ' → De.ct ρ' → E.ct σ' H') → ts E σ H

section
variable {c : C0} {t : Tm} {σ : L2.St} {H H' : Hp} {ρ : Env}

/-- a value on the way is kept -/
theorem EnvOk.push {d : D} {v : V} (h : EnvOk c t σ H ρ) (r : RpO c t σ H d v) : ∃ t' : Tm, t'.hold = t.hold ∧ EnvOk c t' σ H ρ ∧ ∀ H' ρ', EnvOk c t' σ H' ρ' → EnvOk c t σ H' ρ' ∧ RpO c t σ H' d v := by
  rcases r with r | r
  · refine ⟨⟨(d, v) :: t.vals, t.hold⟩, rfl, { h with tv := fun p hp => ?_ }, fun H' ρ' h' => ⟨{ h' with tv := fun p hp => h'.tv p (List.mem_cons_of_mem _ hp) }, .inl (h'.tv (d, v) List.mem_cons_self)⟩⟩
    rcases List.mem_cons.mp hp with e | hp
    · rw [e]; exact r
    · exact h.tv p hp
  · exact ⟨t, rfl, h, fun H' ρ' h' => ⟨h', .inr r⟩⟩
theorem Far.hold {t' : Tm} (e : t'.hold = t.hold) : Far c t' σ = Far c t σ := by
  funext a; unfold Far; rw [e]
theorem RpO.hold {t' : Tm} {d : D} {v : V} (e : t'.hold = t.hold) (r : RpO c t' σ H d v) : RpO c t σ H d v := by
  unfold RpO at r ⊢; rw [Far.hold e] at r; exact r
theorem RpO.hold' {t' : Tm} {d : D} {v : V} (e : t'.hold = t.hold) (r : RpO c t σ H d v) : RpO c t' σ H d v := r.hold e.symm
theorem RpOL.hold {t' : Tm} (e : t'.hold = t.hold) : ∀ {ds : List D} {vs : List V}, RpOL c t' σ H ds vs → RpOL c t σ H ds vs
  | _, _, .nil => .nil
  | _, _, .cons a b => .cons (a.hold e) (RpOL.hold e b)
theorem RpOL.length : ∀ {ds : List D} {vs : List V}, RpOL c t σ H ds vs → ds.length = vs.length
  | _, _, .nil => rfl
  | _, _, .cons _ b => congrArg (· + 1) (RpOL.length b)

/-! values, sequences -/
def NotOwn : D → Prop
  | .own _ => False
  | _ => True
theorem RpO.rp {d : D} {v : V} (r : RpO c t σ H d v) (n : NotOwn d) : Rp c.K (Far c t σ) H d v := by
  rcases r with r | ⟨i, rfl, _, _⟩
  · exact r
  · exact False.elim n
def AllNot : List D → Prop
  | [] => True
  | d :: ds => NotOwn d ∧ AllNot ds
theorem RpOL.rp : ∀ {ds : List D} {vs : List V}, RpOL c t σ H ds vs → AllNot ds → RpL c.K (Far c t σ) H ds vs
  | _, _, .nil, _ => .nil
  | _, _, .cons a b, n => .cons (a.rp n.1) (RpOL.rp b n.2)
theorem RpL.rpo : ∀ {ds : List D} {vs : List V}, RpL c.K (Far c t σ) H ds vs → RpOL c t σ H ds vs
  | _, _, .nil => .nil
  | _, _, .cons a b => .cons (.inl a) (RpL.rpo b)

/-- a list, its items -/
def onL (ρ : Env) (d : D) (k : List D → Prop) : Prop :=
  match d with
  | .lst xs => k xs
  | .own i => match ρ[i]? with
    | some (some (.lst xs)) => k xs
    | _ => False
  | _ => False
/-- a list, a tuple, the script: its items -/
def onS (ρ : Env) (d : D) (k : List D → Prop) : Prop :=
  match d with
  | .lst xs => k xs
  | .tup xs => k xs
  | .scr ns => k (ns.map D.int)
  | .own i => match ρ[i]? with
    | some (some (.lst xs)) => k xs
    | _ => False
  | _ => False
theorem EnvOk.ownL {i : Nat} {xs : List D} {v : V} (h : EnvOk c t σ H ρ) (hi : c.own i = true) (e : σ[i]? = some (some v)) (hd : ρ[i]? = some (some (.lst xs))) : ∃ a vs, v = .ref a ∧ H a = some (.lst vs) ∧ RpL c.K (Far c t σ) H xs vs := by
  obtain ⟨l, e1, ⟨o, ho, vs, rfl, r⟩, _⟩ := h.ownv i _ hd hi
  rw [e] at e1; cases e1
  exact ⟨l, vs, rfl, ho, r⟩
theorem onL_ok {d : D} {v : V} {k : List D → Prop} (h : EnvOk c t σ H ρ) (r : RpO c t σ H d v) (q : onL ρ d k) : ∃ xs a vs, v = .ref a ∧ H a = some (.lst vs) ∧ RpL c.K (Far c t σ) H xs vs ∧ k xs := by
  rcases r with r | ⟨i, rfl, hi, e⟩
  · cases d with
    | lst xs =>
      obtain ⟨a, vs, e, _, h1, h2⟩ := r.seqL
      exact ⟨xs, a, vs, e, h1, h2, q⟩
    | own i => cases r
    | _ => exact False.elim q
  · have q' : (match ρ[i]? with
      | some (some (.lst xs)) => k xs
      | _ => False) := q
    split at q'
    · rename_i xs hx
      obtain ⟨a, vs, e1, h1, h2⟩ := h.ownL hi e hx
      exact ⟨xs, a, vs, e1, h1, h2, q'⟩
    · exact False.elim q'
theorem onS_ok {d : D} {v : V} {k : List D → Prop} (h : EnvOk c t σ H ρ) (r : RpO c t σ H d v) (q : onS ρ d k) : ∃ xs a vs, v = .ref a ∧ (SqL c.K H a vs ∨ SqT c.K H a vs) ∧ RpL c.K (Far c t σ) H xs vs ∧ k xs := by
  rcases r with r | ⟨i, rfl, hi, e⟩
  · cases d with
    | lst xs =>
      obtain ⟨a, vs, e, _, h1, h2⟩ := r.seqL
      exact ⟨xs, a, vs, e, .inl (.of h1), h2, q⟩
    | tup xs =>
      obtain ⟨a, vs, e, _, h1, h2⟩ := r.seqT
      exact ⟨xs, a, vs, e, .inr (.of h1), h2, q⟩
    | scr ns =>
      obtain ⟨a, e, h1⟩ := r.seqS
      exact ⟨_, a, _, e, .inl h1, .of_ints ns, q⟩
    | own i => cases r
    | _ => exact False.elim q
  · have q' : onL ρ (.own i) k := q
    obtain ⟨xs, a, vs, e, h1, h2, h3⟩ := onL_ok h (.inr ⟨i, rfl, hi, e⟩) q'
    exact ⟨xs, a, vs, e, .inl (.of h1), h2, h3⟩

/-! ### names, constants -/
def dVar (i : Nat) : DE := fun ρ P => match ρ[i]? with
  | some (some d) => P d ρ
  | _ => False
def dOwn (i : Nat) : DE := fun ρ P => match ρ[i]? with
  | some (some _) => P (.own i) ρ
  | _ => False
def dC (d : D) : DE := fun ρ P => P d ρ
theorem sv_var (i : Nat) (hi : c.own i = false) : SV c (tVar i) (dVar i) := fun t σ H ρ P Q h q k => by
  unfold dVar at q
  split at q
  · rename_i d hd
    obtain ⟨v, e, r⟩ := h.val i d hd hi
    exact ⟨v, e, k v d H ρ h r q⟩
  · exact False.elim q
theorem se_own (i : Nat) (hi : c.own i = true) : SE c (tVar i) (dOwn i) := fun t σ H ρ P Q h q k => by
  unfold dOwn at q
  split at q
  · rename_i d hd
    obtain ⟨l, e, x, _⟩ := h.ownv i d hd hi
    exact ⟨_, e, k _ _ H ρ h (.inr ⟨i, rfl, hi, e⟩) q⟩
  · exact False.elim q
theorem sv_non : SV c (tC .non) (dC .non) := fun t σ H ρ P Q h q k => k _ _ H ρ h .non q
theorem sv_bl {b : Bool} : SV c (tC (.bl b)) (dC (.bl b)) := fun t σ H ρ P Q h q k => k _ _ H ρ h (.bl b) q
theorem sv_int {i : Int} : SV c (tC (.int i)) (dC (.int i)) := fun t σ H ρ P Q h q k => k _ _ H ρ h (.int i) q
theorem sv_str {s : Str} : SV c (tC (.str s)) (dC (.str s)) := fun t σ H ρ P Q h q k => k _ _ H ρ h (.str s) q
theorem sv_fn {a : Addr} : SV c (tC (.ref a)) (dC (.fn a)) := fun t σ H ρ P Q h q k => k _ _ H ρ h (.fn a) q

/-! ### operators -/
/-- a two-place operation on values, over data -/
def SR2 (c : C0) (r : R2) (f : Env → D → D → (D → Prop) → Prop) : Prop := ∀ (t : Tm) (σ : L2.St) (H : Hp) (ρ : Env) (x y : V) (dx dy : D) (P : D → Prop) (Q : VK), EnvOk c t σ H ρ → RpO c t σ H dx x → RpO c t σ H dy y →
  f ρ dx dy P → (∀ v d H', EnvOk c t σ H' ρ → Rp c.K (Far c t σ) H' d v → P d → Q v H') → r x y H Q
def SR1 (c : C0) (r : V → Hp → VK → Prop) (f : Env → D → (D → Prop) → Prop) : Prop := ∀ (t : Tm) (σ : L2.St) (H : Hp) (ρ : Env) (x : V) (dx : D) (P : D → Prop) (Q : VK), EnvOk c t σ H ρ → RpO c t σ H dx x →
  f ρ dx P → (∀ v d H', EnvOk c t σ H' ρ → Rp c.K (Far c t σ) H' d v → P d → Q v H') → r x H Q
def SRL (c : C0) (r : List V → Hp → VK → Prop) (f : Env → List D → (D → Prop) → Prop) : Prop := ∀ (t : Tm) (σ : L2.St) (H : Hp) (ρ : Env) (xs : List V) (ds : List D) (P : D → Prop) (Q : VK), EnvOk c t σ H ρ → RpOL c t σ H ds xs →
  f ρ ds P → (∀ v d H', EnvOk c t σ H' ρ → Rp c.K (Far c t σ) H' d v → P d → Q v H') → r xs H Q
def dOp (f : Env → D → D → (D → Prop) → Prop) (a b : DE) : DE := fun ρ P => a ρ fun x ρ1 => b ρ1 fun y ρ2 => f ρ2 x y fun z => P z ρ2
def dUn (f : Env → D → (D → Prop) → Prop) (a : DE) : DE := fun ρ P => a ρ fun x ρ1 => f ρ1 x fun z => P z ρ1
variable {r : R2} {f : Env → D → D → (D → Prop) → Prop} {ta tb tc : TE} {da db dc : DE}
/-- two expressions in a row -/
theorem se_two {P : D → D → Env → Prop} {R : V → V → Hp → Prop} (ha : SE c ta da) (hb : SE c tb db) (h : EnvOk c t σ H ρ) (q : da ρ fun x ρ1 => db ρ1 fun y ρ2 => P x y ρ2)
    (k : ∀ x y dx dy H' ρ', EnvOk c t σ H' ρ' → RpO c t σ H' dx x → RpO c t σ H' dy y → P dx dy ρ' → R x y H') : ta σ H fun x H1 => tb σ H1 fun y H2 => R x y H2 := by
  refine ha t σ H ρ _ _ h q fun v d H1 ρ1 h1 r1 q1 => ?_
  obtain ⟨t', e, h1', back⟩ := h1.push r1
  refine hb t' σ H1 ρ1 _ _ h1' q1 fun v2 d2 H2 ρ2 h2 r2 q2 => ?_
  obtain ⟨h3, r3⟩ := back H2 ρ2 h2
  exact k v v2 d d2 H2 ρ2 h3 r3 (r2.hold e) q2
theorem sv_op (hr : SR2 c r f) (ha : SE c ta da) (hb : SE c tb db) : SV c (tOp r ta tb) (dOp f da db) := fun t σ H ρ P Q h q k =>
  se_two (P := fun x y ρ2 => f ρ2 x y fun z => P z ρ2) ha hb h q fun x y dx dy H' ρ' h' rx ry q' => hr t σ H' ρ' x y dx dy _ _ h' rx ry q' fun v d H2 h2 r2 p2 => k v d H2 ρ' h2 r2 p2
theorem sv_un {r : V → Hp → VK → Prop} {f : Env → D → (D → Prop) → Prop} (hr : SR1 c r f) (ha : SE c ta da) : SV c (tUn r ta) (dUn f da) := fun t σ H ρ P Q h q k =>
  ha t σ H ρ _ _ h q fun v d H1 ρ1 h1 r1 q1 => hr t σ H1 ρ1 v d _ _ h1 r1 q1 fun v2 d2 H2 h2 r2 p2 => k v2 d2 H2 ρ1 h2 r2 p2

/-- ints in -/
def i2 (C : Int → Int → Prop) (g : Int → Int → D) (_ : Env) : D → D → (D → Prop) → Prop
  | .int i, .int j, k => C i j ∧ k (g i j)
  | _, _, _ => False
def i2' (g : Int → Int → D) (_ : Env) : D → D → (D → Prop) → Prop
  | .int i, .int j, k => k (g i j)
  | _, _, _ => False
def u1 (g : Int → D) (_ : Env) : D → (D → Prop) → Prop
  | .int i, k => k (g i)
  | _, _ => False
theorem RpO.int {i : Int} {v : V} (r : RpO c t σ H (.int i) v) : v = .int i := by
  rcases r with r | ⟨j, e, _⟩
  · cases r; rfl
  · cases e
theorem RpO.str {i : Str} {v : V} (r : RpO c t σ H (.str i) v) : v = .str i := by
  rcases r with r | ⟨j, e, _⟩
  · cases r; rfl
  · cases e
theorem RpO.bl {i : Bool} {v : V} (r : RpO c t σ H (.bl i) v) : v = .bl i := by
  rcases r with r | ⟨j, e, _⟩
  · cases r; rfl
  · cases e
theorem RpO.non {v : V} (r : RpO c t σ H .non v) : v = .non := by
  rcases r with r | ⟨j, e, _⟩
  · cases r; rfl
  · cases e
/-- scalars -/
def vD : D → Option V
  | .non => some .non
  | .bl b => some (.bl b)
  | .int i => some (.int i)
  | .str s => some (.str s)
  | _ => none
theorem RpO.vD {d : D} {v w : V} (r : RpO c t σ H d v) (e : vD d = some w) : v = w := by
  cases d with
  | non => cases e; exact r.non
  | bl b => cases e; exact r.bl
  | int b => cases e; exact r.int
  | str b => cases e; exact r.str
  | _ => cases e
theorem vD_rp {d : D} {w : V} {A : Addr → Prop} {K : PySem.W.Frag} (e : vD d = some w) : Rp K A H d w := by
  cases d with
  | non => cases e; exact .non
  | bl b => cases e; exact .bl b
  | int b => cases e; exact .int b
  | str b => cases e; exact .str b
  | _ => cases e
theorem sr_I {C : Int → Int → Prop} {g : Int → Int → V} {g' : Int → Int → D} (e : ∀ i j, vD (g' i j) = some (g i j)) : SR2 c (rI C g) (i2 C g') := fun t σ H ρ x y dx dy P Q h rx ry q k => by
  cases dx with
  | int i => cases dy with
    | int j => exact ⟨i, j, rx.int, ry.int, q.1, k _ _ H h (vD_rp (e i j)) q.2⟩
    | _ => exact False.elim q
  | _ => exact False.elim q
theorem sr_I0 {g : Int → Int → V} {g' : Int → Int → D} (e : ∀ i j, vD (g' i j) = some (g i j)) : SR2 c (rI0 g) (i2' g') := fun t σ H ρ x y dx dy P Q h rx ry q k => by
  cases dx with
  | int i => cases dy with
    | int j => exact ⟨i, j, rx.int, ry.int, k _ _ H h (vD_rp (e i j)) q⟩
    | _ => exact False.elim q
  | _ => exact False.elim q
theorem sr_U {g : Int → V} {g' : Int → D} (e : ∀ i, vD (g' i) = some (g i)) : SR1 c (rU g) (u1 g') := fun t σ H ρ x dx P Q h rx q k => by
  cases dx with
  | int i => exact ⟨i, rx.int, k _ _ H h (vD_rp (e i)) q⟩
  | _ => exact False.elim q
end
end PD

end
section
set_option Elab.async false
set_option linter.all false
set_option maxRecDepth 100000
namespace PD
open PySem PySem.Spec PyProof.Rows L2

/-! ### operators by values, wider -/
section
variable {X : Cx}
def rAdd4 (K : PySem.W.Frag) : R2 := fun x y H Q => rI0 (fun i j => .int (i + j)) x y H Q ∨ (∃ i j, x = .str i ∧ y = .str j ∧ i.length + j.length ≤ sizeLine ∧ Q (.str (i ++ j)) H) ∨ rCatA K x y H Q ∨ rCat x y H Q
theorem op_add4 : OpR X (binaryOp .Add) (rAdd4 X.K) := OpR.or op_add (OpR.or op_add_str (OpR.or op_catA op_cat))
def rDiv2 : R2 := fun x y H Q => rI CDivW (fun i j => .int (i / j)) x y H Q ∨ rI CDivN (fun i j => .int (i.fdiv j)) x y H Q
theorem op_div2 : OpR X (binaryOp .FloorDiv) rDiv2 := OpR.or op_fdivW op_fdivN
end

section
variable {c : C0} {t : Tm} {σ : L2.St} {H H' : Hp} {ρ : Env}

def addP (ρ : Env) (x y : D) (k : D → Prop) : Prop :=
  match x, y with
  | .int i, .int j => k (.int (i + j))
  | .str i, .str j => i.length + j.length ≤ sizeLine ∧ k (.str (i ++ j))
  | .tup xs, .tup ys => xs.length + ys.length ≤ sizeLine ∧ k (.tup (xs ++ ys))
  | x, y => onL ρ x fun xs => onL ρ y fun ys => xs.length + ys.length ≤ sizeLine ∧ k (.lst (xs ++ ys))
theorem addL {x y : V} {dx dy : D} {P : D → Prop} {Q : VK} (h : EnvOk c t σ H ρ) (rx : RpO c t σ H dx x) (ry : RpO c t σ H dy y) (q : onL ρ dx fun xs => onL ρ dy fun ys => xs.length + ys.length ≤ sizeLine ∧ P (.lst (xs ++ ys)))
    (k : ∀ v d H', EnvOk c t σ H' ρ → Rp c.K (Far c t σ) H' d v → P d → Q v H') : rAdd4 c.K x y H Q := by
  obtain ⟨xs, a, vs, rfl, ha, rxs, q⟩ := onL_ok h rx q
  obtain ⟨ys, b, ws, rfl, hb, rys, q1, q2⟩ := onL_ok h ry q
  refine .inr (.inr (.inr ⟨a, b, vs, ws, rfl, rfl, ha, hb, by rw [← rxs.length, ← rys.length]; exact q1, fun p hp => ?_⟩))
  exact k _ _ _ (h.new hp) (.lst (h.far hp) upd_same ((rxs.append rys).grow (upd_grow hp))) q2
theorem sr_add : SR2 c (rAdd4 c.K) addP := fun t σ H ρ x y dx dy P Q h rx ry q k => by
  unfold addP at q
  split at q
  · rename_i i j
    exact .inl ⟨i, j, rx.int, ry.int, k _ _ H h (.int _) q⟩
  · rename_i i j
    exact .inr (.inl ⟨i, j, rx.str, ry.str, q.1, k _ _ H h (.str _) q.2⟩)
  · rename_i xs ys
    obtain ⟨a, vs, rfl, na, ha, rxs⟩ := (rx.rp trivial).seqT
    obtain ⟨b, ws, rfl, nb, hb, rys⟩ := (ry.rp trivial).seqT
    refine .inr (.inr (.inl ⟨a, b, vs, ws, rfl, rfl, .of ha, .of hb, by rw [← rxs.length, ← rys.length]; exact q.1, fun e => ?_, fun _ e => ?_, fun _ _ p hp => ?_⟩))
    · subst e
      cases rxs
      exact k _ _ H h (ry.rp trivial) q.2
    · subst e
      cases rys
      rw [List.append_nil] at q
      exact k _ _ H h (rx.rp trivial) q.2
    · exact k _ _ _ (h.new hp) (.tup (h.far hp) upd_same ((rxs.append rys).grow (upd_grow hp))) q.2
  · exact addL h rx ry q k
theorem sr_sub : SR2 c (rI0 fun i j => .int (i - j)) (i2' fun i j => .int (i - j)) := sr_I0 fun _ _ => rfl
def MulOk (i j : Int) : Prop := i.natAbs.log2 + j.natAbs.log2 < 1000000
theorem sr_mul : SR2 c (rI CMulW fun i j => .int (i * j)) (i2 MulOk fun i j => .int (i * j)) := sr_I fun _ _ => rfl
def DivOk (_ j : Int) : Prop := 0 < j ∧ j.natAbs.log2 < 9000
theorem sr_div : SR2 c (rI CDivW fun i j => .int (i / j)) (i2 DivOk fun i j => .int (i / j)) := sr_I fun _ _ => rfl
theorem sr_divN : SR2 c (rI CDivN fun i j => .int (i.fdiv j)) (i2 CDivN fun i j => .int (i.fdiv j)) := sr_I fun _ _ => rfl
theorem sr_mod : SR2 c (rI (fun _ j => 0 < j) fun i j => .int (i % j)) (i2 (fun _ j => 0 < j) fun i j => .int (i % j)) := sr_I fun _ _ => rfl
theorem sr_shl : SR2 c (rI CPow fun i j => .int (i * 2 ^ j.toNat)) (i2 CPow fun i j => .int (i * 2 ^ j.toNat)) := sr_I fun _ _ => rfl
theorem sr_pow : SR2 c (rI CPow fun i j => .int (i ^ j.toNat)) (i2 CPow fun i j => .int (i ^ j.toNat)) := sr_I fun _ _ => rfl
theorem sr_neg : SR1 c (rU fun i => .int (-i)) (u1 fun i => .int (-i)) := sr_U fun _ => rfl
theorem sr_lt : SR2 c (rI0 fun i j => .bl (decide (i < j))) (i2' fun i j => .bl (decide (i < j))) := sr_I0 fun _ _ => rfl
theorem sr_le : SR2 c (rI0 fun i j => .bl (decide (i ≤ j))) (i2' fun i j => .bl (decide (i ≤ j))) := sr_I0 fun _ _ => rfl
theorem sr_gt : SR2 c (rI0 fun i j => .bl (decide (j < i))) (i2' fun i j => .bl (decide (j < i))) := sr_I0 fun _ _ => rfl
theorem sr_ge : SR2 c (rI0 fun i j => .bl (decide (j ≤ i))) (i2' fun i j => .bl (decide (j ≤ i))) := sr_I0 fun _ _ => rfl

/-! ### is -/
def isN : D → Bool
  | .non => true
  | _ => false
def isNP (neg : Bool) (_ : Env) (x y : D) (k : D → Prop) : Prop := match y with
  | .non => k (.bl (if neg then !isN x else isN x))
  | _ => False
theorem RpO.isN {d : D} {v : V} (r : RpO c t σ H d v) (h : EnvOk c t σ H ρ) : decide (v = .non) = isN d := by
  rcases r with r | ⟨i, rfl, hi, e⟩
  · cases r <;> first | rfl | (exact decide_eq_false (fun z => by cases z))
  · cases hd : ρ[i]? with
    | none =>
      have l1 := List.getElem?_eq_none_iff.mp hd
      have l2 := (List.getElem?_eq_some_iff.mp e).1
      have := h.len
      omega
    | some o =>
      cases o with
      | none =>
        have := h.ownn i hi hd
        rw [e] at this; cases this
      | some d =>
        obtain ⟨l, e1, _⟩ := h.ownv i d hd hi
        rw [e] at e1; cases e1
        exact decide_eq_false (fun z => by cases z)
theorem sr_isN : SR2 c (fun x y H Q => y = .non ∧ Q (.bl (decide (x = .non))) H) (isNP false) := fun t σ H ρ x y dx dy P Q h rx ry q k => by
  cases dy with
  | non =>
    refine ⟨ry.non, ?_⟩
    rw [rx.isN h]
    exact k _ _ H h (.bl _) q
  | _ => exact False.elim q
theorem sr_notN : SR2 c (fun x y H Q => y = .non ∧ Q (.bl (!decide (x = .non))) H) (isNP true) := fun t σ H ρ x y dx dy P Q h rx ry q k => by
  cases dy with
  | non =>
    refine ⟨ry.non, ?_⟩
    rw [rx.isN h]
    exact k _ _ H h (.bl _) q
  | _ => exact False.elim q

/-! ### == -/
mutual
def toPy : D → PyData
  | .non => .none
  | .bl b => .bool b
  | .int i => .int i
  | .str s => .str s
  | .tup xs => .tuple (toPys xs)
  | .lst xs => .list (toPys xs)
  | .fn _ => .none
  | .own _ => .none
  | .dct _ _ => .none
  | .scr ns => .list (ns.map PyData.int)
def toPys : List D → List PyData
  | [] => []
  | x :: xs => toPy x :: toPys xs
end
mutual
/-- data of at most that depth -/
def okN : Nat → D → Bool
  | _, .non => true
  | _, .bl _ => true
  | _, .int _ => true
  | _, .str s => PyData.strOk s
  | 0, .tup _ => false
  | n + 1, .tup xs => okNs n xs
  | 0, .lst _ => false
  | n + 1, .lst xs => okNs n xs
  | _, .fn _ => false
  | _, .own _ => false
  | _, .dct _ _ => false
  | _, .scr _ => false
def okNs : Nat → List D → Bool
  | _, [] => true
  | n, x :: xs => okN n x && okNs n xs
end

mutual
theorem Rp.dp {K : PySem.W.Frag} {A : Addr → Prop} : ∀ {n : Nat} {d : D} {v : V}, okN n d = true → Rp K A H d v → Dp K H v (toPy d)
  | _, .non, _, _, .non => by rw [toPy]; exact .non
  | _, .bl _, _, _, .bl b => by rw [toPy]; exact .bl b
  | _, .int _, _, _, .int b => by rw [toPy]; exact .int b
  | _, .str _, _, _, .str b => by rw [toPy]; exact .str b
  | n + 1, .tup xs, _, o, .tup _ e r => by rw [toPy]; exact .tup (.of e) (RpL.dp (n := n) (by rw [okN] at o; exact o) r)
  | 0, .tup xs, _, o, _ => by rw [okN] at o; cases o
  | n + 1, .lst xs, _, o, .lst _ e r => by rw [toPy]; exact .lst (.of e) (RpL.dp (n := n) (by rw [okN] at o; exact o) r)
  | 0, .lst xs, _, o, _ => by rw [okN] at o; cases o
  | _, .fn _, _, o, _ => by rw [okN] at o; cases o
  | _, .own _, _, o, _ => by rw [okN] at o; cases o
  | _, .dct _ _, _, o, _ => by rw [okN] at o; cases o
  | _, .scr _, _, o, _ => by rw [okN] at o; cases o
theorem RpL.dp {K : PySem.W.Frag} {A : Addr → Prop} : ∀ {n : Nat} {ds : List D} {vs : List V}, okNs n ds = true → RpL K A H ds vs → DpAll K H vs (toPys ds)
  | _, [], _, _, .nil => by rw [toPys]; exact .nil
  | n, x :: xs, _, o, .cons a b => by
    rw [okNs, Bool.and_eq_true] at o
    rw [toPys]
    exact .cons (Rp.dp o.1 a) (RpL.dp o.2 b)
end
mutual
theorem okN_shape : ∀ {n : Nat} {d : D}, okN n d = true → (toPy d).canLay0 = true ∧ (toPy d).depth ≤ n
  | _, .non, _ => by rw [toPy]; exact ⟨by rw [PyData.canLay0], by rw [PyData.depth]; exact Nat.zero_le _⟩
  | _, .bl _, _ => by rw [toPy]; exact ⟨by rw [PyData.canLay0], by rw [PyData.depth]; exact Nat.zero_le _⟩
  | _, .int _, _ => by rw [toPy]; exact ⟨by rw [PyData.canLay0], by rw [PyData.depth]; exact Nat.zero_le _⟩
  | _, .str _, o => by rw [okN] at o; rw [toPy]; exact ⟨by rw [PyData.canLay0]; exact o, by rw [PyData.depth]; exact Nat.zero_le _⟩
  | n + 1, .tup xs, o => by
    rw [okN] at o
    have := okNs_shape o
    rw [toPy]
    exact ⟨by rw [PyData.canLay0]; exact this.1, by rw [PyData.depth]; exact Nat.succ_le_succ this.2⟩
  | 0, .tup xs, o => by rw [okN] at o; cases o
  | n + 1, .lst xs, o => by
    rw [okN] at o
    have := okNs_shape o
    rw [toPy]
    exact ⟨by rw [PyData.canLay0]; exact this.1, by rw [PyData.depth]; exact Nat.succ_le_succ this.2⟩
  | 0, .lst xs, o => by rw [okN] at o; cases o
  | _, .fn _, o => by rw [okN] at o; cases o
  | _, .own _, o => by rw [okN] at o; cases o
  | _, .dct _ _, o => by rw [okN] at o; cases o
  | _, .scr _, o => by rw [okN] at o; cases o
theorem okNs_shape : ∀ {n : Nat} {ds : List D}, okNs n ds = true → PyData.canLayAll0 (toPys ds) = true ∧ PyData.depthAll (toPys ds) ≤ n
  | _, [], _ => by rw [toPys]; exact ⟨by rw [PyData.canLayAll0], by rw [PyData.depthAll]; exact Nat.zero_le _⟩
  | n, x :: xs, o => by
    rw [okNs, Bool.and_eq_true] at o
    have h1 := okN_shape o.1
    have h2 := okNs_shape o.2
    rw [toPys]
    exact ⟨by rw [PyData.canLayAll0, h1.1, h2.1]; rfl, by rw [PyData.depthAll]; exact Nat.max_le.mpr ⟨h1.2, h2.2⟩⟩
end
mutual
theorem okN_mono : ∀ {n m : Nat} {d : D}, n ≤ m → okN n d = true → okN m d = true
  | _, _, .non, _, _ => by rw [okN]
  | _, _, .bl _, _, _ => by rw [okN]
  | _, _, .int _, _, _ => by rw [okN]
  | _, _, .str _, _, o => by rw [okN] at o ⊢; exact o
  | n + 1, m + 1, .tup xs, h, o => by rw [okN] at o ⊢; exact okNs_mono (Nat.le_of_succ_le_succ h) o
  | 0, _, .tup xs, _, o => by rw [okN] at o; cases o
  | n + 1, 0, .tup xs, h, o => by cases h
  | n + 1, m + 1, .lst xs, h, o => by rw [okN] at o ⊢; exact okNs_mono (Nat.le_of_succ_le_succ h) o
  | 0, _, .lst xs, _, o => by rw [okN] at o; cases o
  | n + 1, 0, .lst xs, h, o => by cases h
  | _, _, .fn _, _, o => by rw [okN] at o; cases o
  | _, _, .own _, _, o => by rw [okN] at o; cases o
  | _, _, .dct _ _, _, o => by rw [okN] at o; cases o
  | _, _, .scr _, _, o => by rw [okN] at o; cases o
theorem okNs_mono : ∀ {n m : Nat} {ds : List D}, n ≤ m → okNs n ds = true → okNs m ds = true
  | _, _, [], _, _ => by rw [okNs]
  | _, _, x :: xs, h, o => by
    rw [okNs, Bool.and_eq_true] at o ⊢
    exact ⟨okN_mono h o.1, okNs_mono h o.2⟩
end
theorem okN_shaped {n : Nat} {d : D} (h : n ≤ 64) (o : okN n d = true) : SeqAt.shaped (toPy d) = true := by
  have := okN_shape o
  unfold SeqAt.shaped
  rw [this.1, decide_eq_true (Nat.le_trans this.2 h)]; rfl
/-- of an own object what it holds -/
def deref (ρ : Env) : D → D
  | .own i => match ρ[i]? with
    | some (some d) => d
    | _ => .own i
  | d => d
theorem okN_notOwn {n : Nat} {i : Nat} : okN n (.own i) ≠ true := by
  cases n <;> (rw [okN]; intro h; cases h)
theorem RpO.dp {n : Nat} {d : D} {v : V} (h : EnvOk c t σ H ρ) (r : RpO c t σ H d v) (o : okN n (deref ρ d) = true) : Dp c.K H v (toPy (deref ρ d)) := by
  rcases r with r | ⟨i, rfl, hi, e⟩
  · cases d with
    | own i => cases r
    | _ => exact r.dp o
  · cases hz : ρ[i]? with
    | none =>
      have e0 : deref ρ (.own i) = .own i := by unfold deref; simp only [hz]
      rw [e0] at o
      exact absurd o okN_notOwn
    | some z => cases z with
     | none =>
      have e0 : deref ρ (.own i) = .own i := by unfold deref; simp only [hz]
      rw [e0] at o
      exact absurd o okN_notOwn
     | some d =>
      have e0 : deref ρ (.own i) = d := by unfold deref; simp only [hz]
      rw [e0] at o ⊢
      obtain ⟨l, e1, ⟨ob, ho, x⟩, _⟩ := h.ownv i d hz hi
      rw [e] at e1; cases e1
      cases d with
      | lst ds =>
        obtain ⟨vs, rfl, r⟩ := x
        cases n with
        | zero => rw [okN] at o; cases o
        | succ n =>
          rw [okN] at o
          rw [toPy]
          exact .lst (.of ho) (r.dp o)
      | dct ks ds => rw [okN] at o; cases o
      | _ => exact False.elim x
def eqD (x y : D) : Bool := PyData.eqv (toPy x) (toPy y)
def eqP (ρ : Env) (x y : D) (k : D → Prop) : Prop := okN 60 (deref ρ x) = true ∧ okN 60 (deref ρ y) = true ∧ k (.bl (eqD (deref ρ x) (deref ρ y)))
def neP (ρ : Env) (x y : D) (k : D → Prop) : Prop := okN 60 (deref ρ x) = true ∧ okN 60 (deref ρ y) = true ∧ k (.bl (!eqD (deref ρ x) (deref ρ y)))
theorem sr_eq : SR2 c (rEqD c.K) eqP := fun t σ H ρ x y dx dy P Q h rx ry q k =>
  ⟨_, _, rx.dp h q.1, ry.dp h q.2.1, okN_shaped (by decide) q.1, okN_shaped (by decide) q.2.1, k _ _ H h (.bl _) q.2.2⟩
theorem sr_ne : SR2 c (rNeD c.K) neP := fun t σ H ρ x y dx dy P Q h rx ry q k =>
  ⟨_, _, rx.dp h q.1, ry.dp h q.2.1, okN_shaped (by decide) q.1, okN_shaped (by decide) q.2.1, k _ _ H h (.bl _) q.2.2⟩
/-! what == says -/
theorem eqD_int (a b : Int) : eqD (.int a) (.int b) = decide (a = b) := by
  unfold eqD; rw [toPy, toPy, PyData.eqv]; rfl
theorem eqD_bl (a b : Bool) : eqD (.bl a) (.bl b) = (a == b) := by
  unfold eqD; rw [toPy, toPy, PyData.eqv]
theorem eqD_str (a b : Str) : eqD (.str a) (.str b) = (a == b) := by
  unfold eqD; rw [toPy, toPy, PyData.eqv]
theorem eqD_refl : ∀ {n : Nat} {d : D}, okN n d = true → eqD d d = true := fun {n d} o => by
  unfold eqD
  exact SeqAt.eqv_refl _ (okN_shape o).1
def eqDs : List D → List D → Bool
  | [], [] => true
  | x :: xs, y :: ys => eqD x y && eqDs xs ys
  | _, _ => false
theorem eqvAll_ds : ∀ xs ys : List D, PyData.eqvAll (toPys xs) (toPys ys) = eqDs xs ys
  | [], [] => by rw [toPys, PyData.eqvAll]; rfl
  | [], y :: ys => by rw [toPys, toPys, PyData.eqvAll]; rfl
  | x :: xs, [] => by rw [toPys, toPys, PyData.eqvAll]; rfl
  | x :: xs, y :: ys => by rw [toPys, toPys, PyData.eqvAll, eqvAll_ds xs ys]; rfl
theorem eqD_tup (xs ys : List D) : eqD (.tup xs) (.tup ys) = eqDs xs ys := by
  unfold eqD; rw [toPy, toPy, PyData.eqv, eqvAll_ds]
theorem eqD_lst (xs ys : List D) : eqD (.lst xs) (.lst ys) = eqDs xs ys := by
  unfold eqD; rw [toPy, toPy, PyData.eqv, eqvAll_ds]

/-! ### in -/
def inP (ρ : Env) (x y : D) (k : D → Prop) : Prop := okN 60 (deref ρ x) = true ∧ onL ρ y fun ys => okNs 59 ys = true ∧ k (.bl (ys.any fun z => eqD z (deref ρ x)))
def niP (ρ : Env) (x y : D) (k : D → Prop) : Prop := okN 60 (deref ρ x) = true ∧ onL ρ y fun ys => okNs 59 ys = true ∧ k (.bl (!ys.any fun z => eqD z (deref ρ x)))
theorem any_ds (x : D) : ∀ ys : List D, ((toPys ys).any fun z => PyData.eqv z (toPy x)) = ys.any fun z => eqD z x
  | [] => by rw [toPys]; rfl
  | y :: ys => by rw [toPys, List.any_cons, List.any_cons, any_ds x ys]; rfl
theorem sr_in : SR2 c (rInD c.K) inP := fun t σ H ρ x y dx dy P Q h rx ry q k => by
  obtain ⟨ys, a, vs, rfl, ha, r, o, q2⟩ := onL_ok h ry q.2
  have o2 : okN 60 (.lst ys) = true := by rw [okN]; exact o
  have e : toPy (.lst ys) = .list (toPys ys) := by rw [toPy]
  refine ⟨_, toPys ys, rx.dp h q.1, .lst (.of ha) (r.dp o), okN_shaped (by decide) q.1, by rw [← e]; exact okN_shaped (by decide) o2, ?_⟩
  rw [any_ds]
  exact k _ _ H h (.bl _) q2
theorem sr_ni : SR2 c (rNotInD c.K) niP := fun t σ H ρ x y dx dy P Q h rx ry q k => by
  obtain ⟨ys, a, vs, rfl, ha, r, o, q2⟩ := onL_ok h ry q.2
  have o2 : okN 60 (.lst ys) = true := by rw [okN]; exact o
  have e : toPy (.lst ys) = .list (toPys ys) := by rw [toPy]
  refine ⟨_, toPys ys, rx.dp h q.1, .lst (.of ha) (r.dp o), okN_shaped (by decide) q.1, by rw [← e]; exact okN_shaped (by decide) o2, ?_⟩
  rw [any_ds]
  exact k _ _ H h (.bl _) q2
end
/-- .. a tuple -/
def rInT (K : PySem.W.Frag) : R2 := fun x y H Q => ∃ d ds, Dp K H x d ∧ Dp K H y (.tuple ds) ∧ SeqAt.shaped d = true ∧ SeqAt.shaped (.tuple ds) = true ∧ Q (.bl (ds.any fun z => PyData.eqv z d)) H
def rNotInT (K : PySem.W.Frag) : R2 := fun x y H Q => ∃ d ds, Dp K H x d ∧ Dp K H y (.tuple ds) ∧ SeqAt.shaped d = true ∧ SeqAt.shaped (.tuple ds) = true ∧ Q (.bl (!ds.any fun z => PyData.eqv z d)) H
section
variable {X : Cx}
theorem op_inT (hu : X.A.units + 65 < cLine) : OpR X (compareOp .In) (rInT X.K) := by
  intro pins s σ H x y v u Q I rx ry h
  obtain ⟨d, ds, hd, he, sd, se, q⟩ := h
  obtain ⟨as, r1⟩ := Dp.reads I d x v hd rx
  obtain ⟨bs, r2⟩ := Dp.reads I (.tuple ds) y u he ry
  exact SeqAt.in_tuple_reads r2 r1 (SeqAt.canLay_of_shaped se) (SeqAt.canLay_of_shaped sd) (room_in_shaped sd hu) ⟨.bl _, H, I, rfl, q⟩
theorem op_notInT (hu : X.A.units + 65 < cLine) : OpR X (compareOp .NotIn) (rNotInT X.K) := by
  intro pins s σ H x y v u Q I rx ry h
  obtain ⟨d, ds, hd, he, sd, se, q⟩ := h
  obtain ⟨as, r1⟩ := Dp.reads I d x v hd rx
  obtain ⟨bs, r2⟩ := Dp.reads I (.tuple ds) y u he ry
  exact SeqAt.notIn_tuple_reads r2 r1 (SeqAt.canLay_of_shaped se) (SeqAt.canLay_of_shaped sd) (room_in_shaped sd hu) ⟨.bl _, H, I, rfl, q⟩
end
end PD

end
section
set_option Elab.async false
set_option linter.all false
set_option maxRecDepth 100000
namespace PD
open PySem PySem.Spec PyProof.Rows L2

section
variable {c : C0} {t : Tm} {σ : L2.St} {H H' : Hp} {ρ : Env}
variable {te ta tb tc : TE} {de da db dc : DE} {tt tu : TT} {dt du : DT}

/-! ### arguments, displays -/
def dNil : DA := fun ρ P => P [] ρ
def dCons (a : DE) (r : DA) : DA := fun ρ P => a ρ fun d ρ1 => r ρ1 fun ds ρ2 => P (d :: ds) ρ2
theorem sa_nil : SA c 0 tNil dNil := fun t σ H ρ P Q h q k => k [] [] H ρ h .nil rfl q
theorem sa_cons {n : Nat} {tr : TA} {dr : DA} (ha : SV c ta da) (hr : SA c n tr dr) : SA c (n + 1) (tCons ta tr) (dCons da dr) := fun t σ H ρ P Q h q k => by
  refine ha t σ H ρ _ _ h q fun v d H1 ρ1 h1 r1 q1 => ?_
  obtain ⟨t', e, h1', back⟩ := h1.push (.inl r1)
  refine hr t' σ H1 ρ1 _ _ h1' q1 fun vs ds H2 ρ2 h2 r2 n2 q2 => ?_
  obtain ⟨h3, r3⟩ := back H2 ρ2 h2
  rw [Far.hold e] at r2
  have r3' : Rp c.K (Far c t σ) H2 d v := by
    rcases r3 with r3 | ⟨i, rfl, _⟩
    · exact r3
    · cases r1
  exact k _ _ H2 ρ2 h3 (.cons r3' r2) (congrArg (· + 1) n2) q2
theorem sao_nil : SAO c tNil dNil := fun t σ H ρ P Q h q k => k [] [] H ρ h .nil q
theorem sao_cons {tr : TA} {dr : DA} (ha : SE c ta da) (hr : SAO c tr dr) : SAO c (tCons ta tr) (dCons da dr) := fun t σ H ρ P Q h q k => by
  refine ha t σ H ρ _ _ h q fun v d H1 ρ1 h1 r1 q1 => ?_
  obtain ⟨t', e, h1', back⟩ := h1.push r1
  refine hr t' σ H1 ρ1 _ _ h1' q1 fun vs ds H2 ρ2 h2 r2 q2 => ?_
  obtain ⟨h3, r3⟩ := back H2 ρ2 h2
  exact k _ _ H2 ρ2 h3 (.cons r3 (r2.hold e)) q2
theorem SA.o {n : Nat} {ta : TA} {da : DA} (h : SA c n ta da) : SAO c ta da := fun t σ H ρ P Q e q k => h t σ H ρ P Q e q fun vs ds H' ρ' e' r _ p => k vs ds H' ρ' e' r.rpo p
def dTup (a : DA) : DE := fun ρ P => a ρ fun ds ρ1 => P (.tup ds) ρ1
def dLst (a : DA) : DE := fun ρ P => a ρ fun ds ρ1 => P (.lst ds) ρ1
theorem sv_tup {n : Nat} {ta : TA} {da : DA} (h : SA c n ta da) (hn : n ≤ sizeLine := by decide) : SV c (tTup ta) (dTup da) := fun t σ H ρ P Q e q k =>
  h t σ H ρ _ _ e q fun vs ds H1 ρ1 h1 r n1 q1 => ⟨by rw [n1]; exact hn, fun p hp => k _ _ _ ρ1 (h1.new hp) (.tup (h1.far hp) upd_same (r.grow (upd_grow hp))) q1⟩
theorem sv_lst {n : Nat} {ta : TA} {da : DA} (h : SA c n ta da) (hn : n ≤ sizeLine := by decide) : SV c (tLst ta) (dLst da) := fun t σ H ρ P Q e q k =>
  h t σ H ρ _ _ e q fun vs ds H1 ρ1 h1 r n1 q1 => ⟨by rw [n1]; exact hn, fun p hp => k _ _ _ ρ1 (h1.new hp) (.lst (h1.far hp) upd_same (r.grow (upd_grow hp))) q1⟩

/-! ### built-in functions -/
def dCB (f : Env → List D → (D → Prop) → Prop) (a : DA) : DE := fun ρ P => a ρ fun ds ρ1 => f ρ1 ds fun z => P z ρ1
theorem sv_cb {r : List V → Hp → VK → Prop} {f : Env → List D → (D → Prop) → Prop} {ta : TA} {da : DA} (hr : SRL c r f) (ha : SAO c ta da) : SV c (tCB r ta) (dCB f da) := fun t σ H ρ P Q h q k =>
  ha t σ H ρ _ _ h q fun vs ds H1 ρ1 h1 r1 q1 => hr t σ H1 ρ1 vs ds _ _ h1 r1 q1 fun v d H2 h2 r2 p2 => k v d H2 ρ1 h2 r2 p2
theorem RpOL.one {d : D} {vs : List V} (r : RpOL c t σ H [d] vs) : ∃ v, vs = [v] ∧ RpO c t σ H d v := by
  cases r with
  | cons a b => cases b; exact ⟨_, rfl, a⟩
theorem RpOL.two {d e : D} {vs : List V} (r : RpOL c t σ H [d, e] vs) : ∃ v w, vs = [v, w] ∧ RpO c t σ H d v ∧ RpO c t σ H e w := by
  cases r with
  | cons a b => cases b with
    | cons b d => cases d; exact ⟨_, _, rfl, a, b⟩
def lenP (ρ : Env) (ds : List D) (k : D → Prop) : Prop := match ds with
  | [d] => onS ρ d fun xs => k (.int xs.length)
  | _ => False
theorem sr_len0 : SRL c (fun xs H Q => ∃ p ys, xs = [.ref p] ∧ (SqL c.K H p ys ∨ SqT c.K H p ys) ∧ Q (.int ys.length) H) lenP := fun t σ H ρ vs ds P Q h r q k => by
  unfold lenP at q
  split at q
  · obtain ⟨v, rfl, r1⟩ := r.one
    obtain ⟨xs, a, vs, rfl, hs, rs, q⟩ := onS_ok h r1 q
    exact ⟨a, vs, rfl, hs, k _ _ H h (.int _) (by rw [← rs.length]; exact q)⟩
  · exact False.elim q
def absP (_ : Env) (ds : List D) (k : D → Prop) : Prop := match ds with
  | [.int i] => k (.int i.natAbs)
  | _ => False
theorem sr_abs : SRL c (fun xs H Q => ∃ i, xs = [.int i] ∧ Q (.int (if i < 0 then -i else i)) H) absP := fun t σ H ρ vs ds P Q h r q k => by
  unfold absP at q
  split at q
  · rename_i i
    obtain ⟨v, rfl, r1⟩ := r.one
    refine ⟨i, by rw [r1.int], k _ _ H h (.int _) ?_⟩
    rw [show (if i < 0 then -i else i) = (i.natAbs : Int) by split <;> omega]
    exact q
  · exact False.elim q
def intP (_ : Env) (ds : List D) (k : D → Prop) : Prop := match ds with
  | [.int i] => k (.int i)
  | [.bl b] => k (.int (if b then 1 else 0))
  | _ => False
theorem sr_intC : SRL c (fun xs H Q => (∃ i, xs = [.int i] ∧ Q (.int i) H) ∨ ∃ k, xs = [.bl k] ∧ Q (.int (if k then 1 else 0)) H) intP := fun t σ H ρ vs ds P Q h r q k => by
  unfold intP at q
  split at q
  · obtain ⟨v, rfl, r1⟩ := r.one
    exact .inl ⟨_, by rw [r1.int], k _ _ H h (.int _) q⟩
  · obtain ⟨v, rfl, r1⟩ := r.one
    exact .inr ⟨_, by rw [r1.bl], k _ _ H h (.int _) q⟩
  · exact False.elim q
def max2P (_ : Env) (ds : List D) (k : D → Prop) : Prop := match ds with
  | [.int i, .int j] => k (.int (if j > i then j else i))
  | _ => False
theorem sr_max2 : SRL c (fun xs H Q => ∃ i j, xs = [.int i, .int j] ∧ Q (.int (if j > i then j else i)) H) max2P := fun t σ H ρ vs ds P Q h r q k => by
  unfold max2P at q
  split at q
  · obtain ⟨v, w, rfl, r1, r2⟩ := r.two
    exact ⟨_, _, by rw [r1.int, r2.int], k _ _ H h (.int _) q⟩
  · exact False.elim q
def min2P (_ : Env) (ds : List D) (k : D → Prop) : Prop := match ds with
  | [.int i, .int j] => k (.int (if j < i then j else i))
  | _ => False
theorem sr_min2 : SRL c (fun xs H Q => ∃ i j, xs = [.int i, .int j] ∧ Q (.int (if j < i then j else i)) H) min2P := fun t σ H ρ vs ds P Q h r q k => by
  unfold min2P at q
  split at q
  · obtain ⟨v, w, rfl, r1, r2⟩ := r.two
    exact ⟨_, _, by rw [r1.int, r2.int], k _ _ H h (.int _) q⟩
  · exact False.elim q
/-- the ints of a list of data -/
def sumP (ρ : Env) (ds : List D) (k : D → Prop) : Prop := match ds with
  | [d] => onL ρ d fun xs => ∃ ns : List Int, xs = ns.map D.int ∧ k (.int ns.sum)
  | _ => False
theorem sr_sum : SRL c (rSum c.K) sumP := fun t σ H ρ vs ds P Q h r q k => by
  unfold sumP at q
  split at q
  · obtain ⟨v, rfl, r1⟩ := r.one
    obtain ⟨xs, a, vs, rfl, ha, rs, ns, rfl, q⟩ := onL_ok h r1 q
    have e := rs.ints
    subst e
    exact ⟨a, ns, rfl, .of ha, k _ _ H h (.int _) q⟩
  · exact False.elim q
def allP (ρ : Env) (ds : List D) (k : D → Prop) : Prop := match ds with
  | [d] => onL ρ d fun xs => ∃ ns : List Bool, xs = ns.map D.bl ∧ k (.bl (ns.all id))
  | _ => False
def anyP (ρ : Env) (ds : List D) (k : D → Prop) : Prop := match ds with
  | [d] => onL ρ d fun xs => ∃ ns : List Bool, xs = ns.map D.bl ∧ k (.bl (ns.any id))
  | _ => False
theorem sr_all : SRL c (rAll c.K) allP := fun t σ H ρ vs ds P Q h r q k => by
  unfold allP at q
  split at q
  · obtain ⟨v, rfl, r1⟩ := r.one
    obtain ⟨xs, a, vs, rfl, ha, rs, ns, rfl, q⟩ := onL_ok h r1 q
    have e := rs.bls
    subst e
    exact ⟨a, ns, rfl, .of ha, k _ _ H h (.bl _) q⟩
  · exact False.elim q
theorem sr_any : SRL c (rAny c.K) anyP := fun t σ H ρ vs ds P Q h r q k => by
  unfold anyP at q
  split at q
  · obtain ⟨v, rfl, r1⟩ := r.one
    obtain ⟨xs, a, vs, rfl, ha, rs, ns, rfl, q⟩ := onL_ok h r1 q
    have e := rs.bls
    subst e
    exact ⟨a, ns, rfl, .of ha, k _ _ H h (.bl _) q⟩
  · exact False.elim q
def listP (ρ : Env) (ds : List D) (k : D → Prop) : Prop := match ds with
  | [d] => onS ρ d fun xs => k (.lst xs)
  | _ => False
theorem sr_list0 : SRL c (fun xs H Q => ∃ p ys, xs = [.ref p] ∧ (SqL c.K H p ys ∨ SqT c.K H p ys) ∧ ∀ l, H l = none → Q (.ref l) (upd H l (.lst ys))) listP := fun t σ H ρ vs ds P Q h r q k => by
  unfold listP at q
  split at q
  · obtain ⟨v, rfl, r1⟩ := r.one
    obtain ⟨xs, a, vs, rfl, hs, rs, q⟩ := onS_ok h r1 q
    exact ⟨a, vs, rfl, hs, fun l hl => k _ _ _ (h.new hl) (.lst (h.far hl) upd_same (rs.grow (upd_grow hl))) q⟩
  · exact False.elim q
/-- tuple(x) -/
def tupleP (ρ : Env) (d : D) (k : D → Prop) : Prop := match d with
  | .tup xs => k (.tup xs)
  | d => onL ρ d fun xs => k (.tup xs)
def dTuple (a : DE) : DE := fun ρ P => a ρ fun d ρ1 => tupleP ρ1 d fun z => P z ρ1
theorem sv_tuple (ha : SE c ta da) : SV c (tThen ta (kTup c.K)) (dTuple da) := fun t σ H ρ P Q h q k =>
  ha t σ H ρ _ _ h q fun v d H1 ρ1 h1 r1 q1 => by
    have q1 : tupleP ρ1 d fun z => P z ρ1 := q1
    unfold tupleP at q1
    split at q1
    · obtain ⟨a, vs, rfl, _, hs, rs⟩ := (r1.rp trivial).seqT
      exact .inr ⟨a, vs, rfl, .of hs, k _ _ H1 ρ1 h1 (r1.rp trivial) q1⟩
    · obtain ⟨xs, a, vs, rfl, hs, rs, q1⟩ := onL_ok h1 r1 q1
      exact .inl ⟨a, vs, rfl, .of hs, fun p hp => k _ _ _ ρ1 (h1.new hp) (.tup (h1.far hp) upd_same (rs.grow (upd_grow hp))) q1⟩

/-! ### isinstance -/
def tyD : D → Option String
  | .non => some "NoneType"
  | .bl _ => some "bool"
  | .int _ => some "int"
  | .str _ => some "str"
  | .tup _ => some "tuple"
  | .lst _ => some "list"
  | _ => none
def isInt : D → Bool
  | .int _ => true
  | .bl _ => true
  | _ => false
def isBool : D → Bool
  | .bl _ => true
  | _ => false
def isStr : D → Bool
  | .str _ => true
  | _ => false
def isTup : D → Bool
  | .tup _ => true
  | _ => false
def isLst : D → Bool
  | .lst _ => true
  | _ => false
theorem kit_int : ∀ d n, tyD d = some n → kitB n "int" = some (isInt d) := fun d n e => by
  cases d <;> cases e <;> first | (show kitB _ _ = some true; decide +kernel) | (show kitB _ _ = some false; decide +kernel)
theorem kit_bool : ∀ d n, tyD d = some n → kitB n "bool" = some (isBool d) := fun d n e => by
  cases d <;> cases e <;> first | (show kitB _ _ = some true; decide +kernel) | (show kitB _ _ = some false; decide +kernel)
theorem kit_str : ∀ d n, tyD d = some n → kitB n "str" = some (isStr d) := fun d n e => by
  cases d <;> cases e <;> first | (show kitB _ _ = some true; decide +kernel) | (show kitB _ _ = some false; decide +kernel)
theorem kit_tup : ∀ d n, tyD d = some n → kitB n "tuple" = some (isTup d) := fun d n e => by
  cases d <;> cases e <;> first | (show kitB _ _ = some true; decide +kernel) | (show kitB _ _ = some false; decide +kernel)
theorem kit_lst : ∀ d n, tyD d = some n → kitB n "list" = some (isLst d) := fun d n e => by
  cases d <;> cases e <;> first | (show kitB _ _ = some true; decide +kernel) | (show kitB _ _ = some false; decide +kernel)
theorem Rp.ty {d : D} {v : V} {n : String} {A : Addr → Prop} (r : Rp c.K A H d v) (e : tyD d = some n) : TyX c.K H v (.type n) := by
  cases d with
  | non => cases e; cases r; exact .base .non
  | bl b => cases e; cases r; exact .base (.bl _)
  | int b => cases e; cases r; exact .base (.int _)
  | str b => cases e; cases r; exact .base (.str _)
  | tup b => cases e; cases r with | tup _ e _ => exact .base (.tup e)
  | lst b => cases e; cases r with | lst _ e _ => exact .base (.lst e)
  | _ => cases e
def dIsi (p : D → Bool) (a : DE) : DE := fun ρ P => a ρ fun d ρ1 => (tyD d).isSome = true ∧ P (.bl (p d)) ρ1
theorem sv_isi {T : String} {p : D → Bool} (hp : ∀ d n, tyD d = some n → kitB n T = some (p d)) (ha : SV c ta da) : SV c (tCB (rIsi c.K) (tCons ta (tCons (tC (.ty T)) tNil))) (dIsi p da) := fun t σ H ρ P Q h q k =>
  ha t σ H ρ _ _ h q fun v d H1 ρ1 h1 r1 q1 => by
    obtain ⟨n, hn⟩ := Option.isSome_iff_exists.mp q1.1
    exact ⟨v, .ty T, .type n, .type T, p d, rfl, .ty T, r1.ty hn, kit_ty (hp d n hn), k _ _ H1 ρ1 h1 (.bl _) q1.2⟩

/-! ### tests -/
/-- by a test's answer -/
def sel (b : Bool) (p q : Prop) : Prop := match b with
  | true => p
  | false => q
theorem sel_of {b : Bool} {p q : Prop} (h1 : b = true → p) (h2 : b = false → q) : sel b p q := by
  cases b with
  | true => exact h1 rfl
  | false => exact h2 rfl
theorem sel_true {p q : Prop} : sel true p q = p := rfl
theorem sel_false {p q : Prop} : sel false p q = q := rfl
theorem sel_ite {b : Bool} {p q : Prop} (h : sel b p q) : if b = true then p else q := by
  cases b with
  | true => exact (if_pos rfl).mpr h
  | false => exact (if_neg (fun z => by cases z)).mpr h
def dTest (a : DE) : DT := fun ρ P => a ρ fun d ρ1 => match d with
  | .bl b => P b ρ1
  | _ => False
theorem st_testO (ha : SV c ta da) : ST c (tTest ta) (dTest da) := fun t σ H ρ P Q h q k =>
  ha t σ H ρ _ _ h q fun v d H1 ρ1 h1 r1 q1 => by
    cases d with
    | bl b => cases r1; exact ⟨b, rfl, k b H1 ρ1 h1 q1⟩
    | _ => exact False.elim q1
theorem st_test (ha : SV c ta da) : ST c (tB ta) (dTest da) := st_testO ha
def dAnd (a b : DT) : DT := fun ρ P => a ρ fun k ρ1 => sel k (b ρ1 P) (P false ρ1)
def dOr (a b : DT) : DT := fun ρ P => a ρ fun k ρ1 => sel k (P true ρ1) (b ρ1 P)
def dNot (a : DT) : DT := fun ρ P => a ρ fun k ρ1 => P (!k) ρ1
theorem st_and (ha : ST c tt dt) (hb : ST c tu du) : ST c (tAnd tt tu) (dAnd dt du) := fun t σ H ρ P Q h q k =>
  ha t σ H ρ _ _ h q fun b H1 ρ1 h1 q1 => by
    cases b with
    | true => exact (if_pos rfl).mpr (hb t σ H1 ρ1 _ _ h1 q1 k)
    | false => exact (if_neg (fun z => by cases z)).mpr (k _ H1 ρ1 h1 q1)
theorem st_or (ha : ST c tt dt) (hb : ST c tu du) : ST c (tOr tt tu) (dOr dt du) := fun t σ H ρ P Q h q k =>
  ha t σ H ρ _ _ h q fun b H1 ρ1 h1 q1 => by
    cases b with
    | true => exact (if_pos rfl).mpr (k _ H1 ρ1 h1 q1)
    | false => exact (if_neg (fun z => by cases z)).mpr (hb t σ H1 ρ1 _ _ h1 q1 k)
theorem st_not (ha : ST c tt dt) : ST c (tNot tt) (dNot dt) := fun t σ H ρ P Q h q k => ha t σ H ρ _ _ h q fun b H1 ρ1 h1 q1 => k _ H1 ρ1 h1 q1
/-! .. as values -/
def dAndV (a b : DE) : DE := fun ρ P => a ρ fun d ρ1 => match d with
  | .bl k => sel k (b ρ1 P) (P (.bl false) ρ1)
  | _ => False
def dOrV (a b : DE) : DE := fun ρ P => a ρ fun d ρ1 => match d with
  | .bl k => sel k (P (.bl true) ρ1) (b ρ1 P)
  | _ => False
def dNotV (a : DE) : DE := fun ρ P => a ρ fun d ρ1 => match d with
  | .bl k => P (.bl (!k)) ρ1
  | _ => False
theorem sv_andV (ha : SV c ta da) (hb : SV c tb db) : SV c (tAndV ta tb) (dAndV da db) := fun t σ H ρ P Q h q k =>
  ha t σ H ρ _ _ h q fun v d H1 ρ1 h1 r1 q1 => by
    cases d with
    | bl b =>
      cases r1
      refine ⟨b, rfl, ?_⟩
      cases b with
      | true => exact (if_pos rfl).mpr (hb t σ H1 ρ1 _ _ h1 q1 k)
      | false => exact (if_neg (fun z => by cases z)).mpr (k _ _ H1 ρ1 h1 (.bl _) q1)
    | _ => exact False.elim q1
theorem sv_orV (ha : SV c ta da) (hb : SV c tb db) : SV c (tOrV ta tb) (dOrV da db) := fun t σ H ρ P Q h q k =>
  ha t σ H ρ _ _ h q fun v d H1 ρ1 h1 r1 q1 => by
    cases d with
    | bl b =>
      cases r1
      refine ⟨b, rfl, ?_⟩
      cases b with
      | true => exact (if_pos rfl).mpr (k _ _ H1 ρ1 h1 (.bl _) q1)
      | false => exact (if_neg (fun z => by cases z)).mpr (hb t σ H1 ρ1 _ _ h1 q1 k)
    | _ => exact False.elim q1
theorem sv_notV (ha : SV c ta da) : SV c (tNotV ta) (dNotV da) := fun t σ H ρ P Q h q k =>
  ha t σ H ρ _ _ h q fun v d H1 ρ1 h1 r1 q1 => by
    cases d with
    | bl b => cases r1; exact ⟨b, rfl, k _ _ H1 ρ1 h1 (.bl _) q1⟩
    | _ => exact False.elim q1
def dIf (a : DT) (b e : DE) : DE := fun ρ P => a ρ fun k ρ1 => sel k (b ρ1 P) (e ρ1 P)
theorem sv_if (ht : ST c tt dt) (ha : SV c ta da) (hb : SV c tb db) : SV c (tIf tt ta tb) (dIf dt da db) := fun t σ H ρ P Q h q k =>
  ht t σ H ρ _ _ h q fun b H1 ρ1 h1 q1 => by
    cases b with
    | true => exact (if_pos rfl).mpr (ha t σ H1 ρ1 _ _ h1 q1 k)
    | false => exact (if_neg (fun z => by cases z)).mpr (hb t σ H1 ρ1 _ _ h1 q1 k)
/-- a op b op' c -/
def dChain (f f' : Env → D → D → (D → Prop) → Prop) (a b e : DE) : DE := fun ρ P => a ρ fun x ρ1 => b ρ1 fun y ρ2 => f ρ2 x y fun z => match z with
  | .bl k => sel k (e ρ2 fun w ρ3 => f' ρ3 y w fun z => P z ρ3) (P (.bl false) ρ2)
  | _ => False
theorem sv_chain {r r' : R2} {f f' : Env → D → D → (D → Prop) → Prop} (hr : SR2 c r f) (hr' : SR2 c r' f') (ha : SV c ta da) (hb : SV c tb db) (hc : SV c tc dc) : SV c (tChain r r' ta tb tc) (dChain f f' da db dc) := fun t σ H ρ P Q h q k => by
  refine se_two (P := fun x y ρ2 => f ρ2 x y fun z => match z with
    | .bl k => sel k (dc ρ2 fun w ρ3 => f' ρ3 y w fun z => P z ρ3) (P (.bl false) ρ2)
    | _ => False) ha.se hb.se h q fun x y dx dy H' ρ' h' rx ry q' => ?_
  obtain ⟨t', e, h1, back⟩ := h'.push ry
  refine hr t' σ H' ρ' x y dx dy _ _ h1 (rx.hold' e) (ry.hold' e) q' fun z d H2 h2 r2 p2 => ?_
  obtain ⟨h3, r3⟩ := back H2 ρ' h2
  cases d with
  | bl b =>
    cases r2
    refine ⟨b, rfl, ?_⟩
    cases b with
    | true =>
      refine (if_pos rfl).mpr (hc t' σ H2 ρ' _ _ h2 p2 fun w dw H4 ρ4 h4 r4 p4 => ?_)
      obtain ⟨h5, r5⟩ := back H4 ρ4 h4
      rw [Far.hold e] at r4
      exact hr' t σ H4 ρ4 y w dy dw _ _ h5 r5 (.inl r4) p4 fun v d H6 h6 r6 p6 => k v d H6 ρ4 h6 r6 p6
    | false => exact (if_neg (fun z => by cases z)).mpr (k _ _ H2 ρ' h3 (.bl _) p2)
  | _ => exact False.elim p2

/-! ### subscripts, slices -/
def ixP (ρ : Env) (x i : D) (k : D → Prop) : Prop := match i with
  | .int i => onS ρ x fun xs => match atI xs i with
    | some z => k z
    | none => False
  | _ => False
theorem atI_rp {K : PySem.W.Frag} {A : Addr → Prop} {ds : List D} {vs : List V} {i : Int} {z : D} (r : RpL K A H ds vs) (e : atI ds i = some z) : ∃ v, atI vs i = some v ∧ Rp K A H z v := by
  unfold atI at e ⊢
  rw [← r.length]
  cases hj : ixN ds.length i with
  | none => rw [hj] at e; cases e
  | some j =>
    rw [hj] at e
    exact r.got e
theorem sr_ix : SR2 c (rIx c.K) ixP := fun t σ H ρ x y dx dy P Q h rx ry q k => by
  cases dy with
  | int i =>
    obtain ⟨xs, a, vs, rfl, hs, rs, q⟩ := onS_ok h rx q
    cases e : atI xs i with
    | none => rw [e] at q; exact False.elim q
    | some z =>
      rw [e] at q
      obtain ⟨v, e2, r2⟩ := atI_rp rs e
      have q2 := k v z H h r2 q
      rcases hs with hs | hs
      · exact .inl ⟨a, vs, i, v, rfl, ry.int, hs, e2, q2⟩
      · exact .inr (.inl ⟨a, vs, i, v, rfl, ry.int, hs, e2, q2⟩)
  | _ => exact False.elim q
/-- a part of a slice -/
abbrev DO := Env → (Option Int → Env → Prop) → Prop
def SO (c : C0) (to : TO) (d : DO) : Prop := ∀ (t : Tm) (σ : L2.St) (H : Hp) (ρ : Env) (P : Option Int → Env → Prop) (Q : Option Int → Hp → Prop), EnvOk c t σ H ρ → d ρ P →
  (∀ o H' ρ', EnvOk c t σ H' ρ' → P o ρ' → Q o H') → to σ H Q
def dNoPart : DO := fun ρ P => P none ρ
def dPart (a : DE) : DO := fun ρ P => a ρ fun d ρ1 => match d with
  | .int i => P (some i) ρ1
  | _ => False
theorem so_none : SO c tNoPart dNoPart := fun t σ H ρ P Q h q k => k _ H ρ h q
theorem so_some (ha : SV c ta da) : SO c (tPart ta) (dPart da) := fun t σ H ρ P Q h q k =>
  ha t σ H ρ _ _ h q fun v d H1 ρ1 h1 r1 q1 => by
    cases d with
    | int i => cases r1; exact ⟨i, rfl, k _ H1 ρ1 h1 q1⟩
    | _ => exact False.elim q1
def cutD (xs : List D) (lo hi : Option Int) : List D := (xs.drop (HT.sIx xs.length 0 lo)).take (HT.sIx xs.length xs.length hi - HT.sIx xs.length 0 lo)
theorem cut_rp {K : PySem.W.Frag} {A : Addr → Prop} {ds : List D} {vs : List V} {lo hi : Option Int} (r : RpL K A H ds vs) : RpL K A H (cutD ds lo hi) (cutV vs lo hi) := by
  unfold cutD cutV
  rw [r.length]
  exact (r.drop _).take _
theorem cut_all {ds : List D} {lo hi : Option Int} (h : HT.sIx ds.length 0 lo = 0 ∧ HT.sIx ds.length ds.length hi = ds.length) : cutD ds lo hi = ds := by
  unfold cutD
  rw [h.1, h.2, List.drop_zero, Nat.sub_zero, List.take_length]
def slP (ρ : Env) (x : D) (lo hi : Option Int) (k : D → Prop) : Prop := match x with
  | .tup xs => k (.tup (cutD xs lo hi))
  | x => onL ρ x fun xs => k (.lst (cutD xs lo hi))
def dSl (a : DE) (lo hi : DO) : DE := fun ρ P => a ρ fun x ρ1 => lo ρ1 fun l ρ2 => hi ρ2 fun u ρ3 => slP ρ3 x l u fun z => P z ρ3
theorem sv_sl0 {tl th : TO} {dl dh : DO} (ha : SE c ta da) (hl : SO c tl dl) (hh : SO c th dh) :
    SV c (tSl (fun x lo hi H Q => rSlA c.K x lo hi H Q ∨ rSlL c.K x lo hi H Q) ta tl th) (dSl da dl dh) := fun t σ H ρ P Q h q k => by
  refine ha t σ H ρ _ _ h q fun v d H1 ρ1 h1 r1 q1 => ?_
  obtain ⟨t', e, h1', back⟩ := h1.push r1
  refine hl t' σ H1 ρ1 _ _ h1' q1 fun lo H2 ρ2 h2 q2 => hh t' σ H2 ρ2 _ _ h2 q2 fun hi H3 ρ3 h3 q3 => ?_
  obtain ⟨h4, r4⟩ := back H3 ρ3 h3
  have q3 : slP ρ3 d lo hi fun z => P z ρ3 := q3
  unfold slP at q3
  split at q3
  · obtain ⟨a, vs, rfl, _, hs, rs⟩ := (r4.rp trivial).seqT
    refine .inl ⟨a, vs, rfl, .of hs, fun w => ?_, fun _ p hp => k _ _ _ ρ3 (h4.new hp) (.tup (h4.far hp) upd_same ((cut_rp rs).grow (upd_grow hp))) q3⟩
    rw [← rs.length] at w
    rw [cut_all w] at q3
    exact k _ _ H3 ρ3 h4 (r4.rp trivial) q3
  · obtain ⟨xs, a, vs, rfl, hs, rs, q3⟩ := onL_ok h4 r4 q3
    exact .inr ⟨a, vs, rfl, .of hs, fun p hp => k _ _ _ ρ3 (h4.new hp) (.lst (h4.far hp) upd_same ((cut_rp rs).grow (upd_grow hp))) q3⟩
end
end PD

end
section
set_option Elab.async false
set_option linter.all false
set_option maxRecDepth 100000
namespace PD
open PySem PySem.Spec PyProof.Rows L2

section
variable {c : C0} {t : Tm} {σ : L2.St} {H H' : Hp} {ρ : Env}
variable {te ta tb tc : TE} {de da db dc : DE} {tt tu : TT} {dt du : DT} {ts tv : TS} {ds dv : DS}

/-! ### a new object, held -/
abbrev Tm.add (t : Tm) (p : Addr) (o : HO) : Tm := ⟨t.vals, (p, o) :: t.hold⟩
theorem far_add {p a : Addr} {o : HO} : Far c (t.add p o) σ a ↔ a = p ∨ Far c t σ a := by
  unfold Far
  constructor
  · rintro (f | ⟨o', f⟩ | f)
    · exact .inr (.inl f)
    · rcases List.mem_cons.mp f with e | f
      · cases e; exact .inl rfl
      · exact .inr (.inr (.inl ⟨o', f⟩))
    · exact .inr (.inr (.inr f))
  · rintro (f | f | ⟨o', f⟩ | f)
    · subst f; exact .inr (.inl ⟨o, List.mem_cons_self⟩)
    · exact .inl f
    · exact .inr (.inl ⟨o', List.mem_cons_of_mem _ f⟩)
    · exact .inr (.inr f)
theorem EnvOk.add {p : Addr} {o : HO} (h : EnvOk c t σ H ρ) (hp : H p = none) (pn : Pn o := by trivial) : EnvOk c (t.add p o) σ (upd H p o) ρ := by
  have keep : ∀ a o', ¬ Far c t σ a → H a = some o' → Pn o' → ¬ Far c (t.add p o) σ a ∧ upd H p o a = some o' := fun a o' na e _ => by
    have hne : a ≠ p := ne_of_none e hp
    exact ⟨fun f => (far_add.mp f).elim hne na, by rw [upd_ne hne]; exact e⟩
  have h1 := h.new (o := o) hp
  refine ⟨h.len, h1.frame, h1.tabs, fun a f => ?_, fun i d e n => ?_, fun i d e n => ?_, h.ownn, h.dist, h.bx, fun q hq => (h.tv q hq).move keep, fun q hq => ?_⟩
  · rcases far_add.mp f with rfl | f
    · exact ⟨o, upd_same, pn⟩
    · exact h1.trk a f
  · obtain ⟨v, e1, r⟩ := h.val i d e n
    exact ⟨v, e1, r.move keep⟩
  · obtain ⟨l, e1, x, z⟩ := h.ownv i d e n
    exact ⟨l, e1, x.move (fun o q _ => upd_grow hp l o q) keep, z⟩
  · rcases List.mem_cons.mp hq with e | hq
    · subst e
      exact ⟨upd_same, fun i hi e => h.far hp (.inr (.inr ⟨i, hi, e⟩)), h.h0n hp, pn⟩
    · exact h1.th q hq
/-- it is let go: a list of data that may be held anywhere -/
theorem EnvOk.drop {p : Addr} {o : HO} (h : EnvOk c (t.add p o) σ H ρ) (hn : ¬ Far c t σ p) : EnvOk c t σ H ρ := by
  have keep : ∀ a o', ¬ Far c (t.add p o) σ a → H a = some o' → Pn o' → ¬ Far c t σ a ∧ H a = some o' := fun a o' na e _ => ⟨fun f => na (far_add.mpr (.inr f)), e⟩
  refine ⟨h.len, h.frame, h.tabs, fun a f => h.trk a (far_add.mpr (.inr f)), fun i d e n => ?_, fun i d e n => ?_, h.ownn, h.dist, h.bx, fun q hq => (h.tv q hq).move keep, fun q hq => h.th q (List.mem_cons_of_mem _ hq)⟩
  · obtain ⟨v, e1, r⟩ := h.val i d e n
    exact ⟨v, e1, r.move keep⟩
  · obtain ⟨l, e1, x, z⟩ := h.ownv i d e n
    exact ⟨l, e1, x.move (fun o q _ => q) keep, z⟩
/-- the held object is changed -/
theorem EnvOk.chg {p : Addr} {o o' : HO} (h : EnvOk c (t.add p o) σ H ρ) (hn : ¬ Far c t σ p) (pn' : Pn o' := by trivial) : EnvOk c (t.add p o') σ (upd H p o') ρ := by
  have ff : ∀ a, Far c (t.add p o') σ a ↔ Far c (t.add p o) σ a := fun a => by rw [far_add, far_add]
  have keep : ∀ a u, ¬ Far c (t.add p o) σ a → H a = some u → Pn u → ¬ Far c (t.add p o') σ a ∧ upd H p o' a = some u := fun a u na e _ => by
    have hne : a ≠ p := fun z => na (far_add.mpr (.inl z))
    exact ⟨fun f => na ((ff a).mp f), by rw [upd_ne hne]; exact e⟩
  obtain ⟨hp, hown, h0, pn⟩ := h.th (p, o) List.mem_cons_self
  refine ⟨h.len, fun a u e qn n => ?_, tabs_upd h.tabs hp pn, fun a f => ?_, fun i d e n => ?_, fun i d e n => ?_, h.ownn, h.dist, h.bx, fun q hq => (h.tv q hq).move keep, fun q hq => ?_⟩
  · have hne : a ≠ p := fun z => by subst z; exact h0 u e qn
    rw [upd_ne hne]; exact h.frame a u e qn n
  · by_cases z : a = p
    · subst z; exact ⟨_, upd_same, pn'⟩
    · rw [upd_ne z]; exact h.trk a ((ff a).mp f)
  · obtain ⟨v, e1, r⟩ := h.val i d e n
    exact ⟨v, e1, r.move keep⟩
  · obtain ⟨l, e1, x, z⟩ := h.ownv i d e n
    have hne : l ≠ p := fun z => by subst z; exact hown i n e1
    exact ⟨l, e1, x.move (fun u q _ => by rw [upd_ne hne]; exact q) keep, z⟩
  · rcases List.mem_cons.mp hq with e | hq
    · subst e
      exact ⟨upd_same, hown, h0, pn'⟩
    · obtain ⟨a, b, e⟩ := h.th q (List.mem_cons_of_mem _ hq)
      have hne : q.1 ≠ p := fun z => hn (.inr (.inl ⟨q.2, by rw [← z]; exact hq⟩))
      exact ⟨by rw [upd_ne hne]; exact a, b, e⟩
/-- it becomes a slot's own -/
theorem EnvOk.putHeld {i : Nat} {p : Addr} {o : HO} {d : D} (h : EnvOk c (t.add p o) σ H ρ) (hn : ¬ Far c t σ p) (hi : c.own i = true) (hb : c.box = none ∨ i ≠ 0) (hlt : i < ρ.length)
    (new : OwnC c.K (Far c (t.add p o) σ) H o d) : EnvOk c t (σ.set i (some (.ref p))) H (ρ.set i (some d)) := by
  obtain ⟨hp, hown, h0, pn⟩ := h.th (p, o) List.mem_cons_self
  have hl : i < σ.length := by rw [h.len]; exact hlt
  have ff : ∀ a, Far c t (σ.set i (some (.ref p))) a → Far c (t.add p o) σ a := fun a f => by
    rcases f with f | f | ⟨j, hj, f⟩
    · exact far_add.mpr (.inr (.inl f))
    · exact far_add.mpr (.inr (.inr (.inl f)))
    · by_cases hij : i = j
      · subst hij
        rw [List.getElem?_set_self hl] at f
        cases f; exact far_add.mpr (.inl rfl)
      · rw [List.getElem?_set_ne hij] at f
        exact far_add.mpr (.inr (.inr (.inr ⟨j, hj, f⟩)))
  have keep : ∀ a u, ¬ Far c (t.add p o) σ a → H a = some u → Pn u → ¬ Far c t (σ.set i (some (.ref p))) a ∧ H a = some u := fun a u na e _ => ⟨fun f => na (ff a f), e⟩
  refine ⟨by rw [List.length_set, List.length_set]; exact h.len, h.frame, h.tabs, fun a f => h.trk a (ff a f), fun j dj ej n => ?_, fun j dj ej n => ?_, fun j n ej => ?_, fun j k l hj hk e1 e2 => ?_, fun b hb' => ?_, fun q hq => (h.tv q hq).move keep, fun q hq => ?_⟩
  · have hij : i ≠ j := fun z => by subst z; rw [hi] at n; cases n
    rw [List.getElem?_set_ne hij] at ej ⊢
    obtain ⟨v, e1, r⟩ := h.val j dj ej n
    exact ⟨v, e1, r.move keep⟩
  · by_cases hij : i = j
    · subst hij
      rw [List.getElem?_set_self hlt] at ej
      cases ej
      exact ⟨p, by rw [List.getElem?_set_self hl], ⟨o, hp, new.move keep⟩, .inr h0⟩
    · rw [List.getElem?_set_ne hij] at ej ⊢
      obtain ⟨l2, e1, x2, z2⟩ := h.ownv j dj ej n
      exact ⟨l2, e1, x2.move (fun _ q _ => q) keep, z2⟩
  · by_cases hij : i = j
    · subst hij
      rw [List.getElem?_set_self hlt] at ej; cases ej
    · rw [List.getElem?_set_ne hij] at ej ⊢
      exact h.ownn j n ej
  · by_cases hij : i = j
    · subst hij
      by_cases hik : i = k
      · exact hik
      · rw [List.getElem?_set_self hl] at e1
        rw [List.getElem?_set_ne hik] at e2
        cases e1
        exact absurd e2 (hown k hk)
    · rw [List.getElem?_set_ne hij] at e1
      by_cases hik : i = k
      · subst hik
        rw [List.getElem?_set_self hl] at e2
        cases e2
        exact absurd e1 (hown j hj)
      · rw [List.getElem?_set_ne hik] at e2
        exact h.dist j k l hj hk e1 e2
  · obtain ⟨a, z⟩ := h.bx b hb'
    have hij : i ≠ 0 := hb.resolve_left (by rw [hb']; simp)
    exact ⟨a, by rw [List.getElem?_set_ne hij]; exact z⟩
  · obtain ⟨a, b, z⟩ := h.th q (List.mem_cons_of_mem _ hq)
    have hne : q.1 ≠ p := fun e => hn (.inr (.inl ⟨q.2, by rw [← e]; exact hq⟩))
    refine ⟨a, fun j hj e => ?_, z⟩
    by_cases hij : i = j
    · subst hij
      rw [List.getElem?_set_self hl] at e
      cases e; exact hne rfl
    · rw [List.getElem?_set_ne hij] at e
      exact b j hj e

/-- te makes a new object, which is d -/
def SF (c : C0) (te : TE) (de : DE) : Prop := ∀ (t : Tm) (σ : L2.St) (H : Hp) (ρ : Env) (P : D → Env → Prop) (Q : VK), EnvOk c t σ H ρ → de ρ P →
  (∀ p o d H' ρ', ¬ Far c t σ p → EnvOk c (t.add p o) σ H' ρ' → OwnC c.K (Far c (t.add p o) σ) H' o d → P d ρ' → Q (.ref p) H') → te σ H Q
/-- .. a new list -/
def SFL (c : C0) (te : TE) (de : DE) : Prop := ∀ (t : Tm) (σ : L2.St) (H : Hp) (ρ : Env) (P : D → Env → Prop) (Q : VK), EnvOk c t σ H ρ → de ρ P →
  (∀ p vs xs H' ρ', ¬ Far c t σ p → EnvOk c (t.add p (.lst vs)) σ H' ρ' → RpL c.K (Far c (t.add p (.lst vs)) σ) H' xs vs → P (.lst xs) ρ' → Q (.ref p) H') → te σ H Q
theorem SFL.f (h : SFL c te de) : SF c te de := fun t σ H ρ P Q e q k => h t σ H ρ P Q e q fun p vs xs H' ρ' np h1 r p1 => k p (.lst vs) (.lst xs) H' ρ' np h1 ⟨vs, rfl, r⟩ p1
theorem SFL.v (h : SFL c te de) : SV c te de := fun t σ H ρ P Q e q k =>
  h t σ H ρ P Q e q fun p vs xs H' ρ' np h1 rs p1 => by
    have keep : ∀ a o', ¬ Far c (t.add p (.lst vs)) σ a → H' a = some o' → Pn o' → ¬ Far c t σ a ∧ H' a = some o' := fun a o' na e _ => ⟨fun f => na (far_add.mpr (.inr f)), e⟩
    exact k _ _ H' ρ' (h1.drop np) (.lst np (h1.th (p, .lst vs) List.mem_cons_self).1 (rs.move keep)) p1
theorem sf_lst {n : Nat} {ta : TA} {da : DA} (h : SA c n ta da) (hn : n ≤ sizeLine := by decide) : SF c (tLst ta) (dLst da) := fun t σ H ρ P Q e q k =>
  h t σ H ρ _ _ e q fun vs ds H1 ρ1 h1 r n1 q1 => ⟨by rw [n1]; exact hn, fun p hp => k p (.lst vs) (.lst ds) _ ρ1 (h1.far hp) (h1.add hp) ⟨vs, rfl, r.move fun a u na e _ => ⟨fun f => (far_add.mp f).elim (ne_of_none e hp) na, upd_grow hp a u e⟩⟩ q1⟩
theorem sf_list0 (ha : SE c ta da) : SF c (tCB (fun xs H Q => ∃ p ys, xs = [.ref p] ∧ (SqL c.K H p ys ∨ SqT c.K H p ys) ∧ ∀ l, H l = none → Q (.ref l) (upd H l (.lst ys))) (tCons ta tNil)) (dCB listP (dCons da dNil)) := fun t σ H ρ P Q h q k =>
  ha t σ H ρ _ _ h q fun v d H1 ρ1 h1 r1 q1 => by
    have q1 : onS ρ1 d fun xs => P (.lst xs) ρ1 := q1
    obtain ⟨xs, a, vs, rfl, hs, rs, q1⟩ := onS_ok h1 r1 q1
    exact ⟨a, vs, rfl, hs, fun p hp => k p (.lst vs) (.lst xs) _ ρ1 (h1.far hp) (h1.add hp) ⟨vs, rfl, rs.move fun a u na e _ => ⟨fun f => (far_add.mp f).elim (ne_of_none e hp) na, upd_grow hp a u e⟩⟩ q1⟩

/-! ### statements -/
def dNext : DS := fun De ρ => De.nx ρ
def dSeq (a b : DS) : DS := fun De ρ => a { De with nx := fun ρ1 => b De ρ1 } ρ
def dBreak : DS := fun De ρ => De.bk ρ
def dCont : DS := fun De ρ => De.ct ρ
def dDrop (a : DE) : DS := fun De ρ => a ρ fun _ ρ1 => De.nx ρ1
def dRet (a : DE) : DS := fun De ρ => a ρ De.rt
def dRetN : DS := fun De ρ => De.rt .non ρ
def dIfS (a : DT) (b e : DS) : DS := fun De ρ => a ρ fun k ρ1 => sel k (b De ρ1) (e De ρ1)
def dSet (i : Nat) (a : DE) : DS := fun De ρ => a ρ fun d ρ1 => De.nx (ρ1.set i (some d))
theorem ss_next : SS c tNext dNext := fun t σ H ρ De E h q n r b k => n σ H ρ h q
theorem ss_brk : SS c tBreak dBreak := fun t σ H ρ De E h q n r b k => b σ H ρ h q
theorem ss_ct : SS c tCont dCont := fun t σ H ρ De E h q n r b k => k σ H ρ h q
theorem ss_seq (h1 : SS c ts ds) (h2 : SS c tv dv) : SS c (tSeq ts tv) (dSeq ds dv) := fun t σ H ρ De E h q n r b k =>
  h1 t σ H ρ _ _ h q (fun σ' H' ρ' h' q' => h2 t σ' H' ρ' De E h' q' n r b k) r b k
theorem ss_drop (ha : SE c ta da) : SS c (tDrop ta) (dDrop da) := fun t σ H ρ De E h q n r b k => ha t σ H ρ _ _ h q fun v d H1 ρ1 h1 _ q1 => n σ H1 ρ1 h1 q1
theorem ss_ret (ha : SE c ta da) : SS c (tRet ta) (dRet da) := fun t σ H ρ De E h q n r b k => ha t σ H ρ _ _ h q fun v d H1 ρ1 h1 r1 q1 => r v d σ H1 ρ1 h1 r1 q1
theorem ss_retN : SS c tRetN dRetN := fun t σ H ρ De E h q n r b k => r .non .non σ H ρ h (.inl .non) q
theorem ss_if (ht : ST c tt dt) (h1 : SS c ts ds) (h2 : SS c tv dv) : SS c (tIfS tt ts tv) (dIfS dt ds dv) := fun t σ H ρ De E h q n r b k =>
  ht t σ H ρ _ _ h q fun x H1 ρ1 e1 q1 => by
    cases x with
    | true => exact (if_pos rfl).mpr (h1 t σ H1 ρ1 De E e1 q1 n r b k)
    | false => exact (if_neg (fun z => by cases z)).mpr (h2 t σ H1 ρ1 De E e1 q1 n r b k)
def dNever : DS := fun _ _ => False
theorem ss_never : SS c tNever dNever := fun t σ H ρ De E h q n r b k => False.elim q
theorem ss_set (i : Nat) (hi : c.own i = false) (ha : SV c ta da) : SS c (tAsg ta (gName i)) (dSet i da) := fun t σ H ρ De E h q n r b k =>
  ha t σ H ρ _ _ h q fun v d H1 ρ1 h1 r1 q1 => n _ H1 _ (h1.put hi fun d' e => ⟨v, rfl, by cases e; exact r1⟩) q1
/-- .. of a slot that holds an object of its own: a new one -/
def dSetO (i : Nat) (a : DE) : DS := fun De ρ => a ρ fun d ρ1 => i < ρ1.length ∧ De.nx (ρ1.set i (some d))
theorem ss_setO (i : Nat) (hi : c.own i = true) (hb : c.box = none ∨ i ≠ 0) (ha : SF c ta da) : SS c (tAsg ta (gName i)) (dSetO i da) := fun t σ H ρ De E h q n r b k =>
  ha t σ H ρ _ _ h q fun p o d H1 ρ1 hn h1 r1 q1 => n _ H1 _ (h1.putHeld hn hi hb q1.1 r1) q1.2
/-- name op= e of ints -/
def dAug (i : Nat) (f : Int → Int → Int) (a : DE) : DS := fun De ρ => match ρ[i]? with
  | some (some (.int x)) => a ρ fun d ρ1 => match d with
    | .int y => De.nx (ρ1.set i (some (.int (f x y))))
    | _ => False
  | _ => False
theorem ss_aug {f : Int → Int → Int} (i : Nat) (hi : c.own i = false) (ha : SV c ta da) : SS c (tAug i ta (ipI f)) (dAug i f da) := fun t σ H ρ De E h q n r b k => by
  unfold dAug at q
  split at q
  · rename_i x hx
    obtain ⟨v, e, r1⟩ := h.val i _ hx hi
    cases r1
    refine ⟨_, e, ha t σ H ρ _ _ h q fun v d H1 ρ1 h1 r1 q1 => ?_⟩
    cases d with
    | int y =>
      cases r1
      exact ⟨x, y, rfl, rfl, n _ H1 _ (h1.put hi fun d' e => ⟨_, rfl, by cases e; exact .int _⟩) q1⟩
    | _ => exact False.elim q1
  · exact False.elim q
/-- xs.append(e) -/
def dApp (i : Nat) (a : DE) : DS := fun De ρ => match ρ[i]? with
  | some (some (.lst _)) => a ρ fun d ρ1 => match ρ1[i]? with
    | some (some (.lst xs)) => xs.length < sizeLine ∧ De.nx (ρ1.set i (some (.lst (xs ++ [d]))))
    | _ => False
  | _ => False
theorem ss_app (i : Nat) (hi : c.own i = true) (ha : SV c ta da) : SS c (tDrop (tBM c.K "list" rAppend (tVar i) (tCons ta tNil))) (dApp i da) := fun t σ H ρ De E h q n r b k => by
  unfold dApp at q
  split at q
  · rename_i xs0 hx0
    obtain ⟨l0, e0, ⟨o0, ho0, vs0, rfl, rs0⟩, _⟩ := h.ownv i _ hx0 hi
    refine ⟨_, e0, .inl ⟨rfl, _, .of ho0⟩, ha t σ H ρ _ _ h q fun v d H1 ρ1 h1 r1 q1 => ?_⟩
    have q1 : (match ρ1[i]? with
      | some (some (.lst xs)) => xs.length < sizeLine ∧ De.nx (ρ1.set i (some (.lst (xs ++ [d]))))
      | _ => False) := q1
    split at q1
    · rename_i xs hx
      obtain ⟨l, e1, ⟨o, ho, vs, rfl, rs⟩, _⟩ := h1.ownv i _ hx hi
      rw [e0] at e1; cases e1
      exact ⟨l0, vs, v, rfl, rfl, ho, by rw [← rs.length]; exact q1.1, n _ _ _ (h1.mut (d' := .lst (xs ++ [d])) hi hx e0 ⟨_, rfl, rs.append (.cons r1 .nil)⟩) q1.2⟩
    · exact False.elim q1
  · exact False.elim q
/-- xs[i] = e of a slot's own list -/
def dSetIx (i : Nat) (a j : DE) : DS := fun De ρ => a ρ fun d ρ1 => match ρ1[i]? with
  | some (some (.lst _)) => j ρ1 fun z ρ2 => match z, ρ2[i]? with
    | .int z, some (some (.lst xs)) => match ixN xs.length z with
      | some m => De.nx (ρ2.set i (some (.lst (xs.set m d))))
      | none => False
    | _, _ => False
  | _ => False
theorem ss_setIx (i : Nat) (hi : c.own i = true) (ha : SV c ta da) (hb : SV c tb db) : SS c (tAsg ta (gSub (tVar i) tb rSetL)) (dSetIx i da db) := fun t σ H ρ De E h q n r b k => by
  refine ha t σ H ρ _ _ h q fun v d H1 ρ1 h1 r1 q1 => ?_
  have q1 : (match ρ1[i]? with
  | some (some (.lst _)) => db ρ1 fun z ρ2 => match z, ρ2[i]? with
    | .int z, some (some (.lst xs)) => match ixN xs.length z with
      | some m => De.nx (ρ2.set i (some (.lst (xs.set m d))))
      | none => False
    | _, _ => False
  | _ => False) := q1
  split at q1
  · rename_i xs0 hx0
    obtain ⟨l0, e0, ⟨o0, ho0, vs0, rfl, rs0⟩, _⟩ := h1.ownv i _ hx0 hi
    obtain ⟨t', e, h1', back⟩ := h1.push (.inl r1)
    refine ⟨_, e0, hb t' σ H1 ρ1 _ _ h1' q1 fun w z H2 ρ2 h2 r2 q2 => ?_⟩
    obtain ⟨h3, r3⟩ := back H2 ρ2 h2
    have r3 : Rp c.K (Far c t σ) H2 d v := by
      rcases r3 with r3 | ⟨i, rfl, _⟩
      · exact r3
      · cases r1
    cases z with
    | int z =>
      cases r2
      have q2 : (match ρ2[i]? with
        | some (some (.lst xs)) => match ixN xs.length z with
          | some m => De.nx (ρ2.set i (some (.lst (xs.set m d))))
          | none => False
        | _ => False) := by
        revert q2
        cases ρ2[i]? with
        | none => exact id
        | some o => cases o with
          | none => exact id
          | some o => cases o <;> exact id
      split at q2
      · rename_i xs hx
        split at q2
        · rename_i m hm
          obtain ⟨l, e1, ⟨o, ho, vs, rfl, rs⟩, _⟩ := h3.ownv i _ hx hi
          rw [e0] at e1; cases e1
          exact ⟨l0, vs, z, m, rfl, rfl, ho, by rw [← rs.length]; exact hm, n _ _ _ (h3.mut (d' := .lst (xs.set m d)) hi hx e0 ⟨_, rfl, rs.set m r3⟩) q2⟩
        · exact False.elim q2
      · exact False.elim q2
    | _ => exact False.elim q2
  · exact False.elim q1

/-! ### targets -/
abbrev DG := D → Env → (Env → Prop) → Prop
abbrev DGs := List D → Env → (Env → Prop) → Prop
/-- g stores into the slots is -/
def SG (c : C0) (is : List Nat) (g : TG) (dg : DG) : Prop := ∀ (t : Tm) (σ : L2.St) (H : Hp) (ρ : Env) (v : V) (d : D) (P : Env → Prop) (Q : L2.St → Hp → Prop), EnvOk c t σ H ρ → Rp c.K (Far c t σ) H d v → dg d ρ P →
  (∀ σ' ρ', EnvOk c t σ' H ρ' → σ'.length = σ.length → (∀ j, j ∉ is → σ'[j]? = σ[j]? ∧ ρ'[j]? = ρ[j]?) → Far c t σ' = Far c t σ → P ρ' → Q σ' H) → g v σ H Q
def SGs (c : C0) (is : List Nat) (g : TGs) (dg : DGs) : Prop := ∀ (t : Tm) (σ : L2.St) (H : Hp) (ρ : Env) (vs : List V) (ds : List D) (P : Env → Prop) (Q : L2.St → Hp → Prop), EnvOk c t σ H ρ → RpL c.K (Far c t σ) H ds vs → dg ds ρ P →
  (∀ σ' ρ', EnvOk c t σ' H ρ' → σ'.length = σ.length → (∀ j, j ∉ is → σ'[j]? = σ[j]? ∧ ρ'[j]? = ρ[j]?) → Far c t σ' = Far c t σ → P ρ' → Q σ' H) → g vs σ H Q
def dgName (i : Nat) : DG := fun d ρ P => P (ρ.set i (some d))
theorem sg_name (i : Nat) (hi : c.own i = false) : SG c [i] (gName i) (dgName i) := fun t σ H ρ v d P Q h r q k =>
  k _ _ (h.put hi fun d' e => ⟨v, rfl, by cases e; exact r⟩) (List.length_set ..) (fun j hj => ⟨List.getElem?_set_ne fun z => hj (by rw [z]; exact List.mem_singleton_self _), List.getElem?_set_ne fun z => hj (by rw [z]; exact List.mem_singleton_self _)⟩)
    (funext fun a => propext (far_set hi)) q
def dgNil : DGs := fun ds ρ P => match ds with
  | [] => P ρ
  | _ => False
def dgCons (g : DG) (r : DGs) : DGs := fun ds ρ P => match ds with
  | d :: ds => g d ρ fun ρ1 => r ds ρ1 P
  | [] => False
theorem sgs_nil : SGs c [] gNil dgNil := fun t σ H ρ vs ds P Q h r q k => by
  cases r with
  | nil => exact ⟨rfl, k σ ρ h rfl (fun _ _ => ⟨rfl, rfl⟩) rfl q⟩
  | cons _ _ => exact False.elim q
theorem sgs_cons {is js : List Nat} {g : TG} {gs : TGs} {dg : DG} {dgs : DGs} (h1 : SG c is g dg) (h2 : SGs c js gs dgs) : SGs c (is ++ js) (gCons g gs) (dgCons dg dgs) := fun t σ H ρ vs ds P Q h r q k => by
  cases r with
  | nil => exact False.elim q
  | cons a b =>
    refine ⟨_, _, rfl, h1 t σ H ρ _ _ _ _ h a q fun σ1 ρ1 e1 l1 s1 f1 q1 => ?_⟩
    refine h2 t σ1 H ρ1 _ _ _ _ e1 (by rw [f1]; exact b) q1 fun σ2 ρ2 e2 l2 s2 f2 q2 => ?_
    exact k σ2 ρ2 e2 (l2.trans l1) (fun j hj => ⟨((s2 j fun z => hj (List.mem_append_right _ z)).1).trans (s1 j fun z => hj (List.mem_append_left _ z)).1, ((s2 j fun z => hj (List.mem_append_right _ z)).2).trans (s1 j fun z => hj (List.mem_append_left _ z)).2⟩) (f2.trans f1) q2
/-- a tuple taken apart -/
def dgTup (n : Nat) (g : DGs) : DG := fun d ρ P => match d with
  | .tup xs => xs.length = n ∧ g xs ρ P
  | _ => False
theorem sg_tup {is : List Nat} {n : Nat} {g : TGs} {dg : DGs} (h1 : SGs c is g dg) : SG c is (gTup c.K n g) (dgTup n dg) := fun t σ H ρ v d P Q h r q k => by
  cases d with
  | tup xs =>
    obtain ⟨a, vs, rfl, _, ha, rs⟩ := r.seqT
    exact ⟨a, vs, rfl, .of ha, by rw [← rs.length]; exact q.1, h1 t σ H ρ vs xs _ _ h rs q.2 k⟩
  | _ => exact False.elim q
def dAsg (a : DE) (g : DG) : DS := fun De ρ => a ρ fun d ρ1 => g d ρ1 De.nx
theorem ss_asg {is : List Nat} {g : TG} {dg : DG} (ha : SV c ta da) (hg : SG c is g dg) : SS c (tAsg ta g) (dAsg da dg) := fun t σ H ρ De E h q n r b k =>
  ha t σ H ρ _ _ h q fun v d H1 ρ1 h1 r1 q1 => hg t σ H1 ρ1 v d _ _ h1 r1 q1 fun σ' ρ' h' _ _ _ q' => n σ' H1 ρ' h' q'
/-! a, b = x, y -/
def dPar (i j : Nat) (a : DA) : DS := fun De ρ => a ρ fun ds ρ1 => match ds with
  | [d, e] => De.nx ((ρ1.set i (some d)).set j (some e))
  | _ => False
theorem ss_par {m : Nat} {ta : TA} {da : DA} (i j : Nat) (hi : c.own i = false) (hj : c.own j = false) (ha : SA c m ta da) : SS c (tPar i j ta) (dPar i j da) := fun t σ H ρ De E h q n r b k =>
  ha t σ H ρ _ _ h q fun vs ds H1 ρ1 h1 rs m1 q1 => by
    cases rs with
    | nil => exact False.elim q1
    | cons a rs => cases rs with
      | nil => exact False.elim q1
      | cons b rs => cases rs with
        | cons d rs => exact False.elim q1
        | nil =>
          refine ⟨_, _, rfl, n _ H1 _ ?_ q1⟩
          have h2 := h1.put (x := some _) (y := some _) hi fun d' e => ⟨_, rfl, by cases e; exact a⟩
          exact h2.put hj fun d' e => ⟨_, rfl, by cases e; rw [show Far c t (σ.set i _) = Far c t σ from funext fun a => propext (far_set hi)]; exact b⟩
def dPar3 (i j l : Nat) (a : DA) : DS := fun De ρ => a ρ fun ds ρ1 => match ds with
  | [d, e, f] => De.nx (((ρ1.set i (some d)).set j (some e)).set l (some f))
  | _ => False
theorem ss_par3 {m : Nat} {ta : TA} {da : DA} (i j l : Nat) (hi : c.own i = false) (hj : c.own j = false) (hl : c.own l = false) (ha : SA c m ta da) : SS c (tPar3 i j l ta) (dPar3 i j l da) := fun t σ H ρ De E h q n r b k =>
  ha t σ H ρ _ _ h q fun vs ds H1 ρ1 h1 rs m1 q1 => by
    cases rs with
    | nil => exact False.elim q1
    | cons a rs => cases rs with
      | nil => exact False.elim q1
      | cons b rs => cases rs with
        | nil => exact False.elim q1
        | cons d rs => cases rs with
          | cons d rs => exact False.elim q1
          | nil =>
            refine ⟨_, _, _, rfl, n _ H1 _ ?_ q1⟩
            have h2 := h1.put (x := some _) (y := some _) hi fun d' e => ⟨_, rfl, by cases e; exact a⟩
            have h3 := h2.put (x := some _) (y := some _) hj fun d' e => ⟨_, rfl, by cases e; rw [show Far c t (σ.set i _) = Far c t σ from funext fun a => propext (far_set hi)]; exact b⟩
            exact h3.put hl fun d' e => ⟨_, rfl, by
              cases e
              rw [show ∀ τ : L2.St, Far c t (τ.set j _) = Far c t τ from fun τ => funext fun a => propext (far_set hj), show Far c t (σ.set i _) = Far c t σ from funext fun a => propext (far_set hi)]
              exact d⟩
end
end PD

end
section
set_option Elab.async false
set_option linter.all false
set_option maxRecDepth 100000
namespace L2
open PySem PySem.Spec PyProof.Rows
/-- a list or a tuple, walked -/
def iSeq (K : PySem.W.Frag) (tl : TE) : TI := fun σ H R => tl σ H fun x H1 => ∃ a, x = .ref a ∧ (((∃ xs, SqL K H1 a xs) ∧ R (Itl K a) H1) ∨ ((∃ xs, SqT K H1 a xs) ∧ R (Itt K a) H1))
theorem pi_seq {X : Cx} {tg l : Expr} {tl : TE} (hl : PE X l tl) : PI X tg l (iSeq X.K tl) := by
  refine ⟨fun pins s σ H R I h => ?_⟩
  refine thn (hl.run pins s σ H _ I h) fun v s1 ⟨x, H1, I1, r1, q1⟩ => ?_
  obtain ⟨a, e, q⟩ := q1
  subst e
  cases r1
  rcases q with ⟨⟨xs, hq⟩, q⟩ | ⟨⟨xs, hq⟩, q⟩
  · obtain ⟨its, rv, p, hz⟩ := I1.list hq
    refine wpAny_pyIter_list p.isList ?_
    refine ⟨s1.heap.objs.size, [s1.heap.objs.size], _, _, H1, rfl, I1.kept (t' := s1.toks) fun b o e => Heap.get?_push_of_some _ e, turn_list a _, ⟨_, Heap.get?_push_size _ rfl, rfl, rfl⟩, fun b hb => ?_, q⟩
    have e : b = s1.heap.objs.size := by simpa using hb
    subst e
    exact I1.fpOk (Nat.le_refl _) (I1.hok.fresh (Nat.le_refl _))
  · obtain ⟨its, rv, p, hz⟩ := I1.tuple hq
    refine wpAny_pyIter_tuple (show s1.heap.IsTuple a its.toArray from p) ?_
    refine ⟨s1.heap.objs.size, [s1.heap.objs.size], _, _, H1, rfl, I1.kept (t' := s1.toks) fun b o e => Heap.get?_push_of_some _ e, turn_tuple a _, ⟨_, Heap.get?_push_size _ rfl, rfl, rfl⟩, fun b hb => ?_, q⟩
    have e : b = s1.heap.objs.size := by simpa using hb
    subst e
    exact I1.fpOk (Nat.le_refl _) (I1.hok.fresh (Nat.le_refl _))
end L2
namespace PD
open PySem PySem.Spec PyProof.Rows L2 RZ

section
variable {c : C0} {t : Tm} {σ : L2.St} {H H' : Hp} {ρ : Env}
variable {te ta tb tc : TE} {de da db dc : DE} {tt tu : TT} {dt du : DT} {ts tv : TS} {ds dv : DS}

/-! ### while -/
def dWhile (a : DT) (b : DS) : DS := fun De ρ => ∃ W : Nat → Env → Prop, (∃ m, W m ρ) ∧ ∀ m ρ1, W m ρ1 → a ρ1 fun k ρ2 =>
  sel k (b { De with nx := fun ρ3 => ∃ m', m' < m ∧ W m' ρ3, ct := fun ρ3 => ∃ m', m' < m ∧ W m' ρ3, bk := De.nx } ρ2) (De.nx ρ2)
theorem ss_while (ht : ST c tt dt) (hb : SS c ts ds) : SS c (tWhile tt ts) (dWhile dt ds) := fun t σ H ρ De E h q n r b k => by
  obtain ⟨W, ⟨m0, w0⟩, turn⟩ := q
  refine ⟨fun m σ H => ∃ ρ, EnvOk c t σ H ρ ∧ W m ρ, ⟨m0, ρ, h, w0⟩, fun m σ1 H1 ⟨ρ1, h1, w1⟩ => ?_⟩
  refine ht t σ1 H1 ρ1 _ _ h1 (turn m ρ1 w1) fun x H2 ρ2 h2 q2 => ?_
  cases x with
  | true =>
    refine (if_pos rfl).mpr ⟨fun σ' H' => ∃ m', m' < m ∧ ∃ ρ, EnvOk c t σ' H' ρ ∧ W m' ρ, fun _ _ z => z, ?_⟩
    exact hb t σ1 H2 ρ2 _ _ h2 q2 (fun σ' H' ρ' e ⟨m', l, w⟩ => ⟨m', l, ρ', e, w⟩) r n (fun σ' H' ρ' e ⟨m', l, w⟩ => ⟨m', l, ρ', e, w⟩)
  | false => exact (if_neg (fun z => by cases z)).mpr (n σ1 H2 ρ2 h2 q2)
/-! ### what is walked -/
/-- a value is held besides, whatever the slots do -/
theorem EnvOk.pin {d : D} {v : V} (h : EnvOk c t σ H ρ) (r : Rp c.K (Far c t σ) H d v) : EnvOk c ⟨(d, v) :: t.vals, t.hold⟩ σ H ρ :=
  { h with tv := fun p hp => (List.mem_cons.mp hp).elim (fun e => by rw [e]; exact r) fun hp => h.tv p hp }
theorem EnvOk.unpin {d : D} {v : V} (h : EnvOk c ⟨(d, v) :: t.vals, t.hold⟩ σ H ρ) : EnvOk c t σ H ρ := { h with tv := fun p hp => h.tv p (List.mem_cons_of_mem _ hp) }
theorem EnvOk.pinned {d : D} {v : V} (h : EnvOk c ⟨(d, v) :: t.vals, t.hold⟩ σ H ρ) : Rp c.K (Far c t σ) H d v := h.tv (d, v) List.mem_cons_self
/-- t2 holds what t holds (its objects may be others) -/
def Sub (t t2 : Tm) : Prop := ∀ p ∈ t.vals, p ∈ t2.vals
theorem Sub.refl (t : Tm) : Sub t t := fun _ h => h
theorem Sub.cons {t t2 : Tm} {x : D × V} {hl : List (Addr × HO)} (h : Sub t t2) : Sub t ⟨x :: t2.vals, hl⟩ := fun p hp => List.mem_cons_of_mem _ (h p hp)
theorem EnvOk.sub {t2 : Tm} (h : EnvOk c t2 σ H ρ) (s : Sub t t2) (e : t2.hold = t.hold) : EnvOk c t σ H ρ := by
  obtain ⟨vs, hs⟩ := t
  obtain ⟨vs2, hs2⟩ := t2
  cases e
  exact { h with tv := fun p hp => h.tv p (s p hp) }
def ItOk (c : C0) (t' : Tm) (J : It) (items : List D) : Prop := ∀ t σ H ρ, Sub t' t → EnvOk c t σ H ρ →
  (∀ i, i < items.length → J.go i H) ∧ (∀ i x H', J.yld i H x H' → i < items.length → ∃ d, items[i]? = some d ∧ EnvOk c t σ H' ρ ∧ Rp c.K (Far c t σ) H' d x) ∧ J.stop items.length H
abbrev DI := Env → (List D → Env → Prop) → Prop
def SI (c : C0) (wi : TI) (di : DI) : Prop := ∀ (t : Tm) (σ : L2.St) (H : Hp) (ρ : Env) (P : List D → Env → Prop) (R : It → Hp → Prop), EnvOk c t σ H ρ → di ρ P →
  (∀ t' J items H' ρ', t'.hold = t.hold → Sub t t' → EnvOk c t' σ H' ρ' → ItOk c t' J items → P items ρ' → R J H') → wi σ H R
theorem itl_ok {t' : Tm} {a : Addr} {xs : List D} (f : ∀ t σ H ρ, Sub t' t → EnvOk c t σ H ρ → ∃ vs, SqL c.K H a vs ∧ RpL c.K (Far c t σ) H xs vs) : ItOk c t' (Itl c.K a) xs := fun t σ H ρ s h => by
  obtain ⟨vs, hs, rs⟩ := f t σ H ρ s h
  refine ⟨fun i hi => ?_, fun i x H' y hi => ?_, vs, hs, Nat.le_of_eq rs.length.symm⟩
  · obtain ⟨v, e, r⟩ := rs.got (List.getElem?_eq_getElem hi)
    exact ⟨vs, v, hs, e⟩
  · obtain ⟨rfl, y⟩ := y
    obtain ⟨d, e, r⟩ := rs.get (y vs hs)
    exact ⟨d, e, h, r⟩
theorem itt_ok {t' : Tm} {a : Addr} {xs : List D} (f : ∀ t σ H ρ, Sub t' t → EnvOk c t σ H ρ → ∃ vs, SqT c.K H a vs ∧ RpL c.K (Far c t σ) H xs vs) : ItOk c t' (Itt c.K a) xs := fun t σ H ρ s h => by
  obtain ⟨vs, hs, rs⟩ := f t σ H ρ s h
  refine ⟨fun i hi => ?_, fun i x H' y hi => ?_, vs, hs, Nat.le_of_eq rs.length.symm⟩
  · obtain ⟨v, e, r⟩ := rs.got (List.getElem?_eq_getElem hi)
    exact ⟨vs, v, hs, e⟩
  · obtain ⟨rfl, y⟩ := y
    obtain ⟨d, e, r⟩ := rs.get (y vs hs)
    exact ⟨d, e, h, r⟩
/-- the items of a list, a tuple -/
def dSeqI (a : DE) : DI := fun ρ P => a ρ fun d ρ1 => match d with
  | .lst xs => P xs ρ1
  | .tup xs => P xs ρ1
  | .scr ns => P (ns.map D.int) ρ1
  | _ => False
theorem si_seq (ha : SV c ta da) : SI c (iSeq c.K ta) (dSeqI da) := fun t σ H ρ P R h q k =>
  ha t σ H ρ _ _ h q fun v d H1 ρ1 h1 r1 q1 => by
    have un : Sub t ⟨(d, v) :: t.vals, t.hold⟩ := (Sub.refl t).cons
    cases d with
    | lst xs =>
      obtain ⟨a, vs, rfl, _, hs, _⟩ := r1.seqL
      refine ⟨a, rfl, .inl ⟨⟨vs, .of hs⟩, k ⟨(_, _) :: t.vals, t.hold⟩ _ xs H1 ρ1 rfl un (h1.pin r1) (itl_ok fun t2 σ H ρ s h => ?_) q1⟩⟩
      obtain ⟨a', vs, e, _, hs, rs⟩ := (h.tv _ (s _ List.mem_cons_self)).seqL
      cases e
      exact ⟨vs, .of hs, rs⟩
    | tup xs =>
      obtain ⟨a, vs, rfl, _, hs, _⟩ := r1.seqT
      refine ⟨a, rfl, .inr ⟨⟨vs, .of hs⟩, k ⟨(_, _) :: t.vals, t.hold⟩ _ xs H1 ρ1 rfl un (h1.pin r1) (itt_ok fun t2 σ H ρ s h => ?_) q1⟩⟩
      obtain ⟨a', vs, e, _, hs, rs⟩ := (h.tv _ (s _ List.mem_cons_self)).seqT
      cases e
      exact ⟨vs, .of hs, rs⟩
    | scr ns =>
      obtain ⟨a, rfl, hs⟩ := r1.seqS
      refine ⟨a, rfl, .inl ⟨⟨_, hs⟩, k ⟨(_, _) :: t.vals, t.hold⟩ _ _ H1 ρ1 rfl un (h1.pin r1) (itl_ok fun t2 σ H ρ s h => ?_) q1⟩⟩
      obtain ⟨a', e, hs⟩ := (h.tv _ (s _ List.mem_cons_self)).seqS
      cases e
      exact ⟨_, hs, .of_ints ns⟩
    | _ => exact False.elim q1
/-- range -/
def rgD (lo : Int) (n : Nat) : List D := (List.range n).map fun i => .int (lo + (i : Nat))
theorem rgD_length (lo : Int) (n : Nat) : (rgD lo n).length = n := by unfold rgD; rw [List.length_map, List.length_range]
theorem rgD_get {lo : Int} {n i : Nat} (h : i < n) : (rgD lo n)[i]? = some (.int (lo + (i : Nat))) := by
  unfold rgD; rw [List.getElem?_map, List.getElem?_range h]; rfl
theorem rgD_got {lo : Int} {n i : Nat} {d : D} (h : (rgD lo n)[i]? = some d) : i < n ∧ d = .int (lo + (i : Nat)) := by
  have hi : i < n := by
    have := (List.getElem?_eq_some_iff.mp h).1
    rwa [rgD_length] at this
  rw [rgD_get hi] at h
  exact ⟨hi, (Option.some.inj h).symm⟩
theorem itr_ok {t' : Tm} {lo : Int} {n : Nat} : ItOk c t' (Itr lo n) (rgD lo n) := fun t σ H ρ s h => by
  rw [rgD_length]
  refine ⟨fun i hi => hi, fun i x H' y hi => ?_, Nat.le_refl _⟩
  obtain ⟨rfl, rfl⟩ := y
  exact ⟨_, rgD_get hi, h, .int _⟩
def dRange1 (a : DE) : DI := fun ρ P => a ρ fun d ρ1 => match d with
  | .int n => (-(2 ^ 62) ≤ n ∧ n < 2 ^ 62) ∧ P (rgD 0 n.toNat) ρ1
  | _ => False
def dRange2 (a b : DE) : DI := fun ρ P => a ρ fun d ρ1 => b ρ1 fun e ρ2 => match d, e with
  | .int m, .int n => (-(2 ^ 62) ≤ m ∧ m < 2 ^ 62 ∧ -(2 ^ 62) ≤ n ∧ n < 2 ^ 62) ∧ P (rgD m (n - m).toNat) ρ2
  | _, _ => False
theorem si_range1 (ha : SV c ta da) : SI c (iRng1 (tCons ta tNil)) (dRange1 da) := fun t σ H ρ P R h q k =>
  ha t σ H ρ _ _ h q fun v d H1 ρ1 h1 r1 q1 => by
    cases d with
    | int n =>
      cases r1
      exact ⟨n, rfl, q1.1.1, q1.1.2, k t _ _ H1 ρ1 rfl (.refl t) h1 itr_ok q1.2⟩
    | _ => exact False.elim q1
theorem si_range2 (ha : SV c ta da) (hb : SV c tb db) : SI c (iRng2 (tCons ta (tCons tb tNil))) (dRange2 da db) := fun t σ H ρ P R h q k => by
  refine se_two (P := fun d e ρ2 => match d, e with
    | .int m, .int n => (-(2 ^ 62) ≤ m ∧ m < 2 ^ 62 ∧ -(2 ^ 62) ≤ n ∧ n < 2 ^ 62) ∧ P (rgD m (n - m).toNat) ρ2
    | _, _ => False) ha.se hb.se h q fun x y dx dy H' ρ' h' rx ry q' => ?_
  cases dx with
  | int m => cases dy with
    | int n => exact ⟨m, n, by rw [rx.int, ry.int], q'.1, k t _ _ H' ρ' rfl (.refl t) h' itr_ok q'.2⟩
    | _ => exact False.elim q'
  | _ => exact False.elim q'
/-- zip of two tuples -/
def pairs : List D → List D → List D
  | x :: xs, y :: ys => .tup [x, y] :: pairs xs ys
  | _, _ => []
theorem pairs_get : ∀ {xs ys : List D} {i : Nat} {x y : D}, xs[i]? = some x → ys[i]? = some y → (pairs xs ys)[i]? = some (.tup [x, y])
  | x :: xs, y :: ys, 0, _, _, h1, h2 => by simp at h1 h2; subst h1; subst h2; rfl
  | x :: xs, y :: ys, i + 1, _, _, h1, h2 => pairs_get (xs := xs) (ys := ys) (i := i) (by simpa using h1) (by simpa using h2)
  | [], _, _, _, _, h1, _ => by simp at h1
  | _ :: _, [], _, _, _, _, h2 => by simp at h2
theorem pairs_length : ∀ xs ys : List D, (pairs xs ys).length = min xs.length ys.length
  | [], _ => by simp [pairs]
  | x :: xs, [] => by simp [pairs]
  | x :: xs, y :: ys => by rw [pairs, List.length_cons, pairs_length xs ys, List.length_cons, List.length_cons]; omega
theorem itz_ok {t' : Tm} {a b : Addr} {xs ys : List D} (f : ∀ t σ H ρ, Sub t' t → EnvOk c t σ H ρ → ∃ vs ws, SqT c.K H a vs ∧ SqT c.K H b ws ∧ RpL c.K (Far c t σ) H xs vs ∧ RpL c.K (Far c t σ) H ys ws) : ItOk c t' (ItzT c.K a b) (pairs xs ys) := fun t σ H ρ s h => by
  obtain ⟨vs, ws, hs, hs2, rs, rs2⟩ := f t σ H ρ s h
  rw [pairs_length]
  refine ⟨fun i hi => ?_, fun i x H' y hi => ?_, vs, ws, hs, hs2, ?_⟩
  · obtain ⟨v, e, r⟩ := rs.got (List.getElem?_eq_getElem (show i < xs.length by omega))
    obtain ⟨w, e2, r2⟩ := rs2.got (List.getElem?_eq_getElem (show i < ys.length by omega))
    exact ⟨vs, ws, v, w, hs, hs2, e, e2⟩
  · obtain ⟨T, x1, y1, rfl, hT, rfl, f1, f2⟩ := y
    obtain ⟨d, e, r⟩ := rs.get (f1 vs hs)
    obtain ⟨d2, e2, r2⟩ := rs2.get (f2 ws hs2)
    exact ⟨_, pairs_get e e2, h.new hT, .tup (h.far hT) upd_same (.cons (r.grow (upd_grow hT)) (.cons (r2.grow (upd_grow hT)) .nil))⟩
  · rw [← rs.length, ← rs2.length]; omega
def dZipT (a b : DE) : DI := fun ρ P => a ρ fun d ρ1 => b ρ1 fun e ρ2 => match d, e with
  | .tup xs, .tup ys => P (pairs xs ys) ρ2
  | _, _ => False
theorem si_zipT (ha : SV c ta da) (hb : SV c tb db) : SI c (iZipA c.K (tCons ta (tCons tb tNil))) (dZipT da db) := fun t σ H ρ P R h q k => by
  refine se_two (P := fun d e ρ2 => match d, e with
    | .tup xs, .tup ys => P (pairs xs ys) ρ2
    | _, _ => False) ha.se hb.se h q fun x y dx dy H' ρ' h' rx ry q' => ?_
  cases dx with
  | tup xs => cases dy with
    | tup ys =>
      have rx := rx.rp trivial
      have ry := ry.rp trivial
      obtain ⟨a, vs, rfl, _, hs, rs⟩ := rx.seqT
      obtain ⟨b, ws, rfl, _, hs2, rs2⟩ := ry.seqT
      refine ⟨a, b, vs, ws, rfl, .inr ⟨.of hs, .of hs2, k ⟨(.tup xs, .ref a) :: (.tup ys, .ref b) :: t.vals, t.hold⟩ _ _ H' ρ' rfl (Sub.cons (t2 := ⟨(.tup ys, .ref b) :: t.vals, t.hold⟩) (Sub.cons (.refl t))) ?_ (itz_ok fun t2 σ H ρ s h => ?_) q'⟩⟩
      · exact EnvOk.pin (t := ⟨(.tup ys, .ref b) :: t.vals, t.hold⟩) (h'.pin ry) rx
      · obtain ⟨_, vs, e, _, hs, rs⟩ := (h.tv _ (s _ List.mem_cons_self)).seqT
        obtain ⟨_, ws, e2, _, hs2, rs2⟩ := (h.tv _ (s _ (List.mem_cons_of_mem _ List.mem_cons_self))).seqT
        cases e; cases e2
        exact ⟨vs, ws, .of hs, .of hs2, rs, rs2⟩
    | _ => exact False.elim q'
  | _ => exact False.elim q'

/-! ### for -/
def dFor (di : DI) (g : DG) (b : DS) : DS := fun De ρ => di ρ fun items ρ1 => ∃ W : Nat → Env → Prop, W 0 ρ1 ∧
  (∀ i d ρ2, items[i]? = some d → W i ρ2 → g d ρ2 fun ρ3 => b { De with nx := W (i + 1), ct := W (i + 1), bk := De.nx } ρ3) ∧ ∀ ρ2, W items.length ρ2 → De.nx ρ2
theorem ss_for {wi : TI} {di : DI} {g : TG} {dg : DG} {is : List Nat} (hi : SI c wi di) (hg : SG c is g dg) (hb : SS c ts ds) : SS c (tFor wi g ts) (dFor di dg ds) := fun t σ H ρ De E h q n r b k => by
  refine hi t σ H ρ _ _ h q fun t' J items H1 ρ1 e0 sb h1 it q1 => ?_
  obtain ⟨W, w0, turn, done⟩ := q1
  have un : ∀ σ1 H1 ρ1, EnvOk c t' σ1 H1 ρ1 → EnvOk c t σ1 H1 ρ1 := fun _ _ _ h => h.sub sb e0
  refine ⟨fun i m σ H => m = items.length - i ∧ i ≤ items.length ∧ ∃ ρ, EnvOk c t' σ H ρ ∧ W i ρ, ⟨items.length, by simp, Nat.zero_le _, ρ1, h1, w0⟩, ?_⟩
  rintro i m σ2 H2 ⟨rfl, hi, ρ2, h2, w2⟩
  obtain ⟨go, yld, stop⟩ := it t' σ2 H2 ρ2 (.refl _) h2
  by_cases hlt : i < items.length
  · refine .inr ⟨go i hlt, fun σ H => ∃ ρ, EnvOk c t' σ H ρ ∧ W (i + 1) ρ, fun σ' H' ⟨ρ', h', w'⟩ => ⟨items.length - (i + 1), by omega, rfl, hlt, ρ', h', w'⟩, fun x H3 y => ?_⟩
    obtain ⟨d, e, h3, r3⟩ := yld i x H3 y hlt
    refine hg t' σ2 H3 ρ2 x d _ _ h3 r3 (turn i d ρ2 e w2) fun σ4 ρ4 h4 _ _ _ q4 => ?_
    exact hb t' σ4 H3 ρ4 _ _ h4 q4 (fun σ' H' ρ' h' w => ⟨ρ', h', w⟩) (fun v d σ' H' ρ' h' r' q' => r v d σ' H' ρ' (un _ _ _ h') (r'.hold e0) q') (fun σ' H' ρ' h' q' => n σ' H' ρ' (un _ _ _ h') q') (fun σ' H' ρ' h' w => ⟨ρ', h', w⟩)
  · have e : i = items.length := by omega
    subst e
    exact .inl ⟨stop, n σ2 H2 ρ2 (un _ _ _ h2) (done ρ2 w2)⟩
end
end PD

end
section
set_option Elab.async false
set_option linter.all false
set_option maxRecDepth 100000
namespace PD
open PySem PySem.Spec PyProof.Rows L2 RZ

section
variable {c : C0} {t : Tm} {σ : L2.St} {H H' : Hp} {ρ : Env}
variable {te ta tb tc : TE} {de da db dc : DE} {tt tu : TT} {dt du : DT} {ts tv : TS} {ds dv : DS}

/-! ### comprehensions -/
def wipeD (ρ : Env) : List Nat → Env
  | [] => ρ
  | v :: vs => (wipeD ρ vs).set v none
/-- the slots vs as they were -/
def backD (vs : List Nat) (ρ0 ρ : Env) : Env := match vs with
  | [] => ρ
  | v :: vs => (backD vs ρ0 ρ).set v (ρ0[v]?.join)
def backS (vs : List Nat) (σ0 σ : L2.St) : L2.St := match vs with
  | [] => σ
  | v :: vs => (backS vs σ0 σ).set v (σ0[v]?.join)
theorem backS_len (σ0 σ : L2.St) : ∀ vs : List Nat, (backS vs σ0 σ).length = σ.length
  | [] => rfl
  | v :: vs => by rw [backS, List.length_set, backS_len σ0 σ vs]
theorem backS_eq {σ0 σ : L2.St} {vs : List Nat} (hl : σ.length = σ0.length) (h : ∀ j, j ∉ vs → σ[j]? = σ0[j]?) : backS vs σ0 σ = σ0 := by
  have key : ∀ (vs : List Nat) (j : Nat), (backS vs σ0 σ)[j]? = if j ∈ vs then σ0[j]? else σ[j]? := by
    intro vs
    induction vs with
    | nil => intro j; rw [backS, if_neg (by simp)]
    | cons v vs ih =>
      intro j
      rw [backS]
      by_cases e : v = j
      · subst e
        rw [if_pos List.mem_cons_self]
        by_cases hlt : v < (backS vs σ0 σ).length
        · rw [List.getElem?_set_self hlt]
          rw [backS_len, hl] at hlt
          rw [List.getElem?_eq_getElem hlt]; rfl
        · rw [List.getElem?_eq_none (by rw [List.length_set]; omega)]
          rw [backS_len, hl] at hlt
          rw [List.getElem?_eq_none (by omega)]
      · rw [List.getElem?_set_ne e, ih j]
        by_cases m : j ∈ vs
        · rw [if_pos m, if_pos (List.mem_cons_of_mem _ m)]
        · rw [if_neg m, if_neg (fun z => (List.mem_cons.mp z).elim (fun z => e z.symm) m)]
  refine List.ext_getElem? fun j => ?_
  rw [key vs j]
  by_cases m : j ∈ vs
  · rw [if_pos m]
  · rw [if_neg m, h j m]
theorem EnvOk.wiped (h : EnvOk c t σ H ρ) : ∀ vs : List Nat, (∀ v ∈ vs, c.own v = false) → EnvOk c t (wipe σ vs) H (wipeD ρ vs) ∧ Far c t (wipe σ vs) = Far c t σ
  | [], _ => ⟨h, rfl⟩
  | v :: vs, hv => by
    obtain ⟨h1, f1⟩ := EnvOk.wiped h vs fun u hu => hv u (List.mem_cons_of_mem _ hu)
    have ho := hv v List.mem_cons_self
    exact ⟨h1.put ho (fun d e => nomatch e), (funext fun a => propext (far_set ho)).trans f1⟩
/-- the slots' values are held besides -/
theorem EnvOk.pinAll (h : EnvOk c t σ H ρ) : ∀ vs : List Nat, (∀ v ∈ vs, c.own v = false) → ∃ t2 : Tm, t2.hold = t.hold ∧ Sub t t2 ∧ EnvOk c t2 σ H ρ ∧
    ∀ t3 σ1 H1 ρ1, Sub t2 t3 → EnvOk c t3 σ1 H1 ρ1 → ∀ v ∈ vs, ∀ d, ρ[v]? = some (some d) → ∃ u, σ[v]? = some (some u) ∧ Rp c.K (Far c t3 σ1) H1 d u
  | [], _ => ⟨t, rfl, .refl t, h, fun _ _ _ _ _ _ v hv => absurd hv (by simp)⟩
  | v :: vs, hv => by
    obtain ⟨t2, e2, s2, h2, f2⟩ := EnvOk.pinAll h vs fun u hu => hv u (List.mem_cons_of_mem _ hu)
    cases hz : ρ[v]? with
    | none => exact ⟨t2, e2, s2, h2, fun t3 σ1 H1 ρ1 s h u hu d e => (List.mem_cons.mp hu).elim (fun z => by subst z; rw [hz] at e; cases e) fun hu => f2 t3 σ1 H1 ρ1 s h u hu d e⟩
    | some o => cases o with
      | none => exact ⟨t2, e2, s2, h2, fun t3 σ1 H1 ρ1 s h u hu d e => (List.mem_cons.mp hu).elim (fun z => by subst z; rw [hz] at e; cases e) fun hu => f2 t3 σ1 H1 ρ1 s h u hu d e⟩
      | some d0 =>
        obtain ⟨u0, e0, r0⟩ := h2.val v d0 hz (hv v List.mem_cons_self)
        refine ⟨⟨(d0, u0) :: t2.vals, t2.hold⟩, e2, s2.cons, h2.pin r0, fun t3 σ1 H1 ρ1 s h u hu d e => ?_⟩
        rcases List.mem_cons.mp hu with z | hu
        · subst z
          rw [hz] at e; cases e
          exact ⟨u0, e0, h.tv _ (s _ List.mem_cons_self)⟩
        · exact f2 t3 σ1 H1 ρ1 (fun p hp => s p (List.mem_cons_of_mem _ hp)) h u hu d e
theorem EnvOk.backed {ρ5 : Env} {σ2 : L2.St} (h : EnvOk c t σ2 H ρ5) : ∀ vs : List Nat, (∀ v ∈ vs, c.own v = false) → (∀ v ∈ vs, ∀ d, ρ[v]? = some (some d) → ∃ u, σ[v]? = some (some u) ∧ Rp c.K (Far c t σ2) H d u) →
    EnvOk c t (backS vs σ σ2) H (backD vs ρ ρ5) ∧ Far c t (backS vs σ σ2) = Far c t σ2
  | [], _, _ => ⟨h, rfl⟩
  | v :: vs, hv, f => by
    obtain ⟨h1, f1⟩ := EnvOk.backed h vs (fun u hu => hv u (List.mem_cons_of_mem _ hu)) fun u hu => f u (List.mem_cons_of_mem _ hu)
    have ho := hv v List.mem_cons_self
    refine ⟨h1.put ho fun d e => ?_, (funext fun a => propext (far_set ho)).trans f1⟩
    cases hz : ρ[v]? with
    | none => rw [hz] at e; cases e
    | some o =>
      rw [hz] at e
      have e' : o = some d := e
      subst e'
      obtain ⟨u, e1, r⟩ := f v List.mem_cons_self d hz
      exact ⟨u, by rw [e1]; rfl, by rw [f1]; exact r⟩
theorem wipe_in {σ : L2.St} {j : Nat} : ∀ {vs : List Nat}, j ∈ vs → j < σ.length → (wipe σ vs)[j]? = some none
  | v :: vs, h, hl => by
    rw [wipe]
    by_cases e : v = j
    · subst e
      exact List.getElem?_set_self (by rw [wipe_length]; exact hl)
    · rw [List.getElem?_set_ne e]
      exact wipe_in ((List.mem_cons.mp h).resolve_left fun z => e z.symm) hl
theorem wipe_eq {σ σ2 : L2.St} {vs : List Nat} (hl : σ2.length = σ.length) (h : ∀ j, j ∉ vs → σ2[j]? = σ[j]?) : wipe σ2 vs = wipe σ vs := by
  refine List.ext_getElem? fun j => ?_
  by_cases m : j ∈ vs
  · by_cases hlt : j < σ.length
    · rw [wipe_in m hlt, wipe_in m (by rw [hl]; exact hlt)]
    · rw [List.getElem?_eq_none (by rw [wipe_length]; omega), List.getElem?_eq_none (by rw [wipe_length]; omega)]
  · rw [wipe_out m, wipe_out m, h j m]

def dLc (di : DI) (g : DG) (a : DT) (b : DE) (vs : List Nat) : DE := fun ρ P => di ρ fun items ρ1 => ∃ W : Nat → List D → Env → Prop, W 0 [] ρ1 ∧
  (∀ i d acc ρ2, items[i]? = some d → W i acc ρ2 → g d (wipeD ρ2 vs) fun ρ3 => a ρ3 fun k ρ4 =>
    sel k (b ρ4 fun y ρ5 => acc.length < sizeLine ∧ W (i + 1) (acc ++ [y]) (backD vs ρ2 ρ5)) (W (i + 1) acc (backD vs ρ2 ρ4))) ∧ ∀ acc ρ2, W items.length acc ρ2 → P (.lst acc) ρ2
def dYes : DT := fun ρ P => P true ρ
theorem st_yes : ST c tYes dYes := fun t σ H ρ P Q h q k => k true H ρ h q
/-- the items so far, held -/
def Kept (t : Tm) (acc : List D) (avs : List V) : Prop := acc.length = avs.length ∧ ∀ (j : Nat) (d : D) (v : V), acc[j]? = some d → avs[j]? = some v → (d, v) ∈ t.vals
theorem Kept.rp {K : PySem.W.Frag} {A : Addr → Prop} : ∀ {acc : List D} {avs : List V}, Kept t acc avs → (∀ p ∈ t.vals, Rp K A H p.1 p.2) → RpL K A H acc avs
  | [], [], _, _ => .nil
  | [], _ :: _, k, _ => by cases k.1
  | _ :: _, [], k, _ => by cases k.1
  | d :: acc, v :: avs, k, h => .cons (h _ (k.2 0 d v rfl rfl)) (Kept.rp (acc := acc) (avs := avs) ⟨Nat.succ.inj k.1, fun j d v e1 e2 => k.2 (j + 1) d v e1 e2⟩ h)
theorem Kept.mono {t2 : Tm} {acc : List D} {avs : List V} (k : Kept t acc avs) (s : Sub t t2) : Kept t2 acc avs := ⟨k.1, fun j d v e1 e2 => s _ (k.2 j d v e1 e2)⟩
theorem Kept.snoc {acc : List D} {avs : List V} {d : D} {v : V} {hl : List (Addr × HO)} (k : Kept t acc avs) : Kept ⟨(d, v) :: t.vals, hl⟩ (acc ++ [d]) (avs ++ [v]) := by
  refine ⟨by rw [List.length_append, List.length_append, k.1]; rfl, fun j d' v' e1 e2 => ?_⟩
  by_cases h : j < acc.length
  · rw [List.getElem?_append_left h] at e1
    rw [List.getElem?_append_left (by rw [← k.1]; exact h)] at e2
    exact List.mem_cons_of_mem _ (k.2 j d' v' e1 e2)
  · have hj : j = acc.length := by
      have := (List.getElem?_eq_some_iff.mp e1).1
      rw [List.length_append] at this
      have : ([d] : List D).length = 1 := rfl
      omega
    subst hj
    rw [List.getElem?_append_right (Nat.le_refl _), Nat.sub_self] at e1
    rw [k.1, List.getElem?_append_right (Nat.le_refl _), Nat.sub_self] at e2
    cases e1; cases e2
    exact List.mem_cons_self
theorem sfl_lc {wi : TI} {di : DI} {g : TG} {dg : DG} {is vs : List Nat} (hi : SI c wi di) (hg : SG c is g dg) (ht : ST c tt dt) (he : SV c ta da) (hv' : (vs.all fun v => !c.own v) = true) (hs' : (is.all fun j => vs.contains j) = true) :
    SFL c (tLc wi g tt ta vs) (dLc di dg dt da vs) := fun t σ H ρ P Q h q k => by
  have hv : ∀ v ∈ vs, c.own v = false := fun v m => by simpa using List.all_eq_true.mp hv' v m
  have hs : ∀ j ∈ is, j ∈ vs := fun j m => by simpa using List.all_eq_true.mp hs' j m
  refine hi t σ H ρ _ _ h q fun t' J items H1 ρ1 e0 sb h1 it q1 D hD => ?_
  obtain ⟨W, w0, turn, done⟩ := q1
  have nD : ¬ Far c t' σ D := h1.far hD
  refine ⟨fun i m H => m = items.length - i ∧ i ≤ items.length ∧ ∃ ρ acc avs t3, t3.hold = t'.hold ∧ Sub t' t3 ∧ Kept t3 acc avs ∧ EnvOk c (t3.add D (.lst avs)) σ H ρ ∧ W i acc ρ,
    ⟨items.length, by simp, Nat.zero_le _, ρ1, [], [], t', rfl, .refl t', ⟨rfl, fun j d v e _ => by simp at e⟩, h1.add hD, w0⟩, ?_⟩
  rintro i m H2 ⟨rfl, hi, ρ2, acc, avs, t3, e3, s3, k3, h2, w2⟩
  have nD3 : ¬ Far c t3 σ D := by rw [Far.hold e3]; exact nD
  obtain ⟨go, yld, stop⟩ := it (t3.add D (.lst avs)) σ H2 ρ2 s3 h2
  by_cases hlt : i < items.length
  · refine .inr ⟨go i hlt, fun H => ∃ ρ acc avs t3, t3.hold = t'.hold ∧ Sub t' t3 ∧ Kept t3 acc avs ∧ EnvOk c (t3.add D (.lst avs)) σ H ρ ∧ W (i + 1) acc ρ, fun H' z => ⟨items.length - (i + 1), by omega, rfl, hlt, z⟩, fun x H3 y => ?_⟩
    obtain ⟨d, e, h3, r3⟩ := yld i x H3 y hlt
    obtain ⟨t4, e4, s4, h4, f4⟩ := h3.pinAll vs hv
    obtain ⟨h5, f5⟩ := h4.wiped vs hv
    have r5 : Rp c.K (Far c t4 (wipe σ vs)) H3 d x := by rw [f5, Far.hold e4]; exact r3
    refine hg t4 (wipe σ vs) H3 (wipeD ρ2 vs) x d _ _ h5 r5 (turn i d acc ρ2 e w2) fun σ6 ρ6 h6 l6 a6 f6 q6 => ?_
    have out : ∀ j, j ∉ vs → σ6[j]? = σ[j]? := fun j hj => ((a6 j fun z => hj (hs j z)).1).trans (wipe_out hj)
    have len6 : σ6.length = σ.length := l6.trans (wipe_length σ vs)
    refine ⟨wipe_eq len6 out, ht t4 σ6 H3 ρ6 _ _ h6 q6 fun b H7 ρ7 h7 q7 => ?_⟩
    -- back to the slots as they were
    have home : ∀ {H8 : Hp} {ρ8 : Env}, EnvOk c t4 σ6 H8 ρ8 → EnvOk c (t3.add D (.lst avs)) σ H8 (backD vs ρ2 ρ8) := fun {H8 ρ8} h8 => by
      obtain ⟨h9, f9⟩ := h8.backed (ρ := ρ2) (σ := σ) vs hv fun v hv' d' e' => f4 t4 σ6 H8 ρ8 (.refl _) h8 v hv' d' e'
      rw [backS_eq len6 out] at h9
      exact h9.sub s4 e4
    cases b with
    | false => exact (if_neg (fun z => by cases z)).mpr ⟨_, acc, avs, t3, e3, s3, k3, home h7, q7⟩
    | true =>
      refine (if_pos rfl).mpr (he t4 σ6 H7 ρ7 _ _ h7 q7 fun y dy H8 ρ8 h8 r8 q8 => ?_)
      have h9 := home h8
      have hD8 : H8 D = some (.lst avs) := (h9.th (D, .lst avs) List.mem_cons_self).1
      have ff : Far c t4 σ6 = Far c (t3.add D (.lst avs)) σ := by rw [f6, f5, Far.hold e4]
      rw [ff] at r8
      refine ⟨avs, hD8, by rw [← k3.1]; exact q8.1, _, acc ++ [dy], avs ++ [y], ⟨(dy, y) :: t3.vals, t3.hold⟩, e3, s3.cons, k3.snoc, ?_, q8.2⟩
      have h10 := EnvOk.pin (t := t3.add D (.lst avs)) h9 r8
      exact EnvOk.chg (t := ⟨(dy, y) :: t3.vals, t3.hold⟩) (p := D) (o := .lst avs) (o' := .lst (avs ++ [y])) h10 nD3
  · have e : i = items.length := by omega
    subst e
    refine .inl ⟨stop, ?_⟩
    have nDt : ¬ Far c t σ D := by rw [← Far.hold e0]; exact nD
    have h8 : EnvOk c (t.add D (.lst avs)) σ H2 ρ2 := EnvOk.sub (t := t.add D (.lst avs)) h2 (fun p hp => s3 p (sb p hp)) (by show (D, HO.lst avs) :: t3.hold = (D, HO.lst avs) :: t.hold; rw [e3, e0])
    have ra : RpL c.K (Far c (t3.add D (.lst avs)) σ) H2 acc avs := k3.rp fun p hp => h2.tv p hp
    refine k D avs acc H2 ρ2 nDt h8 ?_ (done acc ρ2 w2)
    have ff : Far c (t3.add D (.lst avs)) σ = Far c (t.add D (.lst avs)) σ := Far.hold (by show (D, HO.lst avs) :: t3.hold = (D, HO.lst avs) :: t.hold; rw [e3, e0])
    rw [ff] at ra
    exact ra
end
end PD

end
section
set_option Elab.async false
set_option linter.all false
set_option maxRecDepth 100000
namespace PD
open PySem PySem.Spec PyProof.Rows L2 RZ

/-! ### what a def promises over data -/
abbrev FP := List D → (D → Prop) → (Ex → Prop) → Prop
abbrev FB := List D → (D → D → Prop) → (Ex → Prop) → Prop
/-- a def of n parameters that changes nothing -/
def spP (K : PySem.W.Frag) (cl : Ex → Addr) (T : List (Addr × Str)) (n : Nat) (F : FP) : Sp := fun vs H Q E => ∃ (z : Addr → Prop) (args : List D) (P : D → Prop) (W : Ex → Prop), args.length = n ∧ LamX.Tabs T H ∧ (∀ a, z a → ∃ o, H a = some o ∧ Pn o) ∧ RpL K z H args vs ∧ F args P W ∧
  (∀ v d H', Gr T H H' → Rp K z H' d v → P d → Q v H') ∧ ∀ x H', Gr T H H' → W x → E (.ref (cl x)) none H'
/-- .. whose first argument is an object that it changes -/
def spB (K : PySem.W.Frag) (cl : Ex → Addr) (T : List (Addr × Str)) (n : Nat) (F : FB) : Sp := fun vs H Q E => ∃ (z : Addr → Prop) (b : Addr) (bx : D) (args : List D) (ws : List V) (P : D → D → Prop) (W : Ex → Prop), vs = .ref b :: ws ∧ args.length + 1 = n ∧ z b ∧ LamX.Tabs T H ∧ (∀ a, z a → ∃ o, H a = some o ∧ Pn o) ∧
  OwnAt K z H b bx ∧ RpL K z H args ws ∧ F (bx :: args) P W ∧
  (∀ v d bx' H', (∀ a o, H a = some o → Pn o → a ≠ b → H' a = some o) → LamX.Tabs T H' → Rp K z H' d v → OwnAt K z H' b bx' → P d bx' → Q v H') ∧ ∀ x H', (∀ a o, H a = some o → Pn o → a ≠ b → H' a = some o) → LamX.Tabs T H' → W x → E (.ref (cl x)) none H'

section
variable {c : C0} {t : Tm} {σ : L2.St} {H H' : Hp} {ρ : Env}
variable {te ta tb tc : TE} {de da db dc : DE}
/-- behind a call that has changed l, the object of the slot j -/
theorem EnvOk.boxed {j : Nat} {l : Addr} {d d' : D} (h : EnvOk c t σ H ρ) (hj : c.own j = true) (hd : ρ[j]? = some (some d)) (hl : σ[j]? = some (some (.ref l)))
    (fr : ∀ a o, H a = some o → Pn o → a ≠ l → H' a = some o) (tb : LamX.Tabs c.T H') (new : OwnAt c.K (Far c t σ) H' l d') : EnvOk c t σ H' (ρ.set j (some d')) := by
  have fl : Far c t σ l := .inr (.inr ⟨j, hj, hl⟩)
  have keep : ∀ a o', ¬ Far c t σ a → H a = some o' → Pn o' → ¬ Far c t σ a ∧ H' a = some o' := fun a o' na e pn => ⟨na, fr a o' e pn fun z => na (by rw [z]; exact fl)⟩
  have hlen : j < ρ.length := (List.getElem?_eq_some_iff.mp hd).1
  obtain ⟨l', e1, x, bz⟩ := h.ownv j d hd hj
  rw [hl] at e1; cases e1
  refine ⟨by rw [List.length_set]; exact h.len, fun a o' e pn n => ?_, tb, fun a f => ?_, fun i di e n => ?_, fun i di e n => ?_, fun i n e => ?_, h.dist, h.bx, fun p hp => (h.tv p hp).move keep, fun p hp => ?_⟩
  · have hne : a ≠ l := fun z => by
      subst z
      rcases bz with z | z
      · exact n z
      · exact z o' e pn
    exact fr a o' (h.frame a o' e pn n) pn hne
  · by_cases z : a = l
    · subst z; exact new.there
    · obtain ⟨o', e, pn⟩ := h.trk a f
      exact ⟨o', fr a o' e pn z, pn⟩
  · have hij : j ≠ i := fun z => by subst z; rw [hj] at n; cases n
    rw [List.getElem?_set_ne hij] at e
    obtain ⟨v, e1, r⟩ := h.val i di e n
    exact ⟨v, e1, r.move keep⟩
  · by_cases hij : j = i
    · subst hij
      rw [List.getElem?_set_self hlen] at e
      cases e
      exact ⟨l, hl, new, bz⟩
    · rw [List.getElem?_set_ne hij] at e
      obtain ⟨l2, e1, x2, z2⟩ := h.ownv i di e n
      have hne : l2 ≠ l := fun z => by subst z; exact hij (h.dist j i _ hj n hl e1)
      exact ⟨l2, e1, x2.move (fun o' q pn => fr _ _ q pn hne) keep, z2⟩
  · by_cases hij : j = i
    · subst hij
      rw [List.getElem?_set_self hlen] at e; cases e
    · rw [List.getElem?_set_ne hij] at e
      exact h.ownn i n e
  · obtain ⟨a, b, e, pn⟩ := h.th p hp
    have hne : p.1 ≠ l := fun z => b j hj (by rw [z]; exact hl)
    exact ⟨fr _ _ a pn hne, b, e, pn⟩

/-- E takes the errors of W -/
def TakesE (c : C0) (E : L2.XK) (W : Ex → Prop) : Prop := ∀ x H', (∀ a o, c.h0 a = some o → Pn o → c.box ≠ some a → H' a = some o) → LamX.Tabs c.T H' → W x → E (.ref (c.cl x)) none H'
theorem takes_no : TakesE c E0 (fun _ => False) := fun _ _ _ _ w => w.elim
def noX : Ex → Prop := fun _ => False
theorem takes_noX : TakesE c E0 noX := fun _ _ _ _ w => w.elim
def dCall (F : FP) (W : Ex → Prop) (a : DA) : DE := fun ρ P => a ρ fun ds ρ1 => F ds (fun d => P d ρ1) W
theorem sv_call {F : FP} {n : Nat} {E : L2.XK} {W : Ex → Prop} {ta : TA} {da : DA} (he : TakesE c E W) (ha : SA c n ta da) : SV c (tCall (spP c.K c.cl c.T n F) [] E ta) (dCall F W da) := fun t σ H ρ P Q h q k =>
  ha t σ H ρ _ _ h q fun vs ds H1 ρ1 h1 r1 n1 q1 => by
    rw [List.append_nil]
    refine ⟨Far c t σ, ds, _, W, by rw [r1.length]; exact n1, h1.tabs, h1.trk, r1, q1, fun v d H2 g r2 p2 => k v d H2 ρ1 (h1.grow g) r2 p2, fun x H2 g w => he x H2 (fun a o e pn nb => g.1 a o (h1.frame a o e pn nb) pn) (g.2 h1.tabs) w⟩
theorem sv_call0 {F : FP} {E : L2.XK} {W : Ex → Prop} (he : TakesE c E W) : SV c (tCall (spP c.K c.cl c.T 0 F) [] E tNil) (dCall F W dNil) := sv_call he sa_nil
/-- .. with a slot's object -/
def dCallB (F : FB) (W : Ex → Prop) (j : Nat) (a : DA) : DE := fun ρ P => match ρ[j]? with
  | some (some _) => a ρ fun ds ρ1 => match ρ1[j]? with
    | some (some bx) => F (bx :: ds) (fun d bx' => P d (ρ1.set j (some bx'))) W
    | _ => False
  | _ => False
theorem sv_callB {F : FB} {n : Nat} {E : L2.XK} {W : Ex → Prop} {ta : TA} {da : DA} (j : Nat) (hj : c.own j = true) (he : TakesE c E W) (ha : SA c n ta da) : SV c (tCall (spB c.K c.cl c.T (n + 1) F) [] E (tCons (tVar j) ta)) (dCallB F W j da) := fun t σ H ρ P Q h q k => by
  unfold dCallB at q
  split at q
  · rename_i d0 hd0
    obtain ⟨l, e0, x0, bz⟩ := h.ownv j _ hd0 hj
    refine ⟨_, e0, ha t σ H ρ _ _ h q fun vs ds H1 ρ1 h1 r1 n1 q1 => ?_⟩
    show spB c.K c.cl c.T (n + 1) F ((V.ref l :: vs) ++ []) H1 Q E
    rw [List.append_nil]
    have q1 : (match ρ1[j]? with
      | some (some bx) => F (bx :: ds) (fun d bx' => P d (ρ1.set j (some bx'))) W
      | _ => False) := q1
    split at q1
    · rename_i bx hbx
      obtain ⟨l1, e1, x1, bz1⟩ := h1.ownv j _ hbx hj
      rw [e0] at e1; cases e1
      refine ⟨Far c t σ, l, bx, ds, vs, _, W, rfl, by rw [r1.length, n1], .inr (.inr ⟨j, hj, e0⟩), h1.tabs, h1.trk, x1, r1, q1, fun v d bx' H2 fr tb r2 o2 p2 => k v d H2 _ (h1.boxed hj hbx e0 fr tb o2) r2 p2, fun x H2 fr tb w => he x H2 (fun a o e pn nb => ?_) tb w⟩
      refine fr a o (h1.frame a o e pn nb) pn fun z => ?_
      subst z
      rcases bz1 with z | z
      · exact nb z
      · exact z o e pn
    · exact False.elim q1
  · exact False.elim q
end

/-! ### defs -/
def startD (n : Nat) (args : List D) : Env := args.map some ++ List.replicate (n - args.length) none
section
variable {P : Program} {w : World} {K : PySem.W.Frag} {mg : Str → Option Value} {base : Heap} {cl : Ex → Addr} {T : List (Addr × Str)}
variable {x qual : Str} {st : Stmt} {f : Addr} {fd : FuncData} {N ps : List Str} {k : Nat}
theorem start_get {A : Addr → Prop} {H : Hp} {args : List D} {vs : List V} {i : Nat} {d : D} (r : RpL K A H args vs) (e : (startD N.length args)[i]? = some (some d)) : i < args.length ∧ ∃ v, (L2.start N vs)[i]? = some (some v) ∧ Rp K A H d v := by
  unfold startD at e
  by_cases h : i < args.length
  · rw [List.getElem?_append_left (by rw [List.length_map]; exact h), List.getElem?_map] at e
    cases e1 : args[i]? with
    | none => rw [e1] at e; cases e
    | some d1 =>
      rw [e1] at e
      cases e
      obtain ⟨v, e2, r2⟩ := r.got e1
      refine ⟨h, v, ?_, r2⟩
      unfold L2.start
      rw [List.getElem?_append_left (by rw [List.length_map, ← r.length]; exact h), List.getElem?_map, e2]; rfl
  · rw [List.getElem?_append_right (by rw [List.length_map]; omega)] at e
    have := List.eq_of_mem_replicate (List.mem_of_getElem? e)
    cases this
theorem start_len {n : Nat} {args : List D} {vs : List V} (h : args.length = vs.length) : (L2.start N vs).length = (startD N.length args).length := by
  unfold L2.start startD
  rw [List.length_append, List.length_append, List.length_map, List.length_map, List.length_replicate, List.length_replicate, h]
theorem start_none {args : List D} {vs : List V} {i : Nat} (h : args.length = vs.length) (hi : args.length ≤ i) (e : (startD N.length args)[i]? = some none) : (L2.start N vs)[i]? = some none := by
  have hl : i < (startD N.length args).length := (List.getElem?_eq_some_iff.mp e).1
  unfold startD at hl
  rw [List.length_append, List.length_map, List.length_replicate] at hl
  unfold L2.start
  rw [List.getElem?_append_right (by rw [List.length_map, ← h]; exact hi), List.length_map, List.getElem?_replicate, if_pos (by rw [← h]; omega)]
theorem start_some {vs : List V} {i : Nat} {v : V} (e : (L2.start N vs)[i]? = some (some v)) : i < vs.length := by
  unfold L2.start at e
  by_cases h : i < vs.length
  · exact h
  · rw [List.getElem?_append_right (by rw [List.length_map]; omega)] at e
    have := List.eq_of_mem_replicate (List.mem_of_getElem? e)
    cases this
theorem Fun.okN {sp : Sp} (F : Fun K x qual st f fd) (S : FnScope N ps (defScope st)) (len : ∀ vs H Q E, sp vs H Q E → vs.length = ps.length)
    (hbody : ∀ (cdv : Value) (A : Around) (outer : List PySem.Env) (s : Shared) (H : Hp) (vs : List V) (Q : VK) (E : XK), Room k (A.deeper (envOfC qual (defScope st) s.heap.objs.size f cdv)) → sp vs H Q E →
      ∃ t, PSs (cxOf (L2N.CX P w) P w K mg base N qual (defScope st) f cdv A outer s H E) (defBody st) t ∧ t { nx := fun _ H' => Q .non H', rt := Q } (L2.start N vs) H) : FnOk P w K mg base (L2N.CX P w) (k + 1) f fd ps sp := by
  obtain ⟨oc, od, kV, doc, pm, an, cdv, ct, osl, rfl, lk, hcd⟩ := F.ex
  exact fn_of lk hcd S len fun A outer s H vs Q E hr hsp => hbody cdv A outer s H vs Q E hr hsp
/-- what a def gives back -/
def retD (ρ : Env) (d : D) : D := deref ρ d
theorem pure_len {Fs : FP} {n : Nat} {vs : List V} {H : Hp} {Q : VK} {E : L2.XK} (h : spP K cl T n Fs vs H Q E) : vs.length = n := by
  obtain ⟨z, args, P, W, hl, _, hz, r, _⟩ := h
  rw [← r.length]; exact hl
theorem pure_run (own : Nat → Bool) (hown : ∀ i, i < ps.length → own i = false) {Fs : FP} {ds : (Ex → Prop) → DS} {ts : TS} {E : L2.XK} {vs : List V} {H : Hp} {Q : VK}
    (hs : ∀ z h0 dw, TakesE ⟨K, z, none, h0, own, E, dw, cl, T⟩ E dw → SS ⟨K, z, none, h0, own, E, dw, cl, T⟩ ts (ds dw))
    (spec : ∀ args P W, args.length = ps.length → Fs args P W → ds W ⟨fun _ => P .non, fun d ρ => P (retD ρ d), fun _ => False, fun _ => False⟩ (startD N.length args))
    (h : spP K cl T ps.length Fs vs H Q E) : ts { nx := fun _ H' => Q .non H', rt := Q } (L2.start N vs) H := by
    obtain ⟨z, args, P', W, hl, ht, hz, r, hF, hQ, hE⟩ := h
    have nown : ∀ i, i < ps.length → own i = true → False := fun i h e => by rw [hown i h] at e; cases e
    have far0 : ∀ a, Far ⟨K, z, none, H, own, E, W, cl, T⟩ ⟨[], []⟩ (L2.start N vs) a ↔ z a := fun a => by
      constructor
      · rintro (f | ⟨o, f⟩ | ⟨i, hi, e⟩)
        · exact f
        · cases f
        · have := start_some e
          rw [← r.length, hl] at this
          exact (nown i this hi).elim
      · exact .inl
    have farE : Far ⟨K, z, none, H, own, E, W, cl, T⟩ ⟨[], []⟩ (L2.start N vs) = z := funext fun a => propext (far0 a)
    have env : EnvOk ⟨K, z, none, H, own, E, W, cl, T⟩ ⟨[], []⟩ (L2.start N vs) H (startD N.length args) := by
      refine ⟨start_len (n := 0) r.length, fun a o e _ _ => e, ht, fun a f => hz a ((far0 a).mp f), fun i d e hi => ?_, fun i d e hi => ?_, fun i hi e => ?_, fun i j l hi _ e _ => ?_, fun b e => (nomatch e), fun p hp => (nomatch hp), fun p hp => (nomatch hp)⟩
      · rw [farE]
        exact (start_get r e).2
      · have := (start_get r e).1
        rw [hl] at this
        exact (nown i this hi).elim
      · refine start_none r.length (Nat.le_of_not_lt fun h => ?_) e
        rw [hl] at h
        exact (nown i h hi).elim
      · have := start_some e
        rw [← r.length, hl] at this
        exact (nown i this hi).elim
    refine hs z H W (fun x H' g tb w => hE x H' ⟨fun a o e pn => g a o e pn (fun z => nomatch z), fun _ => tb⟩ w) ⟨[], []⟩ _ H _ _ _ env (spec args P' W hl hF) (fun σ' H' ρ' h' p => hQ .non .non H' ⟨fun a o e pn => h'.frame a o e pn (fun z => nomatch z), fun _ => h'.tabs⟩ .non p) (fun v d σ' H' ρ' h' r' p => ?_) (fun _ _ _ _ z => z.elim) (fun _ _ _ _ z => z.elim)
    have g : Gr T H H' := ⟨fun a o e pn => h'.frame a o e pn (fun z => nomatch z), fun _ => h'.tabs⟩
    have toZ : ∀ a o, ¬ Far ⟨K, z, none, H, own, E, W, cl, T⟩ ⟨[], []⟩ σ' a → H' a = some o → Pn o → ¬ z a ∧ H' a = some o := fun a o na e _ => ⟨fun f => na (.inl f), e⟩
    rcases r' with r' | ⟨i, rfl, hi, e⟩
    · have ed : retD ρ' d = d := by
        cases d with
        | own i => cases r'
        | _ => rfl
      have p : P' (retD ρ' d) := p
      rw [ed] at p
      exact hQ v d H' g (r'.move toZ) p
    · cases hd : ρ'[i]? with
      | none =>
        have l1 := List.getElem?_eq_none_iff.mp hd
        have l2 := (List.getElem?_eq_some_iff.mp e).1
        have := h'.len
        omega
      | some o => cases o with
        | none =>
          have := h'.ownn i hi hd
          rw [e] at this; cases this
        | some d =>
          have ed : retD ρ' (.own i) = d := by unfold retD deref; simp only [hd]
          have p : P' (retD ρ' (.own i)) := p
          rw [ed] at p
          obtain ⟨l, e1, ⟨o, ho, x⟩, bz⟩ := h'.ownv i d hd hi
          rw [e] at e1; cases e1
          have h0 : ∀ o, H l = some o → Pn o → False := bz.resolve_left (fun z => nomatch z)
          have nz : ¬ z l := fun f => by
            obtain ⟨o, eo, pn⟩ := hz l f
            exact h0 o eo pn
          cases d with
          | lst xs =>
            obtain ⟨vs', rfl, rs⟩ := x
            exact hQ _ _ H' g (.lst nz ho (rs.move toZ)) p
          | dct ks xs =>
            obtain ⟨vs', rfl, le, rs⟩ := x
            exact hQ _ _ H' g (.dct nz ho le (rs.move toZ)) p
          | _ => exact False.elim x

theorem fn_pure (F : Fun K x qual st f fd) (S : FnScope N ps (defScope st)) (own : Nat → Bool) (hown : ∀ i, i < ps.length → own i = false) {Fs : FP} (ds : (Ex → Prop) → DS)
    (body : ∀ (cdv : Value) (A : Around) (outer : List PySem.Env) (s : Shared) (H : Hp) (E : L2.XK), Room k (A.deeper (envOfC qual (defScope st) s.heap.objs.size f cdv)) →
      ∃ ts, PSs (cxOf (L2N.CX P w) P w K mg base N qual (defScope st) f cdv A outer s H E) (defBody st) ts ∧ ∀ z h0 dw, TakesE ⟨K, z, none, h0, own, E, dw, cl, T⟩ E dw → SS ⟨K, z, none, h0, own, E, dw, cl, T⟩ ts (ds dw))
    (spec : ∀ args P W, args.length = ps.length → Fs args P W → ds W ⟨fun _ => P .non, fun d ρ => P (retD ρ d), fun _ => False, fun _ => False⟩ (startD N.length args)) :
    FnOk P w K mg base (L2N.CX P w) (k + 1) f fd ps (spP K cl T ps.length Fs) := by
  exact Fun.okN F S (fun vs H Q E h => pure_len h) (fun cdv A outer s H vs Q E hr h => by
    obtain ⟨ts, hts, hs⟩ := body cdv A outer s H E hr
    exact ⟨ts, hts, pure_run own hown hs spec h⟩)

/-- .. whose first argument is changed -/
theorem box_len {Fs : FB} {n : Nat} {vs : List V} {H : Hp} {Q : VK} {E : L2.XK} (h : spB K cl T n Fs vs H Q E) : vs.length = n := by
  obtain ⟨z, b, bx, args, ws, P, W, rfl, hl, hz, _, hz2, ob, r, _⟩ := h
  rw [List.length_cons, ← r.length]; exact hl
theorem box_run (own : Nat → Bool) (hown : ∀ i, i < ps.length → own i = (i == 0)) (h0 : 0 < ps.length) {Fs : FB} {ds : (Ex → Prop) → DS} {ts : TS} {E : L2.XK} {vs : List V} {H : Hp} {Q : VK}
    (hs : ∀ z b h0 dw, TakesE ⟨K, z, some b, h0, own, E, dw, cl, T⟩ E dw → SS ⟨K, z, some b, h0, own, E, dw, cl, T⟩ ts (ds dw))
    (spec : ∀ bx args P W, args.length + 1 = ps.length → Fs (bx :: args) P W → ds W ⟨fun ρ => ∃ b, ρ[0]? = some (some b) ∧ P .non b, fun d ρ => ∃ b, ρ[0]? = some (some b) ∧ NotOwn d ∧ P d b, fun _ => False, fun _ => False⟩ (startD N.length (bx :: args)))
    (h : spB K cl T ps.length Fs vs H Q E) : ts { nx := fun _ H' => Q .non H', rt := Q } (L2.start N vs) H := by
    obtain ⟨z, b, bx, args, ws, P', W, rfl, hl, hzb, ht, hz, ob, r, hF, hQ, hE⟩ := h
    have own0 : own 0 = true := hown 0 h0
    have ownS : ∀ i, 0 < i → i < ps.length → own i = false := fun i h1 h2 => by
      rw [hown i h2]
      cases i with
      | zero => exact absurd h1 (Nat.lt_irrefl _)
      | succ i => rfl
    have nownS : ∀ i, 0 < i → i < ps.length → own i = true → False := fun i h1 h2 e => by rw [ownS i h1 h2] at e; cases e
    have hlen : (bx :: args).length = (V.ref b :: ws).length := by rw [List.length_cons, List.length_cons, r.length]
    have s0 : (L2.start N (V.ref b :: ws))[0]? = some (some (.ref b)) := rfl
    have d0 : (startD N.length (bx :: args))[0]? = some (some bx) := rfl
    have own_only : ∀ i v, own i = true → (L2.start N (V.ref b :: ws))[i]? = some (some v) → i = 0 := fun i v hi e => by
      have := start_some e
      rw [← hlen, List.length_cons, hl] at this
      by_cases z : 0 < i
      · rw [ownS i z this] at hi; cases hi
      · omega
    have far0 : ∀ a, Far ⟨K, z, some b, H, own, E, W, cl, T⟩ ⟨[], []⟩ (L2.start N (V.ref b :: ws)) a ↔ z a := fun a => by
      constructor
      · rintro (f | ⟨o, f⟩ | ⟨i, hi, e⟩)
        · exact f
        · cases f
        · have := own_only i _ hi e
          subst this
          rw [s0] at e; cases e
          exact hzb
      · exact .inl
    have farE : Far ⟨K, z, some b, H, own, E, W, cl, T⟩ ⟨[], []⟩ (L2.start N (V.ref b :: ws)) = z := funext fun a => propext (far0 a)
    -- the arguments behind the first
    have argS : ∀ i d, (startD N.length (bx :: args))[i + 1]? = some (some d) → i < args.length ∧ ∃ v, (L2.start N (V.ref b :: ws))[i + 1]? = some (some v) ∧ Rp K z H d v := fun i d e => by
      unfold startD at e
      have e : (args.map some ++ List.replicate (N.length - (bx :: args).length) none)[i]? = some (some d) := e
      by_cases h : i < args.length
      · rw [List.getElem?_append_left (by rw [List.length_map]; exact h), List.getElem?_map] at e
        cases e1 : args[i]? with
        | none => rw [e1] at e; cases e
        | some d1 =>
          rw [e1] at e
          cases e
          obtain ⟨v, e2, r2⟩ := r.got e1
          refine ⟨h, v, ?_, r2⟩
          unfold L2.start
          show (ws.map some ++ List.replicate (N.length - (V.ref b :: ws).length) none)[i]? = some (some v)
          rw [List.getElem?_append_left (by rw [List.length_map, ← r.length]; exact h), List.getElem?_map, e2]; rfl
      · rw [List.getElem?_append_right (by rw [List.length_map]; omega)] at e
        have := List.eq_of_mem_replicate (List.mem_of_getElem? e)
        cases this
    have env : EnvOk ⟨K, z, some b, H, own, E, W, cl, T⟩ ⟨[], []⟩ (L2.start N (V.ref b :: ws)) H (startD N.length (bx :: args)) := by
      refine ⟨start_len (n := 0) hlen, fun a o e _ _ => e, ht, fun a f => hz a ((far0 a).mp f), fun i d e hi => ?_, fun i d e hi => ?_, fun i hi e => ?_, fun i j l hi hj e1 e2 => (own_only i _ hi e1).trans (own_only j _ hj e2).symm, fun b' e => ?_, fun p hp => (nomatch hp), fun p hp => (nomatch hp)⟩
      · rw [farE]
        cases i with
        | zero => exact absurd (own0.symm.trans hi) (by decide)
        | succ i => exact (argS i d e).2
      · rw [farE]
        cases i with
        | zero =>
          rw [d0] at e; cases e
          exact ⟨b, s0, ob, .inl rfl⟩
        | succ i =>
          have := (argS i d e).1
          exact (nownS (i + 1) (Nat.succ_pos _) (by omega) hi).elim
      · cases i with
        | zero => rw [d0] at e; cases e
        | succ i =>
          refine start_none hlen (Nat.le_of_not_lt fun h => ?_) e
          rw [List.length_cons] at h
          exact (nownS (i + 1) (Nat.succ_pos _) (by omega) hi).elim
      · cases e
        exact ⟨own0, s0⟩
    have fin : ∀ (σ' : L2.St) (H' : Hp) (ρ' : Env) (d : D) (v : V) (bx' : D), EnvOk ⟨K, z, some b, H, own, E, W, cl, T⟩ ⟨[], []⟩ σ' H' ρ' → ρ'[0]? = some (some bx') → Rp K z H' d v → P' d bx' → Q v H' := fun σ' H' ρ' d v bx' h' e0 r' p => by
      obtain ⟨l, e1, x1, _⟩ := h'.ownv 0 bx' e0 own0
      obtain ⟨_, e2⟩ := h'.bx b rfl
      rw [e1] at e2; cases e2
      have toZ : ∀ a o, ¬ Far ⟨K, z, some b, H, own, E, W, cl, T⟩ ⟨[], []⟩ σ' a → H' a = some o → Pn o → ¬ z a ∧ H' a = some o := fun a o na e _ => ⟨fun f => na (.inl f), e⟩
      exact hQ v d bx' H' (fun a o e pn n => h'.frame a o e pn fun z => n (Option.some.inj z).symm) h'.tabs r' (x1.move (fun _ q _ => q) toZ) p
    refine hs z b H W (fun x H' g tb w => hE x H' (fun a o e pn n => g a o e pn fun z => n (Option.some.inj z).symm) tb w) ⟨[], []⟩ _ H _ _ _ env (spec bx args P' W hl hF) (fun σ' H' ρ' h' ⟨b', e0, p⟩ => fin σ' H' ρ' .non .non b' h' e0 .non p) (fun v d σ' H' ρ' h' r' p => ?_) (fun _ _ _ _ z => z.elim) (fun _ _ _ _ z => z.elim)
    obtain ⟨b', e0, nd, p⟩ := p
    have r2 := r'.rp nd
    exact fin σ' H' ρ' d v b' h' e0 (r2.move fun a o na e _ => ⟨fun f => na (.inl f), e⟩) p
theorem fn_box (F : Fun K x qual st f fd) (S : FnScope N ps (defScope st)) (own : Nat → Bool) (hown : ∀ i, i < ps.length → own i = (i == 0)) (h0 : 0 < ps.length) {Fs : FB} (ds : (Ex → Prop) → DS)
    (body : ∀ (cdv : Value) (A : Around) (outer : List PySem.Env) (s : Shared) (H : Hp) (E : L2.XK), Room k (A.deeper (envOfC qual (defScope st) s.heap.objs.size f cdv)) →
      ∃ ts, PSs (cxOf (L2N.CX P w) P w K mg base N qual (defScope st) f cdv A outer s H E) (defBody st) ts ∧ ∀ z b h0 dw, TakesE ⟨K, z, some b, h0, own, E, dw, cl, T⟩ E dw → SS ⟨K, z, some b, h0, own, E, dw, cl, T⟩ ts (ds dw))
    (spec : ∀ bx args P W, args.length + 1 = ps.length → Fs (bx :: args) P W → ds W ⟨fun ρ => ∃ b, ρ[0]? = some (some b) ∧ P .non b, fun d ρ => ∃ b, ρ[0]? = some (some b) ∧ NotOwn d ∧ P d b, fun _ => False, fun _ => False⟩ (startD N.length (bx :: args))) :
    FnOk P w K mg base (L2N.CX P w) (k + 1) f fd ps (spB K cl T ps.length Fs) := by
  exact Fun.okN F S (fun vs H Q E h => box_len h) (fun cdv A outer s H vs Q E hr h => by
    obtain ⟨ts, hts, hs⟩ := body cdv A outer s H E hr
    exact ⟨ts, hts, box_run own hown h0 hs spec h⟩)
end
end PD

end
section
set_option Elab.async false
set_option linter.all false
set_option maxRecDepth 100000
namespace PD
open PySem PySem.Spec PyProof.Rows L2 RZ

abbrev subP := i2' fun i j => D.int (i - j)
abbrev mulP := i2 MulOk fun i j => D.int (i * j)
abbrev divP := i2 DivOk fun i j => D.int (i / j)
abbrev divNP := i2 CDivN fun i j => D.int (i.fdiv j)
abbrev modP := i2 (fun _ j => 0 < j) fun i j => D.int (i % j)
abbrev shlP := i2 CPow fun i j => D.int (i * 2 ^ j.toNat)
abbrev powP := i2 CPow fun i j => D.int (i ^ j.toNat)
abbrev negP := u1 fun i => D.int (-i)
abbrev ltP := i2' fun i j => D.bl (decide (i < j))
abbrev leP := i2' fun i j => D.bl (decide (i ≤ j))
abbrev gtP := i2' fun i j => D.bl (decide (j < i))
abbrev geP := i2' fun i j => D.bl (decide (j ≤ i))
theorem units65 {k : Nat} {A : Around} (hr : Room k A) : A.units + 65 < cLine := by
  have := hr.un
  omega

section
variable {c : C0} {t : Tm} {σ : L2.St} {H H' : Hp} {ρ : Env}
variable {te ta tb tc : TE} {de da db dc : DE} {tt tu : TT} {dt du : DT} {ts tv : TS} {ds dv : DS}
theorem se_if (ht : ST c tt dt) (ha : SE c ta da) (hb : SE c tb db) : SE c (tIf tt ta tb) (dIf dt da db) := fun t σ H ρ P Q h q k =>
  ht t σ H ρ _ _ h q fun b H1 ρ1 h1 q1 => by
    cases b with
    | true => exact (if_pos rfl).mpr (ha t σ H1 ρ1 _ _ h1 q1 k)
    | false => exact (if_neg (fun z => by cases z)).mpr (hb t σ H1 ρ1 _ _ h1 q1 k)
/-- raise -/
def dRaise (W : Ex → Prop) (x : Ex) : DS := fun _ _ => W x
theorem ss_raise (x : Ex) {E : L2.XK} {W : Ex → Prop} (he : TakesE c E W) : SS c (fun _ σ H => E (.ref (c.cl x)) none H) (dRaise W x) := fun t σ H ρ De En h q n r b k => he x H h.frame h.tabs q
/-- n.bit_length() -/
def dBits (a : DE) : DE := fun ρ P => a ρ fun d ρ1 => match d with
  | .int i => P (.int (Builtin.Int.intBits i : Nat)) ρ1
  | _ => False
theorem sv_bits (ha : SV c ta da) : SV c (tBits ta) (dBits da) := fun t σ H ρ P Q h q k =>
  ha t σ H ρ _ _ h q fun v d H1 ρ1 h1 r1 q1 => by
    cases d with
    | int i => cases r1; exact ⟨i, rfl, k _ _ H1 ρ1 h1 (.int _) q1⟩
    | _ => exact False.elim q1
/-- is True, is False, of bools -/
def isBP (_ : Env) (x y : D) (k : D → Prop) : Prop := match x, y with
  | .bl a, .bl b => k (.bl (decide (a = b)))
  | _, _ => False
def notBP (_ : Env) (x y : D) (k : D → Prop) : Prop := match x, y with
  | .bl a, .bl b => k (.bl (!decide (a = b)))
  | _, _ => False
theorem sr_isB : SR2 c rIsB isBP := fun t σ H ρ x y dx dy P Q h rx ry q k => by
  cases dx with
  | bl a => cases dy with
    | bl b => exact ⟨a, b, rx.bl, ry.bl, k _ _ H h (.bl _) q⟩
    | _ => exact False.elim q
  | _ => exact False.elim q
theorem sr_notB : SR2 c rNotB notBP := fun t σ H ρ x y dx dy P Q h rx ry q k => by
  cases dx with
  | bl a => cases dy with
    | bl b => exact ⟨a, b, rx.bl, ry.bl, k _ _ H h (.bl _) q⟩
    | _ => exact False.elim q
  | _ => exact False.elim q
/-- in a tuple -/
def inTP (ρ : Env) (x y : D) (k : D → Prop) : Prop := match y with
  | .tup ys => okN 60 (deref ρ x) = true ∧ okNs 59 ys = true ∧ k (.bl (ys.any fun z => eqD z (deref ρ x)))
  | _ => False
def niTP (ρ : Env) (x y : D) (k : D → Prop) : Prop := match y with
  | .tup ys => okN 60 (deref ρ x) = true ∧ okNs 59 ys = true ∧ k (.bl (!ys.any fun z => eqD z (deref ρ x)))
  | _ => False
theorem sr_inT : SR2 c (rInT c.K) inTP := fun t σ H ρ x y dx dy P Q h rx ry q k => by
  cases dy with
  | tup ys =>
    obtain ⟨q1, o, q2⟩ := q
    obtain ⟨a, vs, rfl, _, ha, r⟩ := (ry.rp trivial).seqT
    have o2 : okN 60 (.tup ys) = true := by rw [okN]; exact o
    have e : toPy (.tup ys) = .tuple (toPys ys) := by rw [toPy]
    refine ⟨_, toPys ys, rx.dp h q1, .tup (.of ha) (r.dp o), okN_shaped (by decide) q1, by rw [← e]; exact okN_shaped (by decide) o2, ?_⟩
    rw [any_ds]
    exact k _ _ H h (.bl _) q2
  | _ => exact False.elim q
theorem sr_niT : SR2 c (rNotInT c.K) niTP := fun t σ H ρ x y dx dy P Q h rx ry q k => by
  cases dy with
  | tup ys =>
    obtain ⟨q1, o, q2⟩ := q
    obtain ⟨a, vs, rfl, _, ha, r⟩ := (ry.rp trivial).seqT
    have o2 : okN 60 (.tup ys) = true := by rw [okN]; exact o
    have e : toPy (.tup ys) = .tuple (toPys ys) := by rw [toPy]
    refine ⟨_, toPys ys, rx.dp h q1, .tup (.of ha) (r.dp o), okN_shaped (by decide) q1, by rw [← e]; exact okN_shaped (by decide) o2, ?_⟩
    rw [any_ds]
    exact k _ _ H h (.bl _) q2
  | _ => exact False.elim q

end
end PD
/-! the rules that name the written part, K by name -/
namespace L2
open PySem PySem.Spec PyProof.Rows RZ
section
variable {X : Cx} {K : PySem.W.Frag}
theorem op_add4K (h : X.K = K) : OpR X (binaryOp .Add) (PD.rAdd4 K) := h ▸ PD.op_add4
theorem op_eqDK (h : X.K = K) (hu : X.A.units + 64 < cLine) : OpR X (compareOp .Eq) (rEqD K) := h ▸ op_eqD hu
theorem op_neDK (h : X.K = K) (hu : X.A.units + 64 < cLine) : OpR X (compareOp .NotEq) (rNeD K) := h ▸ op_neD hu
theorem op_inDK (h : X.K = K) (hu : X.A.units + 65 < cLine) : OpR X (compareOp .In) (rInD K) := h ▸ op_inD hu
theorem op_notInDK (h : X.K = K) (hu : X.A.units + 65 < cLine) : OpR X (compareOp .NotIn) (rNotInD K) := h ▸ op_notInD hu
theorem op_inTK (h : X.K = K) (hu : X.A.units + 65 < cLine) : OpR X (compareOp .In) (PD.rInT K) := h ▸ PD.op_inT hu
theorem op_notInTK (h : X.K = K) (hu : X.A.units + 65 < cLine) : OpR X (compareOp .NotIn) (PD.rNotInT K) := h ▸ PD.op_notInT hu
theorem ix_seqK (h : X.K = K) : IxR X (rIx K) := h ▸ ix_seq
def rSl2 (K : PySem.W.Frag) : V → Option Int → Option Int → Hp → VK → Prop := fun x lo hi H Q => rSlA K x lo hi H Q ∨ rSlL K x lo hi H Q
theorem sl_K (h : X.K = K) : SlR X (rSl2 K) := h ▸ SlR.or sl_tupA sl_list
def rLenK (K : PySem.W.Frag) : List V → Hp → VK → Prop := fun xs H Q => ∃ p ys, xs = [.ref p] ∧ (SqL K H p ys ∨ SqT K H p ys) ∧ Q (.int ys.length) H
theorem call_lenK (h : X.K = K) : CallR X (.builtin "len") (rLenK K) := h ▸ call_len_seq
def rListK (K : PySem.W.Frag) : List V → Hp → VK → Prop := fun xs H Q => ∃ p ys, xs = [.ref p] ∧ (SqL K H p ys ∨ SqT K H p ys) ∧ ∀ l, H l = none → Q (.ref l) (upd H l (.lst ys))
theorem call_listK (h : X.K = K) : CallR X (.type "list") (rListK K) := h ▸ call_list_of
theorem cr_sumK (h : X.K = K) (hc : X.calm = true) : CallR X (.builtin "sum") (rSum K) := h ▸ cr_sum hc
theorem cr_allK (h : X.K = K) (hc : X.calm = true) : CallR X (.builtin "all") (rAll K) := h ▸ cr_all hc
theorem cr_anyK (h : X.K = K) (hc : X.calm = true) : CallR X (.builtin "any") (rAny K) := h ▸ cr_any hc
theorem call_isi_K (h : X.K = K) : CallR X (.builtin "isinstance") (rIsi K) := h ▸ call_isi
theorem pe_tupleK {a : Expr} {ta : TE} {p pos : Pos} (h : X.K = K) (hg : Gl X "tuple") (hm : X.mg "tuple" = none) (ha : PE X a ta) (na : starEach [a] X.env = (false, eval a X.env) :: starEach [] X.env := by rfl) :
    PE X (.Call (.Name "tuple" p) [a] [] pos) (tThen ta (kTup K)) := h ▸ pe_tupleOf hg hm ha na
theorem pi_seqK {tg l : Expr} {tl : TE} (h : X.K = K) (hl : PE X l tl) : PI X tg l (iSeq K tl) := h ▸ pi_seq hl
theorem pi_zipK {e e2 : Expr} {ta : TA} {p pos tpos : Pos} {elts : List Expr} {kk : Nat} (h : X.K = K) (hg : Gl X "zip") (hm : X.mg "zip" = none) (ha : PA X [e, e2] ta)
    (hs : starEach [e, e2] X.env = (false, eval e X.env) :: starEach [e2] X.env := by rfl) (hpl : (backTo pos (starEach [e2] X.env)).any (·.1) = false := by rfl) :
    PI X (.Tuple elts kk tpos) (.Call (.Name "zip" p) [e, e2] [] pos) (iZipA K ta) := h ▸ pi_zipA hg hm ha hs hpl
theorem pg_tupK {es : List Expr} {k : Nat} {t : TGs} {n : Nat} {pos : Pos} (h0 : X.K = K) (hc : X.calm = true) (h : PGs X es t)
    (hn : (assignEach es X.env).length = n := by rfl) (hst : (assignEach es X.env).findIdx? (·.1) = none := by rfl) : PG X (.Tuple es k pos) (gTup K n t) := h0 ▸ pg_tup hc h hn hst
theorem pe_appK {o e : Expr} {to te : TE} {apos cpos : Pos} (h : X.K = K) (ho : PE X o to) (he : PE X e te) (hbase : attributeBase o "append" X.env (eval o X.env) = eval o X.env := by rfl)
    (hfew : ((backTo cpos (starEach [e] X.env)).all (fun x => !x.1) && (backToKw cpos (keywordEach [] X.env)).all (fun x => x.1.isSome)
      && decide (([e] : List Expr).length + ([] : List Keyword).length + (if ([] : List Keyword).isEmpty then 0 else 1) < 30)) = true := by rfl)
    (hline : (apos.endLine == cpos.line) = true := by rfl) (hs : starEach [e] X.env = (false, eval e X.env) :: starEach [] X.env := by rfl) (hplain : (backTo cpos (starEach [] X.env)).any (·.1) = false := by rfl) :
    PE X (.Call (.Attribute o "append" apos) [e] [] cpos) (tBM K "list" rAppend to (tCons te tNil)) := by
  subst h
  exact pe_bm PySem.F.plainAttrs_list PySem.F.slot_list_append PySem.F.type_list_append mt_append ho (pa_cons he pa_nil hs) hbase hfew hline hs hplain
end
end L2
namespace PD
open PySem PySem.Spec PyProof.Rows L2 RZ
section
variable {c : C0} {ta : TE} {da : DE}
theorem sr_len : SRL c (rLenK c.K) lenP := sr_len0
theorem sr_list : SRL c (rListK c.K) listP := sr_list0
theorem sv_sl {tl th : TO} {dl dh : DO} (ha : SE c ta da) (hl : SO c tl dl) (hh : SO c th dh) : SV c (tSl (rSl2 c.K) ta tl th) (dSl da dl dh) := sv_sl0 ha hl hh
theorem sf_list (ha : SE c ta da) : SF c (tCB (rListK c.K) (tCons ta tNil)) (dCB listP (dCons da dNil)) := sf_list0 ha
end
end PD
namespace PD
open PySem PySem.Spec PyProof.Rows L2
theorem bt_len : bootBuiltins "len" = some (.builtin "len") := by decide +kernel
theorem bt_abs : bootBuiltins "abs" = some (.builtin "abs") := by decide +kernel
theorem bt_max : bootBuiltins "max" = some (.builtin "max") := by decide +kernel
theorem bt_min : bootBuiltins "min" = some (.builtin "min") := by decide +kernel
theorem bt_sum : bootBuiltins "sum" = some (.builtin "sum") := by decide +kernel
theorem bt_all : bootBuiltins "all" = some (.builtin "all") := by decide +kernel
theorem bt_any : bootBuiltins "any" = some (.builtin "any") := by decide +kernel
theorem bt_isinstance : bootBuiltins "isinstance" = some (.builtin "isinstance") := by decide +kernel
theorem bt_sorted : bootBuiltins "sorted" = some (.builtin "sorted") := by decide +kernel
theorem bt_repr : bootBuiltins "repr" = some (.builtin "repr") := by decide +kernel
theorem bt_int : bootBuiltins "int" = some (.type "int") := by decide +kernel
theorem bt_str : bootBuiltins "str" = some (.type "str") := by decide +kernel
theorem bt_bool : bootBuiltins "bool" = some (.type "bool") := by decide +kernel
theorem bt_list : bootBuiltins "list" = some (.type "list") := by decide +kernel
theorem bt_tuple : bootBuiltins "tuple" = some (.type "tuple") := by decide +kernel
theorem bt_set : bootBuiltins "set" = some (.type "set") := by decide +kernel
theorem bt_range : bootBuiltins "range" = some (.type "range") := by decide +kernel
theorem bt_zip : bootBuiltins "zip" = some (.type "zip") := by decide +kernel
theorem bt_enumerate : bootBuiltins "enumerate" = some (.type "enumerate") := by decide +kernel
end PD

end
section
set_option Elab.async false
set_option linter.all false
set_option maxRecDepth 100000
/-! sorted of a list or a tuple of alike data -/
namespace PD
open PySem PySem.Spec PyProof.Rows L2 RZ PySem.W

theorem each_of_vals {H : Hp} {h : Heap} : ∀ {bs : List (V × PyData)} {its : List Value}, Vals (bs.map (·.1)) its → EachIs (fun v b => RelV b.1 v) its bs
  | [], _, .nil => .nil
  | _ :: _, _, .cons a r => .cons a (each_of_vals (H := H) (h := h) r)
theorem vals_of_each : ∀ {bs : List (V × PyData)} {its : List Value}, EachIs (fun v b => RelV b.1 v) its bs → Vals (bs.map (·.1)) its
  | _, _, .nil => .nil
  | _, _, .cons a r => .cons a (vals_of_each r)
theorem each_reads {X : Cx} {pins : List (Addr × Obj)} {σ : L2.St} {H : Hp} {s : Shared} (I : Inv X pins σ H s) : ∀ {bs : List (V × PyData)} {its : List Value}, (∀ b ∈ bs, Dp X.K H b.1 b.2) → Vals (bs.map (·.1)) its → EachIs (fun v b => ∃ as, Reads s.heap v b.2 as) its bs
  | [], _, _, .nil => .nil
  | b :: bs, _, hd, .cons a r => .cons (Dp.reads I b.2 b.1 _ (hd b List.mem_cons_self) a) (each_reads I (fun c hc => hd c (List.mem_cons_of_mem _ hc)) r)

def rSortX (K : PySem.W.Frag) : List V → Hp → VK → Prop := fun vs H Q => ∃ (a : Addr) (bs : List (V × PyData)), vs = [V.ref a] ∧ (SqL K H a (bs.map (·.1)) ∨ SqT K H a (bs.map (·.1))) ∧ (∀ b ∈ bs, Dp K H b.1 b.2) ∧ AllAlike (bs.map (·.2)) ∧ Sortable (bs.map (·.2)) ∧ (∀ b ∈ bs, b.2.depth ≤ 60) ∧
  ∀ p, H p = none → Q (.ref p) (upd H p (.lst ((bs.mergeSort (dataLe false (·.2))).map (·.1))))
section
variable {X : Cx}
theorem sort_of_collected {pins : List (Addr × Obj)} {σ : L2.St} {H : Hp} {s : Shared} {a : Addr} {bs : List (V × PyData)} {Q : VK} (hu : X.A.units + 65 < cLine) (I : Inv X pins σ H s) (hc : ∀ (Q : List Value → Shared → Prop) (E : Value → Shared → Prop),
    (∀ h' (out : List Value), (∀ b o, s.heap.get? b = some o → h'.get? b = some o) → Vals (bs.map (·.1)) out → Q out { s with heap := h' }) → wpAny (model X.prog X.w) X.A.in1 (collect (.ref a)) Q E s)
    (hd : ∀ b ∈ bs, Dp X.K H b.1 b.2) (hal : AllAlike (bs.map (·.2))) (hk : Sortable (bs.map (·.2))) (hL : bs.length ≤ sizeLine) (hdp : ∀ b ∈ bs, b.2.depth ≤ 60)
    (q : ∀ p, H p = none → Q (.ref p) (upd H p (.lst ((bs.mergeSort (dataLe false (·.2))).map (·.1))))) :
    wpAny (model X.prog X.w) X.A (call (.builtin "sorted") [.ref a]) (EP X pins σ Q) X.xe s := by
  refine Calls.call_function_entry PyProof.Rows.kind_sorted PyProof.Rows.plain_sorted PyProof.Rows.entry_sorted (PyProof.Rows.args_sorted1 _) ?_
  unfold Builtin.«sorted»
  refine wpAny_bind (m := checkCount "sorted" 1 1 _) (wpAny_pure ?_)
  refine wpAny_bind (hc _ _ fun h' its hk' rv => ?_)
  have I1 : Inv X pins σ H { s with heap := h' } := I.kept (t' := s.toks) hk'
  have e : EachIs (fun v (b : V × PyData) => RelV b.1 v) its bs := each_of_vals (H := H) (h := h') rv
  have er := each_reads I1 hd rv
  have hl : its.length = bs.length := by rw [← rv.length, List.length_map]
  refine wpAny_bind (wpAny_newList ?_ (by rw [hl]; exact hL))
  have hoL : (h'.push (seqObj "list" its.toArray 0)).get? h'.objs.size = some (seqObj "list" its.toArray 0) := Heap.get?_push_size _ rfl
  show wpAny _ _ _ _ _ { s with heap := h'.push (seqObj "list" its.toArray 0) }
  have old : ∀ b o, h'.get? b = some o → (sortingHeap (h'.push (seqObj "list" its.toArray 0)) h'.objs.size its).get? b = some o := fun b o q =>
    sortingHeap_old (Nat.ne_of_lt (Heap.lt_size q)) (Heap.get?_push_of_some _ q)
  have er' : EachIs (fun v b => ∃ as, Reads (sortingHeap (h'.push (seqObj "list" its.toArray 0)) h'.objs.size its) v b.2 as) its bs := er.mono fun _ _ ⟨as, r⟩ => ⟨as, PyProof.Rows.Reads.keeps old r⟩
  refine wpAny_bind (wpAny_holding (wpAny_call_entry PyProof.Rows.slot_list_sort ⟨_, hoL, rfl⟩ PyProof.Rows.entry_list_sort
    (list_sort_vals (κ := dataKind (sortingHeap (h'.push (seqObj "list" its.toArray 0)) h'.objs.size its) (bs.map (·.2))) (s := { s with heap := h'.push (seqObj "list" its.toArray 0) }) hoL
      (SortsAt.data (s := { s with heap := sortingHeap (h'.push (seqObj "list" its.toArray 0)) h'.objs.size its }) (each_map (R := fun v d => ∃ as, Reads (sortingHeap (h'.push (seqObj "list" its.toArray 0)) h'.objs.size its) v d as) (fun b : V × PyData => b.2) er') hal hk (fun d hd' => ?_)) (by rw [hl]; exact hL) ⟨_, rfl, ?_⟩)
    (PyProof.Rows.args_list_sort _)))
  · obtain ⟨b, hb, rfl⟩ := List.mem_map.mp hd'
    have := hdp b hb
    have hu' : X.A.in1.in1.units ≤ X.A.units + 2 := Nat.le_refl _
    omega
  · have eo := sortVals_data (enc := fun b : V × PyData => b.2) false e er' hal
    obtain ⟨ep, he'⟩ := PyProof.Rows.sortedHeap_at (vs := its) (out := (sortVals (dataKind (sortingHeap (h'.push (seqObj "list" its.toArray 0)) h'.objs.size its) (bs.map (·.2))) false its its).toArray) hoL
    refine wpAny_pure ⟨_, rfl, .ref h'.objs.size, upd H h'.objs.size (.lst ((bs.mergeSort (dataLe false (·.2))).map (·.1))), I1.laid (t' := s.toks) (fun b u e => ?_) (Nat.le_refl _)
      (show ObjOk X.prog X.w _ _ _ (.lst _) from ⟨by rw [List.length_map, List.length_mergeSort]; exact hL, _, ep, vals_of_each eo, he'⟩), rfl, q _ (I1.hok.fresh (Nat.le_refl _))⟩
    have hb : b < h'.objs.size := Heap.lt_size e
    rw [PyProof.Rows.sortedHeap_old (Nat.ne_of_lt hb) (by rw [size_push']; exact Nat.lt_succ_of_lt hb)]
    exact Heap.get?_push_of_some _ e
theorem cr_sortX (hu : X.A.units + 65 < cLine) : CallR X (.builtin "sorted") (rSortX X.K) := by
  intro pins s σ H vs us Q I r h
  obtain ⟨a, bs, rfl, hs, hd, hal, hk, hdp, q⟩ := h
  rw [Vals.ref1 r]
  rcases hs with hs | hs
  · obtain ⟨its, rv, hl, hz⟩ := I.list hs
    rw [List.length_map] at hz
    obtain ⟨o, n, ho, hc, _, hdt⟩ := hl
    refine sort_of_collected hu I (fun Q E k => ?_) hd hal hk hz hdp q
    refine wpAny_collect_seq a (.inl rfl) ho hc hdt (fun h' hk' => k h' _ hk' (by simpa using rv)) (by rw [List.size_toArray, ← rv.length, List.length_map]; exact hz)
  · obtain ⟨its, rv, hl, hz⟩ := I.tuple hs
    rw [List.length_map] at hz
    obtain ⟨o, ho, hc, n, hdt⟩ := hl
    refine sort_of_collected hu I (fun Q E k => ?_) hd hal hk hz hdp q
    refine wpAny_collect_seq a (.inr rfl) ho hc hdt (fun h' hk' => k h' _ hk' (by simpa using rv)) (by rw [List.size_toArray, ← rv.length, List.length_map]; exact hz)
theorem cr_sortedK {K : PySem.W.Frag} (h : X.K = K) (hu : X.A.units + 65 < cLine) : CallR X (.builtin "sorted") (rSortX K) := h ▸ cr_sortX hu
end

/-! ### over data -/
/-- d stands before e, or is alike in the order -/
def leD (d e : D) : Prop := dataLt (toPy e) (toPy d) = false
def SortOk (xs : List D) : Prop := okNs 59 xs = true ∧ AllAlike (toPys xs) ∧ Sortable (toPys xs)
def sortedP (ρ : Env) (xs : List D) (k : D → Prop) : Prop := match xs with
  | [x] => onS ρ x fun ds => SortOk ds ∧ ∀ es, es.Perm ds → es.Pairwise leD → k (.lst es)
  | _ => False
theorem toPys_map : ∀ ds : List D, toPys ds = ds.map toPy
  | [] => by rw [toPys]; rfl
  | d :: ds => by rw [toPys, toPys_map ds]; rfl
theorem rp_zip {K : PySem.W.Frag} {A : Addr → Prop} {H : Hp} : ∀ {ds : List D} {vs : List V}, RpL K A H ds vs → (vs.zip ds).map (·.1) = vs ∧ (vs.zip ds).map (·.2) = ds ∧ ∀ b ∈ vs.zip ds, Rp K A H b.2 b.1
  | [], [], .nil => ⟨rfl, rfl, fun b hb => by cases hb⟩
  | d :: ds, v :: vs, .cons a r => by
    obtain ⟨h1, h2, h3⟩ := rp_zip r
    refine ⟨by simp [h1], by simp [h2], fun b hb => ?_⟩
    rcases List.mem_cons.mp hb with e | hb
    · rw [e]; exact a
    · exact h3 b hb
theorem rpL_of {K : PySem.W.Frag} {A : Addr → Prop} {H : Hp} : ∀ {bs : List (V × D)}, (∀ b ∈ bs, Rp K A H b.2 b.1) → RpL K A H (bs.map (·.2)) (bs.map (·.1))
  | [], _ => .nil
  | b :: bs, h => .cons (h b List.mem_cons_self) (rpL_of fun c hc => h c (List.mem_cons_of_mem _ hc))
theorem okNs_mem {n : Nat} : ∀ {ds : List D} {d : D}, okNs n ds = true → d ∈ ds → okN n d = true
  | [], _, _, h => by cases h
  | x :: xs, d, o, h => by
    rw [okNs, Bool.and_eq_true] at o
    rcases List.mem_cons.mp h with rfl | h
    · exact o.1
    · exact okNs_mem o.2 h
theorem leD_sorted (bs : List (V × D)) : ((bs.mergeSort (dataLe false fun b => toPy b.2)).map (·.2)).Pairwise leD := by
  refine List.pairwise_map.mpr ?_
  refine (List.pairwise_mergeSort (le := dataLe false fun b : V × D => toPy b.2) (fun a b c h1 h2 => ?_) (fun a b => ?_) bs).imp fun {a b} h => ?_
  · have h1 : dataLt (toPy b.2) (toPy a.2) = false := by
      have : (!dataLt (toPy b.2) (toPy a.2)) = true := h1
      simpa using this
    have h2 : dataLt (toPy c.2) (toPy b.2) = false := by
      have : (!dataLt (toPy c.2) (toPy b.2)) = true := h2
      simpa using this
    have := KeyOrd.kle_trans (O := listOrd itemOrd) h1 h2
    show (!dataLt (toPy c.2) (toPy a.2)) = true
    rw [show dataLt (toPy c.2) (toPy a.2) = false from this]; rfl
  · show ((!dataLt (toPy b.2) (toPy a.2)) || (!dataLt (toPy a.2) (toPy b.2))) = true
    cases h : dataLt (toPy b.2) (toPy a.2) with
    | false => rfl
    | true =>
      have := KeyOrd.klt_asymm (O := listOrd itemOrd) h
      rw [show dataLt (toPy a.2) (toPy b.2) = false from this]; rfl
  · have : (!dataLt (toPy b.2) (toPy a.2)) = true := h
    show dataLt (toPy b.2) (toPy a.2) = false
    simpa using this
section
variable {c : C0} {t : Tm} {σ : L2.St} {H H' : Hp} {ρ : Env}
theorem mergeSort_map_snd {le : PyData → PyData → Bool} : ∀ bs : List (V × D), (((bs.map fun b => (b.1, toPy b.2)).mergeSort fun a b => le a.2 b.2).map (·.1)) = ((bs.mergeSort fun a b => le (toPy a.2) (toPy b.2)).map (·.1)) := fun bs => by
  rw [← List.map_mergeSort (r := fun a b => le (toPy a.2) (toPy b.2)) (fun a _ b _ => rfl), List.map_map]
  rfl
theorem sr_sorted0 : SRL c (rSortX c.K) sortedP := fun t σ H ρ xs ds P Q h r q k => by
  cases r with
  | nil => exact False.elim q
  | cons rx rr => cases rr with
    | cons _ _ => exact False.elim q
    | nil =>
      obtain ⟨ds, a, vs, rfl, hs, rs, ⟨o, hal, hso⟩, q⟩ := onS_ok h rx q
      obtain ⟨z1, z2, z3⟩ := rp_zip rs
      have e1 : ((vs.zip ds).map fun b => (b.1, toPy b.2)).map (·.1) = vs := by rw [List.map_map]; exact z1
      have e2 : ((vs.zip ds).map fun b => (b.1, toPy b.2)).map (·.2) = toPys ds := by
        rw [toPys_map, ← z2, List.map_map, List.map_map]; simp only [z2]; rfl
      refine ⟨a, (vs.zip ds).map fun b => (b.1, toPy b.2), rfl, by rw [e1]; exact hs, fun b hb => ?_, by rw [e2]; exact hal, by rw [e2]; exact hso, fun b hb => ?_, fun p hp => ?_⟩
      · obtain ⟨b, hc, rfl⟩ := List.mem_map.mp hb
        have hm : b.2 ∈ ds := by rw [← z2]; exact List.mem_map.mpr ⟨b, hc, rfl⟩
        exact (z3 b hc).dp (okNs_mem o hm)
      · obtain ⟨b, hc, rfl⟩ := List.mem_map.mp hb
        have hm : b.2 ∈ ds := by rw [← z2]; exact List.mem_map.mpr ⟨b, hc, rfl⟩
        exact Nat.le_succ_of_le (okN_shape (okNs_mem o hm)).2
      · have em := mergeSort_map_snd (le := dataLe false id) (vs.zip ds)
        have e3 : (((vs.zip ds).map fun b => (b.1, toPy b.2)).mergeSort (dataLe false (·.2))).map (·.1) = ((vs.zip ds).mergeSort (dataLe false fun b => toPy b.2)).map (·.1) := em
        rw [e3]
        have pm := List.mergeSort_perm (vs.zip ds) (dataLe false fun b : V × D => toPy b.2)
        have rl : RpL c.K (Far c t σ) H (((vs.zip ds).mergeSort (dataLe false fun b => toPy b.2)).map (·.2)) (((vs.zip ds).mergeSort (dataLe false fun b => toPy b.2)).map (·.1)) := rpL_of fun b hb => z3 b (pm.mem_iff.mp hb)
        refine k _ (.lst (((vs.zip ds).mergeSort (dataLe false fun b => toPy b.2)).map (·.2))) _ (h.new hp) (.lst (h.far hp) upd_same (rl.grow (upd_grow hp))) (q _ ?_ (leD_sorted _))
        have := pm.map (·.2)
        rw [z2] at this
        exact this
theorem sr_sortedX : SRL c (rSortX c.K) sortedP := sr_sorted0
end
end PD

end
section
set_option Elab.async false
set_option linter.all false
set_option maxRecDepth 100000
/-! tuple * int from 1 on; a tuple read backwards -/
namespace PD
open PySem PySem.Spec PyProof.Rows L2 RZ HT

theorem tuple_mul1 (l : Addr) (items : Array Value) (n : Nat) (sl : Array (Option Value)) (u : Tok) (dd : Option Addr) :
    Meets (Builtin.«tuple.__mul__» ⟨[.ref l, .int 1 u], []⟩) (fun _ R s => s.heap.get? l = some { cls := .type "tuple", dict := dd, data := .seq items n, slots := sl } ∧ R (.ok (.ret (Value.ref l))) s) :=
  .of_wp fun prog w A R s h => by
    obtain ⟨hp, g, d, tk, os⟩ := s
    obtain ⟨hl, h⟩ := h
    have f1 := AutoSeq1.idx_int
    wp_walk using wpAny_loadPart' hl
    repeat (first
      | (refine wpAny_ite_false (by decide) ?_; wp_walk using wpAny_loadPart' hl)
      | (refine wpAny_ite_true (by simp) ?_; wp_walk using wpAny_loadPart' hl))
    exact ⟨_, rfl, h⟩
/-- t * k, k from 1 on -/
def rRep1 (K : PySem.W.Frag) : R2 := fun x y H Q => ∃ l k xs, x = .ref l ∧ y = .int k ∧ SqT K H l xs ∧ xs ≠ [] ∧ 1 ≤ k ∧ k ≤ 1000 ∧ xs.length ≤ 1000 ∧ (k = 1 → Q (.ref l) H) ∧ (k ≠ 1 → ∀ p, H p = none → Q (.ref p) (upd H p (.tup (List.replicate k.toNat xs).flatten)))
section
variable {X : Cx}
theorem op_rep1 : OpR X (binaryOp .Mult) (rRep1 X.K) := by
  intro pins s σ H x y v u Q I rx ry h
  obtain ⟨l, k, xs, rfl, rfl, hT, hne, h1, h2, hz, q1, q2⟩ := h
  by_cases hk : k = 1
  · subst hk
    cases rx
    obtain ⟨t, rfl⟩ := ry
    obtain ⟨its, r, ⟨⟨cls, dd, data, sl⟩, ho, hc, n, hd⟩, hs⟩ := I.tuple hT
    simp only at hc hd
    subst hc hd
    refine wpAny_binaryOp_repeat_ref (T := "tuple") (U := "int") (by decide) ⟨_, ho, rfl⟩ (fun s' => typeIs_int s' 1 t) noFill_tuple_mul F.fills_int_mul F.slot_int_rmul repeat_tuple F.slot_int_index.lookup
      (call_meets F.slot_int_rmul (typeIs_int s 1 t) F.entry_int_rmul (F.args_int_rmul_2 _ _) (int_rmul_tuple 1 t l its.toArray n dd sl)
        ⟨ho, rfl, ⟨_, ho, rfl⟩, call_meets F.slot_tuple_mul ⟨_, ho, rfl⟩ F.entry_tuple_mul (F.args_tuple_mul_2 _ _) (tuple_mul1 l its.toArray n sl t dd) ⟨ho, ?_⟩⟩)
    exact ⟨.ref l, H, I, rfl, q1 rfl⟩
  · exact op_repT pins s σ H _ _ v u Q I rx ry ⟨l, k, xs, rfl, rfl, hT, hne, by omega, h2, hz, q2 hk⟩
end
/-! ### t[::-1] -/
section
variable {prog : Program} {w : World} {A : Around} {E : Value → Shared → Prop} {s : Shared}
theorem sliceApplied_rev {sl : Addr} {vl vu vs : Value} {n : Nat} {Q : Int × Int × Nat → Shared → Prop} (hs : s.heap.IsSliceOf sl vl vu vs) (pl : IsPart vl none) (pu : IsPart vu none) (ps : IsPart vs (some (-1)))
    (h : Q ((n : Int) - 1, -1, n) s) : wpAny (model prog w) A (Builtin.Slice.sliceApplied (.ref sl) (pure (n : Int))) Q E s := by
  obtain ⟨os, hos, hcs, hds⟩ := id hs
  unfold Builtin.Slice.sliceApplied Builtin.Slice.sliceFields
  refine wpAny_bind (wpAny_bind (wpAny_field hos hds (x := vl) rfl (wpAny_bind (wpAny_field hos hds (x := vu) rfl (wpAny_bind (wpAny_field hos hds (x := vs) rfl (wpAny_pure ?_)))))))
  refine wpAny_bind (slicePart_ ps ?_)
  show wpAny _ _ (if ((-1 : Int) == 0) = true then _ else _) _ _ s
  rw [if_neg (by decide)]
  refine wpAny_bind (slicePart_ pl (wpAny_bind (slicePart_ pu (wpAny_bind (wpAny_pure ?_)))))
  show wpAny _ _ (pure ((n : Int) - 1, (-1 : Int), Builtin.Slice.slicePlaces ((n : Int) - 1) (-1) (-1))) _ _ s
  have e : Builtin.Slice.slicePlaces ((n : Int) - 1) (-1) (-1) = n := by
    unfold Builtin.Slice.slicePlaces
    rw [if_neg (by decide)]
    by_cases h0 : (n : Int) - 1 > -1
    · rw [if_pos h0, show (-(-1 : Int)) = 1 by decide, Int.ediv_one]; omega
    · rw [if_neg h0]; omega
  rw [e]
  exact wpAny_pure h
theorem pick_rev (xs : Array Value) : ((List.range xs.size).filterMap fun (k : Nat) => xs[((xs.size : Int) - 1 + (k : Int) * (-1)).toNat]?).toArray = xs.toList.reverse.toArray := by
  have e : (fun (k : Nat) => xs[((xs.size : Int) - 1 + (k : Int) * (-1)).toNat]?) = (fun k => xs[k]?) ∘ fun (k : Nat) => ((xs.size : Int) - 1 + (k : Int) * (-1)).toNat := rfl
  have e2 : (List.range xs.size).map (fun (k : Nat) => ((xs.size : Int) - 1 + (k : Int) * (-1)).toNat) = (List.range xs.size).map fun k => xs.size - 1 - k := by
    refine List.map_congr_left fun k hk => ?_
    have := List.mem_range.mp hk
    omega
  rw [e, ← List.filterMap_map, e2, PySem.W.krv_range, List.filterMap_reverse, PySem.W.krv_all]
theorem getItem_tuple_rev {t sl : Addr} {items : Array Value} {vl vu vs : Value} {Q : Value → Shared → Prop} (ht : IsTup s.heap t items) (hs : s.heap.IsSliceOf sl vl vu vs) (pl : IsPart vl none) (pu : IsPart vu none) (ps : IsPart vs (some (-1)))
    (h : Q (.ref s.heap.objs.size) { s with heap := s.heap.push { cls := .type "tuple", data := .seq items.toList.reverse.toArray } })
    (hsz : items.size ≤ sizeLine) : wpAny (model prog w) A (getItem (.ref t) (.ref sl)) Q E s := by
  have htake : sizeOk (.seq items.toList.reverse.toArray) := by
    show items.toList.reverse.toArray.size ≤ sizeLine
    rw [List.size_toArray, List.length_reverse, Array.length_toList]
    exact hsz
  obtain ⟨os, hos, hcs, hds⟩ := id hs
  have hTs : s.TypeIs (.ref sl) "slice" := ⟨os, hos, hcs⟩
  unfold getItem
  try with_reducible refine wpAny_holding ?_
  first | refine wpAny_bind (wpAny_pure ?_) | skip
  refine wpAny_bind (wpAny_sequenceKey ht.typeIs (by decide) ?_)
  refine wpAny_bind (wpAny_callSpecial?_slot (name := Str.ofString "__getitem__") ht.typeIs PyProof.Rows.slot_tuple_getitem
    (wpAny_call_entry PyProof.Rows.slot_tuple_getitem ht.typeIs entry_tuple_getitem ?_ (args_tuple_getitem _ _)))
  show wpAny _ _ (Builtin.Tuple.tupleItemsOf (.ref t) >>= _) _ _ s
  refine wpAny_bind (tupleItemsOf_ ht ?_)
  refine wpAny_bind (wpAny_typeOf hTs ?_)
  rw [if_pos (by decide)]
  refine wpAny_bind (sliceApplied_rev hs pl pu ps ?_)
  have hno : ¬ ((((items.size : Int) - 1) == 0 && (-1 : Int) == 1 && items.size == items.size) = true) := by
    intro q
    rw [Bool.and_eq_true, Bool.and_eq_true] at q
    exact absurd q.1.2 (by decide)
  show wpAny _ _ (if (((items.size : Int) - 1) == 0 && (-1 : Int) == 1 && items.size == items.size) = true then _ else _) _ _ s
  rw [if_neg hno, pick_rev]
  first
    | exact wpAny_bind (m := Builtin.Tuple.tupleExact _) (wpAny_newObj_type (wpAny_pure ⟨_, rfl, wpAny_pure h⟩) htake)
    | exact wpAny_bind (m := Builtin.Tuple.tupleExact _) (wpAny_newObj_type (wpAny_bind (wpAny_pure (wpAny_pure ⟨_, rfl, wpAny_pure h⟩))) htake)
    | exact wpAny_bind (wpAny_bind (m := Builtin.Tuple.tupleExact _) (wpAny_newObj_type (wpAny_pure (wpAny_pure ⟨_, rfl, wpAny_pure h⟩)) htake))
    | exact wpAny_bind (wpAny_bind (m := Builtin.Tuple.tupleExact _) (wpAny_newObj_type (wpAny_pure ⟨_, rfl, wpAny_pure h⟩) htake))
end
def tRevT (K : PySem.W.Frag) (te : TE) : TE := fun σ H Q => te σ H fun x H1 => ∃ a xs, x = .ref a ∧ SqT K H1 a xs ∧ ∀ p, H1 p = none → Q (.ref p) (upd H1 p (.tup xs.reverse))
section
variable {X : Cx}
theorem pe_revT {e : Expr} {te : TE} {k : Nat} {p1 p2 p3 pos : Pos} (he : PE X e te) : PE X (.Subscript e (.Slice none none (some (.UnaryOp .USub (.Constant (.int 1) k p1) p2)) p3) pos) (tRevT X.K te) := by
  refine ⟨fun pins s σ H Q I h => ?_⟩
  refine Subscript_ (thn (he.run pins s σ H _ I h) fun v s1 ⟨x, H1, I1, r1, q1⟩ => ?_)
  obtain ⟨a, xs, ex, hx, q⟩ := q1
  subst ex
  cases r1
  have hst : PO X (some (.UnaryOp .USub (.Constant (.int 1) k p1) p2)) (tPart (tUn (rU fun i => .int (-i)) (tC (.int 1)))) := po_some (pe_un un_neg pe_int)
  refine wpAny_Slice (thn (po_none.run pins s1 σ H1 (fun o H2 => o = none ∧ H2 = H1) I1 ⟨rfl, rfl⟩) fun vl s2 ⟨l, H2, I2, pl, el, e2⟩ => ?_)
  subst el e2
  refine thn (po_none.run pins s2 σ H2 (fun o H3 => o = none ∧ H3 = H2) I2 ⟨rfl, rfl⟩) fun vu s3 ⟨u, H3, I3, pu, eu, e3⟩ => ?_
  subst eu e3
  refine thn (hst.run pins s3 σ H3 (fun o H4 => o = some (-1) ∧ H4 = H3) I3 ⟨1, rfl, -1, rfl, rfl, rfl⟩) fun vs s4 ⟨o, H4, I4, ps, eo, e4⟩ => ?_
  subst eo e4
  have I5 : Inv X pins σ H4 { s4 with heap := s4.heap.push { cls := .type "slice", data := .fields #[vl, vu, vs] } } := I4.kept (t' := s4.toks) fun b ob q => Heap.get?_push_of_some _ q
  obtain ⟨its, r, ht, hz⟩ := I5.tuple hx
  have hlen := r.length
  show wpAny (model X.prog X.w) X.A (subscriptTail e (.Slice none none (some (.UnaryOp .USub (.Constant (.int 1) k p1) p2)) p3) (.ref a) (.ref s4.heap.objs.size)) (EP X pins σ Q) X.xe { s4 with heap := s4.heap.push { cls := .type "slice", data := .fields #[vl, vu, vs] } }
  refine tail_any (ops := [.ref a, .ref s4.heap.objs.size]) ht.typeIs (PyProof.Rows.slot_tuple_getitem.lookup) ?_ (by with_unfolding_all rfl)
  refine getItem_tuple_rev ht (Heap.IsSliceOf.new _ vl vu vs) pl pu ps ?_ (by rw [List.size_toArray]; omega)
  refine ⟨.ref _, _, I5.laid (t' := s4.toks) (o := .tup xs.reverse) (fun b ob q => Heap.get?_push_of_some _ q) (Nat.le_refl _) ?_, rfl, q _ (I5.hok.fresh (Nat.le_refl _))⟩
  exact ⟨by rw [List.length_reverse]; exact hz, _, r.reverse, IsTup.new _ _⟩
end
section
variable {K : PySem.W.Frag} {X : Cx}
theorem op_rep1K (h : X.K = K) : OpR X (binaryOp .Mult) (rRep1 K) := h ▸ op_rep1
theorem pe_revTK (h : X.K = K) {e : Expr} {te : TE} {k : Nat} {p1 p2 p3 pos : Pos} (he : PE X e te) : PE X (.Subscript e (.Slice none none (some (.UnaryOp .USub (.Constant (.int 1) k p1) p2)) p3) pos) (tRevT K te) := h ▸ pe_revT he
end
/-! over data -/
def repP (ρ : Env) (x y : D) (k : D → Prop) : Prop := match x, y with
  | .tup xs, .int n => xs ≠ [] ∧ 1 ≤ n ∧ n ≤ 1000 ∧ xs.length ≤ 1000 ∧ k (.tup (List.replicate n.toNat xs).flatten)
  | _, _ => False
def dRev (a : DE) : DE := fun ρ P => a ρ fun d ρ1 => match d with
  | .tup xs => P (.tup xs.reverse) ρ1
  | _ => False
section
variable {c : C0} {te : TE} {de : DE}
theorem sr_rep1 : SR2 c (rRep1 c.K) repP := fun t σ H ρ x y dx dy P Q h rx ry q k => by
  cases dx with
  | tup xs => cases dy with
    | int n =>
      obtain ⟨h1, h2, h3, h4, q⟩ := q
      have rx' : Rp c.K (Far c t σ) H (.tup xs) x := rx.rp trivial
      obtain ⟨a, vs, rfl, na, ha, rs⟩ := rx'.seqT
      refine ⟨a, n, vs, rfl, ry.int, .of ha, fun e => h1 ?_, h2, h3, by rw [← rs.length]; exact h4, fun e => ?_, fun _ p hp => ?_⟩
      · subst e; cases rs; rfl
      · subst e
        have e1 : (List.replicate (1 : Int).toNat xs).flatten = xs := by simp
        rw [e1] at q
        exact k _ _ H h (.tup na ha rs) q
      · exact k _ _ _ (h.new hp) (.tup (h.far hp) upd_same ((rs.rep _).grow (upd_grow hp))) q
    | _ => exact False.elim q
  | _ => exact False.elim q
theorem sv_rev (he : SE c te de) : SV c (tRevT c.K te) (dRev de) := fun t σ H ρ P Q h q k =>
  he t σ H ρ _ _ h q fun v d H1 ρ1 h1 r1 q1 => by
    cases d with
    | tup xs =>
      obtain ⟨a, vs, rfl, na, ha, rs⟩ := (r1.rp trivial).seqT
      exact ⟨a, vs, rfl, .of ha, fun p hp => k _ _ _ ρ1 (h1.new hp) (.tup (h1.far hp) upd_same (rs.reverse.grow (upd_grow hp))) q1⟩
    | _ => exact False.elim q1
end
end PD

end
section
set_option Elab.async false
set_option linter.all false
set_option maxRecDepth 100000
set_option maxHeartbeats 1000000
/-! walking a list, unpacking a pair, a list comprehension: where an exception is handled -/
namespace PD
open PySem PySem.Spec PyProof.Rows L2 RZ HotX

section
variable {prog : Program} {w : World} {A : Around} {E : Value → Shared → Prop} {s : Shared}
theorem HotAt.ext {x1 : Addr} {h h' : Heap} (t : HotAt A x1 h) (k : ∀ o, h.get? x1 = some o → h'.get? x1 = some o) : HotAt A x1 h' := by
  obtain ⟨a, o, vs, b, c, d⟩ := t
  exact ⟨a, o, vs, k o b, c, d⟩
theorem next_tuple_end_hot {it t x1 : Addr} {i : Nat} {items} {Q : Option Value → Shared → Prop} (hot : HotAt A x1 s.heap) (hx1 : x1 ≠ it)
    (hit : IsTupIter s.heap it t i) (ht : IsTup s.heap t items) (hx : items[i]? = none)
    (hQ : ∀ h', Heap.ExtBut it s.heap h' → Q none { s with heap := h' }) : wpAny (model prog w) A (pyNext (.ref it)) Q E s := by
  obtain ⟨o, ho, hc, hd⟩ := id hit
  obtain ⟨ol, hol, _, nl, hdl⟩ := ht
  obtain ⟨hh, o1, vs1, h1, d1, c1⟩ := hot
  unfold pyNext
  refine wpAny_bind (wpAny_attempt (wpAny_callSpecial?_slot (name := Str.ofString "__next__") hit.typeIs slot_tupleiter_next
    (wpAny_call_entry slot_tupleiter_next hit.typeIs entry_tupleiter_next ?_ (args_tupleiter_next _))))
  show wpAny _ _ (field (.ref it) 0 >>= _) _ _ s
  refine wpAny_bind (wpAny_field ho hd (x := .ref t) rfl ?_)
  show wpAny _ _ (if (Value.ref t == Value.none) = true then _ else _) _ _ s
  rw [if_neg (show ¬ ((Value.ref t == Value.none) = true) from Bool.false_ne_true)]
  show wpAny _ _ (field (.ref it) 1 >>= _) _ _ s
  refine wpAny_bind (wpAny_field ho hd (x := .int i 0) rfl ?_)
  show wpAny _ _ (seqItems? (.ref t) >>= _) _ _ s
  refine wpAny_bind (wpAny_seqItems hol hdl ?_)
  simp only [Int.toNat_natCast, hx]
  refine wpAny_bind (wpAny_rule (wpAny_bind (wpAny_setField ho hd (by simp) ?_)))
  show wpAny _ _ (newExc (.type "StopIteration") [] >>= _) _ _ _
  refine wpAny_bind ?_
  simp only [newExc, newTuple]
  refine wpAny_bind (wpAny_newObj_type ?_ (by size_fits))
  refine wpAny_bind (m := firstArgMember _ _) (wpAny_of_eq (a := Value.none) (by first | rfl | (simp only [firstArgMember]; rfl)) ?_)
  refine wpAny_newObj_type ?_ (by size_fits)
  have h2 := (Heap.get?_update_other s.heap (Obj.mapFields (·.setIfInBounds 0 Value.none)) (Ne.symm hx1)).trans h1
  refine raiseNew_hot ⟨hh, o1, vs1, Heap.get?_push_of_some _ (Heap.get?_push_of_some _ h2), d1, c1⟩ (Nat.ne_of_lt (Heap.lt_size (Heap.get?_push_of_some _ h2))) (Heap.get?_push_size _ rfl) rfl (by first | (simp; done) | (simp; omega) | (simp only [Array.size_append]; simp; omega)) ?_
  refine wpAny_bind (wpAny_isInstance (T := "StopIteration") (b := true) ⟨_, Heap.get?_update_self _ (Heap.get?_push_size _ rfl) rfl, rfl⟩ isSubtype_stop ?_)
  refine wpAny_pure (hQ _ fun b o hb e => ?_)
  have e' := (Heap.get?_update_other s.heap (Obj.mapFields (·.setIfInBounds 0 Value.none)) (Ne.symm hb)).trans e
  rw [Heap.get?_update_other _ _ (Nat.ne_of_gt (Heap.lt_size (Heap.get?_push_of_some _ e')))]
  exact Heap.get?_push_of_some _ (Heap.get?_push_of_some _ e')
theorem next_list_end_hot {it l x1 : Addr} {i : Nat} {items} {Q : Option Value → Shared → Prop} (hot : HotAt A x1 s.heap) (hx1 : x1 ≠ it)
    (hit : s.heap.IsListIter it l i) (hl : s.heap.IsList l items) (hx : items[i]? = none)
    (hQ : ∀ h', Heap.ExtBut it s.heap h' → Q none { s with heap := h' }) : wpAny (model prog w) A (pyNext (.ref it)) Q E s := by
  obtain ⟨o, ho, hc, hd⟩ := id hit
  obtain ⟨ol, hol, _, nl, hdl⟩ := hl
  obtain ⟨hh, o1, vs1, h1, d1, c1⟩ := hot
  unfold pyNext
  refine wpAny_bind (wpAny_attempt (wpAny_callSpecial?_slot (name := Str.ofString "__next__") hit.typeIs slot_listiter_next
    (wpAny_call_entry slot_listiter_next hit.typeIs entry_listiter_next ?_ (args_listiter_next _))))
  show wpAny _ _ (field (.ref it) 0 >>= _) _ _ s
  refine wpAny_bind (wpAny_field ho hd (x := .ref l) rfl ?_)
  show wpAny _ _ (if (Value.ref l == Value.none) = true then _ else _) _ _ s
  rw [if_neg (show ¬ ((Value.ref l == Value.none) = true) from Bool.false_ne_true)]
  show wpAny _ _ (field (.ref it) 1 >>= _) _ _ s
  refine wpAny_bind (wpAny_field ho hd (x := .int i 0) rfl ?_)
  show wpAny _ _ (seqItems? (.ref l) >>= _) _ _ s
  refine wpAny_bind (wpAny_seqItems hol hdl ?_)
  simp only [Int.toNat_natCast, hx]
  refine wpAny_bind (wpAny_rule (wpAny_bind (wpAny_setField ho hd (by simp) ?_)))
  show wpAny _ _ (newExc (.type "StopIteration") [] >>= _) _ _ _
  refine wpAny_bind ?_
  simp only [newExc, newTuple]
  refine wpAny_bind (wpAny_newObj_type ?_ (by size_fits))
  refine wpAny_bind (m := firstArgMember _ _) (wpAny_of_eq (a := Value.none) (by first | rfl | (simp only [firstArgMember]; rfl)) ?_)
  refine wpAny_newObj_type ?_ (by size_fits)
  have h2 := (Heap.get?_update_other s.heap (Obj.mapFields (·.setIfInBounds 0 Value.none)) (Ne.symm hx1)).trans h1
  refine raiseNew_hot ⟨hh, o1, vs1, Heap.get?_push_of_some _ (Heap.get?_push_of_some _ h2), d1, c1⟩ (Nat.ne_of_lt (Heap.lt_size (Heap.get?_push_of_some _ h2))) (Heap.get?_push_size _ rfl) rfl (by first | (simp; done) | (simp; omega) | (simp only [Array.size_append]; simp; omega)) ?_
  refine wpAny_bind (wpAny_isInstance (T := "StopIteration") (b := true) ⟨_, Heap.get?_update_self _ (Heap.get?_push_size _ rfl) rfl, rfl⟩ isSubtype_stop ?_)
  refine wpAny_pure (hQ _ fun b o hb e => ?_)
  have e' := (Heap.get?_update_other s.heap (Obj.mapFields (·.setIfInBounds 0 Value.none)) (Ne.symm hb)).trans e
  rw [Heap.get?_update_other _ _ (Nat.ne_of_gt (Heap.lt_size (Heap.get?_push_of_some _ e')))]
  exact Heap.get?_push_of_some _ (Heap.get?_push_of_some _ e')
theorem unpackItems_hot {t x1 : Addr} {items : Array Value} {Q : List Value → Shared → Prop} (hot : HotAt A x1 s.heap) (ht : IsTup s.heap t items)
    (hQ : ∀ h', Heap.ExtBut s.heap.objs.size s.heap h' → Q items.toList { s with heap := h' }) : wpAny (model prog w) A (unpackItems (.ref t) items.size none) Q E s := by
  have hlt : t ≠ s.heap.objs.size := by obtain ⟨o, ho, _⟩ := ht; exact Nat.ne_of_lt (Heap.lt_size ho)
  have hx1 : x1 ≠ s.heap.objs.size := by obtain ⟨_, o, vs, ho, _⟩ := hot; exact Nat.ne_of_lt (Heap.lt_size ho)
  unfold unpackItems
  refine wpAny_bind ?_
  · unfold notIterableAtAll
    refine wpAny_bind (wpAny_specialOf ht.typeIs slot_tuple_iter.lookup ?_)
    refine wpAny_pure ?_
    simp only [Bool.false_eq_true, if_false]
    refine wpAny_bind (wpAny_holding (iter_tuple ht ?_))
    refine wpAny_bind (wpAny_holding (draw_tuple hlt items.size 0 _ _ ⟨_, Heap.get?_push_size _ rfl, rfl, rfl⟩ (ht.push _) (by omega) fun h₁ hit₁ hs₁ => ?_))
    have hall : List.take items.size (List.drop 0 items.toList) = items.toList := by
      rw [List.drop_zero]; exact List.take_of_length_le (by simp)
    rw [hall]
    rw [if_neg (by simp)]
    have ht₁ : IsTup h₁ t items := (ht.push _).extBut hs₁.extBut hlt
    have hot₁ : HotAt A x1 h₁ := HotAt.ext hot fun o e => hs₁.extBut x1 o hx1 (Heap.get?_push_of_some _ e)
    refine wpAny_bind (wpAny_holding (next_tuple_end_hot (s := { s with heap := h₁ }) hot₁ hx1 hit₁ ht₁ (by simp) fun h₂ he₂ => ?_))
    simp only [Option.isSome_none, Bool.false_eq_true, if_false]
    refine wpAny_pure (hQ h₂ fun b o hb e => he₂ b o hb (hs₁.extBut b o hb (Heap.get?_push_of_some _ e)))
theorem unpack_hot {t x1 : Addr} {items : Array Value} {targets : List (Bool × (Value → Sem Unit))} {Q : Unit → Shared → Prop} (hot : HotAt A x1 s.heap) (ht : IsTup s.heap t items)
    (hn : targets.length = items.size) (hstar : targets.findIdx? (·.1) = none)
    (h : ∀ h', Heap.ExtBut s.heap.objs.size s.heap h' → wpAny (model prog w) A (assignInOrder (targets.map (·.2)) items.toList) Q E { s with heap := h' }) :
    wpAny (model prog w) A (unpack (.ref t) targets) Q E s := by
  unfold unpack
  rw [hn, hstar]
  exact wpAny_bind (wpAny_holding (unpackItems_hot hot ht h))
end
/-- the context bears a handled error whose context is None -/
def HotX (X : Cx) : Prop := ∀ (pins : List (Addr × Obj)) (σ : L2.St) (H : Hp) (s : Shared), Inv X pins σ H s → ∃ x1, HotAt X.A x1 s.heap
theorem pg_tupH {X : Cx} {es : List Expr} {k : Nat} {t : TGs} {n : Nat} {pos : Pos} (hc : HotX X) (h : PGs X es t)
    (hn : (assignEach es X.env).length = n := by rfl) (hst : (assignEach es X.env).findIdx? (·.1) = none := by rfl) : PG X (.Tuple es k pos) (gTup X.K n t) := by
  refine ⟨fun pins s σ H v u Q I r hw => ?_⟩
  obtain ⟨a, xs, e1, hq, hl, hw⟩ := hw
  subst e1
  cases r
  obtain ⟨its, rv, ht, hz⟩ := I.tuple hq
  obtain ⟨x1, hot⟩ := hc pins σ H s I
  rw [assign_Tuple]
  refine wpAny_bind (wpAny_standAt (unpack_hot hot ht (by simp [hn, ← hl, rv.length]) hst fun h' hx => ?_))
  have I1 : Inv X pins σ H { s with heap := h' } := I.kept (t' := s.toks) fun b o e => hx b o (Nat.ne_of_lt (Heap.lt_size e)) e
  exact h.run pins _ σ H xs _ Q I1 (by simpa using rv) hw
/-- a suite's context -/
theorem hot_suite {X : Cx} {a : Addr} {oe : Obj} {cls : Value} {d : Option Addr} {pn : List (Addr × Obj)} (hz : L2N.Zn cls d oe) (hd : ∃ vs, oe.data = .fields vs) : L2H.HotC (X.suite a ((a, oe) :: pn)) := by
  obtain ⟨vs, hd⟩ := hd
  exact ⟨(a, oe), ⟨rfl, vs, hd, hz.2.2 vs hd⟩, List.mem_cons_self⟩
/-- a block's context within it -/
theorem hot_blk {X : Cx} {pins : List (Addr × Obj)} {σ : L2.St} {H : Hp} {s : Shared} {scope : Scope} {cenv : PySem.Env} {fp : List Addr} (hc : L2H.HotC X) (I : Inv X pins σ H s) (hf : ∀ b ∈ fp, FpOk X pins H b) : HotX (X.blk s H scope cenv fp) := by
  obtain ⟨p, ⟨hh, v1, e1, c1⟩, hp⟩ := hc
  obtain ⟨g1, g2, g3, g4, _⟩ := I.pin p (List.mem_append_left _ hp)
  intro pins' σ' H' s' I'
  have nfp : p.1 ∉ fp := fun z => (hf p.1 z).2.2.2.2.2 p (List.mem_append_left _ hp) rfl
  have nst : p.1 ∉ frs X.stack := fun z => by
    rcases List.mem_cons.mp (I.stkSub _ z) with e | e
    · exact g3 e
    · exact g4 e
  exact ⟨p.1, hh, p.2, v1, I'.base.keep p.1 p.2 g1 g2 nst nfp, e1, c1⟩
/-- a list comprehension over a list -/
theorem lc_hot {X : Cx} {pins : List (Addr × Obj)} {s : Shared} {σ : L2.St} {H : Hp} {Q : VK} {elt tg iter : Expr} {ifs : List Expr} {scope : Scope} {own : List (Str × Nat)} {pos pos' : Pos} {tl : TE} {g : TG} {tt : TT} {te : TE} {use : Option (Value → Sem Unit)} {Qf : Value → Shared → Prop}
    (hc : L2H.HotC X) (hN : X.N.Nodup) (I : Inv X pins σ H s) (hi : PE X iter tl) (ok : BlkOk X.N X.env.scope scope own)
    (hg : ∀ (s : Shared) (H : Hp) (C : Addr) (cl : List (Str × Addr)) (fp : List Addr), HotX (X.blk s H scope (compEnvC scope cl C X.env) fp) → PG (X.blk s H scope (compEnvC scope cl C X.env) fp) tg g) (ht : ∀ (s : Shared) (H : Hp) (C : Addr) (cl : List (Str × Addr)) (fp : List Addr), PTs (X.blk s H scope (compEnvC scope cl C X.env) fp) ifs tt)
    (he : ∀ (s : Shared) (H : Hp) (C : Addr) (cl : List (Str × Addr)) (fp : List Addr), PE (X.blk s H scope (compEnvC scope cl C X.env) fp) elt te) (hs : ∀ x, foldedSetIterable iter X.env x = pure x)
    (h : tLc (iList X.K tl) g tt te (own.map (·.2)) σ H Q)
    (hRR : ∀ D C s' m H', Inv X pins σ H' s' → Q (.ref D) H' → s'.heap.Ns C m → FpOk X pins H' C → compPost (model X.prog X.w) X.A X.xe use Qf (.ref D) C (.ok .next) s') :
    wpAny (model X.prog X.w) X.A (comprehension (.ListComp elt [⟨tg, iter, ifs, 0⟩] scope pos) scope X.env pos' (newList []) false (eval iter X.env) use) Qf X.xe s := by
  have hfree : ∀ y ∈ scope.names, y.2 = .free → ∃ c, X.env.cells.lookup y.1 = some c := fun y hy e => by
    rcases ok.free y hy e with k | k
    · exact I.ok.has _ (.inl k)
    · exact I.ok.has _ (.inr k)
  refine wpAny_comprehension_free (use := use) rfl hs (closure_ok hfree) ok.kind (fun y hy e => by rw [ok.uniq y hy, e])
    (thn (hi.run pins s σ H _ I h) fun xv s1 hx => ?_)
  obtain ⟨xv', H2, I1, rx, a, exv, ⟨xs, hsq⟩, q⟩ := hx
  subst exv
  cases rx
  obtain ⟨its, rv, p, hzL⟩ := I1.list hsq
  refine wpAny_pyIter_list p.isList ?_
  generalize hit0 : s1.heap.objs.size = it
  generalize hs2 : ({ s1 with heap := s1.heap.push { cls := .type "list_iterator", data := .fields #[.ref a, .int 0 0] } } : Shared) = s2
  have I2 : Inv X pins σ H2 s2 := by
    rw [← hs2]
    exact I1.kept (t' := s1.toks) fun b o e => Heap.get?_push_of_some _ e
  have st2 : s2.heap.IsListIter it a 0 := by
    rw [← hs2, ← hit0]
    exact ⟨_, Heap.get?_push_size _ rfl, rfl, rfl⟩
  have f2 : ∀ b ∈ [it], FpOk X pins H2 b := fun b hb => by
    have e : b = s1.heap.objs.size := by rw [hit0]; simpa using hb
    subst e
    exact I1.fpOk (Nat.le_refl _) (I1.hok.fresh (Nat.le_refl _))
  generalize hfp : [it] = fp at f2
  have T : Turn X.prog X.w X.K tg (Itl X.K a) fp it (fun i h => h.IsListIter it a i) := hfp ▸ turn_list a it
  generalize htn : (fun (i : Nat) (h : Heap) => h.IsListIter it a i) = tn at T
  have st2 : tn 0 s2.heap := by rw [← htn]; exact st2
  have Tn : ∀ i h, tn i h → h.IsListIter it a i := fun i h z => by rw [← htn] at z; exact z
  refine wpAny_newObj_type (newEnv_comp ?_) (by show 0 ≤ sizeLine; decide)
  generalize hD : s2.heap.objs.size = D
  have hDn : H2 D = none := I2.hok.fresh (Nat.le_of_eq hD)
  obtain ⟨W, ⟨m0, w0⟩, turn⟩ := q D hDn
  -- the new list
  generalize hs3 : ({ s2 with heap := s2.heap.push { cls := .type "list", data := .seq ([] : List Value).toArray } } : Shared) = s3
  have I3 : Inv X pins σ (upd H2 D (.lst [])) s3 := by
    rw [← hs3]
    refine I2.laid (t' := s2.toks) (fun b o e => Heap.get?_push_of_some _ e) (Nat.le_of_eq hD) ⟨Nat.zero_le _, [], 0, .nil, ?_⟩
    rw [← hD]
    exact Heap.get?_push_size _ rfl
  have h3 : s3.heap = s2.heap.push { cls := .type "list", data := .seq ([] : List Value).toArray } := by rw [← hs3]
  have sz : ∀ b ∈ fp, b < s2.heap.objs.size := fun b hb => by
    obtain ⟨o, e, _⟩ := T.obj _ _ st2 b hb
    exact Heap.lt_size e
  have f3 : ∀ b ∈ fp, FpOk X pins (upd H2 D (.lst [])) b ∧ b < s3.heap.objs.size := fun b hb => by
    have hlt := sz b hb
    refine ⟨⟨?_, (f2 b hb).2⟩, by rw [h3, Heap.size_push]; exact Nat.lt_succ_of_lt hlt⟩
    rw [upd_ne (by rw [← hD]; exact Nat.ne_of_lt hlt)]
    exact (f2 b hb).1
  have st3 : tn 0 s3.heap := T.keep _ _ _ st2 fun b _ o e => by rw [h3]; exact Heap.get?_push_of_some _ e
  have I4 := block_start I3 ok hN f3
  have hx0 := hot_blk (scope := scope) (cenv := compEnvC scope (cellsFrom (s3.heap.objs.size + 1) scope.names (cloFrom X.env.cells scope.names [])) s3.heap.objs.size X.env) hc I3 (fun b hb => (f3 b hb).1)
  have pg := hg s3 (upd H2 D (.lst [])) s3.heap.objs.size (cellsFrom (s3.heap.objs.size + 1) scope.names (cloFrom X.env.cells scope.names [])) fp hx0
  have pt := ht s3 (upd H2 D (.lst [])) s3.heap.objs.size (cellsFrom (s3.heap.objs.size + 1) scope.names (cloFrom X.env.cells scope.names [])) fp
  have pe := he s3 (upd H2 D (.lst [])) s3.heap.objs.size (cellsFrom (s3.heap.objs.size + 1) scope.names (cloFrom X.env.cells scope.names [])) fp
  show codeAny _ _ (.compStart (.ListComp elt [⟨tg, iter, ifs, 0⟩] scope pos) 0 (.ref it) (.ref D) (compEnvC scope (cellsFrom (s3.heap.objs.size + 1) scope.names (cloFrom X.env.cells scope.names [])) s3.heap.objs.size X.env)) (compPost (model X.prog X.w) X.A X.xe use Qf (.ref D) s3.heap.objs.size) { s3 with heap := pushCells (s3.heap.push { cls := .type "dict", data := .dict #[] }) scope.names }
  have nfp : ∀ b ∈ fp, (upd H2 D (.lst [])) b = none := fun b hb => (f3 b hb).1.1
  generalize hce : compEnvC scope (cellsFrom (s3.heap.objs.size + 1) scope.names (cloFrom X.env.cells scope.names [])) s3.heap.objs.size X.env = ce at I4 pg pt pe hx0 ⊢
  have cL : ce.locals = s3.heap.objs.size := by subst hce; rfl
  generalize hH3 : upd H2 D (.lst []) = H3 at I3 I4 pg pt pe w0 nfp f3 hx0
  generalize hs4 : ({ s3 with heap := pushCells (s3.heap.push { cls := .type "dict", data := .dict #[] }) scope.names } : Shared) = s4 at I4 ⊢
  have st4 : tn 0 s4.heap := T.keep _ _ _ st3 fun b _ o e => by rw [← hs4]; exact pushCells_keeps _ _ _ _ (Heap.get?_push_of_some _ e)
  have stat : ∀ {σ' : L2.St} {H' : Hp} {s' : Shared}, Inv (X.blk s3 H3 scope ce fp) [] σ' H' s' → (∀ b ∈ fp, H' b = none) → ∀ b ∈ fp, FpOk (X.blk s3 H3 scope ce fp) [] H' b := fun {σ' H' s'} I' hn b hb =>
    ⟨hn b hb, (I'.ok.exf b hb).1, I'.ok.exfs b hb, .inl hb, fun x c e => (I'.ok.exf b hb).2 x c e, fun p hp => absurd (show p ∈ ([] : List (Addr × Obj)) ++ [] from hp) (by simp)⟩
  have loop : codeAny (model X.prog X.w) X.A (.compLoop (.ListComp elt [⟨tg, iter, ifs, 0⟩] scope pos) 0 (.ref it) (.ref D) ce) (compPost (model X.prog X.w) X.A X.xe use Qf (.ref D) s3.heap.objs.size) s4 := by
    refine compLoop_any (fun n s' => ∃ i H', Inv (X.blk s3 H3 scope ce fp) [] (wipe σ (own.map (·.2))) H' s' ∧ tn i s'.heap ∧ (∀ b ∈ fp, H' b = none) ∧ W i n H') ?_ m0 ⟨0, H3, I4, st4, nfp, w0⟩
    rintro n s5 ⟨i, H5, I5, st5, n5, w5⟩
    rcases turn i n H5 w5 with ⟨stop, qq⟩ | ⟨go, Nx, hNx, step⟩
    · obtain ⟨xs5, hq5, hle⟩ := stop
      obtain ⟨its5, rv5, p5, _⟩ := I5.list hq5
      have hl5 := rv5.length
      obtain ⟨x1, hot5⟩ := hx0 [] _ H5 s5 I5
      have itm : it ∈ fp := T.mem
      obtain ⟨f0, f1, f2', f3', f4, f5⟩ := stat I5 n5 it itm
      have hx1 : x1 ≠ it := fun z => by
        obtain ⟨_, o, vs, e1, e2, e3⟩ := hot5
        obtain ⟨oi, e4, _, e5⟩ := Tn _ _ st5
        rw [z, e4] at e1
        cases e1
        rw [e5] at e2
        cases e2
        simp at e3
      refine next_list_end_hot hot5 hx1 (Tn _ _ st5) p5.isList (by simp; omega) fun h6 eb => ?_
      have I6 : Inv (X.blk s3 H3 scope ce fp) [] (wipe σ (own.map (·.2))) H5 { s5 with heap := h6 } := I5.turned (t' := s5.toks) (fun b o hb e => eb b o hb e) f0 f1 f3' f4 f5
      generalize ({ s5 with heap := h6 } : Shared) = s6 at I6
      -- back in the def's context
      have I7 : Inv X pins σ H5 s6 := I3.call' (ch := fp) I6.os I6.base I6.hok I6.bare fun b hb => ⟨(f3 b hb).1.2.2.2.1, (f3 b hb).1.2.1, (f3 b hb).1.2.2.2.2.1, (f3 b hb).1.2.2.2.2.2⟩
      have nC : H5 s3.heap.objs.size = none := by
        have z : H5 ce.locals = none := I6.free
        rw [cL] at z
        exact z
      obtain ⟨m, hn, _⟩ := I6.loc
      have hn : s6.heap.Ns ce.locals m := hn
      rw [cL] at hn
      exact hRR D s3.heap.objs.size s6 m H5 I7 qq hn (I3.fpOk (Nat.le_refl _) nC)
    · have ti : wpAny (model X.prog X.w) X.A (pyNext (.ref it)) (fun r s1 => ∃ u, r = some u ∧ wpAny (model X.prog X.w) X.A (letOwnedTupleGo tg (.ref it) u) (fun _ s2 => ∃ x H', Inv (X.blk s3 H3 scope ce fp) [] (wipe σ (own.map (·.2))) H' s2 ∧ RelV x u ∧ (Itl X.K a).yld i H5 x H' ∧ tn (i + 1) s2.heap ∧ ∀ b ∈ fp, H' b = none) (fun _ _ => False) s1) (fun _ _ => False) s5 := by
        obtain ⟨xs5, x5, hq5, hx5⟩ := go
        obtain ⟨its5, rv5, p5, hz5⟩ := I5.list hq5
        obtain ⟨u5, hu5, ru5⟩ := rv5.get hx5
        obtain ⟨f0, f1, f2', f3', f4, f5⟩ := stat I5 n5 it T.mem
        refine wpAny_pyNext_list_item (Tn _ _ st5) p5.isList (x := u5) (by simpa using hu5) fun h' st' sb => ?_
        have I6 : Inv (X.blk s3 H3 scope ce fp) [] (wipe σ (own.map (·.2))) H5 { s5 with heap := h' } := I5.turned (t' := s5.toks) (fun b o hb e => (sb.2 b hb).trans e) f0 f1 f3' f4 f5
        obtain ⟨o, e, c, d⟩ := id st'
        exact ⟨u5, rfl, go_of (s := { s5 with heap := h' }) e c d (by decide) ⟨x5, H5, I6, ru5, ⟨rfl, fun ys hy => by rw [I5.list_inj hy hq5]; exact hx5⟩, by rw [← htn]; exact st', n5⟩⟩
      refine thnF ti fun r s6 ⟨u, hr, h6⟩ => ?_
      subst hr
      refine thnF h6 fun _ s7 ⟨x, H7, I7, r7, y7, st7, n7⟩ => ?_
      have I7' := I7.pinned (stat I7 n7) (T.obj _ _ st7)
      refine thnF (pg.run _ s7 _ H7 x u _ I7' r7 (step x H7 y7)) fun _ s8 ⟨σ8, H8, I8, hw8, q8⟩ => ?_
      refine thnF (pt.run _ s8 σ8 H8 _ I8 q8) fun b s9 ⟨H9, I9, q9⟩ => ?_
      -- the turn's end
      have fin : ∀ {s' : Shared} {H' : Hp}, Inv (X.blk s3 H3 scope ce fp) ([] ++ pinsAt fp s7.heap) σ8 H' s' → Nx H' → ∃ m, m < n ∧ ∃ i H', Inv (X.blk s3 H3 scope ce fp) [] (wipe σ (own.map (·.2))) H' s' ∧ tn i s'.heap ∧ (∀ b ∈ fp, H' b = none) ∧ W i m H' := fun {s' H'} I' nx => by
        obtain ⟨m', hm, w'⟩ := hNx H' nx
        have pin' : ∀ b ∈ fp, ∀ o, s7.heap.get? b = some o → s'.heap.get? b = some o ∧ H' b = none := fun b hb o e =>
          let z := I'.pin (b, o) (List.mem_append_right _ (List.mem_append_right _ (mem_pinsAt hb e)))
          ⟨z.1, z.2.1⟩
        have hl : (wipe σ (own.map (·.2))).length = σ8.length := by rw [← hw8, wipe_length]
        refine ⟨m', hm, i + 1, H', (I'.unpinned (pins := [])).weak hl (fun j v e => ?_), T.keep _ _ _ st7 fun b hb o e => (pin' b hb o e).1, fun b hb => ?_, w'⟩
        · rw [← hw8] at e
          exact (wipe_some e).1
        · obtain ⟨o, e, _⟩ := T.obj _ _ st7 b hb
          exact (pin' b hb o e).2
      cases b with
      | false =>
        simp only [Bool.false_eq_true, if_false] at q9 ⊢
        exact fin I9 q9
      | true =>
        simp only [if_true] at q9 ⊢
        refine thnF (pe.run _ s9 σ8 H9 _ I9 q9) fun z s10 ⟨yv, H10, I10, r10, acc, hD10, hz10, nx⟩ => ?_
        exact app_ok (X := X.blk s3 H3 scope ce fp) I10 hD10 hz10 r10 fun s11 I11 => fin I11 nx
  exact codeAny_compStart_list loop (T.self X.A 0 _ _ _ st4 loop)
/-- name = [..] on one line, the name a local -/
theorem ps_setLcH {X : Cx} {i : Nat} {y : Str} {py : Pos} {elt tg iter : Expr} {ifs : List Expr} {scope : Scope} {own : List (Str × Nat)} {pos spos : Pos} {tl : TE} {g : TG} {tt : TT} {te : TE} (hc : L2H.HotC X) (hN : X.N.Nodup) (hy : X.N[i]? = some y) (hyl : X.env.scope.names.lookup y = some .local)
    (hsw : swapsWith (.ListComp elt [⟨tg, iter, ifs, 0⟩] scope pos) (some (.Name y py)) spos.line X.env = pure true) (hi : PE X iter tl) (ok : BlkOk X.N X.env.scope scope own)
    (hg : ∀ (s : Shared) (H : Hp) (C : Addr) (cl : List (Str × Addr)) (fp : List Addr), HotX (X.blk s H scope (compEnvC scope cl C X.env) fp) → PG (X.blk s H scope (compEnvC scope cl C X.env) fp) tg g) (ht : ∀ (s : Shared) (H : Hp) (C : Addr) (cl : List (Str × Addr)) (fp : List Addr), PTs (X.blk s H scope (compEnvC scope cl C X.env) fp) ifs tt)
    (he : ∀ (s : Shared) (H : Hp) (C : Addr) (cl : List (Str × Addr)) (fp : List Addr), PE (X.blk s H scope (compEnvC scope cl C X.env) fp) elt te) (hs : ∀ x, foldedSetIterable iter X.env x = pure x := by intro _; rfl) :
    PS X (.Assign [.Name y py] (.ListComp elt [⟨tg, iter, ifs, 0⟩] scope pos) spos) (tAsg (tLc (iList X.K tl) g tt te (own.map (·.2))) (gName i)) := by
  refine ⟨fun pins s σ H D I h => ?_⟩
  rw [exec_Assign_Name_used _ _ _ _ hsw]
  refine wpAny_bind (wpAny_standAt (wpAny_bind ?_))
  show wpAny _ X.A (do let _ ← comprehension (.ListComp elt [⟨tg, iter, ifs, 0⟩] scope pos) scope X.env (firstIterPos [⟨tg, iter, ifs, 0⟩] pos) (newList []) false (eval iter X.env) (some (assign (.Name y py) X.env))) _ _ s
  have h : tLc (iList X.K tl) g tt te (own.map (·.2)) σ H (fun x H1 => gName i x σ H1 D.nx) := h
  refine wpAny_bind (thn (lc_hot (Qf := fun _ s' => SP X pins D .next s') hc hN I hi ok hg ht he hs h fun L C s' m H' I' q hn f => ?_) fun _ s' hq => wpAny_pure (wpAny_pure hq))
  show wpAny _ _ (assign (.Name y py) X.env (.ref L)) _ _ _
  refine wpAny_assign_Name (store_ok2 (v := V.ref L) I' hN hy (.inl hyl) rfl (fun s2 I2 ⟨a, sb, ha⟩ => ?_) (.inr hyl))
  obtain ⟨f0, f1, f2, f3, f4, f5⟩ := f
  have haC : C ≠ a := by
    rcases ha with z | z
    · rw [z]; exact f1
    · exact fun e => f4 y a z e.symm
  refine ⟨m, hn.sameBut sb haC, fun h3 sb3 => ?_⟩
  exact ⟨_, H', I2.turned (t' := s2.toks) (fun b o hb e => (sb3.2 b hb).trans e) f0 f1 f3 f4 f5, q⟩
end PD

end
section
set_option Elab.async false
set_option linter.all false
set_option maxRecDepth 100000
set_option maxHeartbeats 1000000
/-! a lambda without parameters handed to a def that catches: errors whose context is None -/
namespace PD
open PySem PySem.Spec PyProof.Rows L2 RZ LamX

/-- the context of the lambda's body -/
def lamCxN (X : Cx) (A : Around) (outer : List PySem.Env) (s : Shared) (H : Hp) (E : L2.XK) (scope : Scope) (f c' : Addr) : Cx :=
  (lamCx X A outer s H E scope f c').wish fun e s' => wpAny (model X.prog X.w) (A.deeper (lamEnv X scope s.heap.objs.size f c')) (leaving (lamEnv X scope s.heap.objs.size f c') e) (fun _ s'' => L2N.CX X.prog X.w outer H s E e s'') (fun e' s'' => L2N.CX X.prog X.w outer H s E e' s'') s'
section
variable {X : Cx} {pins : List (Addr × Obj)} {σ : L2.St} {H : Hp} {s : Shared}
theorem pe_actN {CXg : CXT} {Eg : L2.XK} {Ng : List Str} {qg : Str} {sg : Scope} {g f c' : Addr} {cdg pm ctv : Value} {params : Arguments} {body : Expr} {scope : Scope} {k i : Nat} {a : Str} {pn : List (Addr × Obj)} {xe : Value → Shared → Prop} {W : WX} {tb : L2.XK → TE} {p1 p2 : Pos}
    (I : Inv X pins σ H s) (L : LamS X.env.scope scope) (hf : s.heap.get? f = some (PySem.W.kla_obj "<lambda>" (X.env.qual ++ "<lambda>") params body scope (cloFrom X.env.cells scope.names []) pm c' ctv)) (hfn : H f = none) (hfr : f ∉ frs X.stack)
    (hbind : bindArgs (PySem.W.kla_fn "<lambda>" (X.env.qual ++ "<lambda>") params body scope (cloFrom X.env.cells scope.names []) pm (.ref c') ctv) ⟨[], []⟩ = pure [])
    (tk : L2N.Takes ((cxOf CXg X.prog X.w X.K X.mg X.base Ng qg sg g cdg X.A X.stack s H Eg).tr pn xe) W) (hr : Room (k + 1) (X.A.deeper (envOfC qg sg s.heap.objs.size g cdg)))
    (hbody : ∀ (A : Around) (outer : List PySem.Env) (s : Shared) (H : Hp) (E : L2.XK), Room k (A.deeper (lamEnv X scope s.heap.objs.size f c')) → PE (lamCxN X A outer s H E scope f c') body (tb E))
    (hN : Ng[i]? = some a) (hv : Vis sg a) (hd : (a == ("__debug__" : Str)) = false := by decide) (hcd : (a == ("__classdict__" : Str)) = false := by decide) :
    PE ((cxOf CXg X.prog X.w X.K X.mg X.base Ng qg sg g cdg X.A X.stack s H Eg).tr pn xe) (.Call (.Name a p1) [] [] p2)
      (fun σZ HZ Q => ∃ E : L2.XK, σZ[i]? = some (some (.ref f)) ∧ HZ c' = some (CodeO c' (X.env.qual ++ "<lambda>")) ∧ (∀ cls d H', E cls d H' → W cls d σZ H') ∧ tb E σ HZ Q) := by
  refine ⟨fun pinsZ sZ σZ HZ Q IZ h => ?_⟩
  obtain ⟨E, hs, hc, hW, ht⟩ := h
  refine wpAny_Call_Name_kw (thn ((pe_var (pos := p1) (i := i) hN hv hd hcd).run pinsZ sZ σZ HZ (fun v H1 => v = .ref f ∧ H1 = HZ) IZ ⟨.ref f, hs, rfl, rfl⟩) fun u s1 ⟨v, H1, I1, r1, q1⟩ => ?_)
  obtain ⟨ev, eH⟩ := q1
  subst ev
  rw [eH] at I1
  obtain rfl : u = Value.ref f := r1
  have of1 : s1.heap.get? f = some (PySem.W.kla_obj "<lambda>" (X.env.qual ++ "<lambda>") params body scope (cloFrom X.env.cells scope.names []) pm c' ctv) := I1.base.keep f _ hf hfn hfr (fun z => nomatch (show f ∈ ([] : List Addr) from z))
  refine PySem.W.callWith_F0 ⟨_, _, _, _, of1⟩ ?_
  have un : Un (frs X.stack) [] H HZ s.heap s1.heap := I1.base
  obtain ⟨⟨oc, vs, t, hoc, hdc, hvc⟩, _, _⟩ := I1.hok c' _ hc
  have rc : codeAny (model X.prog X.w) (X.A.deeper (envOfC qg sg s.heap.objs.size g cdg)) (.call (.ref f) ⟨[], []⟩) (CR (L2N.CX X.prog X.w) (envOfC qg sg s.heap.objs.size g cdg :: X.stack) X.prog X.w HZ s1 Q E) s1 := by
    refine PySem.W.kla_callFunE hr.depth of1 rfl L.co L.gen rfl ⟨c', oc, vs, t, rfl, hoc, hdc, hvc⟩ ?_
    rw [hbind]
    refine wpAny_pure (wpAny_newFunctionEnv (fun y hy => (L.own y hy).2) (fun y hy => absurd hy (by simp)) (fun h₁ hns hsb => ⟨I1.nolimit.fresh _ hsb, ?_⟩) L.kind)
    show codeAny _ _ (.expr body (lamEnv X scope s1.heap.objs.size f c')) _ _
    have kp : ∀ b o, s1.heap.get? b = some o → h₁.get? b = some o := fun b o e => hsb.extBut b o (Nat.ne_of_lt (Heap.lt_size e)) (Heap.get?_push_of_some _ e)
    have J0 : Inv (lamCx X (X.A.deeper (envOfC qg sg s.heap.objs.size g cdg)) (envOfC qg sg s.heap.objs.size g cdg :: X.stack) s1 HZ E scope f c') [] σ HZ { s1 with heap := h₁, toks := s1.toks + ([] : List (Str × Value)).length } :=
      lam_start2 I L I1.env0 hr.hd un hns kp
    have J : Inv (lamCxN X (X.A.deeper (envOfC qg sg s.heap.objs.size g cdg)) (envOfC qg sg s.heap.objs.size g cdg :: X.stack) s1 HZ E scope f c') [] σ HZ { s1 with heap := h₁, toks := s1.toks + ([] : List (Str × Value)).length } := J0.wish _
    refine PySem.W.kla_codeExpr (wpAny_mono ((hbody _ _ s1 HZ E (hr.deeper _)).run [] _ _ HZ Q J ht) (fun v s' hq => ?_) fun e s' hq => hq)
    obtain ⟨w', H', J', rv, q⟩ := hq
    exact ⟨w', H', J'.os, J'.bare, J'.base, J'.hok, rv, q⟩
  refine wpAny_call (codeAny_mono rc fun r s' hq => ?_)
  cases r with
  | error e => exact tk e s' (L2N.XE.of_call I1 (fun cls d H' h => hW cls d H' h) hq)
  | ok fl =>
    cases fl with
    | ret u => exact I1.after hq
    | next => exact False.elim hq
    | brk => exact False.elim hq
    | cont => exact False.elim hq
end
/-- the def that calls what it got: a calls it; TT: what it makes of the lambda's reading -/
def GivesToN (P : Program) (w : World) (K : PySem.W.Frag) (mg : Str → Option Value) (base : Heap) (A : Around) (st : List PySem.Env) (Ng : List Str) (x : Str) (sg : Scope) (g : Addr) (cdg : Value) (bg : List Stmt) (a : Str) (k : Nat) (q : Str) (TT : (L2.XK → Hp → VK → Prop) → Hp → VK → Prop) : Prop :=
  ∀ (f c' : Addr) (s : Shared) (H : Hp) (Q : VK) (tl : L2.XK → Hp → VK → Prop), Room k (A.deeper (envOfC x sg s.heap.objs.size g cdg)) →
    (∀ (W : WX) (pn : List (Addr × Obj)) (xe : Value → Shared → Prop) (p1 p2 : Pos), L2N.Takes ((cxOf C8.CX0 P w K mg base Ng x sg g cdg A st s H C8.E0).tr pn xe) W →
      PE ((cxOf C8.CX0 P w K mg base Ng x sg g cdg A st s H C8.E0).tr pn xe) (.Call (.Name a p1) [] [] p2) (fun σZ HZ Q => ∃ E : L2.XK, σZ[0]? = some (some (.ref f)) ∧ HZ c' = some (CodeO c' q) ∧ (∀ cls d H', E cls d H' → W cls d σZ H') ∧ tl E HZ Q)) →
    H c' = some (CodeO c' q) → TT tl H Q →
    ∃ t, PSs (cxOf C8.CX0 P w K mg base Ng x sg g cdg A st s H C8.E0).nox bg t ∧ t { nx := fun _ H' => Q .non H', rt := Q } (L2.start Ng [.ref f]) H
section
variable {X : Cx}
/-- x(lambda: body) -/
theorem pe_lamcallN {T : List (Addr × Str)} {TT : (L2.XK → Hp → VK → Prop) → Hp → VK → Prop} {x a : Str} {g c P : Addr} {k : Nat} {pg : Arguments} {bg : List Stmt} {sg : Scope} {dV kV doc pm cdv ct oc : Value} {an od : Option Addr} {osl : Array (Option Value)} {Ng : List Str}
    {params : Arguments} {body : Expr} {scope : Scope} {t : L2.XK → TE} {p lpos pos : Pos} (hg : Gl X x) (hm : X.mg x = some (.ref g)) (hk : PySem.W.keepIn X.K (.ref g) = true)
    (lk : X.K.lookup g = some ⟨oc, od, .func (PySem.W.fnOf x x pg bg sg dV kV doc pm an cdv ct), osl⟩) (hcg : PySem.W.codeIn X.K cdv x = true) (hb : L2.Binds X.K (PySem.W.fnOf x x pg bg sg dV kV doc pm an cdv ct) [a] []) (Sg : FnScope Ng [a] sg) (hNg : Ng[0]? = some a) (hva : Vis sg a)
    (hG : GivesToN X.prog X.w X.K X.mg X.base X.A X.stack Ng x sg g cdv bg a (k + 1) (X.env.qual ++ "<lambda>") TT)
    (TB : TabB X.base X.mg c P) (hcode : X.env.code = .ref c) (hmT : (P, X.env.qual ++ "<lambda>") ∈ T) (hu : ∀ p ∈ T, p.1 = P → p.2 = X.env.qual ++ "<lambda>") (hr : Room (k + 2) X.A) (L : LamS X.env.scope scope) (hdef : defaultsOf params X.env = ([], []))
    (hbind : ∀ (q : Str) (cl : List (Str × Addr)) (pm cv ctv : Value), bindArgs (PySem.W.kla_fn "<lambda>" q params body scope cl pm cv ctv) ⟨[], []⟩ = pure [])
    (hbody : ∀ (A : Around) (outer : List PySem.Env) (s : Shared) (H : Hp) (E : L2.XK) (f c' : Addr), Room k (A.deeper (lamEnv X scope s.heap.objs.size f c')) → PE (lamCxN X A outer s H E scope f c') body (t E))
    (hdb : (x == ("__debug__" : Str)) = false := by decide) (hd : (a == ("__debug__" : Str)) = false := by decide) (hcd : (a == ("__classdict__" : Str)) = false := by decide) :
    PE X (.Call (.Name x p) [.Lambda params body scope lpos] [] pos) (tLam T TT t) := by
  refine ⟨fun pins s σ H Q I h => ?_⟩
  obtain ⟨hT, h⟩ := h
  refine wpAny_Call_Name_kw (ld_glob I hg hm ?_ hdb)
  refine PySem.W.callWith_K (h₀ := X.base) I.ok.mod.kin hk ?_ (by rfl) (by rfl)
  show wpAny _ _ (spliced ((false, eval (.Lambda params body scope lpos) X.env) :: backTo pos (starEach [] X.env))) _ _ s
  refine Calls.spliced_cons (lam_make2 I TB hcode hmT hu hT hdef (L.has I.ok) fun f c' pm' ctv H1 s' I1 eN T1 hf hfn hfr hco => ?_)
  refine Calls.spliced_nil ⟨I1.kIn, ?_⟩
  have rc : codeAny (model X.prog X.w) X.A (.call (.ref g) ⟨[.ref f], []⟩) (CR C8.CX0 X.stack X.prog X.w H1 s' Q C8.E0) s' := by
    refine run_ofS (N := Ng) (ps := [a]) (us := [.ref f]) (vs := [.ref f]) lk hcg Sg hr I1.env0 (hb s' [.ref f] I1.kIn rfl) (.cons rfl .nil) rfl fun hr' => ?_
    obtain ⟨t', ht', hq'⟩ := hG f c' s' H1 Q (fun E H' Q' => t E σ H' Q') hr' (fun W pn xe p1 p2 tk => pe_actN (i := 0) I1 L hf hfn hfr (hbind _ _ _ _ _) tk hr' (fun A outer s H E hr2 => hbody A outer s H E f c' hr2) hNg hva hd hcd) hco (h H1 eN T1)
    exact ⟨t', ht'.nox, hq'⟩
  refine wpAny_call (codeAny_mono rc fun r s2 hq => ?_)
  cases r with
  | error e => exact (show False from hq).elim
  | ok fl =>
    cases fl with
    | ret u => exact I1.after hq
    | next => exact False.elim hq
    | brk => exact False.elim hq
    | cont => exact False.elim hq
end
end PD

end
section
set_option Elab.async false
set_option linter.all false
set_option maxRecDepth 100000
/-! is True, is False of anything; the signs of a text; join -/
namespace PD
open PySem PySem.Spec PyProof.Rows L2 RZ

/-- no built-in -/
def PlV : V → Prop
  | .non => True
  | .bl _ => True
  | .int _ => True
  | .str _ => True
  | .ref _ => True
  | _ => False
def rIsB2 : R2 := fun x y H Q => ∃ b : Bool, y = .bl b ∧ PlV x ∧ Q (.bl (decide (x = .bl b))) H
def rNotB2 : R2 := fun x y H Q => ∃ b : Bool, y = .bl b ∧ PlV x ∧ Q (.bl (!decide (x = .bl b))) H
theorem plain_bool {x : V} {v : Value} (b : Bool) (p : PlV x) (r : RelV x v) : plainIs v (.bool b) = true := by
  cases x <;> first
    | exact False.elim p
    | (cases (show v = _ from r); rfl)
    | (obtain ⟨t, rfl⟩ := (show ∃ t, v = _ from r); rfl)
section
variable {X : Cx}
theorem is_bool {x : V} {v : Value} {b : Bool} (pl : PlV x) (r : RelV x v) : (v = .bool b) ↔ x = .bl b := by
  cases x <;> first
    | exact False.elim pl
    | (cases (show v = _ from r); simp; done)
    | (obtain ⟨t, rfl⟩ := (show ∃ t, v = _ from r); simp; done)
theorem op_isB2 : OpR X (compareOp .Is) rIsB2 := by
  intro pins s σ H x y v u Q I rx ry h
  obtain ⟨b, rfl, pl, q⟩ := h
  cases (show u = Value.bool b from ry)
  by_cases e : x = .bl b
  · subst e
    cases (show v = Value.bool b from rx)
    exact wpAny_is_self rfl ⟨.bl true, H, I, rfl, by simpa using q⟩
  · exact wpAny_is_other (plain_bool _ pl rx) (fun z => e ((is_bool pl rx).mp z)) ⟨.bl false, H, I, rfl, by simpa [e] using q⟩
theorem op_notB2 : OpR X (compareOp .IsNot) rNotB2 := by
  intro pins s σ H x y v u Q I rx ry h
  obtain ⟨b, rfl, pl, q⟩ := h
  cases (show u = Value.bool b from ry)
  by_cases e : x = .bl b
  · subst e
    cases (show v = Value.bool b from rx)
    exact wpAny_isNot_self rfl ⟨.bl false, H, I, rfl, by simpa using q⟩
  · exact wpAny_isNot_other (plain_bool _ pl rx) (fun z => e ((is_bool pl rx).mp z)) ⟨.bl true, H, I, rfl, by simpa [e] using q⟩
end
def isB (b : Bool) : D → Bool
  | .bl a => a == b
  | _ => false
def isB2P (_ : Env) (x y : D) (k : D → Prop) : Prop := match y with
  | .bl b => k (.bl (isB b x))
  | _ => False
def notB2P (_ : Env) (x y : D) (k : D → Prop) : Prop := match y with
  | .bl b => k (.bl (!isB b x))
  | _ => False
section
variable {c : C0} {t : Tm} {σ : L2.St} {H H' : Hp} {ρ : Env}
theorem RpO.isB {d : D} {v : V} {b : Bool} (r : RpO c t σ H d v) (h : EnvOk c t σ H ρ) : decide (v = .bl b) = isB b d := by
  rcases r with r | ⟨i, rfl, hi, e⟩
  · cases r <;> first
      | rfl
      | exact decide_eq_false (fun z => by cases z)
      | (rename_i a; cases a <;> cases b <;> rfl)
  · cases hd : ρ[i]? with
    | none =>
      have l1 := List.getElem?_eq_none_iff.mp hd
      have l2 := (List.getElem?_eq_some_iff.mp e).1
      have := h.len
      omega
    | some o =>
      cases o with
      | none =>
        have := h.ownn i hi hd
        rw [e] at this; cases this
      | some d =>
        obtain ⟨l, e1, _⟩ := h.ownv i d hd hi
        rw [e] at e1; cases e1
        exact decide_eq_false (fun z => by cases z)
theorem RpO.plv {d : D} {v : V} (r : RpO c t σ H d v) (h : EnvOk c t σ H ρ) : PlV v := by
  rcases r with r | ⟨i, rfl, hi, e⟩
  · cases r <;> trivial
  · cases hd : ρ[i]? with
    | none =>
      have l1 := List.getElem?_eq_none_iff.mp hd
      have l2 := (List.getElem?_eq_some_iff.mp e).1
      have := h.len
      omega
    | some o =>
      cases o with
      | none =>
        have := h.ownn i hi hd
        rw [e] at this; cases this
      | some d =>
        obtain ⟨l, e1, _⟩ := h.ownv i d hd hi
        rw [e] at e1; cases e1
        trivial
theorem sr_isB2 : SR2 c rIsB2 isB2P := fun t σ H ρ x y dx dy P Q h rx ry q k => by
  cases dy with
  | bl b =>
    refine ⟨b, ry.bl, rx.plv h, ?_⟩
    rw [rx.isB h]
    exact k _ _ H h (.bl _) q
  | _ => exact False.elim q
theorem sr_notB2 : SR2 c rNotB2 notB2P := fun t σ H ρ x y dx dy P Q h rx ry q k => by
  cases dy with
  | bl b =>
    refine ⟨b, ry.bl, rx.plv h, ?_⟩
    rw [rx.isB h]
    exact k _ _ H h (.bl _) q
  | _ => exact False.elim q
/-! the signs of a text -/
def signs (x : Str) : List D := x.cps.toList.map fun c => .str ⟨#[c]⟩
def dStrI (a : DE) : DI := fun ρ P => a ρ fun d ρ1 => match d with
  | .str x => P (signs x) ρ1
  | _ => False
theorem si_str {ta : TE} {da : DE} (ha : SV c ta da) : SI c (iStr ta) (dStrI da) := fun t σ H ρ P R h q k =>
  ha t σ H ρ _ _ h q fun v d H1 ρ1 h1 r1 q1 => by
    cases d with
    | str x =>
      cases r1
      refine ⟨x, rfl, k t _ _ H1 ρ1 rfl (.refl t) h1 (fun t2 σ H ρ s h => ?_) q1⟩
      have el : (signs x).length = x.cps.size := by unfold signs; rw [List.length_map, Array.length_toList]
      rw [el]
      refine ⟨fun i hi => hi, fun i y H' z hi => ?_, Nat.le_refl _⟩
      obtain ⟨rfl, c', hc, rfl⟩ := z
      refine ⟨_, ?_, h, .str _⟩
      unfold signs
      rw [List.getElem?_map, Array.getElem?_toList, hc]; rfl
    | _ => exact False.elim q1
/-- x.join(ys) -/
def rJoin (K : PySem.W.Frag) : V → List V → Hp → VK → Prop := fun x xs H Q => ∃ a p, ∃ ys : List Str, x = .str a ∧ xs = [.ref p] ∧ (SqL K H p (ys.map V.str) ∨ SqT K H p (ys.map V.str)) ∧
      (ys.map (·.length)).sum + ys.length * a.length ≤ 16777216 ∧ Q (.str (Txt.join a ys)) H
theorem pe_joinK {K : PySem.W.Frag} {X : Cx} {o e : Expr} {to te : TE} {apos pos : Pos} (h : X.K = K) (ho : PE X o to) (he : PE X e te) (hs : starEach [e] X.env = [(false, eval e X.env)] := by rfl) (hbase : attributeBase o "join" X.env (eval o X.env) = eval o X.env := by rfl) (hline : (apos.endLine == pos.line) = true := by rfl) :
    PE X (.Call (.Attribute o "join" apos) [e] [] pos) (tM1 (rJoin K) to te) := h ▸ pe_join ho he hs hbase hline
theorem RpL.strs {K : PySem.W.Frag} {A : Addr → Prop} {H : Hp} : ∀ {ns : List Str} {vs : List V}, RpL K A H (ns.map D.str) vs → vs = ns.map V.str
  | [], _, .nil => rfl
  | _ :: _, _, .cons (.str _) b => congrArg (_ :: ·) (RpL.strs b)
def dJoin (a b : DE) : DE := fun ρ P => a ρ fun x ρ1 => match x with
  | .str s => b ρ1 fun y ρ2 => ∃ ys : List Str, (match y with
    | .lst l => l = ys.map D.str
    | _ => False) ∧ (ys.map (·.length)).sum + ys.length * s.length ≤ 16777216 ∧ P (.str (Txt.join s ys)) ρ2
  | _ => False
theorem sv_join {ta tb : TE} {da db : DE} (ha : SV c ta da) (hb : SV c tb db) : SV c (tM1 (rJoin c.K) ta tb) (dJoin da db) := fun t σ H ρ P Q h q k => by
  refine ha t σ H ρ _ _ h q fun v d H1 ρ1 h1 r1 q1 => ?_
  cases d with
  | str s =>
    cases r1
    refine ⟨⟨s, rfl⟩, hb t σ H1 ρ1 _ _ h1 q1 fun u e H2 ρ2 h2 r2 q2 => ?_⟩
    obtain ⟨ys, hy, hz, q2⟩ := q2
    cases e with
    | lst l =>
      have hy : l = ys.map D.str := hy
      subst hy
      obtain ⟨a, vs, rfl, _, ha2, rs⟩ := r2.seqL
      obtain rfl := rs.strs
      exact ⟨s, a, ys, rfl, rfl, .inl (.of ha2), hz, k _ _ H2 ρ2 h2 (.str _) q2⟩
    | _ => exact False.elim hy
  | _ => exact False.elim q1
end
theorem join_single : ∀ l : List Nat, Str.join (Str.ofString "") (l.map fun c => (⟨#[c]⟩ : Str)) = ⟨l.toArray⟩
  | [] => by
    show Str.empty = _
    rfl
  | [c] => rfl
  | c :: d :: l => by
    have ih := join_single (d :: l)
    show (⟨#[c]⟩ : Str) ++ Str.ofString "" ++ Str.join (Str.ofString "") ((d :: l).map fun c => (⟨#[c]⟩ : Str)) = _
    rw [ih]
    show (⟨(#[c] ++ (Str.ofString "").cps) ++ (d :: l).toArray⟩ : Str) = _
    have e : (Str.ofString "").cps = #[] := by decide +kernel
    rw [e]
    simp
/-- the signs of a text joined -/
theorem signs_join (x : Str) : ∃ ys : List Str, signs x = ys.map D.str ∧ Txt.join (Str.ofString "") ys = x ∧ (ys.map (·.length)).sum + ys.length * (Str.ofString "").length = x.length := by
  refine ⟨x.cps.toList.map fun c => ⟨#[c]⟩, ?_, ?_, ?_⟩
  · unfold signs; rw [List.map_map]; rfl
  · rw [TL.join_eq, join_single]
  · have e : (Str.ofString "").length = 0 := by decide +kernel
    rw [e, Nat.mul_zero, Nat.add_zero, List.map_map]
    have e2 : ((fun s : Str => s.length) ∘ fun c => (⟨#[c]⟩ : Str)) = fun _ : Nat => 1 := by funext c; rfl
    rw [e2]
    show _ = x.cps.size
    rw [← Array.length_toList]
    generalize x.cps.toList = l
    induction l with
    | nil => rfl
    | cons a l ih => rw [List.map_cons, List.sum_cons, ih, List.length_cons]; omega
end PD

end
section
set_option Elab.async false
set_option linter.all false
set_option maxRecDepth 100000
/-! what is told of a lambda: its value read, or the error's name -/
namespace PD
open PySem PySem.Spec PyProof.Rows L2 RZ LamX

theorem Pn.nt {o : HO} (h : Pn o) : ∀ ps, o ≠ .tbl ps := fun ps e => by subst e; exact h
def exNm : Ex → Str
  | .form => "form"
  | .range => "range"
/-- told: (0, what is read), or (1, the error's name) -/
def TTold (K : PySem.W.Frag) (cl : Ex → Addr) (T : List (Addr × Str)) (Fr : FP) : (L2.XK → Hp → VK → Prop) → Hp → VK → Prop := fun tl H Q => ∀ (E' : L2.XK) (Q' : VK),
  (∀ x H', LamX.Tabs T H' → (∀ H'' p, Gr T H' H'' → (∀ o, H' p = some o → Pn o → False) → H'' p = some (.tup [.int 1, .str (exNm x)]) → Q (.ref p) H'') → E' (.ref (cl x)) none H') →
  (∀ v H', spP K cl T 1 Fr [v] H' (fun w H'' => ∀ p, H'' p = none → Q (.ref p) (upd H'' p (.tup [.int 0, w]))) E0 → Q' v H') → tl E' H Q'
def wipeO (own : Nat → Bool) (ρ : Env) : Env := ρ.mapIdx fun i x => if own i then none else x
theorem wipeO_len (own : Nat → Bool) (ρ : Env) : (wipeO own ρ).length = ρ.length := by unfold wipeO; rw [List.length_mapIdx]
theorem wipeO_get {own : Nat → Bool} {ρ : Env} {i : Nat} {d : D} (h : (wipeO own ρ)[i]? = some (some d)) : own i = false ∧ ρ[i]? = some (some d) := by
  unfold wipeO at h
  rw [List.getElem?_mapIdx] at h
  cases e : ρ[i]? with
  | none => rw [e] at h; cases h
  | some x =>
    rw [e] at h
    have h : (if own i then none else x) = some d := Option.some.inj h
    cases ho : own i with
    | true => rw [ho] at h; cases h
    | false => rw [ho] at h; exact ⟨rfl, congrArg some h⟩
def dTold (Fr : FP) (own : Nat → Bool) (db : (Ex → Prop) → DE) : DE := fun ρ P => db (fun x => P (.tup [.int 1, .str (exNm x)]) ρ) (wipeO own ρ) fun d _ => Fr [d] (fun e => P (.tup [.int 0, e]) ρ) noX
section
variable {K : PySem.W.Frag} {z : Addr → Prop} {bx : Option Addr} {h0 : Hp} {own : Nat → Bool} {ew : L2.XK} {dw : Ex → Prop} {cl : Ex → Addr} {T : List (Addr × Str)} {Fr : FP}
theorem sv_told {tb : L2.XK → TE} {db : (Ex → Prop) → DE} (hb : ∀ z h0 E W, TakesE ⟨K, z, none, h0, fun _ => false, E, W, cl, T⟩ E W → SV ⟨K, z, none, h0, fun _ => false, E, W, cl, T⟩ (tb E) (db W)) :
    SV ⟨K, z, bx, h0, own, ew, dw, cl, T⟩ (tLam T (TTold K cl T Fr) tb) (dTold Fr own db) := fun t σ H ρ P Q h q k => by
  refine ⟨h.tabs, fun H1 eN t1 E' Q' hE hQ => ?_⟩
  have h1 : EnvOk ⟨K, z, bx, h0, own, ew, dw, cl, T⟩ t σ H1 ρ := h.grow ⟨fun a o e pn => eN a o e pn.nt, fun _ => t1⟩
  generalize hc : (⟨K, z, bx, h0, own, ew, dw, cl, T⟩ : C0) = c at h h1 k
  have ecK : c.K = K := by rw [← hc]
  have ecT : c.T = T := by rw [← hc]
  have eco : c.own = own := by rw [← hc]
  have far : ∀ a, Far ⟨K, Far c t σ, none, H1, fun _ => false, E', fun x => P (.tup [.int 1, .str (exNm x)]) ρ, cl, T⟩ ⟨[], []⟩ σ a ↔ Far c t σ a := fun a => by
    constructor
    · rintro (f | ⟨o, f⟩ | ⟨i, hi, _⟩)
      · exact f
      · cases f
      · cases hi
    · exact .inl
  have farE : Far ⟨K, Far c t σ, none, H1, fun _ => false, E', fun x => P (.tup [.int 1, .str (exNm x)]) ρ, cl, T⟩ ⟨[], []⟩ σ = Far c t σ := funext fun a => propext (far a)
  have hl : EnvOk ⟨K, Far c t σ, none, H1, fun _ => false, E', fun x => P (.tup [.int 1, .str (exNm x)]) ρ, cl, T⟩ ⟨[], []⟩ σ H1 (wipeO own ρ) := by
    refine ⟨by rw [wipeO_len]; exact h1.len, fun a o e _ _ => e, t1, fun a f => h1.trk a ((far a).mp f), fun i d e _ => ?_, fun i d e hi => (nomatch hi), fun i hi => (nomatch hi), fun i j l hi => (nomatch hi), fun b e => (nomatch e), fun p hp => (nomatch hp), fun p hp => (nomatch hp)⟩
    obtain ⟨ho, e⟩ := wipeO_get e
    rw [farE]
    obtain ⟨v, e1, r⟩ := h1.val i d e (by rw [eco]; exact ho)
    exact ⟨v, e1, by rw [← ecK]; exact r⟩
  refine hb (Far c t σ) H1 E' (fun x => P (.tup [.int 1, .str (exNm x)]) ρ) (fun x H' fr tb w => hE x H' tb fun H'' p g fresh ep => ?_) ⟨[], []⟩ σ H1 (wipeO own ρ) _ Q' hl q (fun v d H2 ρ2 h2 r2 q2 => hQ v H2 ?_)
  · have g1 : Gr T H1 H'' := ⟨fun a o e pn => g.1 a o (fr a o e pn (fun z => nomatch z)) pn, fun _ => g.2 tb⟩
    have h3 : EnvOk c t σ H'' ρ := h1.grow (by rw [ecT]; exact g1)
    have np : ¬ Far c t σ p := fun f => by
      obtain ⟨o, eo, pn⟩ := h1.trk p f
      exact fresh o (fr p o eo pn (fun z => nomatch z)) pn
    exact k _ (.tup [.int 1, .str (exNm x)]) H'' ρ h3 (.tup np ep (.cons (.int 1) (.cons (.str _) .nil))) w
  · rw [farE] at r2
    have g2 : Gr T H1 H2 := ⟨fun a o e pn => h2.frame a o e pn (fun z => nomatch z), fun _ => h2.tabs⟩
    have h2' : EnvOk c t σ H2 ρ := h1.grow (by rw [ecT]; exact g2)
    refine ⟨Far c t σ, [d], _, noX, rfl, h2.tabs, h2'.trk, .cons r2 .nil, q2, fun w e H3 g3 r3 p3 p hp => ?_, fun _ _ _ w => w.elim⟩
    have h3 : EnvOk c t σ H3 ρ := h2'.grow (by rw [ecT]; exact g3)
    exact k _ (.tup [.int 0, e]) _ ρ (h3.new hp) (.tup (h3.far hp) upd_same (.cons (.int 0) (.cons (by rw [ecK]; exact r3.grow (upd_grow hp)) .nil))) p3
end

/-! ### the suite that tells the error's name -/
section
variable {c : C0} {ta : TE} {da : DE}
/-- the items of a list -/
def dLstI (a : DE) : DI := fun ρ P => a ρ fun d ρ1 => match d with
  | .lst xs => P xs ρ1
  | _ => False
theorem si_lst (ha : SV c ta da) : SI c (iList c.K ta) (dLstI da) := fun t σ H ρ P R h q k =>
  ha t σ H ρ _ _ h q fun v d H1 ρ1 h1 r1 q1 => by
    have un : Sub t ⟨(d, v) :: t.vals, t.hold⟩ := (Sub.refl t).cons
    cases d with
    | lst xs =>
      obtain ⟨a, vs, rfl, _, hs, _⟩ := r1.seqL
      refine ⟨a, rfl, ⟨vs, .of hs⟩, k ⟨(_, _) :: t.vals, t.hold⟩ _ xs H1 ρ1 rfl un (h1.pin r1) (itl_ok fun t2 σ H ρ s h => ?_) q1⟩
      obtain ⟨a', vs, e, _, hs, rs⟩ := (h.tv _ (s _ List.mem_cons_self)).seqL
      cases e
      exact ⟨vs, .of hs, rs⟩
    | _ => exact False.elim q1
/-- isinstance(e, c) -/
def isEP (K : PySem.W.Frag) (C a : Addr) (_ : Env) (xs : List D) (k : D → Prop) : Prop := ∃ (cc : Addr) (b : Bool), xs = [.fn a, .fn cc] ∧ PySem.W.kitOne K (.ref C) (.ref cc) = some b ∧ k (.bl b)
theorem sr_isE {C a : Addr} : SRL c (rIsE c.K C a) (isEP c.K C a) := fun t σ H ρ xs ds P Q h r q k => by
  obtain ⟨cc, b, rfl, e, q⟩ := q
  cases r with
  | cons r1 r2 => cases r2 with
    | cons r2 r3 =>
      cases r3
      have e1 := r1.rp trivial
      have e2 := r2.rp trivial
      cases e1
      cases e2
      exact ⟨_, .ref cc, b, rfl, fun u hu => hu, e, k _ _ H h (.bl b) q⟩
end
def exEq : Ex → Ex → Bool
  | .form, .form => true
  | .range, .range => true
  | _, _ => false
/-- the facts of an own error's class -/
structure ExF (K : PySem.W.Frag) (cl : Ex → Addr) (pe : Addr) (x : Ex) : Prop where
  c : L2.ExcC K (cl x)
  m : PySem.W.exmOne K (.ref (cl x)) (.ref pe) = some true
  k : ∀ y, PySem.W.kitOne K (.ref (cl x)) (.ref (cl y)) = some (exEq x y)
theorem pss_ex {X : Cx} {α : Type} {p : α → Prop} {ts : α → TS} {sts : List Stmt} (h : ∀ x, p x → PSs X sts (ts x)) : PSs X sts (fun D σ H => ∃ x, p x ∧ ts x D σ H) := ⟨fun pins s σ H D I q => by
  obtain ⟨x, hp, q⟩ := q
  exact (h x hp).run pins s σ H D I q⟩
/-- words = [word for word, is_so in [("form", isinstance(e, form)), ("range", isinstance(e, range))] if is_so]; return (1, words[0] if len(words) == 1 else "wrong") -/
def tSuite (K : PySem.W.Frag) (cl : Ex → Addr) (C a : Addr) : TS :=
  tSeq (tAsg (tLc (iList K (tLst (tCons (tTup (tCons (tC (.str "form")) (tCons (tCB (rIsE K C a) (tCons (tVar 1) (tCons (tC (.ref (cl .form))) tNil))) tNil))) (tCons (tTup (tCons (tC (.str "range")) (tCons (tCB (rIsE K C a) (tCons (tVar 1) (tCons (tC (.ref (cl .range))) tNil))) tNil))) tNil))))
      (gTup K 2 (gCons (gName 3) (gCons (gName 4) gNil))) (tTest (tVar 4)) (tVar 3) [3, 4]) (gName 2))
    (tRet (tTup (tCons (tC (.int 1)) (tCons (tIf (tTest (tOp (rEqD K) (tCB (rLenK K) (tCons (tVar 2) tNil)) (tC (.int 1)))) (tOp (rIx K) (tVar 2) (tC (.int 0))) (tC (.str "wrong"))) tNil))))
def dSuite (K : PySem.W.Frag) (cl : Ex → Addr) (C a : Addr) : DS :=
  dSeq (dSet 2 (dLc (dLstI (dLst (dCons (dTup (dCons (dC (.str "form")) (dCons (dCB (isEP K C a) (dCons (dVar 1) (dCons (dC (.fn (cl .form))) dNil))) dNil))) (dCons (dTup (dCons (dC (.str "range")) (dCons (dCB (isEP K C a) (dCons (dVar 1) (dCons (dC (.fn (cl .range))) dNil))) dNil))) dNil))))
      (dgTup 2 (dgCons (dgName 3) (dgCons (dgName 4) dgNil))) (dTest (dVar 4)) (dVar 3) [3, 4]))
    (dRet (dTup (dCons (dC (.int 1)) (dCons (dIf (dTest (dOp eqP (dCB lenP (dCons (dVar 2) dNil)) (dC (.int 1)))) (dOp ixP (dVar 2) (dC (.int 0))) (dC (.str "wrong"))) dNil))))
section
variable {K : PySem.W.Frag} {z : Addr → Prop} {bx : Option Addr} {h0 : Hp} {ew : L2.XK} {dw : Ex → Prop} {cl : Ex → Addr} {T : List (Addr × Str)}
theorem ss_suite {C a : Addr} : SS ⟨K, z, bx, h0, fun _ => false, ew, dw, cl, T⟩ (tSuite K cl C a) (dSuite K cl C a) :=
  ss_seq (ss_set 2 rfl (SFL.v (sfl_lc (vs := [3, 4]) (si_lst (sv_lst (sa_cons (sv_tup (sa_cons sv_str (sa_cons (sv_cb sr_isE (sao_cons (SV.se (sv_var 1 rfl)) (sao_cons (SV.se sv_fn) sao_nil))) sa_nil))) (sa_cons (sv_tup (sa_cons sv_str (sa_cons (sv_cb sr_isE (sao_cons (SV.se (sv_var 1 rfl)) (sao_cons (SV.se sv_fn) sao_nil))) sa_nil))) sa_nil))))
      (sg_tup (sgs_cons (sg_name 3 rfl) (sgs_cons (sg_name 4 rfl) sgs_nil))) (st_test (sv_var 4 rfl)) (sv_var 3 rfl) rfl rfl)))
    (ss_ret (SV.se (sv_tup (sa_cons sv_int (sa_cons (sv_if (st_testO (sv_op sr_eq (SV.se (sv_cb sr_len (sao_cons (SV.se (sv_var 2 rfl)) sao_nil))) (SV.se sv_int))) (sv_op sr_ix (SV.se (sv_var 2 rfl)) (SV.se sv_int)) sv_str) sa_nil)))))
end
def suiteAcc (x : Ex) : Nat → List D
  | 0 => []
  | 1 => if exEq x .form then [.str "form"] else []
  | _ => [.str (exNm x)]
theorem suite_ok {K : PySem.W.Frag} {cl : Ex → Addr} {pe f a : Addr} {x : Ex} (F : ExF K cl pe x) {De : DEnds} (h : ∀ ρ, De.rt (.tup [.int 1, .str (exNm x)]) ρ) :
    dSuite K cl (cl x) a De [some (.fn f), some (.fn a), none, none, none] := by
  have hk := F.k
  simp only [dSuite, dSeq, dSet, dLc, dLstI, dLst, dCons, dTup, dC, dCB, isEP, dVar, dNil, List.getElem?_cons_zero, List.getElem?_cons_succ]
  refine ⟨_, _, rfl, hk .form, _, _, rfl, hk .range, ?_⟩
  have hz : (0 : Nat) < sizeLine := by decide
  refine ⟨fun i acc ρ => ρ = [some (.fn f), some (.fn a), none, none, none] ∧ acc = suiteAcc x i, ⟨rfl, rfl⟩, ?_, ?_⟩
  · rintro i d acc ρ2 e ⟨rfl, w⟩
    subst w
    match i, e with
    | 0, e =>
      cases e
      cases x <;> simp [dgTup, dgCons, dgNil, dgName, wipeD, backD, dTest, dVar, sel, suiteAcc, exEq, exNm, hz]
    | 1, e =>
      cases e
      cases x <;> simp [dgTup, dgCons, dgNil, dgName, wipeD, backD, dTest, dVar, sel, suiteAcc, exEq, exNm, hz]
    | i + 2, e => simp at e
  · rintro acc ρ2 ⟨rfl, w⟩
    subst w
    simp [dRet, dIf, dTest, dOp, eqP, lenP, ixP, onS, onL, deref, okN, okNs, eqD_int, sel, dC, dTup, dCons, dNil, dCB, dVar, suiteAcc]
    exact h _
end PD

end
section
set_option Elab.async false
set_option linter.all false
set_option maxRecDepth 100000
/-! told(lambda: body) in a def whose code object and table are known -/
namespace PD
open PySem PySem.Spec PyProof.Rows L2 RZ LamX

/-- a def whose code object stands at c -/
structure FunC (K : PySem.W.Frag) (x qual : Str) (st : Stmt) (f c : Addr) (fd : FuncData) : Prop where
  ex : ∃ (oc : Value) (od : Option Addr) (kV doc pm : Value) (an : Option Addr) (ct : Value) (osl : Array (Option Value)),
    fd = PySem.W.fnOf x qual (defArgs st) (defBody st) (defScope st) .none kV doc pm an (.ref c) ct ∧ K.lookup f = some ⟨oc, od, .func fd, osl⟩ ∧ PySem.W.codeIn K (.ref c) qual = true
  kp : PySem.W.keepIn K (.ref f) = true
theorem FunC.fn {K : PySem.W.Frag} {x qual : Str} {st : Stmt} {f c : Addr} {fd : FuncData} (F : FunC K x qual st f c fd) : Fun K x qual st f fd := by
  obtain ⟨oc, od, kV, doc, pm, an, ct, osl, h⟩ := F.ex
  exact ⟨⟨oc, od, kV, doc, pm, an, .ref c, ct, osl, h⟩, F.kp⟩
section
variable {P : Program} {w : World} {K : PySem.W.Frag} {mg : Str → Option Value} {base : Heap} {cl : Ex → Addr} {T : List (Addr × Str)}
variable {x qual : Str} {st : Stmt} {f c : Addr} {fd : FuncData} {N ps : List Str} {k : Nat}
theorem FunC.okN {sp : Sp} (F : FunC K x qual st f c fd) (S : FnScope N ps (defScope st)) (len : ∀ vs H Q E, sp vs H Q E → vs.length = ps.length)
    (hbody : ∀ (A : Around) (outer : List PySem.Env) (s : Shared) (H : Hp) (vs : List V) (Q : VK) (E : L2.XK), Room k (A.deeper (envOfC qual (defScope st) s.heap.objs.size f (.ref c))) → sp vs H Q E →
      ∃ t, PSs (cxOf (L2N.CX P w) P w K mg base N qual (defScope st) f (.ref c) A outer s H E) (defBody st) t ∧ t { nx := fun _ H' => Q .non H', rt := Q } (L2.start N vs) H) : FnOk P w K mg base (L2N.CX P w) (k + 1) f fd ps sp := by
  obtain ⟨oc, od, kV, doc, pm, an, ct, osl, rfl, lk, hcd⟩ := F.ex
  exact fn_of lk hcd S len fun A outer s H vs Q E hr hsp => hbody A outer s H vs Q E hr hsp
/-- fn_pure, the code object known -/
theorem fn_pureC (F : FunC K x qual st f c fd) (S : FnScope N ps (defScope st)) (own : Nat → Bool) (hown : ∀ i, i < ps.length → own i = false) {Fs : FP} (ds : (Ex → Prop) → DS)
    (body : ∀ (A : Around) (outer : List PySem.Env) (s : Shared) (H : Hp) (E : L2.XK), Room k (A.deeper (envOfC qual (defScope st) s.heap.objs.size f (.ref c))) →
      ∃ ts, PSs (cxOf (L2N.CX P w) P w K mg base N qual (defScope st) f (.ref c) A outer s H E) (defBody st) ts ∧ ∀ z h0 dw, TakesE ⟨K, z, none, h0, own, E, dw, cl, T⟩ E dw → SS ⟨K, z, none, h0, own, E, dw, cl, T⟩ ts (ds dw))
    (spec : ∀ args P W, args.length = ps.length → Fs args P W → ds W ⟨fun _ => P .non, fun d ρ => P (retD ρ d), fun _ => False, fun _ => False⟩ (startD N.length args)) :
    FnOk P w K mg base (L2N.CX P w) (k + 1) f fd ps (spP K cl T ps.length Fs) := by
  exact FunC.okN F S (fun vs H Q E h => pure_len h) (fun A outer s H vs Q E hr h => by
    obtain ⟨ts, hts, hs⟩ := body A outer s H E hr
    exact ⟨ts, hts, pure_run own hown hs spec h⟩)
/-- fn_box, the code object known -/
theorem fn_boxC (F : FunC K x qual st f c fd) (S : FnScope N ps (defScope st)) (own : Nat → Bool) (hown : ∀ i, i < ps.length → own i = (i == 0)) (h0 : 0 < ps.length) {Fs : FB} (ds : (Ex → Prop) → DS)
    (body : ∀ (A : Around) (outer : List PySem.Env) (s : Shared) (H : Hp) (E : L2.XK), Room k (A.deeper (envOfC qual (defScope st) s.heap.objs.size f (.ref c))) →
      ∃ ts, PSs (cxOf (L2N.CX P w) P w K mg base N qual (defScope st) f (.ref c) A outer s H E) (defBody st) ts ∧ ∀ z b h0 dw, TakesE ⟨K, z, some b, h0, own, E, dw, cl, T⟩ E dw → SS ⟨K, z, some b, h0, own, E, dw, cl, T⟩ ts (ds dw))
    (spec : ∀ bx args P W, args.length + 1 = ps.length → Fs (bx :: args) P W → ds W ⟨fun ρ => ∃ b, ρ[0]? = some (some b) ∧ P .non b, fun d ρ => ∃ b, ρ[0]? = some (some b) ∧ NotOwn d ∧ P d b, fun _ => False, fun _ => False⟩ (startD N.length (bx :: args))) :
    FnOk P w K mg base (L2N.CX P w) (k + 1) f fd ps (spB K cl T ps.length Fs) := by
  exact FunC.okN F S (fun vs H Q E h => box_len h) (fun A outer s H vs Q E hr h => by
    obtain ⟨ts, hts, hs⟩ := body A outer s H E hr
    exact ⟨ts, hts, box_run own hown h0 hs spec h⟩)
end
section
variable {X : Cx}
theorem pe_told {T : List (Addr × Str)} {TT : (L2.XK → Hp → VK → Prop) → Hp → VK → Prop} {x a : Str} {st : Stmt} {g c Pt : Addr} {fd : FuncData} {k : Nat} {Ng : List Str} {params : Arguments} {body : Expr} {scope : Scope} {t : L2.XK → TE} {p lpos pos : Pos}
    (F : Fun X.K x x st g fd) (hb : L2.Binds X.K fd [a] []) (Sg : FnScope Ng [a] (defScope st)) (hG : ∀ cdv, GivesToN X.prog X.w X.K X.mg X.base X.A X.stack Ng x (defScope st) g cdv (defBody st) a (k + 1) (X.env.qual ++ "<lambda>") TT)
    (hbody : ∀ (A : Around) (outer : List PySem.Env) (s : Shared) (H : Hp) (E : L2.XK) (f c' : Addr), Room k (A.deeper (lamEnv X scope s.heap.objs.size f c')) → PE (lamCxN X A outer s H E scope f c') body (t E))
    (hg : Gl X x) (hm : X.mg x = some (.ref g)) (hr : Room (k + 2) X.A)
    (TB : TabB X.base X.mg c Pt) (hcode : X.env.code = .ref c) (hmT : (Pt, X.env.qual ++ "<lambda>") ∈ T) (hu : ∀ p ∈ T, p.1 = Pt → p.2 = X.env.qual ++ "<lambda>")
    (hNg : Ng[0]? = some a) (hva : Vis (defScope st) a) (L : LamS X.env.scope scope) (hdef : defaultsOf params X.env = ([], []))
    (hbind : ∀ (q : Str) (cl : List (Str × Addr)) (pm cv ctv : Value), bindArgs (PySem.W.kla_fn "<lambda>" q params body scope cl pm cv ctv) ⟨[], []⟩ = pure [])
    (hdb : (x == ("__debug__" : Str)) = false := by decide) (hd : (a == ("__debug__" : Str)) = false := by decide) (hcd : (a == ("__classdict__" : Str)) = false := by decide) :
    PE X (.Call (.Name x p) [.Lambda params body scope lpos] [] pos) (tLam T TT t) := by
  obtain ⟨oc, od, kV, doc, pm, an, cdv, ct, osl, rfl, lk, hcg⟩ := F.ex
  exact pe_lamcallN hg hm F.kp lk hcg hb Sg hNg hva (hG cdv) TB hcode hmT hu hr L hdef hbind hbody hdb hd hcd
end
end PD

end
section
set_option Elab.async false
set_option linter.all false
set_option maxRecDepth 100000
/-! a def that gives a new list -/
namespace PD
open PySem PySem.Spec PyProof.Rows L2 RZ LamX

def spN (K : PySem.W.Frag) (cl : Ex → Addr) (T : List (Addr × Str)) (n : Nat) (F : FP) : Sp := fun vs H Q E => ∃ (z : Addr → Prop) (args : List D) (P : D → Prop), args.length = n ∧ LamX.Tabs T H ∧ (∀ a, z a → ∃ o, H a = some o ∧ Pn o) ∧ RpL K z H args vs ∧ F args P noX ∧
  ∀ p o d H', Gr T H H' → (∀ o, H p = some o → Pn o → False) → H' p = some o → OwnC K (fun a => a = p ∨ z a) H' o d → P d → Q (.ref p) H'
section
variable {c : C0} {t : Tm} {σ : L2.St} {H H' : Hp} {ρ : Env} {ta : TA} {da : DA}
theorem EnvOk.addLate {p : Addr} {o : HO} (h : EnvOk c t σ H ρ) (g : Gr c.T H H') (hp : ∀ o, H p = some o → Pn o → False) (e : H' p = some o) (pn : Pn o) : EnvOk c (t.add p o) σ H' ρ := by
  have keep : ∀ a o', ¬ Far c t σ a → H a = some o' → Pn o' → ¬ Far c (t.add p o) σ a ∧ H' a = some o' := fun a o' na e2 q => by
    have hne : a ≠ p := fun z => hp o' (by rw [← z]; exact e2) q
    exact ⟨fun f => (far_add.mp f).elim hne na, g.1 _ _ e2 q⟩
  have np : ¬ Far c t σ p := fun f => by
    obtain ⟨o', e', q⟩ := h.trk p f
    exact hp o' e' q
  have h1 := h.grow g
  refine ⟨h.len, h1.frame, h1.tabs, fun a f => ?_, fun i d e n => ?_, fun i d e n => ?_, h.ownn, h.dist, h.bx, fun q hq => (h.tv q hq).move keep, fun q hq => ?_⟩
  · rcases far_add.mp f with rfl | f
    · exact ⟨o, e, pn⟩
    · exact h1.trk a f
  · obtain ⟨v, e1, r⟩ := h.val i d e n
    exact ⟨v, e1, r.move keep⟩
  · obtain ⟨l, e1, x, z⟩ := h.ownv i d e n
    exact ⟨l, e1, x.move (fun o q pn => g.1 _ _ q pn) keep, z⟩
  · rcases List.mem_cons.mp hq with e' | hq
    · subst e'
      refine ⟨e, fun i hi e => np (.inr (.inr ⟨i, hi, e⟩)), fun o' e' q => ?_, pn⟩
      by_cases hb : c.box = some p
      · obtain ⟨a, b⟩ := h.bx p hb
        exact np (.inr (.inr ⟨0, a, b⟩))
      · exact hp o' (h.frame p o' e' q hb) q
    · exact h1.th q hq
theorem sf_callN {F : FP} {n : Nat} {E : L2.XK} (ha : SA c n ta da) : SF c (tCall (spN c.K c.cl c.T n F) [] E ta) (dCall F noX da) := fun t σ H ρ P Q h q k =>
  ha t σ H ρ _ _ h q fun vs ds H1 ρ1 h1 r1 n1 q1 => by
    rw [List.append_nil]
    refine ⟨Far c t σ, ds, _, by rw [r1.length]; exact n1, h1.tabs, h1.trk, r1, q1, fun p o d H2 g fresh e x p2 => k p o d H2 ρ1 (fun f => ?_) (h1.addLate g fresh e x.pn) (x.move fun a u na ea _ => ⟨fun f => na ((far_add.mp f).elim .inl .inr), ea⟩) p2⟩
    obtain ⟨o', e', q⟩ := h1.trk p f
    exact fresh o' e' q
end
section
variable {P : Program} {w : World} {K : PySem.W.Frag} {mg : Str → Option Value} {base : Heap} {cl : Ex → Addr} {T : List (Addr × Str)}
variable {x qual : Str} {st : Stmt} {f : Addr} {fd : FuncData} {N ps : List Str} {k : Nat}
theorem fn_new (F : Fun K x qual st f fd) (S : FnScope N ps (defScope st)) {Fs : FP} {de : DE}
    (body : ∀ (cdv : Value) (A : Around) (outer : List PySem.Env) (s : Shared) (H : Hp) (E : L2.XK), Room k (A.deeper (envOfC qual (defScope st) s.heap.objs.size f cdv)) →
      ∃ te, PSs (cxOf (L2N.CX P w) P w K mg base N qual (defScope st) f cdv A outer s H E) (defBody st) (tRet te) ∧ ∀ z h0, SF ⟨K, z, none, h0, fun _ => false, E, noX, cl, T⟩ te de)
    (spec : ∀ args P, args.length = ps.length → Fs args P noX → de (startD N.length args) fun d _ => P d) :
    FnOk P w K mg base (L2N.CX P w) (k + 1) f fd ps (spN K cl T ps.length Fs) := by
  refine Fun.okN F S (fun vs H Q E h => ?_) (fun cdv A outer s H vs Q E hr h => ?_)
  · obtain ⟨z, args, P, hl, _, hz, r, _⟩ := h
    rw [← r.length]; exact hl
  obtain ⟨te, hte, hs⟩ := body cdv A outer s H E hr
  refine ⟨_, hte, ?_⟩
  obtain ⟨z, args, P', hl, ht, hz, r, hF, hQ⟩ := h
  have far0 : ∀ a, Far ⟨K, z, none, H, fun _ => false, E, noX, cl, T⟩ ⟨[], []⟩ (L2.start N vs) a ↔ z a := fun a => by
    constructor
    · rintro (f | ⟨o, f⟩ | ⟨i, hi, e⟩)
      · exact f
      · cases f
      · cases hi
    · exact .inl
  have farE : Far ⟨K, z, none, H, fun _ => false, E, noX, cl, T⟩ ⟨[], []⟩ (L2.start N vs) = z := funext fun a => propext (far0 a)
  have env : EnvOk ⟨K, z, none, H, fun _ => false, E, noX, cl, T⟩ ⟨[], []⟩ (L2.start N vs) H (startD N.length args) := by
    refine ⟨start_len (n := 0) r.length, fun a o e _ _ => e, ht, fun a f => hz a ((far0 a).mp f), fun i d e hi => ?_, fun i d e hi => (nomatch hi), fun i hi => (nomatch hi), fun i j l hi => (nomatch hi), fun b e => (nomatch e), fun p hp => (nomatch hp), fun p hp => (nomatch hp)⟩
    rw [farE]
    exact (start_get r e).2
  refine hs z H ⟨[], []⟩ _ H _ _ _ env (spec args P' hl hF) fun p o d H' ρ' np h' x p1 => ?_
  obtain ⟨e1, _, e3, pn⟩ := h'.th (p, o) List.mem_cons_self
  refine hQ p o d H' ⟨fun a o e pn => h'.frame a o e pn (fun z => nomatch z), fun _ => h'.tabs⟩ e3 e1 (x.move fun a u na ea _ => ⟨?_, ea⟩) p1
  rintro (z1 | z1)
  · exact na (far_add.mpr (.inl z1))
  · exact na (far_add.mpr (.inr ((far0 a).mpr z1)))
/-- a def that is never called -/
theorem fn_none {F : FP} (hF : ∀ args P W, ¬ F args P W) {n : Nat} (hn : ps.length = n) : FnOk P w K mg base (L2N.CX P w) k f fd ps (spP K cl T n F) :=
  ⟨fun vs H Q E h => by rw [hn]; exact pure_len h, fun A outer s H args us vs Q E _ _ _ _ h => by
    obtain ⟨z, args, P, W, hl, _, hz, r, hF', _⟩ := h
    exact (hF _ _ _ hF').elim⟩
theorem takes_lam {X : Cx} {A : Around} {outer : List PySem.Env} {s : Shared} {H : Hp} {E : L2.XK} {scope : Scope} {f c' : Addr} : L2N.Takes (lamCxN X A outer s H E scope f c') (fun cls d _ H => E cls d H) := L2N.takes_of rfl rfl rfl rfl
end
end PD
namespace PD
open PySem PySem.Spec PyProof.Rows L2 RZ LamX
def toldTs (K : PySem.W.Frag) (cl : Ex → Addr) : Addr → Value → Option Addr → TS := fun a cls d D σ H => ∃ x : Ex, (cls = .ref (cl x) ∧ d = none) ∧ tSuite K cl (cl x) a D σ H
def toldTb (K : PySem.W.Frag) (cl : Ex → Addr) (T : List (Addr × Str)) (Fr : FP) (f c' : Addr) (q : Str) (tl : L2.XK → Hp → VK → Prop) : WX → TS := fun W =>
  tRet (tTup (tCons (tC (.int 0)) (tCons (tCall (spP K cl T 1 Fr) [] E0 (tCons (fun σZ HZ Q => ∃ E : L2.XK, σZ[0]? = some (some (.ref f)) ∧ HZ c' = some (CodeO c' q) ∧ (∀ cls d H', E cls d H' → W cls d σZ H') ∧ tl E HZ Q) tNil)) tNil)))
theorem told_end {K : PySem.W.Frag} {cl : Ex → Addr} {T : List (Addr × Str)} {pe : Addr} {Fr : FP} (FF : ∀ x, ExF K cl pe x) {tl : L2.XK → Hp → VK → Prop} {f c' : Addr} {q : Str} {H : Hp} {Q : VK} (hc : H c' = some (CodeO c' q)) (h : TTold K cl T Fr tl H Q) :
    toldTb K cl T Fr f c' q tl (wAs K (.ref pe) 1 (toldTs K cl) (fun _ _ _ _ => False) { nx := fun _ H' => Q .non H', rt := Q }) { nx := fun _ H' => Q .non H', rt := Q } [some (.ref f), none, none, none, none] H := by
  show ∃ E : L2.XK, _ ∧ _ ∧ _ ∧ _
  refine ⟨fun cls d H' => wAs K (.ref pe) 1 (toldTs K cl) (fun _ _ _ _ => False) { nx := fun _ H' => Q .non H', rt := Q } cls d [some (.ref f), none, none, none, none] H', rfl, hc, fun _ _ _ h => h, ?_⟩
  refine h _ _ (fun x H' tb hQ => ?_) (fun v H' hv => ?_)
  · refine ⟨true, (FF x).m, fun _ a na => ⟨x, ⟨rfl, rfl⟩, ?_⟩, fun z => by cases z⟩
    have far : ∀ b, Far ⟨K, fun a => ∃ o, H' a = some o ∧ Pn o, none, H', fun _ => false, E0, noX, cl, T⟩ ⟨[], []⟩ [some (.ref f), some (.ref a), none, none, none] b ↔ ∃ o, H' b = some o ∧ Pn o := fun b => by
      constructor
      · rintro (f | ⟨o, f⟩ | ⟨i, hi, _⟩)
        · exact f
        · cases f
        · cases hi
      · exact .inl
    have env : EnvOk ⟨K, fun a => ∃ o, H' a = some o ∧ Pn o, none, H', fun _ => false, E0, noX, cl, T⟩ ⟨[], []⟩ [some (.ref f), some (.ref a), none, none, none] H' [some (.fn f), some (.fn a), none, none, none] := by
      refine ⟨rfl, fun a o e _ _ => e, tb, fun b hb => (far b).mp hb, fun i d e _ => ?_, fun i d e hi => (nomatch hi), fun i hi => (nomatch hi), fun i j l hi => (nomatch hi), fun b e => (nomatch e), fun p hp => (nomatch hp), fun p hp => (nomatch hp)⟩
      match i, e with
      | 0, e => cases e; exact ⟨_, rfl, .fn f⟩
      | 1, e => cases e; exact ⟨_, rfl, .fn a⟩
      | 2, e => cases e
      | 3, e => cases e
      | 4, e => cases e
      | i + 5, e => cases e
    refine ss_suite ⟨[], []⟩ _ H' _ ⟨fun _ => False, fun d _ => d = .tup [.int 1, .str (exNm x)], fun _ => False, fun _ => False⟩ _ env (suite_ok (FF x) fun _ => rfl) (fun _ _ _ _ z => z.elim) (fun v d σ' H'' ρ' h' r p => ?_) (fun _ _ _ _ z => z.elim) (fun _ _ _ _ z => z.elim)
    have p : d = .tup [.int 1, .str (exNm x)] := p
    subst p
    obtain ⟨b, vs, rfl, nb, hb, rs⟩ := (r.rp trivial).seqT
    cases rs with
    | cons r1 rs => cases rs with
      | cons r2 rs =>
        cases rs
        cases r1
        cases r2
        refine hQ H'' b ⟨fun a o e pn => h'.frame a o e pn (fun z => nomatch z), fun _ => h'.tabs⟩ (fun o e pn => nb (.inl ⟨o, e, pn⟩)) hb
  · show spP K cl T 1 Fr ([v] ++ []) H' _ _
    rw [List.append_nil]
    obtain ⟨z, args, P, W, h1, h2, h3, h4, h5, h6, h7⟩ := hv
    exact ⟨z, args, P, W, h1, h2, h3, h4, h5, fun v d H' g r p => ⟨show 2 ≤ sizeLine by rw [sizeLine_eq]; omega, h6 v d H' g r p⟩, h7⟩
theorem passN {X : Cx} {P : Program} {w : World} : Passes (L2N.CX P w) X E0 := fun _ _ _ _ _ _ _ c => by
  obtain ⟨_, _, _, _, _, _, _, _, _, _, _, _, z⟩ := c
  exact z.elim
theorem Rp.notOwn {K : PySem.W.Frag} {A : Addr → Prop} {H : Hp} {d : D} {v : V} (r : Rp K A H d v) : NotOwn d := by
  cases r <;> trivial
/-- a, b, c = x, y, [] : the third a slot's own -/
def dPar_vvo (i j l : Nat) (a b : DE) : DS := fun De ρ => a ρ fun d ρ1 => b ρ1 fun e ρ2 => l < ρ2.length ∧ De.nx (((ρ2.set i (some d)).set j (some e)).set l (some (.lst [])))
theorem ss_par_vvo {c : C0} {ta tb : TE} {da db : DE} (i j l : Nat) (hi : c.own i = false) (hj : c.own j = false) (hl : c.own l = true) (hb0 : c.box = none ∨ l ≠ 0) (ha : SV c ta da) (hb : SV c tb db) :
    SS c (tPar3 i j l (tCons ta (tCons tb (tCons (tLst tNil) tNil)))) (dPar_vvo i j l da db) := fun t σ H ρ De E h q n r b k => by
  refine ha t σ H ρ _ _ h q fun v d H1 ρ1 h1 r1 q1 => ?_
  obtain ⟨t', e, h1', back⟩ := h1.push (.inl r1)
  refine hb t' σ H1 ρ1 _ _ h1' q1 fun v2 d2 H2 ρ2 h2 r2 q2 => ?_
  obtain ⟨h3, r3⟩ := back H2 ρ2 h2
  have r3 := r3.rp r1.notOwn
  rw [Far.hold e] at r2
  refine ⟨Nat.zero_le _, fun p hp => ⟨_, _, _, rfl, n _ _ _ ?_ q2.2⟩⟩
  have h4 := h3.put (x := some _) (y := some _) hi fun d' e => ⟨_, rfl, by cases e; exact r3⟩
  have h5 := h4.put (x := some _) (y := some _) hj fun d' e => ⟨_, rfl, by cases e; rw [show Far c t (σ.set i _) = Far c t σ from funext fun a => propext (far_set hi)]; exact r2⟩
  exact h5.putNew hl hb0 (by rw [List.length_set, List.length_set]; exact q2.1) hp ⟨[], rfl, .nil⟩
theorem FunC.mk1 {K : PySem.W.Frag} {x qual : Str} {st : Stmt} {f c : Addr} {oc : Value} {od an : Option Addr} {osl : Array (Option Value)} {kV doc pm ct : Value} (l : K.lookup f = some ⟨oc, od, .func (PySem.W.fnOf x qual (defArgs st) (defBody st) (defScope st) .none kV doc pm an (.ref c) ct), osl⟩)
    (cc : PySem.W.codeIn K (.ref c) qual = true) (k : PySem.W.keepIn K (.ref f) = true) : ∃ fd, FunC K x qual st f c fd := ⟨_, ⟨⟨oc, od, kV, doc, pm, an, ct, osl, rfl, l, cc⟩, k⟩⟩
/-- the script as data -/
theorem rp_script {K : PySem.W.Frag} {H : Hp} {a : Addr} {ns : List Int} (h : SqL K H a (ns.map V.int)) : Rp K (fun _ => False) H (.scr ns) (.ref a) := by
  rcases h with (h | ⟨o, h⟩) | h
  · exact .slst ns id h
  · exact .frz ns id h
  · exact .klst ns h
/-- the law's promise, asked of the script -/
theorem law_asked {K : PySem.W.Frag} {cl : Ex → Addr} {T : List (Addr × Str)} {F : FP} {H : Hp} {a : Addr} {ns : List Int} (hT : LamX.Tabs T H) (h : SqL K H a (ns.map V.int)) (hF : ∀ P W, P (.bl true) → F [.scr ns] P W) : spP K cl T 1 F [.ref a] H (fun v _ => v = .bl true) fun _ _ _ => False :=
  ⟨fun _ => False, [.scr ns], fun d => d = .bl true, noX, rfl, hT, fun _ z => z.elim, .cons (rp_script h) .nil, hF _ _ rfl, fun v d H' _ r e => by subst e; cases r; rfl, fun _ _ _ w => w.elim⟩
theorem no_errorN {P : Program} {w : World} {H : Hp} {s s' : Shared} {e : Value} (c : L2N.CX P w [] H s (fun _ _ _ => False) e s') : False := by
  obtain ⟨a, B, H', cls, d, _, _, _, _, _, _, _, z⟩ := c
  exact z
end PD

end
section
set_option Elab.async false
set_option linter.all false
set_option maxRecDepth 100000
set_option maxHeartbeats 1000000
/-! repr; a local name called that holds a def; the law's end where no guard stands around -/
namespace PD
open PySem PySem.Spec PyProof.Rows L2 RZ LamX

/-! ### repr of a list of data -/
def rReprX (K : PySem.W.Frag) : List V → Hp → VK → Prop := fun vs H Q => ∃ (a : Addr) (d : PyData), vs = [V.ref a] ∧ Dp K H (.ref a) d ∧ d.showable = true ∧ d.hasDict = false ∧ d.depth ≤ 60 ∧ d.shown.length ≤ sizeLine ∧ Q (.str d.shown) H
theorem cr_reprX {X : Cx} (hg : X.A.guards = some []) (hu : X.A.units + 65 < cLine) : CallR X (.builtin "repr") (rReprX X.K) := by
  intro pins s σ H vs us Q I r h
  obtain ⟨a, d, rfl, hd, hs, hn, hdp, hz, q⟩ := h
  rw [Vals.ref1 r]
  obtain ⟨as, rd⟩ := Dp.reads I d _ _ hd rfl
  refine repr_of_reads' rd hs (PyData.noDict_hsm hn) hg (by omega) (fun _ _ e => e) (fun h' u tk hk => ?_) hz
  exact ⟨.str d.shown, H, I.kept hk, ⟨_, rfl⟩, q⟩
theorem cr_reprK {X : Cx} {K : PySem.W.Frag} (h : X.K = K) (hg : X.A.guards = some []) (hu : X.A.units + 65 < cLine) : CallR X (.builtin "repr") (rReprX K) := h ▸ cr_reprX hg hu
/-- what repr tells of a list -/
def reprP (_ : Env) (xs : List D) (k : D → Prop) : Prop := match xs with
  | [.lst ds] => okN 60 (.lst ds) = true ∧ (toPy (.lst ds)).showable = true ∧ (toPy (.lst ds)).shown.length ≤ sizeLine ∧ k (.str (toPy (.lst ds)).shown)
  | _ => False
theorem sr_reprX {c : C0} : SRL c (rReprX c.K) reprP := fun t σ H ρ xs ds P Q h r q k => by
  cases r with
  | nil => exact False.elim q
  | cons rx rr => cases rr with
    | cons _ _ =>
      unfold reprP at q
      split at q
      · rename_i e
        cases e
      · exact False.elim q
    | nil =>
      rename_i d v
      cases d with
      | lst es =>
        obtain ⟨o, hs, hz, q⟩ := q
        have r0 := rx.rp trivial
        obtain ⟨a, vs, rfl, _, _, _⟩ := r0.seqL
        exact ⟨a, _, rfl, r0.dp o, hs, PyData.hasDict_of_canLay _ (okN_shape o).1, (okN_shape o).2, hz, k _ _ H h (.str _) q⟩
      | _ => exact False.elim q

/-! ### a slot's def called -/
def tCallH (i : Nat) (S : Addr → Sp → Prop) (E : L2.XK) (t : TA) : TE := fun σ H Q => ∃ (f : Addr) (sp : Sp), σ[i]? = some (some (.ref f)) ∧ S f sp ∧ t σ H fun vs H1 => sp vs H1 Q E
theorem pe_callH {X : Cx} {CX : CXT} {k i : Nat} {E : L2.XK} {x : Str} {p pos : Pos} {e : Expr} {es : List Expr} {t : TA} {S : Addr → Sp → Prop}
    (hS : ∀ f sp, S f sp → ∃ (fd : FuncData) (ps : List Str), FnOk X.prog X.w X.K X.mg X.base CX k f fd ps sp ∧ PySem.W.keepIn X.K (.ref f) = true ∧ Binds X.K fd ps []) (hr : Room k X.A) (hN : X.N[i]? = some x) (hv : Vis X.env.scope x) (hx : Passes CX X E) (ha : PA X (e :: es) t)
    (hdb : (x == ("__debug__" : Str)) = false := by decide) (hcd : (x == ("__classdict__" : Str)) = false := by decide)
    (he : starEach (e :: es) X.env = (false, eval e X.env) :: starEach es X.env := by rfl) (hpl : (backTo pos (starEach es X.env)).any (·.1) = false := by rfl) : PE X (.Call (.Name x p) (e :: es) [] pos) (tCallH i S E t) := by
  refine ⟨fun pins s σ H Q I h => ?_⟩
  obtain ⟨f, sp, h1, h2, h3⟩ := h
  obtain ⟨fd, ps, F, hk, hb⟩ := hS f sp h2
  have same : (fun (vs : List V) (H1 : Hp) => sp (vs ++ []) H1 Q E) = fun vs H1 => sp vs H1 Q E := funext fun vs => by rw [List.append_nil]
  refine (pe_callL (dvs := []) F hr hN hv hk hb .nil hx ha hdb hcd he hpl).run pins s σ H Q I ⟨h1, ?_⟩
  rw [same]
  exact h3
/-- the defs that the slot may hold, each with its promise -/
def HeldIn (K : PySem.W.Frag) (cl : Ex → Addr) (T : List (Addr × Str)) (n : Nat) (Fs : List (Addr × FP)) : Addr → Sp → Prop := fun f sp => ∃ F, (f, F) ∈ Fs ∧ sp = spP K cl T n F
def dCallH (i : Nat) (Fs : List (Addr × FP)) (W : Ex → Prop) (r : DA) : DE := fun ρ P => ∃ (f : Addr) (F : FP), ρ[i]? = some (some (.fn f)) ∧ (f, F) ∈ Fs ∧ r ρ fun ds ρ1 => F ds (fun d => P d ρ1) W
theorem sv_callH {c : C0} {Fs : List (Addr × FP)} {n i : Nat} {E : L2.XK} {W : Ex → Prop} {ta : TA} {da : DA} (hi : c.own i = false) (he : TakesE c E W) (ha : SA c n ta da) : SV c (tCallH i (HeldIn c.K c.cl c.T n Fs) E ta) (dCallH i Fs W da) := fun t σ H ρ P Q h q k => by
  obtain ⟨f, F, h1, h2, q⟩ := q
  obtain ⟨v, e, r⟩ := h.val i _ h1 hi
  cases r
  refine ⟨f, _, e, ⟨F, h2, rfl⟩, ?_⟩
  exact ha t σ H ρ _ _ h q fun vs ds H1 ρ1 h1 r1 n1 q1 =>
    ⟨Far c t σ, ds, _, W, by rw [r1.length]; exact n1, h1.tabs, h1.trk, r1, q1, fun v d H2 g r2 p2 => k v d H2 ρ1 (h1.grow g) r2 p2, fun x H2 g w => he x H2 (fun a o e pn nb => g.1 a o (h1.frame a o e pn nb) pn) (g.2 h1.tabs) w⟩
theorem held_all {P : Program} {w : World} {K : PySem.W.Frag} {mg : Str → Option Value} {base : Heap} {CX : CXT} {k n : Nat} {cl : Ex → Addr} {T : List (Addr × Str)} {Fs : List (Addr × FP)}
    (h : ∀ p ∈ Fs, ∃ (fd : FuncData) (ps : List Str), FnOk P w K mg base CX k p.1 fd ps (spP K cl T n p.2) ∧ PySem.W.keepIn K (.ref p.1) = true ∧ Binds K fd ps []) :
    ∀ f sp, HeldIn K cl T n Fs f sp → ∃ (fd : FuncData) (ps : List Str), FnOk P w K mg base CX k f fd ps sp ∧ PySem.W.keepIn K (.ref f) = true ∧ Binds K fd ps [] := fun f sp ⟨F, hm, e⟩ => by
  subst e
  exact h _ hm

/-! ### a def that is called where no guard stands -/
def FnOkG (P : Program) (w : World) (K : PySem.W.Frag) (mg : Str → Option Value) (base : Heap) (CX : CXT) (k : Nat) (f : Addr) (fd : FuncData) (ps : List Str) (sp : Sp) : Prop :=
  ∀ (A : Around) (outer : List PySem.Env) (s : Shared) (H : Hp) (args : Args) (us : List Value) (vs : List V) (Q : VK) (E : L2.XK), A.guards = some [] → Room k A → Env0 P w K mg base A outer s H → BindsTo s fd args (ps.zip us) → Vals vs us → sp vs H Q E →
    codeAny (model P w) A (.call (.ref f) args) (CR CX outer P w H s Q E) s
theorem FnOk.toG {P : Program} {w : World} {K : PySem.W.Frag} {mg : Str → Option Value} {base : Heap} {CX : CXT} {k : Nat} {f : Addr} {fd : FuncData} {ps : List Str} {sp : Sp} (F : FnOk P w K mg base CX k f fd ps sp) : FnOkG P w K mg base CX k f fd ps sp :=
  fun A outer s H args us vs Q E _ => F.run A outer s H args us vs Q E
section
variable {P : Program} {w : World} {K : PySem.W.Frag} {mg : Str → Option Value} {base : Heap} {cl : Ex → Addr} {T : List (Addr × Str)}
variable {x qual : Str} {st : Stmt} {f c : Addr} {fd : FuncData} {N ps : List Str} {k : Nat}
theorem deeper_guards {A : Around} (h : A.guards = some []) (env : PySem.Env) : (A.deeper env).guards = some [] := by
  first | exact h | simpa [Around.deeper] using h
theorem fn_pureG (F : FunC K x qual st f c fd) (S : FnScope N ps (defScope st)) (own : Nat → Bool) (hown : ∀ i, i < ps.length → own i = false) {Fs : FP} (ds : (Ex → Prop) → DS)
    (body : ∀ (A : Around) (outer : List PySem.Env) (s : Shared) (H : Hp) (E : L2.XK), (A.deeper (envOfC qual (defScope st) s.heap.objs.size f (.ref c))).guards = some [] → Room k (A.deeper (envOfC qual (defScope st) s.heap.objs.size f (.ref c))) →
      ∃ ts, PSs (cxOf (L2N.CX P w) P w K mg base N qual (defScope st) f (.ref c) A outer s H E) (defBody st) ts ∧ ∀ z h0 dw, TakesE ⟨K, z, none, h0, own, E, dw, cl, T⟩ E dw → SS ⟨K, z, none, h0, own, E, dw, cl, T⟩ ts (ds dw))
    (spec : ∀ args P W, args.length = ps.length → Fs args P W → ds W ⟨fun _ => P .non, fun d ρ => P (retD ρ d), fun _ => False, fun _ => False⟩ (startD N.length args)) :
    FnOkG P w K mg base (L2N.CX P w) (k + 1) f fd ps (spP K cl T ps.length Fs) := by
  obtain ⟨oc, od, kV, doc, pm, an, ct, osl, rfl, lk, hcd⟩ := F.ex
  intro A outer s H args us vs Q E hg hr e0 hb hv hsp
  refine run_ofS lk hcd S hr e0 hb hv (pure_len hsp) fun hr' => ?_
  obtain ⟨ts, hts, hs⟩ := body A outer s H E (deeper_guards hg _) hr'
  exact ⟨ts, hts, pure_run own hown hs spec hsp⟩
end

/-! ### the law asked, no guard around -/
section
variable {P : Program} {w : World} {K : PySem.W.Frag} {mg mb : Str → Option Value} {CX : CXT} {k : Nat} {fa a : Addr} {cs : List (Addr × Addr)} {fd : FuncData} {x : Str} {sp : Sp} {s₁ : Shared} {vs : List Value} {ns : List Int}
abbrev tabO : Obj := { cls := .none, data := .fields #[] }
abbrev scrO (vs : List Value) : Obj := { cls := .type "list", data := .seq vs.toArray }
/-- what is tracked at first: the tables, and the script where the module does not know it -/
def lawHp (K : PySem.W.Frag) (a : Addr) (vs : List Value) (ns : List Int) (ts : List Addr) : Hp := fun b =>
  if b ∈ ts then some (.tbl #[]) else if b = a then (if (K.lookup a).isSome = true then none else some (.frz (scrO vs) (.lst (ns.map V.int)))) else none
theorem lawHp_tab {ts : List Addr} {b : Addr} (h : b ∈ ts) : lawHp K a vs ns ts b = some (.tbl #[]) := if_pos h
theorem lawHp_off {ts : List Addr} {b : Addr} (h : b ∉ ts) (h2 : b ≠ a) : lawHp K a vs ns ts b = none := (if_neg h).trans (if_neg h2)
theorem lawHp_scr {ts : List Addr} (h : a ∉ ts) : lawHp K a vs ns ts a = if (K.lookup a).isSome = true then none else some (.frz (scrO vs) (.lst (ns.map V.int))) := (if_neg h).trans (if_pos rfl)
/-- an object that is no table and no list is not tracked -/
theorem lawHp_none {ts : List Addr} (hT : ∀ b ∈ ts, s₁.heap.get? b = some tabO) (ha : s₁.heap.get? a = some (scrO vs)) {b : Addr} {o : Obj} (e : s₁.heap.get? b = some o) (h1 : o.data ≠ tabO.data) (h2 : o.data ≠ (scrO vs).data) : lawHp K a vs ns ts b = none :=
  lawHp_off (fun m => h1 (by rw [Option.some.inj (e.symm.trans (hT b m))])) (fun m => h2 (by rw [m] at e; rw [Option.some.inj (e.symm.trans ha)]))
theorem law_callG (inK : K.In s₁.heap) (nsG : s₁.heap.Ns mainGlobals mg) (nsB : s₁.heap.Ns builtinsNs mb) (boot : ∀ y : Str, y ≠ "__name__" → mb y = bootBuiltins y) (lim : s₁.heap.NoLimit) (g0 : s₁.gens = #[])
    (tabs : ∀ p ∈ cs, s₁.heap.get? p.2 = some tabO) (tabsK : ∀ p ∈ cs, K.lookup p.2 = none) (heads : ∀ p ∈ cs, PySem.W.CodeHd s₁.heap p.1 p.2)
    (bmain : ∃ (bm : Addr) (ob : Obj), mg "__builtins__" = some (.ref bm) ∧ bm ≠ builtinsNs ∧ s₁.heap.get? bm = some ob ∧ ob.cls = .type "module" ∧ ob.dict = some builtinsNs ∧ ob.data = .plain)
    (hscr : s₁.heap.get? a = some (scrO vs)) (hints : IntsAre vs ns) (short : ns.length ≤ sizeLine) (room : Room k callerA)
    (F : ∀ base : Heap, K.In base → base.Ns mainGlobals mg → (∀ p ∈ cs, TabB base mg p.1 p.2) → FnOkG P w K mg base CX k fa fd [x] sp) (binds : ∀ (s : Shared) (u : Value), BindsTo s fd ⟨[u], []⟩ [(x, u)])
    (asked : ∀ H : Hp, (∀ p ∈ cs, H p.2 = some (.tbl #[])) → SqL K H a (ns.map V.int) → sp [.ref a] H (fun v _ => v = .bl true) fun _ _ _ => False)
    (noErr : ∀ H e s', CX [] H s₁ (fun _ _ _ => False) e s' → False) :
    codeAny (model P w) callerA (.call (.ref fa) ⟨[.ref a], []⟩) (fun r s' => r = .ok (.ret (.bool true)) ∧ OldK s₁.heap s'.heap ∧ s'.os = s₁.os ∧ AllBare s'.gens) s₁ := by
  have relI := vals_ints hints
  have nvs : vs.length = ns.length := hints.length
  -- the tables' places
  have tT : ∀ b ∈ cs.map (·.2), s₁.heap.get? b = some tabO := fun b m => by
    obtain ⟨p, mp, rfl⟩ := List.mem_map.mp m
    exact tabs p mp
  have tM : ∀ p ∈ cs, p.2 ∈ cs.map (·.2) := fun p m => List.mem_map.mpr ⟨p, m, rfl⟩
  have scrT : a ∉ cs.map (·.2) := fun m => by
    have z := congrArg Obj.data (Option.some.inj (hscr.symm.trans (tT a m)))
    cases z
  generalize eH : lawHp K a vs ns (cs.map (·.2)) = H
  have Htab : ∀ p ∈ cs, H p.2 = some (.tbl #[]) := fun p m => by rw [← eH]; exact lawHp_tab (tM p m)
  have Hno : ∀ {b : Addr} {o : Obj}, s₁.heap.get? b = some o → o.data ≠ tabO.data → o.data ≠ (scrO vs).data → H b = none := fun e h1 h2 => by rw [← eH]; exact lawHp_none tT hscr e h1 h2
  have Hsome : ∀ {b : Addr} {u : HO}, H b = some u → (b ∈ cs.map (·.2) ∧ u = .tbl #[]) ∨ (b = a ∧ K.lookup a = none ∧ u = .frz (scrO vs) (.lst (ns.map V.int))) := fun {b u} e => by
    rw [← eH] at e
    by_cases m : b ∈ cs.map (·.2)
    · rw [lawHp_tab m] at e
      exact .inl ⟨m, (Option.some.inj e).symm⟩
    · by_cases m2 : b = a
      · subst m2
        rw [lawHp_scr m] at e
        cases q : K.lookup b with
        | none =>
          rw [q] at e
          exact .inr ⟨rfl, rfl, (Option.some.inj e).symm⟩
        | some o =>
          rw [q] at e
          cases e
      · rw [lawHp_off m m2] at e
        cases e
  have ok : HOk P w H s₁.heap := fun b u e => by
    rcases Hsome e with ⟨m, rfl⟩ | ⟨rfl, _, rfl⟩
    · exact tT b m
    · exact ⟨hscr, by rw [List.length_map]; exact short, vs, _, relI, hscr⟩
  have seqA : SqL K H a (ns.map V.int) := by
    cases q : K.lookup a with
    | some o =>
      have e := (inK a o q).symm.trans hscr
      cases e
      exact .inr ⟨_, vs.toArray, _, q, rfl, rfl, rfl, by rw [List.size_toArray, nvs]; exact short, by simpa using relI⟩
    | none => exact .inl (.inr ⟨scrO vs, by rw [← eH, lawHp_scr scrT, q]; rfl⟩)
  -- the heap without what is tracked
  have dictOff : ∀ {b : Addr} {o : Obj} {es : Array DictEntry} {ep : Nat}, s₁.heap.get? b = some o → o.data = .dict es ep → H b = none := fun e d => Hno e (by rw [d]; exact fun z => nomatch z) (by rw [d]; exact fun z => nomatch z)
  have nsOff : ∀ {b : Addr} {m : Str → Option Value}, s₁.heap.Ns b m → (hidT s₁.heap H).Ns b m := fun ⟨o, es, ep, e, d, r⟩ => ⟨o, es, ep, hidT_get e (dictOff e d), d, r⟩
  have inB : K.In (hidT s₁.heap H) := fun b o e => hidT_get (inK b o e) (by
    cases q : H b with
    | none => rfl
    | some u =>
      rcases Hsome q with ⟨m, _⟩ | ⟨m, z, _⟩
      · obtain ⟨p, mp, ep⟩ := List.mem_map.mp m
        rw [← ep, tabsK p mp] at e
        cases e
      · rw [m, z] at e
        cases e)
  have md : L2.Mod K mg (hidT s₁.heap H) := ⟨inB, nsOff nsG, ⟨mb, nsOff nsB, boot⟩, by obtain ⟨mc, l1, l2⟩ := lim; exact ⟨mc, nsOff l1, l2⟩⟩
  have tabB : ∀ p ∈ cs, TabB (hidT s₁.heap H) mg p.1 p.2 := fun p mp => by
    refine ⟨?_, ?_, fun z => ?_⟩
    · obtain ⟨o, us, file, tf, flags, tg, inF, text, tt, c1, c0, c2, c3, more⟩ := heads p mp
      refine ⟨o, us, file, tf, flags, tg, inF, text, tt, hidT_get c1 (Hno c1 ?_ ?_), c0, c2, c3, more⟩
      · rw [c2]
        intro z
        cases z
        simp at c3
      · rw [c2]
        exact fun z => nomatch z
    · obtain ⟨bm, ob, b1, b2, b3, b4, b5, b6⟩ := bmain
      refine ⟨bm, ob, b1, b2, fun z => ?_, fun z => ?_, hidT_get b3 (Hno b3 ?_ ?_), b4, b5, b6⟩
      · obtain ⟨o, es, ep, e, d, _⟩ := nsG
        subst z
        have z := congrArg Obj.data (Option.some.inj (e.symm.trans b3))
        rw [d, b6] at z
        cases z
      · subst z
        have z := congrArg Obj.data (Option.some.inj (b3.symm.trans (tabs p mp)))
        rw [b6] at z
        cases z
      · rw [b6]
        exact fun z => nomatch z
      · rw [b6]
        exact fun z => nomatch z
    · obtain ⟨o, es, ep, e, d, _⟩ := nsG
      rw [z] at e
      have z := congrArg Obj.data (Option.some.inj (e.symm.trans (tabs p mp)))
      rw [d] at z
      cases z
  have start : Env0 P w K mg (hidT s₁.heap H) callerA [] s₁ H := ⟨rfl, md, fun b o e => of_hidT e, Nat.le_of_eq (hidT_size _ _), trivial, fun b m => (nomatch (show b ∈ ([] : List Addr) from m)), ok, .of_eq g0⟩
  refine codeAny_mono (F _ inB (nsOff nsG) tabB callerA [] s₁ H ⟨[.ref a], []⟩ [.ref a] [.ref a] _ _ rfl room start (binds s₁ (.ref a)) (.cons rfl .nil) (asked H Htab seqA)) fun r s' told => ?_
  match r, told with
  | .error e, told => exact (noErr H e s' told).elim
  | .ok (.ret u), told =>
    obtain ⟨v, H', sameOs, bare, un, ok', rel, hv⟩ := told
    have hv : v = .bl true := hv
    subst hv
    have eu : u = Value.bool true := rel
    subst eu
    have stays : ∀ b o, b ∉ cs.map (·.2) → s₁.heap.get? b = some o → s'.heap.get? b = some o := fun b o m e => by
      cases q : H b with
      | none => exact un.keep b o e q (fun z => nomatch (show b ∈ ([] : List Addr) from z)) (fun z => nomatch z)
      | some u =>
        rcases Hsome q with ⟨m2, _⟩ | ⟨rfl, _, rfl⟩
        · exact (m m2).elim
        · obtain ⟨e2, _⟩ := ok' _ _ (un.frzs _ _ _ q)
          rw [← e, hscr, e2]
    have grew : ∀ b ∈ cs.map (·.2), ∃ (p : Addr × Addr) (more : Array Value), p ∈ cs ∧ p.2 = b ∧ s'.heap.get? b = some { cls := .none, data := .fields (#[] ++ more) } := fun b m => by
      obtain ⟨p, mp, e⟩ := List.mem_map.mp m
      obtain ⟨more, z⟩ := un.tbls p.2 #[] (Htab p mp)
      exact ⟨p, more, mp, e, by rw [← e]; exact ok' p.2 _ z⟩
    refine ⟨rfl, ⟨fun b o e => ?_, fun b o e => ?_⟩, sameOs, bare⟩
    · by_cases m : b ∈ cs.map (·.2)
      · obtain ⟨p, more, mp, ep, hm⟩ := grew b m
        have eo : tabO = o := Option.some.inj ((tT b m).symm.trans e)
        subst eo
        rw [← ep] at hm ⊢
        exact .inr (.inl ⟨((heads p mp).tab (tabs p mp)).isCodeTable, rfl, #[], more, rfl, hm⟩)
      · exact .inl (stays b o m e)
    · by_cases m : b ∈ cs.map (·.2)
      · obtain ⟨p, more, mp, ep, hm⟩ := grew b m
        exact ⟨_, hm⟩
      · exact ⟨o, stays b o m e⟩
  | .ok .next, told => exact False.elim told
  | .ok .brk, told => exact False.elim told
  | .ok .cont, told => exact False.elim told
end
/-- what is known of the law's def at the head's heap, no guard around -/
def LawAtG (l : PySem.W.OpenLaw) (w : World) (K : PySem.W.Frag) (CX : CXT) (k n : Nat) (x : Str) (mg : Str → Option Value) (fa : Addr) (h : Heap) : Prop :=
  ∃ (fd : FuncData) (cs : List (Addr × Addr)) (sp : Sp), (∀ p ∈ cs, h.get? p.2 = some tabO) ∧ (∀ p ∈ cs, K.lookup p.2 = none) ∧ (∀ p ∈ cs, PySem.W.CodeHd h p.1 p.2) ∧ (∀ (s : Shared) (u : Value), BindsTo s fd ⟨[u], []⟩ [(x, u)]) ∧
    (∀ (H : Hp) (a : Addr) (ns : List Int), ns.length ≤ n → (∀ z ∈ ns, Builtin.Int.intBits z ≤ 1048576) → (∀ p ∈ cs, H p.2 = some (.tbl #[])) → SqL K H a (ns.map V.int) → sp [.ref a] H (fun v _ => v = .bl true) fun _ _ _ => False) ∧
    ∀ base : Heap, K.In base → base.Ns mainGlobals mg → (∀ p ∈ cs, TabB base mg p.1 p.2) → FnOkG l.prog w K mg base CX k fa fd [x] sp
theorem walk_ofG {l : PySem.W.OpenLaw} {n k : Nat} {q : Program} {loose : List Str} {XP : (Str → Option Value) → Heap → Prop} {YP : World → Heap → Prop} {d : DefRec} {K : Params → PySem.W.Frag} {CX : World → CXT} {x : Str}
    (most : l.most = some n) (fits : n ≤ sizeLine) (plain : d.params.defaults = []) (room : Room k callerA) (inY : ∀ (w : World) (h : Heap), YP w h → (K w.params).In h)
    (F : ∀ (w : World) (mg : Str → Option Value) (fa : Addr) (h : Heap), YP w h → (K w.params).In h → h.Ns mainGlobals mg → mg d.name = some (.ref fa) → LawAtG l w (K w.params) (CX w) k n x mg fa h)
    (noErr : ∀ (w : World) (H : Hp) (s : Shared) (e : Value) (s' : Shared), CX w [] H s (fun _ _ _ => False) e s' → False) :
    PySem.W.WalkO q loose XP YP l.row.toRowW d [] (fun f vs => PySem.call f vs) :=
  Att.attach_callB most plain fun w s₀ s₁ mg mb fa o pm cd doc a vs ns G Y ho hd hcd hmg hobj hints hlen hbits hg => by
    have inK := inY w _ Y
    obtain ⟨fd, cs, sp, t1, t2, t3, hb, asked, ok⟩ := F w mg fa _ Y inK G.T.g hmg
    exact law_callG inK G.T.g G.T.b G.T.builtins G.T.nolimit hg t1 t2 t3 G.T.bmain hobj hints (Nat.le_trans hlen fits) room ok hb (fun H h1 h2 => asked H a ns hlen hbits h1 h2) fun H e s' => noErr w H s₁ e s'
end PD

end
section
set_option Elab.async false
set_option linter.all false
set_option maxRecDepth 100000
/-! what repr tells of rows of numbers: its signs are sound, and it is short -/
namespace PD
open PySem
theorem strOk_app {a b : Str} (ha : PyData.strOk a = true) (hb : PyData.strOk b = true) : PyData.strOk (a ++ b) = true := by
  unfold PyData.strOk at *
  show (a.cps ++ b.cps).all _ = true
  rw [Array.all_append, ha, hb]
  rfl
theorem strOk_of (s : String) : PyData.strOk (Str.ofString s) = true := by
  unfold PyData.strOk
  rw [Str.ofString_eq_toList]
  simp only [List.all_toArray, List.all_map, List.all_eq_true, Function.comp_apply, decide_eq_true_eq]
  intro c _
  have h := c.valid
  show c.val.toNat < _
  rcases h with h | h
  · have : c.val.toNat < 0xd800 := h
    omega
  · have : c.val.toNat < 0x110000 := h.2
    omega
theorem strOk_from : ∀ (ts : List Str) (k : Nat) (acc : Str), PyData.strOk acc = true → (∀ t ∈ ts, PyData.strOk t = true) → PyData.strOk (textFrom k acc ts) = true
  | [], _, _, h, _ => h
  | t :: ts, k, acc, h, ht => by
    rw [textFrom]
    exact strOk_from ts (k + 1) _ (strOk_app (strOk_app h (strOk_of _)) (ht t List.mem_cons_self)) fun u hu => ht u (List.mem_cons_of_mem _ hu)
theorem strOk_join (sep : Str) (hs : PyData.strOk sep = true) : ∀ ts : List Str, (∀ t ∈ ts, PyData.strOk t = true) → PyData.strOk (Str.join sep ts) = true
  | [], _ => by rw [Str.join]; decide +kernel
  | [x], h => by rw [Str.join]; exact h x List.mem_cons_self
  | x :: y :: r, h => by
    rw [Str.join]
    · exact strOk_app (strOk_app (h x List.mem_cons_self) hs) (strOk_join sep hs (y :: r) fun t ht => h t (List.mem_cons_of_mem _ ht))
    · intro z; cases z

mutual
def isRow : PyData → Bool
  | .int i => decide (i.natAbs.log2 < 1900)
  | .list xs => isRows xs
  | .tuple xs => isRows xs
  | _ => false
def isRows : List PyData → Bool
  | [] => true
  | x :: xs => isRow x && isRows xs
end
mutual
theorem row_ok : ∀ d : PyData, isRow d = true → PyData.strOk d.shown = true ∧ d.showable = true ∧ d.leavesShort 2000 = true
  | .int i, h => by
    rw [isRow] at h
    have h := of_decide_eq_true h
    refine ⟨?_, ?_, ?_⟩
    · rw [PyData.shown]; exact strOk_of _
    · rw [PyData.showable]; exact decide_eq_true (by omega)
    · rw [PyData.leavesShort]
      refine decide_eq_true ?_
      have := int_text_length_le (k := 1900) (by decide) h
      show (Str.ofString (toString i)).length ≤ 2000
      rw [ofString_length]
      omega
  | .list xs, h => by
    rw [isRow] at h
    obtain ⟨h1, h2, h3⟩ := rows_ok xs h
    refine ⟨?_, ?_, ?_⟩
    · rw [PyData.shown]
      exact strOk_app (strOk_from _ _ _ (strOk_of _) h1) (strOk_of _)
    · rw [PyData.showable]; exact h2
    · rw [PyData.leavesShort]; exact h3
  | .tuple xs, h => by
    rw [isRow] at h
    obtain ⟨h1, h2, h3⟩ := rows_ok xs h
    refine ⟨?_, ?_, ?_⟩
    · rw [PyData.shown]
      exact strOk_app (strOk_app (strOk_of _) (strOk_join _ (strOk_of _) _ h1)) (strOk_of _)
    · rw [PyData.showable]; exact h2
    · rw [PyData.leavesShort]; exact h3
  | .none, h => by rw [isRow] at h <;> first | cases h | (intros; contradiction)
  | .bool _, h => by rw [isRow] at h <;> first | cases h | (intros; contradiction)
  | .str _, h => by rw [isRow] at h <;> first | cases h | (intros; contradiction)
  | .dict _, h => by rw [isRow] at h <;> first | cases h | (intros; contradiction)
theorem rows_ok : ∀ xs : List PyData, isRows xs = true → (∀ t ∈ PyData.shownAll xs, PyData.strOk t = true) ∧ PyData.showableAll xs = true ∧ PyData.leavesShortAll 2000 xs = true
  | [], _ => ⟨fun t h => (by rw [PyData.shownAll] at h; cases h), by rw [PyData.showableAll], by rw [PyData.leavesShortAll]⟩
  | x :: xs, h => by
    rw [isRows, Bool.and_eq_true] at h
    obtain ⟨a1, a2, a3⟩ := row_ok x h.1
    obtain ⟨b1, b2, b3⟩ := rows_ok xs h.2
    refine ⟨fun t ht => ?_, by rw [PyData.showableAll, a2, b2]; rfl, by rw [PyData.leavesShortAll, a3, b3]; rfl⟩
    rw [PyData.shownAll] at ht
    rcases List.mem_cons.mp ht with rfl | ht
    · exact a1
    · exact b1 t ht
end
theorem row_fits {d : PyData} (h : isRow d = true) (hw : d.weight ≤ 8000) : d.shown.length ≤ sizeLine := by
  have := PyData.shown_le 2000 (by decide) d (row_ok d h).2.2
  have h2 : (2000 + 2) * d.weight ≤ 2002 * 8000 := Nat.mul_le_mul_left _ hw
  rw [sizeLine_eq]
  omega
/-- repr of a list of rows -/
theorem repr_rows {ρ : Env} {ds : List D} {k : D → Prop} (o : okN 60 (.lst ds) = true) (h : isRow (toPy (.lst ds)) = true) (hw : (toPy (.lst ds)).weight ≤ 8000) (hk : k (.str (toPy (.lst ds)).shown)) : reprP ρ [.lst ds] k :=
  ⟨o, (row_ok _ h).2.1, row_fits h hw, hk⟩
theorem neP_shown {ρ : Env} {d : PyData} {k : D → Prop} (h : isRow d = true) (hk : k (.bl false)) : neP ρ (.str d.shown) (.str d.shown) k := by
  have o : okN 60 (.str d.shown) = true := by rw [okN]; exact (row_ok d h).1
  refine ⟨o, o, ?_⟩
  rw [show deref ρ (.str d.shown) = .str d.shown from rfl, eqD_refl o]
  exact hk
end PD

end
section
set_option Elab.async false
set_option linter.all false
set_option maxRecDepth 100000
set_option maxHeartbeats 1000000
/-! dicts with integers for keys that a slot alone holds; xs.index(e) -/
namespace PD
open PySem PySem.Spec PyProof.Rows L2 RZ

/-! ### keys and what stands at them -/
def getA {α : Type} : List Int → List α → Int → Option α
  | k :: ks, x :: xs, i => if k = i then some x else getA ks xs i
  | _, _, _ => none
def putV {α : Type} (i : Int) (y : α) : List Int → List α → List α
  | k :: ks, x :: xs => (if k = i then y else x) :: putV i y ks xs
  | [], xs => xs
  | _ :: _, [] => []
def putL {α : Type} (ks : List Int) (xs : List α) (i : Int) (y : α) : List α := if i ∈ ks then putV i y ks xs else xs ++ [y]
def putK' (ks : List Int) (i : Int) : List Int := if i ∈ ks then ks else ks ++ [i]
abbrev kz (ks : List Int) (vs : List V) : List (L2.Key × V) := (ks.map Sum.inl).zip vs
theorem valV_kz : ∀ {ks : List Int} {vs : List V} (i : Int), valV (kz ks vs) (.inl i) = getA ks vs i
  | [], vs, i => rfl
  | k :: ks, [], i => rfl
  | k :: ks, v :: vs, i => by
    show valV ((Sum.inl k, v) :: kz ks vs) (.inl i) = _
    rw [getA]
    by_cases h : k = i
    · rw [if_pos h, valV_pos (by rw [h])]
    · rw [if_neg h, valV_neg (fun z => h (Sum.inl.inj z)), valV_kz]
theorem any_kz {i : Int} : ∀ {ks : List Int} {vs : List V}, ks.length = vs.length → ((kz ks vs).any fun kv => decide (kv.1 = Sum.inl i)) = decide (i ∈ ks)
  | [], [], _ => by simp
  | k :: ks, v :: vs, h => by
    show (decide (Sum.inl k = (Sum.inl i : L2.Key)) || (kz ks vs).any _) = _
    rw [any_kz (by simpa using h)]
    by_cases e : k = i
    · simp [e]
    · have e2 : ¬ i = k := fun z => e z.symm
      simp [e, e2]
theorem map_kz {i : Int} {v : V} : ∀ {ks : List Int} {vs : List V}, ks.length = vs.length → (kz ks vs).map (fun kv => if kv.1 = Sum.inl i then (kv.1, v) else kv) = kz ks (putV i v ks vs)
  | [], [], _ => rfl
  | k :: ks, w :: vs, h => by
    show (if (Sum.inl k : L2.Key) = Sum.inl i then (Sum.inl k, v) else (Sum.inl k, w)) :: (kz ks vs).map _ = _
    rw [map_kz (by simpa using h), putV]
    by_cases e : k = i
    · subst e
      rw [if_pos rfl, if_pos rfl]
      rfl
    · have : ¬ (Sum.inl k : L2.Key) = Sum.inl i := fun z => e (Sum.inl.inj z)
      rw [if_neg this, if_neg e]
      rfl
theorem kz_snoc {i : Int} {v : V} : ∀ {ks : List Int} {vs : List V}, ks.length = vs.length → kz ks vs ++ [(Sum.inl i, v)] = kz (ks ++ [i]) (vs ++ [v])
  | [], [], _ => rfl
  | k :: ks, w :: vs, h => by
    show (Sum.inl k, w) :: (kz ks vs ++ _) = (Sum.inl k, w) :: kz (ks ++ [i]) (vs ++ [v])
    rw [kz_snoc (by simpa using h)]
theorem putK_kz {ks : List Int} {vs : List V} (h : ks.length = vs.length) (i : Int) (v : V) : putK (kz ks vs) (.inl i) v = kz (putK' ks i) (putL ks vs i v) := by
  unfold putK putK' putL
  rw [any_kz h]
  by_cases e : i ∈ ks
  · rw [if_pos (decide_eq_true e), if_pos e, if_pos e, map_kz h]
  · rw [if_neg (by simpa using e), if_neg e, if_neg e, kz_snoc h]
theorem putV_len {α : Type} {i : Int} {y : α} : ∀ {ks : List Int} {xs : List α}, ks.length = xs.length → (putV i y ks xs).length = xs.length
  | [], [], _ => rfl
  | k :: ks, x :: xs, h => by rw [putV, List.length_cons, putV_len (by simpa using h), List.length_cons]
theorem put_len {α : Type} {ks : List Int} {xs : List α} (h : ks.length = xs.length) (i : Int) (y : α) : (putK' ks i).length = (putL ks xs i y).length := by
  unfold putK' putL
  split
  · rw [putV_len h]; exact h
  · rw [List.length_append, List.length_append, h]; rfl
theorem kz_len {ks : List Int} {vs : List V} (h : ks.length = vs.length) : (kz ks vs).length = ks.length := by
  rw [List.length_zip, List.length_map, h]; exact Nat.min_self _
section
variable {K : PySem.W.Frag} {A : Addr → Prop} {H : Hp}
theorem RpL.getA {ks : List Int} : ∀ {ds : List D} {vs : List V} {i : Int}, RpL K A H ds vs → (∀ d, PD.getA ks ds i = some d → ∃ v, PD.getA ks vs i = some v ∧ Rp K A H d v) ∧ (PD.getA ks ds i = none → PD.getA ks vs i = none) := by
  induction ks with
  | nil =>
    intro ds vs i r
    refine ⟨fun d e => ?_, fun _ => rfl⟩
    cases e
  | cons k ks ih =>
    intro ds vs i r
    cases r with
    | nil =>
      refine ⟨fun d e => ?_, fun _ => rfl⟩
      cases e
    | cons a b =>
      rw [PD.getA, PD.getA]
      by_cases e : k = i
      · rw [if_pos e, if_pos e]
        exact ⟨fun d h => ⟨_, rfl, by cases h; exact a⟩, fun h => by cases h⟩
      · rw [if_neg e, if_neg e]
        exact ih b
theorem RpL.putV {ks : List Int} {i : Int} {d : D} {v : V} (rd : Rp K A H d v) : ∀ {ds : List D} {vs : List V}, RpL K A H ds vs → RpL K A H (PD.putV i d ks ds) (PD.putV i v ks vs) := by
  induction ks with
  | nil => intro ds vs r; cases r with
    | nil => exact .nil
    | cons a b => exact .cons a b
  | cons k ks ih =>
    intro ds vs r
    cases r with
    | nil => exact .nil
    | cons a b =>
      rw [PD.putV, PD.putV]
      by_cases e : k = i
      · rw [if_pos e, if_pos e]; exact .cons rd (ih b)
      · rw [if_neg e, if_neg e]; exact .cons a (ih b)
theorem RpL.putL {ks : List Int} {i : Int} {d : D} {v : V} {ds : List D} {vs : List V} (r : RpL K A H ds vs) (rd : Rp K A H d v) : RpL K A H (PD.putL ks ds i d) (PD.putL ks vs i v) := by
  unfold PD.putL
  split
  · exact r.putV rd
  · exact r.append (.cons rd .nil)
end

/-! ### readings -/
section
variable {c : C0} {ti ta tb : TE} {di da db : DE}
def dDNew : DE := fun ρ P => P (.dct [] []) ρ
theorem sf_dnew : SF c tDNewK dDNew := fun t σ H ρ P Q e q k p hp => k p (.dK []) (.dct [] []) _ ρ (e.far hp) (e.add hp) ⟨[], rfl, rfl, .nil⟩ q
theorem upd_upd {H : Hp} {p : Addr} {a b : HO} : upd (upd H p a) p b = upd H p b := by
  funext x
  by_cases h : x = p
  · subst h; rw [upd_same, upd_same]
  · rw [upd_ne h, upd_ne h, upd_ne h]
/-- {i: b} -/
def dDisp1 (i : Int) (b : Bool) : DE := fun ρ P => P (.dct [i] [.bl b]) ρ
theorem sf_disp1 {i : Int} {b : Bool} : SF c (tDisp [(tC (.int i), tC (.bl b))]) (dDisp1 i b) := fun t σ H ρ P Q e q k p hp => by
  refine ⟨upd_same, [(.inl i, .bl b)], rfl, by simp, ?_⟩
  rw [upd_upd]
  exact k p (.dK [(.inl i, .bl b)]) (.dct [i] [.bl b]) _ ρ (e.far hp) (e.add hp) ⟨[.bl b], rfl, rfl, .cons (.bl b) .nil⟩ q
/-- d[e] -/
def dDGet (j : Nat) (a : DE) : DE := fun ρ P => match ρ[j]? with
  | some (some (.dct _ _)) => a ρ fun z ρ1 => match z, ρ1[j]? with
    | .int i, some (some (.dct ks ds)) => match getA ks ds i with
      | some d => P d ρ1
      | none => False
    | _, _ => False
  | _ => False
theorem own_dct {t : Tm} {σ : L2.St} {H : Hp} {ρ : Env} {j : Nat} {ks : List Int} {ds : List D} (h : EnvOk c t σ H ρ) (hj : c.own j = true) (e : ρ[j]? = some (some (.dct ks ds))) :
    ∃ l vs, σ[j]? = some (some (.ref l)) ∧ H l = some (.dK (kz ks vs)) ∧ ks.length = vs.length ∧ RpL c.K (Far c t σ) H ds vs := by
  obtain ⟨l, e1, ⟨o, ho, vs, rfl, hl, r⟩, _⟩ := h.ownv j _ e hj
  exact ⟨l, vs, e1, ho, hl, r⟩
theorem sv_dget (j : Nat) (hj : c.own j = true) (ha : SV c ta da) : SV c (tDGet (tVar j) ta) (dDGet j da) := fun t σ H ρ P Q h q k => by
  unfold dDGet at q
  split at q
  · rename_i ks0 ds0 e0
    obtain ⟨l, vs0, s0, h0, _, _⟩ := own_dct h hj e0
    refine ⟨_, s0, ha t σ H ρ _ _ h q fun w z H1 ρ1 h1 r1 q1 => ?_⟩
    cases z with
    | int i =>
      cases r1
      have q1 : (match ρ1[j]? with
        | some (some (.dct ks ds)) => match getA ks ds i with
          | some d => P d ρ1
          | none => False
        | _ => False) := by
        split at q1
        · rename_i ei e2
          cases ei
          rw [e2]
          exact q1
        · exact q1.elim
      split at q1
      · rename_i ks ds e2
        obtain ⟨l', vs, s1, h2, hl, r⟩ := own_dct h1 hj e2
        rw [s0] at s1; cases s1
        split at q1
        · rename_i d ed
          obtain ⟨v, ev, rv⟩ := r.getA.1 d ed
          refine ⟨l, v, rfl, ?_, k v d H1 ρ1 h1 rv q1⟩
          have := DGet.k (k := Sum.inl i) h2
          rw [valV_kz, ev] at this
          exact this
        · exact q1.elim
      · exact q1.elim
    | _ => exact False.elim q1
  · exact q.elim
/-- e in d -/
def dDIn (j : Nat) (a : DE) : DE := fun ρ P => a ρ fun z ρ1 => match z, ρ1[j]? with
  | .int i, some (some (.dct ks ds)) => P (.bl (getA ks ds i).isSome) ρ1
  | _, _ => False
theorem sv_din (j : Nat) (hj : c.own j = true) (ha : SV c ta da) : SV c (tDIn ta (tVar j)) (dDIn j da) := fun t σ H ρ P Q h q k => by
  refine ha t σ H ρ _ _ h q fun w z H1 ρ1 h1 r1 q1 => ?_
  split at q1
  · rename_i i ks ds e2
    cases r1
    obtain ⟨l, vs, s1, h2, hl, r⟩ := own_dct h1 hj e2
    refine ⟨_, s1, l, getA ks vs i, rfl, ?_, ?_⟩
    · have := DGet.k (k := Sum.inl i) h2
      rw [valV_kz] at this
      exact this
    · have e3 : (getA ks vs i).isSome = (getA ks ds i).isSome := by
        cases e : getA ks ds i with
        | some d =>
          obtain ⟨v, ev, _⟩ := r.getA.1 d e
          rw [ev]
          rfl
        | none => rw [r.getA.2 e]; rfl
      rw [e3]
      exact k _ _ H1 ρ1 h1 (.bl _) q1
  · exact q1.elim
/-- d.get(e, b) -/
def dDGet2 (j : Nat) (a b : DE) : DE := fun ρ P => match ρ[j]? with
  | some (some (.dct _ _)) => a ρ fun z ρ1 => b ρ1 fun y ρ2 => match z, ρ2[j]? with
    | .int i, some (some (.dct ks ds)) => P ((getA ks ds i).getD y) ρ2
    | _, _ => False
  | _ => False
theorem sv_dget2 (j : Nat) (hj : c.own j = true) (ha : SV c ta da) (hb : SV c tb db) : SV c (tDGet2 (tVar j) ta tb) (dDGet2 j da db) := fun t σ H ρ P Q h q k => by
  unfold dDGet2 at q
  split at q
  · rename_i ks0 ds0 e0
    obtain ⟨l, vs0, s0, h0, _, _⟩ := own_dct h hj e0
    refine ⟨_, s0, l, rfl, .inl ⟨_, .inl h0⟩, ha t σ H ρ _ _ h q fun w z H1 ρ1 h1 r1 q1 => ?_⟩
    refine hb t σ H1 ρ1 _ _ h1 q1 fun w2 y H2 ρ2 h2 r2 q2 => ?_
    split at q2
    · rename_i i ks ds e2
      cases r1
      obtain ⟨l', vs, s1, h3, hl, r⟩ := own_dct h2 hj e2
      rw [s0] at s1; cases s1
      refine ⟨getA ks vs i, ?_, ?_⟩
      · have := DGet.k (k := Sum.inl i) h3
        rw [valV_kz] at this
        exact this
      · cases e : getA ks ds i with
        | some d =>
          obtain ⟨v, ev, rv⟩ := r.getA.1 d e
          rw [ev]
          rw [e] at q2
          exact k _ _ H2 ρ2 h2 rv q2
        | none =>
          rw [r.getA.2 e]
          rw [e] at q2
          exact k _ _ H2 ρ2 h2 r2 q2
    · exact q2.elim
  · exact q.elim
/-- d[e] = v -/
def dDPut (j : Nat) (a b : DE) : DS := fun De ρ => b ρ fun d ρ1 => match ρ1[j]? with
  | some (some (.dct _ _)) => a ρ1 fun z ρ2 => match z, ρ2[j]? with
    | .int i, some (some (.dct ks ds)) => ks.length < sizeLine ∧ De.nx (ρ2.set j (some (.dct (putK' ks i) (putL ks ds i d))))
    | _, _ => False
  | _ => False
theorem ss_dput (j : Nat) (hj : c.own j = true) (ha : SV c ta da) (hb : SV c tb db) : SS c (sDPut (tVar j) ta tb) (dDPut j da db) := fun t σ H ρ De E h q n r b k => by
  refine hb t σ H ρ _ _ h q fun v d H1 ρ1 h1 r1 q1 => ?_
  split at q1
  · rename_i ks0 ds0 e0
    obtain ⟨l, vs0, s0, h0, _, _⟩ := own_dct h1 hj e0
    obtain ⟨t', et, h1', back⟩ := h1.push (.inl r1)
    refine ⟨_, s0, ha t' σ H1 ρ1 _ _ h1' q1 fun w z H2 ρ2 h2 r2 q2 => ?_⟩
    obtain ⟨h3, r3⟩ := back H2 ρ2 h2
    have r3 : Rp c.K (Far c t σ) H2 d v := by
      rcases r3 with r3 | ⟨i, rfl, _⟩
      · exact r3
      · cases r1
    split at q2
    · rename_i i ks ds e2
      cases r2
      obtain ⟨l', vs, s1, h4, hl, rr⟩ := own_dct h3 hj e2
      rw [s0] at s1; cases s1
      refine ⟨l, _, rfl, DPut.k (k := Sum.inl i) h4 (by rw [kz_len hl]; exact q2.1), ?_⟩
      rw [putK_kz hl]
      exact n _ _ _ (h3.mut (d' := .dct (putK' ks i) (putL ks ds i d)) hj e2 s0 ⟨_, rfl, put_len hl i v, rr.putL r3⟩) q2.2
    · exact q2.elim
  · exact q1.elim
/-- sorted(d) -/
def rSortDI : List V → Hp → VK → Prop := fun xs H Q => ∃ (a : Addr) (kvs : List (L2.Key × V)) (ks : List Int), xs = [.ref a] ∧ Rd H a (.dK kvs) ∧ kvs.map (·.1) = ks.map Sum.inl ∧ ks.length < 64 ∧
    ∀ (ys : List Int) (p : Addr), ys.Perm ks → ys.Pairwise (· ≤ ·) → H p = none → Q (.ref p) (upd H p (.lst (ys.map V.int)))
theorem cr_sortDI {X : Cx} (hc : X.calm = true) : CallR X (.builtin "sorted") rSortDI := call_sortedDI hc
def sortDP (ρ : Env) (xs : List D) (k : D → Prop) : Prop := match xs with
  | [.own j] => match ρ[j]? with
    | some (some (.dct ks _)) => ks.length < 64 ∧ ∀ ys : List Int, ys.Perm ks → ys.Pairwise (· ≤ ·) → k (.lst (ys.map D.int))
    | _ => False
  | _ => False
theorem kz_keys : ∀ {ks : List Int} {vs : List V}, ks.length = vs.length → (kz ks vs).map (·.1) = ks.map Sum.inl
  | [], [], _ => rfl
  | k :: ks, v :: vs, h => by
    show Sum.inl k :: (kz ks vs).map _ = _
    rw [kz_keys (by simpa using h)]
    rfl
theorem sr_sortDI : SRL c rSortDI sortDP := fun t σ H ρ xs ds P Q h r q k => by
  cases r with
  | nil => exact False.elim q
  | cons rx rr => cases rr with
    | cons _ _ =>
      unfold sortDP at q
      split at q
      · rename_i e; cases e
      · exact q.elim
    | nil =>
      rename_i d v
      cases d with
      | own j =>
        have q : (match ρ[j]? with
          | some (some (.dct ks _)) => ks.length < 64 ∧ ∀ ys : List Int, ys.Perm ks → ys.Pairwise (· ≤ ·) → P (.lst (ys.map D.int))
          | _ => False) := q
        split at q
        · rename_i ks ds e
          rcases rx with rx | ⟨i, ei, hi, hs⟩
          · cases rx
          · cases ei
            obtain ⟨l, vs, s1, h2, hl, rr⟩ := own_dct h hi e
            rw [hs] at s1; cases s1
            refine ⟨l, _, ks, rfl, .inl h2, kz_keys hl, q.1, fun ys p hp hs hn => ?_⟩
            exact k _ _ _ (h.new hn) (.lst (h.far hn) upd_same (RpL.of_ints ys)) (q.2 ys hp hs)
        · exact q.elim
      | _ => exact q.elim
theorem idx_le : ∀ (ns : List Int) (m : Nat) (y : Int) (hl : m < ns.length), ns[m] = y → ns.idxOf y ≤ m
  | x :: ns, 0, y, _, e => by
    have : x = y := e
    subst this
    simp [List.idxOf_cons]
  | x :: ns, m + 1, y, hl, e => by
    have := idx_le ns m y (by simpa using hl) e
    rw [List.idxOf_cons]
    cases x == y
    · simp; omega
    · simp
/-- xs.index(e) of a list of integers -/
def dIdx (a b : DE) : DE := fun ρ P => a ρ fun x ρ1 => match x with
  | .lst xs => b ρ1 fun z ρ2 => match z with
    | .int i => ∃ ns : List Int, xs = ns.map D.int ∧ i ∈ ns ∧ P (.int (ns.idxOf i : Nat)) ρ2
    | _ => False
  | _ => False
theorem pe_idxK {X : Cx} {K : PySem.W.Frag} {o e : Expr} {to te : TE} {apos cpos : Pos} (h : X.K = K) (ho : PE X o to) (he : PE X e te) (hbase : attributeBase o "index" X.env (eval o X.env) = eval o X.env := by rfl)
    (hfew : ((backTo cpos (starEach [e] X.env)).all (fun x => !x.1) && (backToKw cpos (keywordEach [] X.env)).all (fun x => x.1.isSome)
      && decide (([e] : List Expr).length + ([] : List Keyword).length + (if ([] : List Keyword).isEmpty then 0 else 1) < 30)) = true := by rfl)
    (hline : (apos.endLine == cpos.line) = true := by rfl) (hs : starEach [e] X.env = (false, eval e X.env) :: starEach [] X.env := by rfl) (hplain : (backTo cpos (starEach [] X.env)).any (·.1) = false := by rfl) :
    PE X (.Call (.Attribute o "index" apos) [e] [] cpos) (tBM K "list" (rIndex K) to (tCons te tNil)) := by
  subst h
  exact pe_bm PySem.F.plainAttrs_list PySem.F.slot_list_index PySem.F.type_list_index mt_index ho (pa_cons he pa_nil hs) hbase hfew hline hs hplain
theorem sv_idx (ha : SV c ta da) (hb : SV c tb db) : SV c (tBM c.K "list" (rIndex c.K) ta (tCons tb tNil)) (dIdx da db) := fun t σ H ρ P Q h q k => by
  refine ha t σ H ρ _ _ h q fun v d H1 ρ1 h1 r1 q1 => ?_
  cases d with
  | lst xs =>
    obtain ⟨a, vs, rfl, na, hs, rs⟩ := r1.seqL
    obtain ⟨t', et, h1', back⟩ := h1.push (.inl r1)
    refine ⟨.inl ⟨rfl, vs, .of hs⟩, hb t' σ H1 ρ1 _ _ h1' q1 fun w z H2 ρ2 h2 r2 q2 => ?_⟩
    obtain ⟨h3, r3⟩ := back H2 ρ2 h2
    have r3 : Rp c.K (Far c t σ) H2 (.lst xs) (.ref a) := by
      rcases r3 with r3 | ⟨i, e, _⟩
      · exact r3
      · cases e
    obtain ⟨a', vs', e', _, hs', rs'⟩ := r3.seqL
    cases e'
    cases z with
    | int i =>
      cases r2
      obtain ⟨ns, rfl, hi, q2⟩ := q2
      have ev := rs'.ints
      subst ev
      have hlt : ns.idxOf i < ns.length := List.idxOf_lt_length_of_mem hi
      refine ⟨a, _, .int i, ns.idxOf i, .int i, rfl, rfl, .of hs', rfl, ?_, ?_, ?_, ?_, k _ _ H2 ρ2 h3 (.int _) q2⟩
      · rw [List.all_eq_true]
        intro x hx
        obtain ⟨y, _, rfl⟩ := List.mem_map.mp hx
        rfl
      · rw [List.getElem?_map, List.getElem?_eq_getElem hlt, List.getElem_idxOf]; rfl
      · simp [eqV]
      · intro m z' hm hz
        rw [List.getElem?_map] at hz
        obtain ⟨y, hy, rfl⟩ := Option.map_eq_some_iff.mp hz
        have hne : y ≠ i := fun z => by
          subst z
          have h1 := (List.getElem?_eq_some_iff.mp hy)
          have h2 : ns.idxOf y ≤ m := by
            obtain ⟨hl, e⟩ := h1
            have := idx_le ns m y hl e
            exact this
          omega
        simp [eqV, hne]
    | _ => exact q2.elim
  | _ => exact q1.elim
end
end PD

end
section
set_option Elab.async false
set_option linter.all false
set_option maxRecDepth 100000
/-! sorted(set(xs)) of a list of integers -/
namespace PD
open PySem PySem.Spec PyProof.Rows L2 RZ
abbrev bareSet (w : World) : Obj := { cls := .type "set", dict := none, data := .set #[] 0 (.fresh 0 0 (!w.params.followText "set-order")) }
/-- at a: a set of the first i of some values -/
def Got (w : World) (h : Heap) (a : Addr) (val : Nat → Int) (i : Nat) : Prop := ∃ M c, SetR w h a M c ∧ c ≤ i ∧ ∀ x, M x = true ↔ ∃ j, j < i ∧ val j = x
theorem Got.keep {w : World} {h h' : Heap} {a : Addr} {val : Nat → Int} {i : Nat} (g : Got w h a val i) (k : ∀ o, h.get? a = some o → h'.get? a = some o) : Got w h' a val i :=
  let ⟨M, c, r, z⟩ := g; ⟨M, c, r.at k, z⟩
theorem got_new {h : Heap} (w : World) (val : Nat → Int) : Got w (h.push (bareSet w)) h.objs.size val 0 := ⟨_, 0, setR_fresh w, Nat.le_refl 0, fun x => by simp⟩
theorem Got.more {w : World} {h : Heap} {a : Addr} {val : Nat → Int} {i : Nat} {M : Int → Bool} {c : Nat} (hc : c ≤ i) (hm : ∀ x, M x = true ↔ ∃ j, j < i ∧ val j = x)
    (r : SetR w h a (fun j => M j || decide (j = val i)) (if M (val i) = true then c else c + 1)) : Got w h a val (i + 1) := by
  refine ⟨_, _, r, by split <;> omega, fun x => ?_⟩
  rw [Bool.or_eq_true, hm x, decide_eq_true_iff]
  constructor
  · rintro (⟨j, h1, h2⟩ | h)
    · exact ⟨j, by omega, h2⟩
    · exact ⟨i, by omega, h.symm⟩
  · rintro ⟨j, h1, h2⟩
    by_cases e : j = i
    · subst e; exact .inr h2.symm
    · exact .inl ⟨j, by omega, h2⟩
section
variable {prog : Program} {w : World} {A : Around} {R : Result → Shared → Prop} {I : Addr} {fp wr : List Addr} {G : Array GenState → Array GenState → Prop} {n : Nat} {P : Nat → Value → Prop} {St : Nat → Shared → Prop}
theorem fill_loop (W : WalksS prog w A.in1 I fp wr G n P St) {a : Addr} (ha : a ∉ fp) {val : Nat → Int} (hval : ∀ i v, P i v → ∃ t, v = .int (val i) t) (room : n + 1 < scanBound) :
    ∀ (m i : Nat) (s : Shared), n - i = m → i ≤ n → St i s → Got w s.heap a val i → (∀ z, Moved (a :: wr) G s z → Got w z.heap a val n → R (.ok (.ret .none)) z) →
      codeAny (model prog w) A (.builtin "set.update.loop" ⟨[.ref a, .ref I], []⟩) R s := by
  have aw : a ∉ wr := fun z => ha (W.sub _ z)
  have up : ∀ b ∈ wr, b ∈ a :: wr := fun _ z => .tail _ z
  intro m
  induction m with
  | zero =>
    intro i s em le st g fin
    have ei : i = n := by omega
    subst ei
    refine codeAny_builtin PyProof.Rows.F.entry_set_update_loop ?_
    rw [Around.under_plainId PyProof.Rows.F.plain_set_update_loop _]
    show wpAny _ A.in1 (pyNext (.ref I) >>= _) _ _ s
    refine wpAny_bind (W.done s _ _ st fun z mv => ?_)
    show wpAny _ A.in1 (ret Value.none) _ _ z
    exact wpAny_pure (fin z (mv.mono up) (g.keep fun o e => mv.heap a o aw e))
  | succ m ih =>
    intro i s em le st g fin
    have lt : i < n := by omega
    refine codeAny_builtin PyProof.Rows.F.entry_set_update_loop ?_
    rw [Around.under_plainId PyProof.Rows.F.plain_set_update_loop _]
    show wpAny _ A.in1 (pyNext (.ref I) >>= _) _ _ s
    refine wpAny_bind (W.item i s _ _ lt st fun v z hv st' mv => ?_)
    obtain ⟨t, rfl⟩ := hval i v hv
    obtain ⟨M, c, r, hc, hm⟩ := g.keep fun o e => mv.heap a o aw e
    show wpAny _ A.in1 (holding [Value.int (val i) t] (setAdd a (.int (val i) t)) >>= _) _ _ z
    refine wpAny_bind (wpAny_holding ?_)
    unfold setAdd
    refine wpAny_holding (wpAny_bind ((intKind prog w).pyHash (k := val i) (intKind_is _ _ _ _) ?_))
    refine setR_add_hashed (P := prog) (s := { z with toks := z.toks + 1 }) r (by omega) fun h' sb r' => ?_
    refine wpAny_pure ⟨plainId_quiet PyProof.Rows.F.plain_set_update_loop _, ih (i + 1) _ (by omega) lt (W.frame _ z _ _ st' (Nat.le_succ _) fun b hb o e => ?_) (Got.more hc hm r') fun y mv' g' => ?_⟩
    · rw [sb.2 b fun q => ha (q ▸ hb)]; exact e
    · refine fin y (Moved.trans W.gtrans ((mv.mono up).then_heap (Nat.le_succ _) fun b o hb e => ?_) mv') g'
      rw [sb.2 b fun q => hb (q ▸ List.mem_cons_self)]; exact e
end
section
variable {prog : Program} {w : World} {A : Around} {E : Value → Shared → Prop} {s : Shared}
theorem code_bare (a : Value) {Q : Value → Shared → Prop} (h : Q (.ref s.heap.objs.size) { s with heap := s.heap.push (bareSet w) }) :
    codeAny (model prog w) A (.call (.builtin "set.__new__") ⟨[.type "set", a], []⟩) (wants Q E) s := by
  refine codeAny_of_tree ?_
  show wpAny _ A.in1 (do checkBuiltinCall "set.__new__" ⟨[.type "set", a], []⟩; again (.builtin "set.__new__" ⟨[.type "set", a], []⟩)) _ _ s
  refine wpAny_bind (wpAny_of_eq (PySem.F.newCall_set_1 a) (wpAny_pure ⟨plainId_quiet PySem.F.plain_set_new _, codeAny_builtin PySem.F.entry_set_new ?_⟩))
  rw [Around.under_plainId PySem.F.plain_set_new _]
  unfold Builtin.«set.__new__» Builtin.Frozenset.newClass
  have hsub := PySem.sub_set_self
  obtain ⟨hp, g, d, tk, os⟩ := s
  dsimp only
  wp_walk
  refine wpAny_askSetting (wpAny_pure ?_)
  dsimp only
  simp only [newObj]
  exact wpAny_bind (wpAny_alloc (wpAny_pure (wpAny_pure h)))
set_option maxHeartbeats 3200000 in
theorem call_setR {l : Addr} {xs : Array Value} {ns : List Int} {Q : Value → Shared → Prop} (hh : A.handled = none) (isL : s.heap.IsList l xs) (isI : IntsAre xs.toList ns) (room : xs.size + 1 < scanBound)
    (h : ∀ (h' : Heap) (tk : Nat), Got w h' s.heap.objs.size (fun i => ns.getD i 0) xs.size → (∀ b o, b < s.heap.objs.size → s.heap.get? b = some o → h'.get? b = some o) → Q (.ref s.heap.objs.size) { s with heap := h', toks := tk }) :
    wpAny (model prog w) A (call (.type "set") [.ref l]) Q E s := by
  obtain ⟨c, tl, hmro⟩ := PySem.F.called_set.mro
  have hmade := PySem.F.called_set.made
  have hsub := PySem.F.called_set.sub
  refine wpAny_call (codeAny_of_tree ?_)
  show wpAny _ _ (callAny (.type "set") _) _ _ _
  refine wpAny_pure ⟨Code.quiet_builtin _ (by decide +kernel), codeAny_builtin PySem.F.entry_type_call ?_⟩
  rw [Around.under_plain (weight_type_call_type "set" [.ref l] []) rfl]
  have h1 := PySem.F.called_set.notType
  have h2 := PySem.F.called_set.canCreate
  have hct := PySem.F.typeCall_set_1 (.ref l)
  repeat (any_goals (first | assumption | wp_step))
  refine codeAny_mono (code_bare (E := E) (Q := fun obj s₁ => obj = .ref s.heap.objs.size ∧ s₁ = { s with heap := s.heap.push (bareSet w) }) (.ref l) ⟨rfl, rfl⟩) fun r s₁ hr => ?_
  match r, hr with
  | .error e, hr => exact hr
  | .ok .next, hr => exact hr.elim
  | .ok .brk, hr => exact hr.elim
  | .ok .cont, hr => exact hr.elim
  | .ok (.ret obj), hr =>
    obtain ⟨rfl, rfl⟩ := hr
    have atS : (s.heap.push (bareSet w)).get? s.heap.objs.size = some (bareSet w) := Heap.get?_push_size _ rfl
    have hT : Shared.TypeIs { s with heap := s.heap.push (bareSet w) } (.ref s.heap.objs.size) "set" := ⟨_, atS, rfl⟩
    have hli := PySem.F.called_set.init.lookup
    have hbi := PySem.F.called_set.init.bind (.ref s.heap.objs.size)
    repeat (any_goals (first | assumption | wp_step))
    refine codeAny_mono (codeAny_call_builtin (R := wants (fun r s₂ => r = .none ∧ ∃ h' tk, s₂ = { s with heap := h', toks := tk } ∧ Got w h' s.heap.objs.size (fun i => ns.getD i 0) xs.size ∧
        (∀ b o, b < s.heap.objs.size → s.heap.get? b = some o → h'.get? b = some o)) E) PySem.F.called_set.init.plain PySem.F.entry_set_init (PySem.check_set_init_1 hT ?_)) fun r₂ s₂ hr₂ => ?_
    · obtain ⟨⟨k1, k2, k3, k4⟩, inl, e1, nl, e3⟩ := isL
      dsimp only at e1 e3
      subst e1 e3
      have inl' : (s.heap.push (bareSet w)).get? l = some { cls := .type "list", dict := k2, data := .seq xs nl, slots := k4 } := Heap.get?_push_of_some _ inl
      have q1 := PySem.F.sub_list_set
      have q2 := PySem.F.sub_list_frozenset
      have q3 : (Value.type "list" == Value.type "dict") = false := by decide
      have lst : (s.heap.push (bareSet w)).IsList l xs := ⟨_, inl', rfl, nl, rfl⟩
      unfold Builtin.«set.__init__» noKeywords Builtin.Frozenset.updateFrom
      generalize hPI : pyIter = PI
      wp_walk
      subst hPI
      refine wpAny_pyIter_list lst ?_
      refine wpAny_bind (wpAny_runValue ?_)
      have ll : l < s.heap.objs.size := Heap.lt_size inl
      have far : l ≠ (s.heap.push (bareSet w)).objs.size := by rw [Heap.size_push]; exact Nat.ne_of_lt (Nat.lt_succ_of_lt ll)
      have off : s.heap.objs.size ∉ [(s.heap.push (bareSet w)).objs.size, l] := fun z => by
        rw [Heap.size_push] at z
        rcases List.mem_cons.mp z with z | z
        · exact Nat.ne_of_lt (Nat.lt_succ_self _) z
        · exact Nat.ne_of_gt ll (List.mem_singleton.mp z)
      refine fill_loop ((Walks.list (by simp [hh]) _ l far xs).toS) off (val := fun i => ns.getD i 0) (fun i v hv => IntsAre.int_at isI i v (by rw [Array.getElem?_toList]; exact hv)) room (xs.size - 0) 0 _ (by omega) (Nat.zero_le _)
        ⟨⟨_, Heap.get?_push_size _ rfl, rfl, rfl⟩, (lst.push _)⟩ ((got_new w _).keep fun o e => Heap.get?_push_of_some _ e) fun z mv g => ?_
      obtain ⟨zh, zg, zd, zt, zo⟩ := z
      have z1 : zg = s.gens := mv.gens
      have z2 : zd = s.drawn := mv.drawn
      have z3 : zo = s.os := mv.os
      subst z1 z2 z3
      show wpAny _ _ _ _ _ _
      refine wpAny_pure ?_
      show wpAny _ _ (ret Value.none) _ _ _
      refine wpAny_pure ⟨rfl, zh, zt, rfl, g, fun b o hb e => ?_⟩
      refine mv.heap b o (fun z => ?_) (Heap.get?_push_of_some _ (Heap.get?_push_of_some _ e))
      rcases List.mem_cons.mp z with z | z
      · exact Nat.ne_of_lt hb z
      · have := List.mem_singleton.mp z
        rw [Heap.size_push] at this
        exact Nat.ne_of_lt (Nat.lt_succ_of_lt hb) this
    · match r₂, hr₂ with
      | .error e, hr₂ => exact hr₂
      | .ok .next, hr₂ => exact hr₂.elim
      | .ok .brk, hr₂ => exact hr₂.elim
      | .ok .cont, hr₂ => exact hr₂.elim
      | .ok (.ret r), hr₂ =>
        obtain ⟨rfl, h', tk, rfl, g, k⟩ := hr₂
        repeat (any_goals (first | assumption | wp_step))
        exact h _ _ g k
end
theorem hu65 {k : Nat} {A : Around} (hr : Room k A) : A.units + 1 < cLine := by have := hr.un; omega
/-! ### sorted(set(a)) -/
theorem got_sorted {w : World} {h : Heap} {a : Addr} {ns : List Int} {n : Nat} (g : Got w h a (fun i => ns.getD i 0) n) (e : n = ns.length) : ∃ M c, SetR w h a M c ∧ c ≤ ns.length ∧ ∀ x, M x = true ↔ x ∈ ns := by
  obtain ⟨M, c, r, hc, hm⟩ := g
  refine ⟨M, c, r, by omega, fun x => ?_⟩
  rw [hm x]
  constructor
  · rintro ⟨j, hj, rfl⟩
    have hj : j < ns.length := by omega
    show ns.getD j 0 ∈ ns
    rw [List.getD_eq_getElem?_getD, List.getElem?_eq_getElem hj]
    exact List.getElem_mem hj
  · intro hx
    obtain ⟨j, hj, rfl⟩ := List.mem_iff_getElem.mp hx
    refine ⟨j, by omega, ?_⟩
    show ns.getD j 0 = ns[j]
    rw [List.getD_eq_getElem?_getD, List.getElem?_eq_getElem hj]; rfl
section
variable {X : Cx}
/-- all that strictly ascends and has the members of a list -/
def tSorts (K : PySem.W.Frag) (ta : TE) : TE := fun σ H Q => ta σ H fun x H1 => ∃ (l : Addr) (ns : List Int), x = V.ref l ∧ SqL K H1 l (ns.map V.int) ∧ ns.length < 60 ∧ ∀ (ys : List Int) (S p : Addr) (u : HO), ys.Pairwise (· < ·) → (∀ y, y ∈ ys ↔ y ∈ ns) → H1 S = none → upd H1 S u p = none → Q (.ref p) (upd (upd H1 S u) p (.lst (ys.map V.int)))
theorem pe_sorts {a : Expr} {ta : TE} {p p2 q pos : Pos} (hc : X.calm = true) (hg : Gl X "sorted") (hm : X.mg "sorted" = none) (hg2 : Gl X "set") (hm2 : X.mg "set" = none) (ha : PE X a ta)
    (na : starEach [a] X.env = (false, eval a X.env) :: starEach [] X.env := by rfl) : PE X (.Call (.Name "sorted" p) [.Call (.Name "set" p2) [a] [] q] [] pos) (tSorts X.K ta) := by
  refine ⟨fun pins s σ H Q I h => ?_⟩
  refine Call_ (ld_blt I hg hm bt_sorted ?_)
  refine PyProof.Rows.callWith_builtin1 (PyProof.Rows.args_cons ?_ rfl) rfl rfl
  refine Call_ (ld_blt I hg2 hm2 PyProof.Rows.boot_set ?_)
  refine PyProof.Rows.callWith_type1 (PyProof.Rows.args_cons (thn (ha.run pins s σ H _ I h) fun v s1 ⟨x, H1, I1, r1, q1⟩ => PyProof.Rows.args_nil ?_) na) na rfl
  obtain ⟨l, ns, rfl, hq, h1, q1⟩ := q1
  cases r1
  obtain ⟨its, r, pl, hz⟩ := I1.list hq
  have hl : its.toArray.size = ns.length := by rw [List.size_toArray, ← r.length, List.length_map]
  refine call_setR (I1.ok.hd hc) pl.isList (ns := ns) (by simpa using r.ints) (by rw [hl]; unfold scanBound; omega) fun h' tk g hk => ?_
  obtain ⟨M, c, R, hcn, hM⟩ := got_sorted g hl
  have hn : H1 s1.heap.objs.size = none := I1.hok.fresh (Nat.le_refl _)
  have I2 : Inv X pins σ (upd H1 s1.heap.objs.size (SetO X.w s1.heap.objs.size M c)) { s1 with heap := h', toks := tk } := I1.laid (fun b o e => hk b o (Heap.lt_size e) e) (Nat.le_refl _) (setO_new R)
  refine PyProof.Rows.args_nil ?_
  refine cr_sortedSet hc pins _ σ _ [V.ref s1.heap.objs.size] [Value.ref s1.heap.objs.size] Q I2 (.cons rfl .nil) ⟨_, M, c, rfl, upd_same, by omega, fun ys p hs hm _ hp => ?_⟩
  exact q1 ys _ p _ hs (fun y => (hm y).trans (hM y)) hn hp
end
def dSorts (a : DE) : DE := fun ρ P => a ρ fun d ρ1 => match d with
  | .lst xs => ∃ ns : List Int, xs = ns.map D.int ∧ ns.length < 60 ∧ ∀ ys : List Int, ys.Pairwise (· < ·) → (∀ y, y ∈ ys ↔ y ∈ ns) → P (.lst (ys.map D.int)) ρ1
  | _ => False
theorem sv_sorts {c : C0} {ta : TE} {da : DE} (ha : SV c ta da) : SV c (tSorts c.K ta) (dSorts da) := fun t σ H ρ P Q h q k => by
  refine ha t σ H ρ _ _ h q fun v d H1 ρ1 h1 r1 q1 => ?_
  cases d with
  | lst xs =>
    obtain ⟨a, vs, rfl, _, hs, rs⟩ := r1.seqL
    obtain ⟨ns, rfl, hl, q1⟩ := q1
    have ev := rs.ints
    subst ev
    refine ⟨a, ns, rfl, .of hs, hl, fun ys S p u h2 h3 hS hp => ?_⟩
    have h4 : EnvOk c t σ (upd H1 S u) ρ1 := h1.new hS
    exact k _ _ _ ρ1 (h4.new hp) (.lst (h4.far hp) upd_same (RpL.of_ints ys)) (q1 ys h2 h3)
  | _ => exact q1.elim
end PD

end
section
set_option Elab.async false
set_option linter.all false
set_option maxRecDepth 100000
/-! readings over data, evaluated -/
namespace PD
open PySem PySem.Spec PyProof.Rows L2 RZ
section
variable {ρ : Env} {P : D → Env → Prop} {De : DEnds} {d : D} {a b e : DE}
@[simp] theorem dC_e : dC d ρ P = P d ρ := rfl
@[simp] theorem dVar_e {i : Nat} : dVar i ρ P = match ρ[i]? with | some (some d) => P d ρ | _ => False := rfl
@[simp] theorem dOwn_e {i : Nat} : dOwn i ρ P = match ρ[i]? with | some (some _) => P (.own i) ρ | _ => False := rfl
@[simp] theorem dOp_e {f : Env → D → D → (D → Prop) → Prop} : dOp f a b ρ P = a ρ fun x ρ1 => b ρ1 fun y ρ2 => f ρ2 x y fun z => P z ρ2 := rfl
@[simp] theorem dUn_e {f : Env → D → (D → Prop) → Prop} : dUn f a ρ P = a ρ fun x ρ1 => f ρ1 x fun z => P z ρ1 := rfl
@[simp] theorem dNil_e {Q : List D → Env → Prop} : dNil ρ Q = Q [] ρ := rfl
@[simp] theorem dCons_e {r : DA} {Q : List D → Env → Prop} : dCons a r ρ Q = a ρ fun d ρ1 => r ρ1 fun ds ρ2 => Q (d :: ds) ρ2 := rfl
@[simp] theorem dTup_e {r : DA} : dTup r ρ P = r ρ fun ds ρ1 => P (.tup ds) ρ1 := rfl
@[simp] theorem dLst_e {r : DA} : dLst r ρ P = r ρ fun ds ρ1 => P (.lst ds) ρ1 := rfl
@[simp] theorem dCB_e {f : Env → List D → (D → Prop) → Prop} {r : DA} : dCB f r ρ P = r ρ fun ds ρ1 => f ρ1 ds fun z => P z ρ1 := rfl
@[simp] theorem dCall_e {F : FP} {W : Ex → Prop} {r : DA} : dCall F W r ρ P = r ρ fun ds ρ1 => F ds (fun d => P d ρ1) W := rfl
@[simp] theorem dCallB_e {F : FB} {W : Ex → Prop} {j : Nat} {r : DA} : dCallB F W j r ρ P = match ρ[j]? with
  | some (some _) => r ρ fun ds ρ1 => match ρ1[j]? with
    | some (some bx) => F (bx :: ds) (fun d bx' => P d (ρ1.set j (some bx'))) W
    | _ => False
  | _ => False := rfl
@[simp] theorem dSeq_e {s t : DS} : dSeq s t De ρ = s { De with nx := fun ρ1 => t De ρ1 } ρ := rfl
@[simp] theorem dNext_e : dNext De ρ = De.nx ρ := rfl
@[simp] theorem dBreak_e : dBreak De ρ = De.bk ρ := rfl
@[simp] theorem dCont_e : dCont De ρ = De.ct ρ := rfl
@[simp] theorem dDrop_e : dDrop a De ρ = a ρ fun _ ρ1 => De.nx ρ1 := rfl
@[simp] theorem dRet_e : dRet a De ρ = a ρ De.rt := rfl
@[simp] theorem dRetN_e : dRetN De ρ = De.rt .non ρ := rfl
@[simp] theorem dIfS_e {t : DT} {s u : DS} : dIfS t s u De ρ = t ρ fun k ρ1 => sel k (s De ρ1) (u De ρ1) := rfl
@[simp] theorem dSet_e {i : Nat} : dSet i a De ρ = a ρ fun d ρ1 => De.nx (ρ1.set i (some d)) := rfl
@[simp] theorem dSetO_e {i : Nat} : dSetO i a De ρ = a ρ fun d ρ1 => i < ρ1.length ∧ De.nx (ρ1.set i (some d)) := rfl
@[simp] theorem dAug_e {i : Nat} {f : Int → Int → Int} : dAug i f a De ρ = match ρ[i]? with
  | some (some (.int x)) => a ρ fun d ρ1 => match d with
    | .int y => De.nx (ρ1.set i (some (.int (f x y))))
    | _ => False
  | _ => False := rfl
@[simp] theorem dRaise_e {W : Ex → Prop} {x : Ex} : dRaise W x De ρ = W x := rfl
@[simp] theorem dAsg_e {g : DG} : dAsg a g De ρ = a ρ fun d ρ1 => g d ρ1 De.nx := rfl
@[simp] theorem dPar_e {i j : Nat} {r : DA} : dPar i j r De ρ = r ρ fun ds ρ1 => match ds with
  | [d, e] => De.nx ((ρ1.set i (some d)).set j (some e))
  | _ => False := rfl
@[simp] theorem dPar3_e {i j l : Nat} {r : DA} : dPar3 i j l r De ρ = r ρ fun ds ρ1 => match ds with
  | [d, e, f] => De.nx (((ρ1.set i (some d)).set j (some e)).set l (some f))
  | _ => False := rfl
@[simp] theorem dPar_vvo_e {i j l : Nat} : dPar_vvo i j l a b De ρ = a ρ fun d ρ1 => b ρ1 fun e ρ2 => l < ρ2.length ∧ De.nx (((ρ2.set i (some d)).set j (some e)).set l (some (.lst []))) := rfl
@[simp] theorem dgName_e {i : Nat} {Q : Env → Prop} : dgName i d ρ Q = Q (ρ.set i (some d)) := rfl
@[simp] theorem dgTup_e {n : Nat} {g : DGs} {xs : List D} {Q : Env → Prop} : dgTup n g (.tup xs) ρ Q = (xs.length = n ∧ g xs ρ Q) := rfl
@[simp] theorem dgCons_e {g : DG} {r : DGs} {x : D} {xs : List D} {Q : Env → Prop} : dgCons g r (x :: xs) ρ Q = g x ρ fun ρ1 => r xs ρ1 Q := rfl
@[simp] theorem dgNil_e {Q : Env → Prop} : dgNil [] ρ Q = Q ρ := rfl
@[simp] theorem dTest_e {Q : Bool → Env → Prop} : dTest a ρ Q = a ρ fun d ρ1 => match d with | .bl b => Q b ρ1 | _ => False := rfl
@[simp] theorem dAnd_e {t u : DT} {Q : Bool → Env → Prop} : dAnd t u ρ Q = t ρ fun k ρ1 => sel k (u ρ1 Q) (Q false ρ1) := rfl
@[simp] theorem dOr_e {t u : DT} {Q : Bool → Env → Prop} : dOr t u ρ Q = t ρ fun k ρ1 => sel k (Q true ρ1) (u ρ1 Q) := rfl
@[simp] theorem dNot_e {t : DT} {Q : Bool → Env → Prop} : dNot t ρ Q = t ρ fun k ρ1 => Q (!k) ρ1 := rfl
@[simp] theorem dYes_e {Q : Bool → Env → Prop} : dYes ρ Q = Q true ρ := rfl
@[simp] theorem dIf_e {t : DT} : dIf t a b ρ P = t ρ fun k ρ1 => sel k (a ρ1 P) (b ρ1 P) := rfl
@[simp] theorem dAndV_e : dAndV a b ρ P = a ρ fun d ρ1 => match d with | .bl k => sel k (b ρ1 P) (P (.bl false) ρ1) | _ => False := rfl
@[simp] theorem dOrV_e : dOrV a b ρ P = a ρ fun d ρ1 => match d with | .bl k => sel k (P (.bl true) ρ1) (b ρ1 P) | _ => False := rfl
@[simp] theorem dNotV_e : dNotV a ρ P = a ρ fun d ρ1 => match d with | .bl k => P (.bl (!k)) ρ1 | _ => False := rfl
@[simp] theorem dIsi_e {p : D → Bool} : dIsi p a ρ P = a ρ fun d ρ1 => (tyD d).isSome = true ∧ P (.bl (p d)) ρ1 := rfl
@[simp] theorem dBits_e : dBits a ρ P = a ρ fun d ρ1 => match d with | .int i => P (.int (Builtin.Int.intBits i : Nat)) ρ1 | _ => False := rfl
@[simp] theorem dTuple_e : dTuple a ρ P = a ρ fun d ρ1 => tupleP ρ1 d fun z => P z ρ1 := rfl
@[simp] theorem dSeqI_e {Q : List D → Env → Prop} : dSeqI a ρ Q = a ρ fun d ρ1 => match d with
  | .lst xs => Q xs ρ1
  | .tup xs => Q xs ρ1
  | .scr ns => Q (ns.map D.int) ρ1
  | _ => False := rfl
@[simp] theorem sel_t {p q : Prop} : sel true p q = p := rfl
@[simp] theorem sel_f {p q : Prop} : sel false p q = q := rfl
@[simp] theorem i2_e {C : Int → Int → Prop} {g : Int → Int → D} {i j : Int} {k : D → Prop} : i2 C g ρ (.int i) (.int j) k = (C i j ∧ k (g i j)) := rfl
@[simp] theorem i2'_e {g : Int → Int → D} {i j : Int} {k : D → Prop} : i2' g ρ (.int i) (.int j) k = k (g i j) := rfl
@[simp] theorem u1_e {g : Int → D} {i : Int} {k : D → Prop} : u1 g ρ (.int i) k = k (g i) := rfl
@[simp] theorem eqP_int {i j : Int} {k : D → Prop} : eqP ρ (.int i) (.int j) k = k (.bl (decide (i = j))) := by
  unfold eqP deref
  simp only [okN, true_and, eqD_int]
@[simp] theorem neP_int {i j : Int} {k : D → Prop} : neP ρ (.int i) (.int j) k = k (.bl (!decide (i = j))) := by
  unfold neP deref
  simp only [okN, true_and, eqD_int]
end
end PD
namespace PD
open PySem PySem.Spec PyProof.Rows L2 RZ
section
variable {ρ : Env} {k : D → Prop} {P : D → Env → Prop} {a b e : DE}
@[simp] theorem addP_int {i j : Int} : addP ρ (.int i) (.int j) k = k (.int (i + j)) := rfl
@[simp] theorem addP_tup {i j : List D} : addP ρ (.tup i) (.tup j) k = (i.length + j.length ≤ sizeLine ∧ k (.tup (i ++ j))) := rfl
@[simp] theorem addP_lst {i j : List D} : addP ρ (.lst i) (.lst j) k = (i.length + j.length ≤ sizeLine ∧ k (.lst (i ++ j))) := rfl
@[simp] theorem dChain_e {f f' : Env → D → D → (D → Prop) → Prop} : dChain f f' a b e ρ P = a ρ fun x ρ1 => b ρ1 fun y ρ2 => f ρ2 x y fun z => match z with
  | .bl k => sel k (e ρ2 fun w ρ3 => f' ρ3 y w fun z => P z ρ3) (P (.bl false) ρ2)
  | _ => False := rfl
@[simp] theorem lenP_lst {xs : List D} : lenP ρ [.lst xs] k = k (.int xs.length) := rfl
@[simp] theorem lenP_tup {xs : List D} : lenP ρ [.tup xs] k = k (.int xs.length) := rfl
@[simp] theorem lenP_scr {ns : List Int} : lenP ρ [.scr ns] k = k (.int (ns.map D.int).length) := rfl
@[simp] theorem absP_int {i : Int} : absP ρ [.int i] k = k (.int i.natAbs) := rfl
@[simp] theorem intP_int {i : Int} : intP ρ [.int i] k = k (.int i) := rfl
@[simp] theorem isN_P {x : D} : isNP false ρ x .non k = k (.bl (isN x)) := rfl
@[simp] theorem notN_P {x : D} : isNP true ρ x .non k = k (.bl (!isN x)) := rfl
@[simp] theorem isB2_P {x : D} {b : Bool} : isB2P ρ x (.bl b) k = k (.bl (isB b x)) := rfl
@[simp] theorem tuple_lst {xs : List D} : tupleP ρ (.lst xs) k = k (.tup xs) := rfl
@[simp] theorem retD_int {i : Int} : retD ρ (.int i) = .int i := rfl
@[simp] theorem retD_bl {i : Bool} : retD ρ (.bl i) = .bl i := rfl
@[simp] theorem retD_non : retD ρ .non = .non := rfl
@[simp] theorem retD_str {i : Str} : retD ρ (.str i) = .str i := rfl
@[simp] theorem retD_tup {i : List D} : retD ρ (.tup i) = .tup i := rfl
@[simp] theorem retD_lst {i : List D} : retD ρ (.lst i) = .lst i := rfl
theorem sel_imp {c : Bool} {p q : Prop} (h1 : c = true → p) (h2 : c = false → q) : sel c p q := sel_of h1 h2
end
/-- how much of what is passed is there -/
theorem args1 {args : List D} (h : args.length = 1) : ∃ a, args = [a] := by
  match args, h with
  | [a], _ => exact ⟨a, rfl⟩
end PD
namespace PD
open PySem L2
section
variable {ρ : Env} {k : D → Prop}
theorem atI_nat {α : Type} {xs : List α} {j : Nat} {z : α} (h : xs[j]? = some z) : atI xs (j : Int) = some z := by
  have hl := (List.getElem?_eq_some_iff.mp h).1
  unfold atI ixN
  simp [hl]
  exact (List.getElem?_eq_some_iff.mp h).2
theorem ixP_tup {xs : List D} {j : Nat} {z : D} (h : xs[j]? = some z) : ixP ρ (.tup xs) (.int (j : Int)) k = k z := by
  unfold ixP onS
  simp only [atI_nat h]
theorem ixP_lst {xs : List D} {j : Nat} {z : D} (h : xs[j]? = some z) : ixP ρ (.lst xs) (.int (j : Int)) k = k z := by
  unfold ixP onS
  simp only [atI_nat h]
theorem ixP_scr {ns : List Int} {j : Nat} {z : Int} (h : ns[j]? = some z) : ixP ρ (.scr ns) (.int (j : Int)) k = k (.int z) := by
  unfold ixP onS
  simp only [atI_nat (show (ns.map D.int)[j]? = some (.int z) by rw [List.getElem?_map, h]; rfl)]
@[simp] theorem ixP_t0 {x : D} {xs : List D} : ixP ρ (.tup (x :: xs)) (.int 0) k = k x := ixP_tup (j := 0) rfl
@[simp] theorem ixP_t1 {x y : D} {xs : List D} : ixP ρ (.tup (x :: y :: xs)) (.int 1) k = k y := ixP_tup (j := 1) rfl
@[simp] theorem ixP_l0 {x : D} {xs : List D} : ixP ρ (.lst (x :: xs)) (.int 0) k = k x := ixP_lst (j := 0) rfl
@[simp] theorem ixP_l1 {x y : D} {xs : List D} : ixP ρ (.lst (x :: y :: xs)) (.int 1) k = k y := ixP_lst (j := 1) rfl
end
end PD
namespace PD
open PySem L2
section
variable {ρ : Env} {De : DEnds} {a : DE}
@[simp] theorem dApp_e {i : Nat} : dApp i a De ρ = match ρ[i]? with
  | some (some (.lst xs)) => a ρ fun d ρ1 => match ρ1[i]? with
    | some (some (.lst xs)) => xs.length < sizeLine ∧ De.nx (ρ1.set i (some (.lst (xs ++ [d]))))
    | _ => False
  | _ => False := rfl
end
end PD
namespace PD
open PySem L2
theorem sel_y {b : Bool} {p q : Prop} (h : b = true) (hp : p) : sel b p q := by subst h; exact hp
theorem sel_n {b : Bool} {p q : Prop} (h : b = false) (hq : q) : sel b p q := by subst h; exact hq
theorem okNs_ints {n : Nat} : ∀ ns : List Int, okNs n (ns.map D.int) = true
  | [] => by rw [List.map_nil, okNs]
  | x :: ns => by rw [List.map_cons, okNs, okN, okNs_ints ns]; rfl
theorem toPys_ints (ns : List Int) : toPys (ns.map D.int) = ns.map PyData.int := by
  rw [toPys_map, List.map_map]
  refine List.map_congr_left fun x _ => ?_
  show toPy (.int x) = _
  rw [toPy]
theorem leD_int {a b : Int} : leD (.int a) (.int b) ↔ a ≤ b := by
  unfold leD
  rw [toPy, toPy, PySem.W.dataLt_int]
  simp
theorem sortOk_ints (ns : List Int) : SortOk (ns.map D.int) := by
  refine ⟨okNs_ints ns, ?_, ?_⟩
  · rw [toPys_ints]
    intro d hd e he
    obtain ⟨x, _, rfl⟩ := List.mem_map.mp hd
    obtain ⟨y, _, rfl⟩ := List.mem_map.mp he
    simp [PySem.W.alike]
  · rw [toPys_ints]
    refine .inr fun d hd => ?_
    obtain ⟨x, _, rfl⟩ := List.mem_map.mp hd
    exact ⟨(fun z => nomatch z), fun xs z => nomatch z⟩
theorem perm_ints {es : List D} {ns : List Int} (h : es.Perm (ns.map D.int)) : ∃ ns' : List Int, es = ns'.map D.int ∧ ns'.Perm ns := by
  let g : D → Int := fun d => match d with | .int i => i | _ => 0
  refine ⟨es.map g, ?_, ?_⟩
  · rw [List.map_map]
    have e : ∀ d ∈ es, (D.int ∘ g) d = d := fun d hd => by
      obtain ⟨x, _, rfl⟩ := List.mem_map.mp (h.mem_iff.mp hd)
      rfl
    rw [List.map_congr_left e, List.map_id']
  · have := h.map g
    rw [List.map_map] at this
    have e : g ∘ D.int = id := rfl
    rw [e, List.map_id] at this
    exact this
theorem sorted_ints {ρ : Env} {d : D} {ns : List Int} {k : D → Prop} (hd : d = .lst (ns.map D.int) ∨ d = .tup (ns.map D.int)) (h : ∀ ns' : List Int, ns'.Perm ns → ns'.Pairwise (· ≤ ·) → k (.lst (ns'.map D.int))) : sortedP ρ [d] k := by
  have key : SortOk (ns.map D.int) ∧ ∀ es : List D, es.Perm (ns.map D.int) → es.Pairwise leD → k (.lst es) := by
    refine ⟨sortOk_ints ns, fun es hp hs => ?_⟩
    obtain ⟨ns', rfl, hp'⟩ := perm_ints hp
    exact h ns' hp' ((List.pairwise_map.mp hs).imp fun {a b} z => leD_int.mp z)
  rcases hd with rfl | rfl
  · exact key
  · exact key
end PD
namespace PD
open PySem L2
section
variable {ρ : Env} {k : D → Prop}
@[simp] theorem ixP_own0 {x : D} {xs : List D} : ixP (some (.lst (x :: xs)) :: ρ) (.own 0) (.int 0) k = k x := by
  show (match atI (x :: xs) ((0 : Nat) : Int) with | some z => k z | none => False) = _
  rw [atI_nat (z := x) rfl]
@[simp] theorem ixP_own1 {x y : D} {xs : List D} : ixP (some (.lst (x :: y :: xs)) :: ρ) (.own 0) (.int 1) k = k y := by
  show (match atI (x :: y :: xs) ((1 : Nat) : Int) with | some z => k z | none => False) = _
  rw [atI_nat (z := y) rfl]
end
theorem bits_le {x y : Nat} (h : x ≤ y) : Builtin.Int.intBits (x : Int) ≤ Builtin.Int.intBits (y : Int) := by
  unfold Builtin.Int.intBits
  by_cases h0 : x = 0
  · subst h0; simp
  · have h1 : y ≠ 0 := by omega
    have e1 : ((x : Int) == 0) = false := by simpa using h0
    have e2 : ((y : Int) == 0) = false := by simpa using h1
    rw [e1, e2]
    show x.log2 + 1 ≤ y.log2 + 1
    have : x.log2 < y.log2 + 1 := (Nat.log2_lt h0).mpr (Nat.lt_of_le_of_lt h Nat.lt_log2_self)
    omega
theorem bits_abs (i : Int) : Builtin.Int.intBits (i.natAbs : Int) = Builtin.Int.intBits i := by
  unfold Builtin.Int.intBits
  by_cases h0 : i = 0
  · subst h0; rfl
  · have e1 : (i == 0) = false := by simpa using h0
    have e2 : ((i.natAbs : Int) == 0) = false := by simp [h0]
    rw [e1, e2]
    rfl
end PD

end
section
set_option Elab.async false
set_option linter.all false
set_option maxRecDepth 100000
/-! plain numbers: primes, sums of two and three squares -/
namespace NT

def Pr (p : Nat) : Prop := 2 ≤ p ∧ ∀ d, d ∣ p → d = 1 ∨ d = p
theorem Pr.two_le {p : Nat} (h : Pr p) : 2 ≤ p := h.1
theorem Pr.pos {p : Nat} (h : Pr p) : 0 < p := Nat.lt_of_lt_of_le (by decide) h.1
theorem Pr.cop {p a : Nat} (h : Pr p) (n : ¬ p ∣ a) : Nat.Coprime p a := by
  rcases h.2 (Nat.gcd p a) (Nat.gcd_dvd_left p a) with e | e
  · exact e
  · exact absurd (e ▸ Nat.gcd_dvd_right p a) n
theorem Pr.euclid {p a b : Nat} (h : Pr p) (d : p ∣ a * b) : p ∣ a ∨ p ∣ b := by
  by_cases ha : p ∣ a
  · exact .inl ha
  · exact .inr ((h.cop ha).dvd_of_dvd_mul_left d)
theorem Pr.dvd_pow {p a : Nat} (h : Pr p) : ∀ {n : Nat}, p ∣ a ^ n → p ∣ a
  | 0, d => by
    rw [Nat.pow_zero] at d
    have := Nat.le_of_dvd (by decide) d
    have := h.1
    omega
  | n + 1, d => by
    rw [Nat.pow_succ] at d
    rcases h.euclid d with d | d
    · exact h.dvd_pow d
    · exact d
/-- every number from 2 on has a prime divisor -/
theorem has_prime : ∀ n : Nat, 2 ≤ n → ∃ p, Pr p ∧ p ∣ n := by
  intro n
  induction n using Nat.strongRecOn with
  | ind n ih =>
    intro h
    by_cases hp : Pr n
    · exact ⟨n, hp, Nat.dvd_refl n⟩
    · have : ∃ d, d ∣ n ∧ d ≠ 1 ∧ d ≠ n := by
        refine Classical.byContradiction fun hn => hp ⟨h, fun d hd => ?_⟩
        by_cases h1 : d = 1
        · exact .inl h1
        · by_cases h2 : d = n
          · exact .inr h2
          · exact absurd ⟨d, hd, h1, h2⟩ hn
      obtain ⟨d, hd, h1, h2⟩ := this
      have hle := Nat.le_of_dvd (by omega) hd
      have h0 : d ≠ 0 := fun e => by
        subst e
        have := Nat.eq_zero_of_zero_dvd hd
        omega
      obtain ⟨p, pp, pd⟩ := ih d (by omega) (by omega)
      exact ⟨p, pp, Nat.dvd_trans pd hd⟩
theorem Pr.eq_of_dvd {p q : Nat} (hp : Pr p) (hq : Pr q) (d : p ∣ q) : p = q := by
  rcases hq.2 p d with e | e
  · have := hp.1; omega
  · exact e
/-- no divisor below q, q * q beyond it: a prime, or 1 -/
theorem prime_of {n q : Nat} (h1 : 1 < n) (hq : n < q * q) (h : ∀ d, 2 ≤ d → d < q → ¬ d ∣ n) : Pr n := by
  refine ⟨h1, fun d hd => ?_⟩
  obtain ⟨k, rfl⟩ := hd
  have d0 : d ≠ 0 := fun e => by rw [e, Nat.zero_mul] at h1; omega
  have k0 : k ≠ 0 := fun e => by rw [e, Nat.mul_zero] at h1; omega
  by_cases hd1 : d = 1
  · exact .inl hd1
  · by_cases hk1 : k = 1
    · right; rw [hk1, Nat.mul_one]
    · exfalso
      by_cases hlt : d < q
      · exact h d (by omega) hlt (Nat.dvd_mul_right d k)
      · have : k < q := by
          refine Nat.lt_of_not_le fun hle => ?_
          have := Nat.mul_le_mul (Nat.le_of_not_lt hlt) hle
          omega
        exact h k (by omega) this (Nat.dvd_mul_left k d)

/-! ### the exact power -/
def Ex (p n e : Nat) : Prop := p ^ e ∣ n ∧ ¬ p ^ (e + 1) ∣ n
theorem Ex.uniq {p n e f : Nat} (h : Ex p n e) (g : Ex p n f) : e = f := by
  refine Nat.le_antisymm (Nat.le_of_not_lt fun hl => ?_) (Nat.le_of_not_lt fun hl => ?_)
  · exact g.2 (Nat.dvd_trans (Nat.pow_dvd_pow p hl) h.1)
  · exact h.2 (Nat.dvd_trans (Nat.pow_dvd_pow p hl) g.1)
/-- p to an odd power in n -/
def OddV (p n : Nat) : Prop := ∃ e, e % 2 = 1 ∧ Ex p n e
/-- the least prime = 3 mod 4 to an odd power -/
def BarR (n : Nat) : Option Nat → Prop
  | none => ∀ p, Pr p → p % 4 = 3 → ¬ OddV p n
  | some p => Pr p ∧ p % 4 = 3 ∧ OddV p n ∧ ∀ q, q < p → Pr q → q % 4 = 3 → ¬ OddV q n
theorem BarR.uniq {n : Nat} {r s : Option Nat} (h : BarR n r) (g : BarR n s) : r = s := by
  cases r with
  | none => cases s with
    | none => rfl
    | some q => exact absurd g.2.2.1 (h q g.1 g.2.1)
  | some p => cases s with
    | none => exact absurd h.2.2.1 (g p h.1 h.2.1)
    | some q =>
      by_cases h1 : p < q
      · exact absurd h.2.2.1 (g.2.2.2 p h1 h.1 h.2.1)
      · by_cases h2 : q < p
        · exact absurd g.2.2.1 (h.2.2.2 q h2 g.1 g.2.1)
        · congr; omega

/-! ### a prime = 3 mod 4 that divides a^2 + b^2 -/
theorem sq_mod4 (a : Nat) : a * a % 4 = 0 ∧ a % 2 = 0 ∨ a * a % 4 = 1 ∧ a % 2 = 1 := by
  have : a % 4 = 0 ∨ a % 4 = 1 ∨ a % 4 = 2 ∨ a % 4 = 3 := by omega
  rcases this with h | h | h | h <;> simp [Nat.mul_mod, h] <;> omega
/-- a residue of small size -/
theorem small_res {p : Nat} (hp : 0 < p) (a : Nat) : ∃ b : Nat, 2 * b ≤ p ∧ ∀ c, p ∣ a * a + c ↔ p ∣ b * b + c := by
  have e := Nat.div_add_mod a p
  have hlt := Nat.mod_lt a hp
  generalize a / p = k at e
  generalize a % p = r at e hlt
  by_cases h : 2 * r ≤ p
  · refine ⟨r, h, fun c => ?_⟩
    have h2 : a * a + c = p * (p * k * k + 2 * k * r) + (r * r + c) := by rw [← e]; grind
    rw [h2]
    exact Nat.dvd_add_right (Nat.dvd_mul_right p _)
  · refine ⟨p - r, by omega, fun c => ?_⟩
    obtain ⟨s, hs⟩ : ∃ s, p = r + s := ⟨p - r, by omega⟩
    have h3 : p - r = s := by omega
    rw [h3]
    have h4 : a * a + c + p * (2 * s * (k + 1)) = p * (p * (k + 1) * (k + 1)) + (s * s + c) := by
      have : a + s = p * (k + 1) := by rw [← e, Nat.mul_add]; omega
      have h5 : (a + s) * (a + s) = (p * (k + 1)) * (p * (k + 1)) := by rw [this]
      have h6 : p * (2 * s * (k + 1)) = 2 * s * (a + s) := by rw [this]; grind
      rw [h6]
      grind
    constructor
    · intro d
      have := Nat.dvd_add d (Nat.dvd_mul_right p (2 * s * (k + 1)))
      rw [h4] at this
      exact (Nat.dvd_add_right (Nat.dvd_mul_right p _)).mp this
    · intro d
      have := Nat.dvd_add (Nat.dvd_mul_right p (p * (k + 1) * (k + 1))) d
      rw [← h4] at this
      exact (Nat.dvd_add_left (Nat.dvd_mul_right p _)).mp this
/-- a number = 3 mod 4 has a prime = 3 mod 4 -/
theorem prime3 : ∀ k : Nat, k % 4 = 3 → ∃ q, Pr q ∧ q ∣ k ∧ q % 4 = 3 := by
  intro k
  induction k using Nat.strongRecOn with
  | ind k ih =>
    intro h
    obtain ⟨q, pq, m, rfl⟩ := has_prime k (by omega)
    have h2 := pq.1
    by_cases h3 : q % 4 = 3
    · exact ⟨q, pq, Nat.dvd_mul_right q m, h3⟩
    · have hq : q % 4 = 0 ∨ q % 4 = 1 ∨ q % 4 = 2 := by omega
      have hm : m % 4 = 0 ∨ m % 4 = 1 ∨ m % 4 = 2 ∨ m % 4 = 3 := by omega
      have e : (q % 4) * (m % 4) % 4 = 3 := by rw [← Nat.mul_mod]; exact h
      have hm3 : m % 4 = 3 := by
        rcases hq with hq | hq | hq <;> rcases hm with hm | hm | hm | hm <;> rw [hq, hm] at e <;> omega
      have hlt : m < q * m := by
        have : 2 * m ≤ q * m := Nat.mul_le_mul_right m h2
        omega
      obtain ⟨r, pr, dr, e3⟩ := ih m hlt hm3
      exact ⟨r, pr, Nat.dvd_trans dr (Nat.dvd_mul_left m q), e3⟩
/-- a prime = 3 mod 4 that divides a sum of two squares divides both -/
theorem two_sq_dvd : ∀ p : Nat, Pr p → p % 4 = 3 → ∀ a b, p ∣ a * a + b * b → p ∣ a := by
  intro p
  induction p using Nat.strongRecOn with
  | ind p ih =>
    intro hp h3 a b hd
    refine Classical.byContradiction fun na => ?_
    obtain ⟨a', ha', ea⟩ := small_res hp.pos a
    obtain ⟨b', hb', eb⟩ := small_res hp.pos b
    have hd2 : p ∣ a' * a' + b' * b' := by
      have h1 := (ea (b * b)).mp hd
      rw [Nat.add_comm] at h1
      have h2 := (eb (a' * a')).mp h1
      rw [Nat.add_comm]; exact h2
    have na' : ¬ p ∣ a' := fun d => na (by
      have h1 : p ∣ a' * a' + 0 := Nat.dvd_trans d (Nat.dvd_mul_right a' a')
      have h2 := (ea 0).mpr h1
      rcases hp.euclid h2 with d | d <;> exact d)
    have a0 : 0 < a' := Nat.pos_of_ne_zero fun e => na' (by rw [e]; exact Nat.dvd_zero p)
    have g0 : 0 < Nat.gcd a' b' := Nat.gcd_pos_of_pos_left b' a0
    obtain ⟨x, hx⟩ := Nat.gcd_dvd_left a' b'
    obtain ⟨y, hy⟩ := Nat.gcd_dvd_right a' b'
    have cop : Nat.Coprime x y := by
      have h1 : Nat.gcd (Nat.gcd a' b' * x) (Nat.gcd a' b' * y) = Nat.gcd a' b' * Nat.gcd x y := Nat.gcd_mul_left _ _ _
      rw [← hx, ← hy] at h1
      have h2 : Nat.gcd a' b' * Nat.gcd x y = Nat.gcd a' b' * 1 := by rw [← h1, Nat.mul_one]
      exact Nat.eq_of_mul_eq_mul_left g0 h2
    generalize Nat.gcd a' b' = g at *
    have ng : ¬ p ∣ g := fun d => na' (by rw [hx]; exact Nat.dvd_trans d (Nat.dvd_mul_right g x))
    have hd3 : p ∣ x * x + y * y := by
      have e : a' * a' + b' * b' = (g * g) * (x * x + y * y) := by rw [hx, hy]; grind
      rw [e] at hd2
      rcases hp.euclid hd2 with d | d
      · rcases hp.euclid d with d | d <;> exact absurd d ng
      · exact d
    have x1 : x ≤ a' := by rw [hx]; exact Nat.le_mul_of_pos_left x g0
    have y1 : y ≤ b' := by rw [hy]; exact Nat.le_mul_of_pos_left y g0
    have x0 : 0 < x := Nat.pos_of_ne_zero fun e => by rw [e, Nat.mul_zero] at hx; omega
    obtain ⟨k, hk⟩ := hd3
    have k0 : 0 < k := Nat.pos_of_ne_zero fun e => by
      rw [e, Nat.mul_zero] at hk
      have := Nat.mul_pos x0 x0
      omega
    have kp : k < p := by
      refine Nat.lt_of_not_le fun hle => ?_
      have h1 : p * p ≤ p * k := Nat.mul_le_mul_left p hle
      have h2 : (2 * x) * (2 * x) ≤ p * p := Nat.mul_le_mul (by omega) (by omega)
      have h3 : (2 * y) * (2 * y) ≤ p * p := Nat.mul_le_mul (by omega) (by omega)
      have h4 : (2 * x) * (2 * x) = 4 * (x * x) := by grind
      have h5 : (2 * y) * (2 * y) = 4 * (y * y) := by grind
      have h6 : 0 < p * p := Nat.mul_pos hp.pos hp.pos
      omega
    have fin : ∀ q, Pr q → q ∣ k → q % 4 = 3 → False := fun q pq dq q3 => by
      have hq : q < p := Nat.lt_of_le_of_lt (Nat.le_of_dvd k0 dq) kp
      have d1 : q ∣ x * x + y * y := by rw [hk]; exact Nat.dvd_trans dq (Nat.dvd_mul_left k p)
      have dx := ih q hq pq q3 x y d1
      have dy := ih q hq pq q3 y x (by rw [Nat.add_comm]; exact d1)
      have := Nat.dvd_gcd dx dy
      rw [show Nat.gcd x y = 1 from cop] at this
      have := Nat.le_of_dvd (by decide) this
      have := pq.1
      omega
    have ek : (p % 4) * (k % 4) % 4 = (x * x + y * y) % 4 := by rw [← Nat.mul_mod, hk]
    rw [h3] at ek
    rcases sq_mod4 x with ⟨sx, px⟩ | ⟨sx, px⟩ <;> rcases sq_mod4 y with ⟨sy, py⟩ | ⟨sy, py⟩
    · have d2 := Nat.dvd_gcd (Nat.dvd_of_mod_eq_zero px) (Nat.dvd_of_mod_eq_zero py)
      rw [show Nat.gcd x y = 1 from cop] at d2
      have := Nat.le_of_dvd (by decide) d2
      omega
    · obtain ⟨q, pq, dq, q3⟩ := prime3 k (by omega)
      exact fin q pq dq q3
    · obtain ⟨q, pq, dq, q3⟩ := prime3 k (by omega)
      exact fin q pq dq q3
    · have k2 : k % 4 = 2 := by omega
      obtain ⟨j, rfl⟩ : ∃ j, k = 2 * j := ⟨k / 2, by omega⟩
      obtain ⟨u, rfl⟩ : ∃ u, x = 2 * u + 1 := ⟨x / 2, by omega⟩
      obtain ⟨v, rfl⟩ : ∃ v, y = 2 * v + 1 := ⟨y / 2, by omega⟩
      have e1 : p * j = 2 * (u * u + u) + 2 * (v * v + v) + 1 := by grind
      have hu : (u * u + u) % 2 = 0 := by
        have : u % 2 = 0 ∨ u % 2 = 1 := by omega
        rcases this with h | h <;> simp [Nat.add_mod, Nat.mul_mod, h]
      have hv : (v * v + v) % 2 = 0 := by
        have : v % 2 = 0 ∨ v % 2 = 1 := by omega
        rcases this with h | h <;> simp [Nat.add_mod, Nat.mul_mod, h]
      have e2 : (p % 4) * (j % 4) % 4 = 1 := by rw [← Nat.mul_mod, e1]; omega
      rw [h3] at e2
      obtain ⟨q, pq, dq, q3⟩ := prime3 j (by omega)
      exact fin q pq (Nat.dvd_trans dq (Nat.dvd_mul_left j 2)) q3
end NT

end
section
set_option Elab.async false
set_option linter.all false
/-! plain numbers: squares modulo a prime, and the law of reciprocity -/
namespace NT
/-! ### rows of numbers -/
def sumL : List Nat → Nat
  | [] => 0
  | x :: l => x + sumL l
def prodL : List Nat → Nat
  | [] => 1
  | x :: l => x * prodL l
theorem sumL_perm {l m : List Nat} (h : l.Perm m) : sumL l = sumL m := by
  induction h with
  | nil => rfl
  | cons x _ ih => rw [sumL, sumL, ih]
  | swap x y l => simp only [sumL]; omega
  | trans _ _ i j => exact i.trans j
theorem prodL_perm {l m : List Nat} (h : l.Perm m) : prodL l = prodL m := by
  induction h with
  | nil => rfl
  | cons x _ ih => rw [prodL, prodL, ih]
  | swap x y l => simp only [prodL]; grind
  | trans _ _ i j => exact i.trans j
theorem perm_of {l m : List Nat} (hn : l.Nodup) (hs : ∀ x ∈ l, x ∈ m) (hl : m.length ≤ l.length) : l.Perm m := by
  induction l generalizing m with
  | nil =>
    have : m = [] := List.length_eq_zero_iff.mp (Nat.le_zero.mp hl)
    rw [this]
  | cons x l ih =>
    obtain ⟨h1, h2⟩ := List.nodup_cons.mp hn
    have hx := hs x List.mem_cons_self
    have hp := List.perm_cons_erase hx
    refine .trans (.cons x (ih h2 (fun y hy => ?_) ?_)) hp.symm
    · have : y ≠ x := fun e => h1 (e ▸ hy)
      exact (List.mem_erase_of_ne this).mpr (hs y (List.mem_cons_of_mem _ hy))
    · rw [List.length_erase_of_mem hx]
      rw [List.length_cons] at hl
      omega
/-- 1 .. h -/
def upTo (h : Nat) : List Nat := (List.range h).map (· + 1)
theorem mem_upTo {h x : Nat} : x ∈ upTo h ↔ 1 ≤ x ∧ x ≤ h := by
  unfold upTo
  rw [List.mem_map]
  constructor
  · rintro ⟨y, hy, rfl⟩
    have := List.mem_range.mp hy
    omega
  · rintro ⟨h1, h2⟩
    exact ⟨x - 1, List.mem_range.mpr (by omega), by omega⟩
theorem upTo_nodup (h : Nat) : (upTo h).Nodup := by
  unfold upTo
  exact List.pairwise_map.mpr (List.nodup_range.imp fun h e => h (by omega))
theorem upTo_len (h : Nat) : (upTo h).length = h := by unfold upTo; rw [List.length_map, List.length_range]
/-! ### Gauss -/
/-- the least remainder without its sign, and whether the sign is less than 0 -/
def lr (p h a k : Nat) : Nat := if a * k % p ≤ h then a * k % p else p - a * k % p
def sg (p h a k : Nat) : Bool := decide (h < a * k % p)
def mu (p h a : Nat) : List Nat → Nat
  | [] => 0
  | k :: l => (if sg p h a k then 1 else 0) + mu p h a l
section
variable {p h a : Nat}
theorem lr_in (hp : Pr p) (h2 : p = 2 * h + 1) (na : ¬ p ∣ a) {k : Nat} (hk : 1 ≤ k ∧ k ≤ h) : 1 ≤ lr p h a k ∧ lr p h a k ≤ h := by
  have h0 : a * k % p ≠ 0 := fun e => by
    rcases hp.euclid (Nat.dvd_of_mod_eq_zero e) with d | d
    · exact na d
    · have := Nat.le_of_dvd (by omega) d
      omega
  have h1 := Nat.mod_lt (a * k) hp.pos
  unfold lr
  split <;> omega
theorem lr_inj (hp : Pr p) (h2 : p = 2 * h + 1) (na : ¬ p ∣ a) {k l : Nat} (hk : 1 ≤ k ∧ k ≤ h) (hl : 1 ≤ l ∧ l ≤ h) (e : lr p h a k = lr p h a l) : k = l := by
  have h1 := Nat.mod_lt (a * k) hp.pos
  have h3 := Nat.mod_lt (a * l) hp.pos
  have key : (a * k % p = a * l % p) ∨ (a * k % p + a * l % p = p) := by
    unfold lr at e
    split at e <;> split at e <;> omega
  have e1 := Nat.div_add_mod (a * k) p
  have e2 := Nat.div_add_mod (a * l) p
  rcases key with q | q
  · rcases Nat.le_total k l with hkl | hkl
    · have d : p ∣ a * (l - k) := by
        refine ⟨a * l / p - a * k / p, ?_⟩
        rw [Nat.mul_sub, Nat.mul_sub]
        have := Nat.mul_le_mul_left a hkl
        omega
      rcases hp.euclid d with d | d
      · exact absurd d na
      · by_cases z : l - k = 0
        · omega
        · have := Nat.le_of_dvd (by omega) d
          omega
    · have d : p ∣ a * (k - l) := by
        refine ⟨a * k / p - a * l / p, ?_⟩
        rw [Nat.mul_sub, Nat.mul_sub]
        have := Nat.mul_le_mul_left a hkl
        omega
      rcases hp.euclid d with d | d
      · exact absurd d na
      · by_cases z : k - l = 0
        · omega
        · have := Nat.le_of_dvd (by omega) d
          omega
  · have d : p ∣ a * (k + l) := by
      refine ⟨a * k / p + a * l / p + 1, ?_⟩
      rw [Nat.mul_add, Nat.mul_add, Nat.mul_add]
      omega
    rcases hp.euclid d with d | d
    · exact absurd d na
    · have := Nat.le_of_dvd (by omega) d
      omega
theorem lr_perm (hp : Pr p) (h2 : p = 2 * h + 1) (na : ¬ p ∣ a) : ((upTo h).map (lr p h a)).Perm (upTo h) := by
  refine perm_of ?_ (fun x hx => ?_) (by rw [List.length_map]; exact Nat.le_refl _)
  · refine List.pairwise_map.mpr ((upTo_nodup h).imp_of_mem fun {k l} hk hl hne e => hne ?_)
    exact lr_inj hp h2 na (mem_upTo.mp hk) (mem_upTo.mp hl) e
  · obtain ⟨k, hk, rfl⟩ := List.mem_map.mp hx
    exact mem_upTo.mpr (lr_in hp h2 na (mem_upTo.mp hk))
/-- a minus for each odd one -/
def sgn (n : Nat) : Int := if n % 2 = 0 then 1 else -1
theorem sgn_succ (n : Nat) : sgn (1 + n) = -sgn n := by
  unfold sgn
  split <;> split <;> omega
theorem gauss_row (hp : 0 < p) (l : List Nat) : (p : Int) ∣ (a : Int) ^ l.length * (prodL l : Int) - sgn (mu p h a l) * (prodL (l.map (lr p h a)) : Int) := by
  induction l with
  | nil => exact ⟨0, by simp [prodL, mu, sgn]⟩
  | cons k l ih =>
    obtain ⟨x, hx⟩ := ih
    have hd := Nat.div_add_mod (a * k) p
    have hlt := Nat.mod_lt (a * k) hp
    rw [List.length_cons, List.map_cons, prodL, prodL, mu]
    have hz : ((a : Int) * k) = p * (a * k / p : Nat) + (a * k % p : Nat) := by
      have : ((p * (a * k / p) + a * k % p : Nat) : Int) = ((a * k : Nat) : Int) := by rw [hd]
      rw [Int.natCast_add, Int.natCast_mul, Int.natCast_mul] at this
      omega
    rw [Int.pow_succ, Int.natCast_mul, Int.natCast_mul]
    by_cases hs : a * k % p ≤ h
    · have e1 : sg p h a k = false := decide_eq_false (by omega)
      have e2 : lr p h a k = a * k % p := if_pos hs
      rw [e1, e2]
      simp only [Bool.false_eq_true, if_false, Nat.zero_add]
      generalize (prodL l : Int) = A at *
      generalize (prodL (l.map (lr p h a)) : Int) = B at *
      generalize (a : Int) ^ l.length = C at *
      generalize sgn (mu p h a l) = S at *
      generalize ((a * k / p : Nat) : Int) = q at *
      generalize ((a * k % p : Nat) : Int) = r at *
      refine ⟨q * C * A + r * x, ?_⟩
      have z1 : C * a * (k * A) = C * A * (a * k) := by grind
      have z2 : S * (r * B) = r * (S * B) := by grind
      have z3 : S * B = C * A - p * x := by omega
      rw [z1, z2, z3, hz]
      grind
    · have e1 : sg p h a k = true := decide_eq_true (by omega)
      have e2 : lr p h a k = p - a * k % p := if_neg hs
      rw [e1, e2]
      simp only [if_true]
      rw [sgn_succ]
      have hr : ((p - a * k % p : Nat) : Int) = (p : Int) - (a * k % p : Nat) := by omega
      rw [hr]
      generalize (prodL l : Int) = A at *
      generalize (prodL (l.map (lr p h a)) : Int) = B at *
      generalize (a : Int) ^ l.length = C at *
      generalize sgn (mu p h a l) = S at *
      generalize ((a * k / p : Nat) : Int) = q at *
      generalize ((a * k % p : Nat) : Int) = r at *
      refine ⟨q * C * A + r * x + S * B, ?_⟩
      have z1 : C * a * (k * A) = C * A * (a * k) := by grind
      have z2 : -S * (((p : Int) - r) * B) = -(((p : Int) - r) * (S * B)) := by grind
      have z3 : S * B = C * A - p * x := by omega
      rw [z1, z2, z3, hz]
      grind
theorem fact_cop (hp : Pr p) : ∀ n, n < p → ¬ p ∣ prodL (upTo n)
  | 0, _ => by
    intro d
    have e : prodL (upTo 0) = 1 := rfl
    rw [e] at d
    have := Nat.le_of_dvd (by decide) d
    have := hp.1
    omega
  | n + 1, hn => by
    intro d
    have e : prodL (upTo (n + 1)) = (n + 1) * prodL (upTo n) := by
      have : (upTo (n + 1)).Perm ((n + 1) :: upTo n) := by
        refine perm_of (upTo_nodup _) (fun x hx => ?_) (by rw [List.length_cons, upTo_len, upTo_len]; exact Nat.le_refl _)
        have := mem_upTo.mp hx
        by_cases e : x = n + 1
        · rw [e]; exact List.mem_cons_self
        · exact List.mem_cons_of_mem _ (mem_upTo.mpr (by omega))
      rw [prodL_perm this, prodL]
    rw [e] at d
    rcases hp.euclid d with d | d
    · have := Nat.le_of_dvd (by omega) d
      omega
    · exact fact_cop hp n (by omega) d
/-- Gauss: the power is the sign -/
theorem gauss (hp : Pr p) (h2 : p = 2 * h + 1) (na : ¬ p ∣ a) : (p : Int) ∣ (a : Int) ^ h - sgn (mu p h a (upTo h)) := by
  have k := gauss_row (h := h) (a := a) hp.pos (upTo h)
  rw [upTo_len, prodL_perm (lr_perm hp h2 na)] at k
  have e : (a : Int) ^ h * (prodL (upTo h) : Int) - sgn (mu p h a (upTo h)) * (prodL (upTo h) : Int) = ((a : Int) ^ h - sgn (mu p h a (upTo h))) * (prodL (upTo h) : Int) := by grind
  rw [e] at k
  have k2 : p ∣ ((a : Int) ^ h - sgn (mu p h a (upTo h))).natAbs * prodL (upTo h) := by
    have := Int.natAbs_dvd_natAbs.mpr k
    rw [Int.natAbs_mul] at this
    exact this
  rcases hp.euclid k2 with d | d
  · exact Int.natAbs_dvd_natAbs.mp (by exact d)
  · exact absurd d (fact_cop hp h (by omega))
/-- whether a number is a square modulo a prime, by its power -/
def rs (p : Nat) (s : Int) : Bool := decide (((s % p) ^ ((p - 1) / 2)) % p = 1)
theorem pow_cong {p : Nat} {x y : Int} (h : (p : Int) ∣ x - y) : ∀ n : Nat, (p : Int) ∣ x ^ n - y ^ n
  | 0 => ⟨0, by simp⟩
  | n + 1 => by
    obtain ⟨u, hu⟩ := pow_cong h n
    obtain ⟨v, hv⟩ := h
    refine ⟨u * x + y ^ n * v, ?_⟩
    rw [Int.pow_succ, Int.pow_succ]
    have e1 : x ^ n = y ^ n + p * u := by omega
    have e2 : x = y + p * v := by omega
    rw [e1]
    generalize y ^ n = Y at *
    rw [e2]
    grind
theorem mod_cong {p : Nat} (s : Int) : (p : Int) ∣ s - s % p := ⟨s / p, by have := Int.emod_add_mul_ediv s p; omega⟩
/-- by Gauss -/
theorem rs_gauss (hp : Pr p) (h2 : p = 2 * h + 1) (na : ¬ p ∣ a) : rs p a = decide (mu p h a (upTo h) % 2 = 0) := by
  have h3 : 2 < p := by have := hp.1; omega
  have hh : (p - 1) / 2 = h := by omega
  unfold rs
  rw [hh]
  obtain ⟨u, hu⟩ := pow_cong (mod_cong (p := p) (a : Int)) h
  obtain ⟨v, hv⟩ := gauss hp h2 na
  have e : ((a : Int) % p) ^ h = sgn (mu p h a (upTo h)) + p * (v - u) := by
    have : (p : Int) * (v - u) = p * v - p * u := by grind
    omega
  rw [e, Int.add_mul_emod_self_left]
  by_cases hm : mu p h a (upTo h) % 2 = 0
  · have : sgn (mu p h a (upTo h)) = 1 := if_pos hm
    rw [this, decide_eq_true hm]
    exact decide_eq_true (Int.emod_eq_of_lt (by decide) (by omega))
  · have : sgn (mu p h a (upTo h)) = -1 := if_neg hm
    rw [this, decide_eq_false hm]
    refine decide_eq_false fun z => ?_
    have e := Int.emod_add_mul_ediv (-1) (p : Int)
    rw [z] at e
    generalize (-1 : Int) / (p : Int) = q at e
    rcases Int.lt_or_le q 0 with hq | hq
    · have := Int.mul_le_mul_of_nonneg_left (show q ≤ -1 by omega) (show (0 : Int) ≤ p by omega)
      omega
    · have := Int.mul_nonneg (show (0 : Int) ≤ p by omega) hq
      omega
/-! ### the sign by a count -/
def flo (p a : Nat) : List Nat → Nat
  | [] => 0
  | k :: l => a * k / p + flo p a l
theorem mu_sum (hp : Pr p) (h2 : p = 2 * h + 1) (na : ¬ p ∣ a) (l : List Nat) (hl : ∀ k ∈ l, 1 ≤ k ∧ k ≤ h) : (a * sumL l + flo p a l + mu p h a l + sumL (l.map (lr p h a))) % 2 = 0 := by
  induction l with
  | nil => simp [sumL, flo, mu]
  | cons k l ih =>
    have ih := ih fun x hx => hl x (List.mem_cons_of_mem _ hx)
    have hd := Nat.div_add_mod (a * k) p
    have hlt := Nat.mod_lt (a * k) hp.pos
    rw [List.map_cons, sumL, sumL, flo, mu, Nat.mul_add]
    have e1 : p * (a * k / p) % 2 = a * k / p % 2 := by
      rw [h2, Nat.mul_mod]
      have : (2 * h + 1) % 2 = 1 := by omega
      rw [this]
      omega
    by_cases hs : a * k % p ≤ h
    · have e2 : sg p h a k = false := decide_eq_false (by omega)
      have e3 : lr p h a k = a * k % p := if_pos hs
      rw [e2, e3]
      simp only [Bool.false_eq_true, if_false]
      omega
    · have e2 : sg p h a k = true := decide_eq_true (by omega)
      have e3 : lr p h a k = p - a * k % p := if_neg hs
      rw [e2, e3]
      simp only [if_true]
      omega
/-- the parity of the minus signs -/
theorem mu_par (hp : Pr p) (h2 : p = 2 * h + 1) (na : ¬ p ∣ a) : (a * sumL (upTo h) + flo p a (upTo h) + mu p h a (upTo h) + sumL (upTo h)) % 2 = 0 := by
  have := mu_sum hp h2 na (upTo h) fun k hk => mem_upTo.mp hk
  rw [sumL_perm (lr_perm hp h2 na)] at this
  exact this
theorem upTo_perm (n : Nat) : (upTo (n + 1)).Perm ((n + 1) :: upTo n) := by
  refine perm_of (upTo_nodup _) (fun x hx => ?_) (by rw [List.length_cons, upTo_len, upTo_len]; exact Nat.le_refl _)
  have := mem_upTo.mp hx
  by_cases e : x = n + 1
  · rw [e]; exact List.mem_cons_self
  · exact List.mem_cons_of_mem _ (mem_upTo.mpr (by omega))
theorem sum_upTo : ∀ n : Nat, 2 * sumL (upTo n) = n * (n + 1)
  | 0 => rfl
  | n + 1 => by
    rw [sumL_perm (upTo_perm n), sumL, Nat.mul_add, sum_upTo n]
    grind
/-- 2 -/
theorem rs_two (hp : Pr p) (h2 : p = 2 * h + 1) : rs p 2 = decide (p % 8 = 1 ∨ p % 8 = 7) := by
  have h3 : 2 < p := by
    have := hp.1
    omega
  have na : ¬ p ∣ 2 := fun d => by
    have := Nat.le_of_dvd (by decide) d
    omega
  have hf : ∀ l : List Nat, (∀ k ∈ l, k ≤ h) → flo p 2 l = 0 := by
    intro l hl
    induction l with
    | nil => rfl
    | cons k l ih =>
      rw [flo, ih fun x hx => hl x (List.mem_cons_of_mem _ hx)]
      have := hl k List.mem_cons_self
      rw [Nat.div_eq_of_lt (by omega)]
  have hm := mu_par hp h2 na
  rw [hf _ fun k hk => (mem_upTo.mp hk).2] at hm
  have hs := sum_upTo h
  have e := rs_gauss hp h2 na
  have e' : rs p (2 : Int) = rs p ((2 : Nat) : Int) := rfl
  rw [e', e]
  have key : mu p h 2 (upTo h) % 2 = 0 ↔ (p % 8 = 1 ∨ p % 8 = 7) := by
    have q : sumL (upTo h) % 2 = mu p h 2 (upTo h) % 2 := by omega
    rw [← q]
    have h8 : h % 4 = 0 ∨ h % 4 = 1 ∨ h % 4 = 2 ∨ h % 4 = 3 := by omega
    obtain ⟨m, hm⟩ : ∃ m, h = 4 * m + h % 4 := ⟨h / 4, by omega⟩
    rcases h8 with z | z | z | z
    · have : h * (h + 1) = 4 * (m * (4 * m + 1)) := by rw [hm, z]; grind
      omega
    · have : h * (h + 1) = 4 * (4 * m * m + 3 * m) + 2 := by rw [hm, z]; grind
      omega
    · have : h * (h + 1) = 4 * (4 * m * m + 5 * m) + 6 := by rw [hm, z]; grind
      omega
    · have : h * (h + 1) = 4 * (4 * m * m + 7 * m) + 12 := by rw [hm, z]; grind
      omega
  by_cases z : mu p h 2 (upTo h) % 2 = 0
  · rw [decide_eq_true z, decide_eq_true (key.mp z)]
  · rw [decide_eq_false z, decide_eq_false fun y => z (key.mpr y)]
/-- an odd number -/
theorem rs_odd (hp : Pr p) (h2 : p = 2 * h + 1) (na : ¬ p ∣ a) (ho : a % 2 = 1) : rs p a = decide (flo p a (upTo h) % 2 = 0) := by
  rw [rs_gauss hp h2 na]
  have hm := mu_par hp h2 na
  have e : a * sumL (upTo h) % 2 = sumL (upTo h) % 2 := by
    rw [Nat.mul_mod, ho]
    omega
  have : mu p h a (upTo h) % 2 = flo p a (upTo h) % 2 := by omega
  rw [this]
end
/-! ### the count of points -/
/-- how many of a row -/
def cnt (f : Nat → Bool) : List Nat → Nat
  | [] => 0
  | x :: l => (if f x then 1 else 0) + cnt f l
def cnt2 (f : Nat → Nat → Bool) (l m : List Nat) : Nat := match l with
  | [] => 0
  | x :: l => cnt (f x) m + cnt2 f l m
theorem cnt2_nil (f : Nat → Nat → Bool) : ∀ l : List Nat, cnt2 f l [] = 0
  | [] => rfl
  | x :: l => by rw [cnt2, cnt2_nil f l]; rfl
theorem cnt2_cons (f : Nat → Nat → Bool) (y : Nat) (m : List Nat) : ∀ l : List Nat, cnt2 f l (y :: m) = cnt (fun x => f x y) l + cnt2 f l m
  | [] => rfl
  | x :: l => by
    rw [cnt2, cnt2_cons f y m l, cnt, cnt, cnt2]
    omega
theorem cnt2_swap (f : Nat → Nat → Bool) (l : List Nat) : ∀ m : List Nat, cnt2 f l m = cnt2 (fun y x => f x y) m l
  | [] => cnt2_nil f l
  | y :: m => by rw [cnt2_cons, cnt2_swap f l m, cnt2]
theorem cnt_both {f g : Nat → Bool} : ∀ {m : List Nat}, (∀ y ∈ m, g y = !f y) → cnt f m + cnt g m = m.length
  | [], _ => rfl
  | y :: m, h => by
    have ih := cnt_both (m := m) fun z hz => h z (List.mem_cons_of_mem _ hz)
    have hy := h y List.mem_cons_self
    rw [cnt, cnt, List.length_cons, hy]
    cases f y <;> simp <;> omega
theorem cnt2_both {f g : Nat → Nat → Bool} {m : List Nat} : ∀ {l : List Nat}, (∀ x ∈ l, ∀ y ∈ m, g x y = !f x y) → cnt2 f l m + cnt2 g l m = l.length * m.length
  | [], _ => by simp [cnt2]
  | x :: l, h => by
    have ih := cnt2_both (m := m) (l := l) fun z hz => h z (List.mem_cons_of_mem _ hz)
    have hx := cnt_both (h x List.mem_cons_self)
    rw [cnt2, cnt2, List.length_cons, Nat.add_mul]
    omega
/-- so many lie below -/
theorem cnt_below {n : Nat} : ∀ h : Nat, n ≤ h → cnt (fun y => decide (y ≤ n)) (upTo h) = n := by
  intro h
  have perm : ∀ {f : Nat → Bool} {l m : List Nat}, l.Perm m → cnt f l = cnt f m := by
    intro f l m hp
    induction hp with
    | nil => rfl
    | cons x _ ih => rw [cnt, cnt, ih]
    | swap x y l => simp only [cnt]; omega
    | trans _ _ i j => exact i.trans j
  induction h with
  | zero => intro hn; have : n = 0 := by omega
            subst this; rfl
  | succ h ih =>
    intro hn
    rw [perm (upTo_perm h), cnt]
    by_cases e : n = h + 1
    · subst e
      have all : ∀ l : List Nat, (∀ x ∈ l, x ≤ h) → cnt (fun y => decide (y ≤ h + 1)) l = l.length := by
        intro l
        induction l with
        | nil => intro _; rfl
        | cons x l ih =>
          intro hx
          have := hx x List.mem_cons_self
          rw [cnt, ih fun y hy => hx y (List.mem_cons_of_mem _ hy), List.length_cons]
          simp [show x ≤ h + 1 by omega]
          omega
      rw [all _ fun x hx => (mem_upTo.mp hx).2, upTo_len]
      simp
      omega
    · rw [ih (by omega)]
      simp [show ¬ h + 1 ≤ n by omega]
/-- the law of reciprocity -/
theorem recip {p q h k : Nat} (hp : Pr p) (hq : Pr q) (h2 : p = 2 * h + 1) (k2 : q = 2 * k + 1) (hne : p ≠ q) : ((rs p q == rs q p) = decide (h * k % 2 = 0)) := by
  have n1 : ¬ p ∣ q := fun d => hne (hp.eq_of_dvd hq d)
  have n2 : ¬ q ∣ p := fun d => hne (hq.eq_of_dvd hp d).symm
  rw [rs_odd hp h2 n1 (by omega), rs_odd hq k2 n2 (by omega)]
  have row : ∀ (p q h k : Nat), p = 2 * h + 1 → q = 2 * k + 1 → ∀ l : List Nat, (∀ x ∈ l, x ≤ h) → flo p q l = cnt2 (fun x y => decide (y ≤ q * x / p)) l (upTo k) := by
    intro p q h k h2 k2 l hl
    induction l with
    | nil => rfl
    | cons x l ih =>
      rw [flo, cnt2, ih fun y hy => hl y (List.mem_cons_of_mem _ hy), cnt_below]
      have := hl x List.mem_cons_self
      have h3 : q * x ≤ q * h := Nat.mul_le_mul_left q this
      have h4 : q * h < (k + 1) * p := by
        subst h2 k2
        grind
      have := (Nat.div_lt_iff_lt_mul (show 0 < p by omega)).mpr (Nat.lt_of_le_of_lt h3 h4)
      omega
  have r1 := row p q h k h2 k2 (upTo h) fun x hx => (mem_upTo.mp hx).2
  have r2 := row q p k h k2 h2 (upTo k) fun x hx => (mem_upTo.mp hx).2
  have both : flo p q (upTo h) + flo q p (upTo k) = h * k := by
    rw [r1, r2, cnt2_swap _ (upTo k) (upTo h)]
    rw [cnt2_both]
    · rw [upTo_len, upTo_len]
    · intro x hx y hy
      have hx := mem_upTo.mp hx
      have hy := mem_upTo.mp hy
      have ne : q * x ≠ p * y := fun e => by
        have : p ∣ q * x := ⟨y, e⟩
        rcases hp.euclid this with d | d
        · exact n1 d
        · have := Nat.le_of_dvd (by omega) d
          omega
      have a1 : y ≤ q * x / p ↔ y * p ≤ q * x := Nat.le_div_iff_mul_le hp.pos
      have a2 : x ≤ p * y / q ↔ x * q ≤ p * y := Nat.le_div_iff_mul_le hq.pos
      have c1 := Nat.mul_comm y p
      have c2 := Nat.mul_comm x q
      by_cases z : y ≤ q * x / p
      · have w : ¬ x ≤ p * y / q := fun t => ne (by have := a1.mp z; have := a2.mp t; omega)
        rw [decide_eq_true z, decide_eq_false w]; rfl
      · have w : x ≤ p * y / q := a2.mpr (by have := fun t => z (a1.mpr t); omega)
        rw [decide_eq_false z, decide_eq_true w]; rfl
  generalize flo p q (upTo h) = A at *
  generalize flo q p (upTo k) = B at *
  rw [← both]
  have hA : A % 2 = 0 ∨ A % 2 = 1 := by omega
  have hB : B % 2 = 0 ∨ B % 2 = 1 := by omega
  rcases hA with a | a <;> rcases hB with b | b <;> simp [a, b] <;> omega
end NT

end
section
set_option Elab.async false
set_option linter.all false
/-! plain numbers: symbols, and that an even number of them is -1 -/
namespace NT
/-! ### how often a prime divides, and what is left -/
def Pv (p : Nat) (n : Int) (i : Nat) (s : Int) : Prop := n = (p : Int) ^ i * s ∧ ¬ (p : Int) ∣ s
theorem Pr.euclidI {p : Nat} (h : Pr p) {a b : Int} (d : (p : Int) ∣ a * b) : (p : Int) ∣ a ∨ (p : Int) ∣ b := by
  have := Int.natAbs_dvd_natAbs.mpr d
  rw [Int.natAbs_mul] at this
  rcases h.euclid this with e | e
  · exact .inl (Int.natAbs_dvd_natAbs.mp e)
  · exact .inr (Int.natAbs_dvd_natAbs.mp e)
theorem Pv.uniq {p : Nat} (hp : Pr p) {i j : Nat} {n s t : Int} (h : Pv p n i s) (k : Pv p n j t) : i = j ∧ s = t := by
  have p0 : (p : Int) ≠ 0 := by have := hp.1; omega
  obtain ⟨h1, h2⟩ := h
  obtain ⟨k1, k2⟩ := k
  have key : ∀ (i j : Nat) (s t : Int), ¬ (p : Int) ∣ s → ¬ (p : Int) ∣ t → (p : Int) ^ i * s = (p : Int) ^ j * t → i = j ∧ s = t := by
    intro i
    induction i with
    | zero =>
      intro j s t a b e
      cases j with
      | zero => simp at e; exact ⟨rfl, e⟩
      | succ j =>
        exfalso
        apply a
        rw [Int.pow_succ] at e
        exact ⟨(p : Int) ^ j * t, by simp at e; rw [e]; grind⟩
    | succ i ih =>
      intro j s t a b e
      cases j with
      | zero =>
        exfalso
        apply b
        rw [Int.pow_succ] at e
        exact ⟨(p : Int) ^ i * s, by simp at e; rw [← e]; grind⟩
      | succ j =>
        have e2 : (p : Int) * ((p : Int) ^ i * s) = p * ((p : Int) ^ j * t) := by
          rw [Int.pow_succ, Int.pow_succ] at e
          have z1 : (p : Int) ^ i * p * s = p * ((p : Int) ^ i * s) := by grind
          have z2 : (p : Int) ^ j * p * t = p * ((p : Int) ^ j * t) := by grind
          rw [z1, z2] at e
          exact e
        have := ih j s t a b (Int.eq_of_mul_eq_mul_left p0 e2)
        exact ⟨by omega, this.2⟩
  exact key i j s t h2 k2 (h1.symm.trans k1)
theorem Pv.mul {p : Nat} (hp : Pr p) {i j : Nat} {n m s t : Int} (h : Pv p n i s) (k : Pv p m j t) : Pv p (n * m) (i + j) (s * t) := by
  refine ⟨?_, fun d => (hp.euclidI d).elim h.2 k.2⟩
  rw [h.1, k.1, Int.pow_add]
  grind
theorem Pv.exists {p : Nat} (hp : Pr p) : ∀ (f : Nat) (n : Int), n ≠ 0 → n.natAbs ≤ f → ∃ i s, Pv p n i s := by
  intro f
  induction f with
  | zero => intro n h0 h; omega
  | succ f ih =>
    intro n h0 h
    by_cases d : (p : Int) ∣ n
    · obtain ⟨m, rfl⟩ := d
      have m0 : m ≠ 0 := fun e => h0 (by rw [e]; simp)
      have hp2 := hp.1
      have : m.natAbs < (p * m).natAbs := by
        rw [Int.natAbs_mul]
        have h1 : 1 ≤ m.natAbs := by omega
        have h2 : 2 * m.natAbs ≤ p * m.natAbs := Nat.mul_le_mul_right _ hp2
        have h3 : (p : Int).natAbs = p := rfl
        rw [h3]
        omega
      obtain ⟨i, s, e, hs⟩ := ih m m0 (by omega)
      refine ⟨i + 1, s, ?_, hs⟩
      rw [e, Int.pow_succ]
      grind
    · exact ⟨0, n, by simp, d⟩
open Classical in
noncomputable def vl (p : Nat) (n : Int) : Nat := if h : ∃ i s, Pv p n i s then h.choose else 0
open Classical in
noncomputable def un (p : Nat) (n : Int) : Int := if h : ∃ i s, Pv p n i s then h.choose_spec.choose else 1
theorem vl_spec {p : Nat} (hp : Pr p) {n : Int} (h0 : n ≠ 0) : Pv p n (vl p n) (un p n) := by
  have h := Pv.exists hp n.natAbs n h0 (Nat.le_refl _)
  unfold vl un
  rw [dif_pos h, dif_pos h]
  exact h.choose_spec.choose_spec
theorem vl_is {p : Nat} (hp : Pr p) {n : Int} {i : Nat} {s : Int} (h0 : n ≠ 0) (h : Pv p n i s) : vl p n = i ∧ un p n = s := (vl_spec hp h0).uniq hp h
/-! ### squares modulo p -/
def nr (p : Nat) (s : Int) : Bool := !rs p s
def sB (b : Bool) : Int := if b then -1 else 1
section
variable {p h : Nat}
theorem euler (hp : Pr p) (h2 : p = 2 * h + 1) {s : Int} (hs : ¬ (p : Int) ∣ s) : (p : Int) ∣ s ^ h - sB (nr p s) := by
  have pp : (0 : Int) < p := by have := hp.1; omega
  obtain ⟨a, ha⟩ : ∃ a : Nat, s % p = a := ⟨(s % p).toNat, (Int.toNat_of_nonneg (Int.emod_nonneg _ (by omega))).symm⟩
  have na : ¬ p ∣ a := fun d => hs (by
    have : (p : Int) ∣ s % p := by rw [ha]; exact Int.natCast_dvd_natCast.mpr d
    exact (Int.dvd_iff_emod_eq_zero ..).mpr (by
      have h3 := (Int.dvd_iff_emod_eq_zero ..).mp this
      rw [Int.emod_emod] at h3
      exact h3))
  have e1 : rs p s = rs p a := by
    unfold rs
    rw [← ha, Int.emod_emod]
  have g := gauss hp h2 na
  have e2 := rs_gauss hp h2 na
  have e3 : sB (nr p s) = sgn (mu p h a (upTo h)) := by
    unfold nr sB sgn
    rw [e1, e2]
    by_cases z : mu p h a (upTo h) % 2 = 0 <;> simp [z]
  obtain ⟨u, hu⟩ := pow_cong (mod_cong (p := p) s) h
  obtain ⟨v, hv⟩ := g
  rw [ha] at hu
  refine ⟨u + v, ?_⟩
  rw [e3]
  have : (p : Int) * (u + v) = p * u + p * v := by grind
  omega
theorem sB_eq {p : Nat} (h3 : 2 < p) {a b : Bool} (d : (p : Int) ∣ sB a - sB b) : a = b := by
  obtain ⟨k, hk⟩ := d
  cases a <;> cases b <;> first | rfl | (exfalso
                                         simp [sB] at hk
                                         rcases Int.lt_or_le k 0 with hq | hq
                                         · have := Int.mul_le_mul_of_nonneg_left (show k ≤ -1 by omega) (show (0 : Int) ≤ p by omega)
                                           omega
                                         · by_cases h0 : k = 0
                                           · subst h0; simp at hk
                                           · have := Int.mul_le_mul_of_nonneg_left (show 1 ≤ k by omega) (show (0 : Int) ≤ p by omega)
                                             omega)
theorem sB_xor (a b : Bool) : sB (a ^^ b) = sB a * sB b := by cases a <;> cases b <;> rfl
theorem nr_mul (hp : Pr p) (h2 : p = 2 * h + 1) {s t : Int} (hs : ¬ (p : Int) ∣ s) (ht : ¬ (p : Int) ∣ t) : nr p (s * t) = (nr p s ^^ nr p t) := by
  have h3 : 2 < p := by have := hp.1; omega
  refine sB_eq h3 ?_
  obtain ⟨x, hx⟩ := euler hp h2 hs
  obtain ⟨y, hy⟩ := euler hp h2 ht
  obtain ⟨z, hz⟩ := euler hp h2 (s := s * t) fun d => (hp.euclidI d).elim hs ht
  rw [sB_xor]
  have e1 : s ^ h = sB (nr p s) + p * x := by omega
  have e2 : t ^ h = sB (nr p t) + p * y := by omega
  rw [Int.mul_pow] at hz
  rw [e1, e2] at hz
  refine ⟨sB (nr p s) * y + x * sB (nr p t) + p * x * y - z, ?_⟩
  generalize sB (nr p s) = S at *
  generalize sB (nr p t) = T at *
  grind
theorem nr_one (hp : Pr p) (h2 : p = 2 * h + 1) : nr p 1 = false := by
  have h3 : 2 < p := by have := hp.1; omega
  refine sB_eq h3 ?_
  obtain ⟨x, hx⟩ := euler hp h2 (s := 1) fun d => by have := Int.le_of_dvd (by decide) d; omega
  rw [Int.one_pow] at hx
  refine ⟨-x, ?_⟩
  have e : (p : Int) * -x = -(p * x) := by grind
  have e2 : sB false = 1 := rfl
  omega
theorem nr_neg (hp : Pr p) (h2 : p = 2 * h + 1) : nr p (-1) = decide (p % 4 = 3) := by
  have h3 : 2 < p := by have := hp.1; omega
  refine sB_eq h3 ?_
  obtain ⟨x, hx⟩ := euler hp h2 (s := -1) fun d => by
    have := Int.natAbs_dvd_natAbs.mpr d
    have := Nat.le_of_dvd (by decide) this
    omega
  have e : ∀ n : Nat, (-1 : Int) ^ n = sgn n := by
    intro n
    induction n with
    | zero => rfl
    | succ n ih => rw [Int.pow_succ, ih, Nat.add_comm, sgn_succ]; omega
  rw [e] at hx
  have e2 : sB (decide (p % 4 = 3)) = sgn h := by
    unfold sB sgn
    by_cases z : p % 4 = 3
    · rw [decide_eq_true z, if_pos rfl, if_neg (by omega)]
    · rw [decide_eq_false z, if_neg Bool.false_ne_true, if_pos (by omega)]
  rw [e2]
  exact ⟨-x, by have : (p : Int) * -x = -(p * x) := by grind
                omega⟩
end
/-! ### the symbol -/
def e4 (s : Int) : Bool := decide (s % 4 = 3)
def w8 (s : Int) : Bool := decide (s % 8 = 3 ∨ s % 8 = 5)
def od (i : Nat) : Bool := decide (i % 2 = 1)
def hsym (p : Nat) (i : Nat) (s : Int) (j : Nat) (t : Int) : Bool :=
  if p = 2 then ((e4 s && e4 t) ^^ (od i && w8 t)) ^^ (od j && w8 s) else ((od i && od j && decide (p % 4 = 3)) ^^ (od j && nr p s)) ^^ (od i && nr p t)
theorem od_add (i j : Nat) : od (i + j) = (od i ^^ od j) := by
  unfold od
  by_cases a : i % 2 = 1 <;> by_cases b : j % 2 = 1 <;> simp [a, b] <;> omega
theorem e4_mul {s t : Int} (hs : s % 2 = 1) (ht : t % 2 = 1) : e4 (s * t) = (e4 s ^^ e4 t) := by
  unfold e4
  have h1 : s % 4 = 1 ∨ s % 4 = 3 := by omega
  have h2 : t % 4 = 1 ∨ t % 4 = 3 := by omega
  have e : s * t % 4 = (s % 4) * (t % 4) % 4 := by rw [Int.mul_emod]
  rw [e]
  rcases h1 with a | a <;> rcases h2 with b | b <;> rw [a, b] <;> rfl
theorem w8_mul {s t : Int} (hs : s % 2 = 1) (ht : t % 2 = 1) : w8 (s * t) = (w8 s ^^ w8 t) := by
  unfold w8
  have h1 : s % 8 = 1 ∨ s % 8 = 3 ∨ s % 8 = 5 ∨ s % 8 = 7 := by omega
  have h2 : t % 8 = 1 ∨ t % 8 = 3 ∨ t % 8 = 5 ∨ t % 8 = 7 := by omega
  have e : s * t % 8 = (s % 8) * (t % 8) % 8 := by rw [Int.mul_emod]
  rw [e]
  rcases h1 with a | a | a | a <;> rcases h2 with b | b | b | b <;> rw [a, b] <;> rfl
theorem odd_of {s : Int} (h : ¬ ((2 : Nat) : Int) ∣ s) : s % 2 = 1 := by
  have h1 : ¬ (2 : Int) ∣ s := h
  omega
theorem half {p : Nat} (hp : Pr p) (h : p ≠ 2) : p = 2 * ((p - 1) / 2) + 1 := by
  have h1 : ¬ 2 ∣ p := fun d => by
    rcases hp.2 2 d with e | e
    · omega
    · exact h e.symm
  have := hp.1
  omega
theorem hsym_comm (p i : Nat) (s : Int) (j : Nat) (t : Int) : hsym p i s j t = hsym p j t i s := by
  unfold hsym
  split
  · cases e4 s <;> cases e4 t <;> cases od i <;> cases od j <;> cases w8 s <;> cases w8 t <;> rfl
  · cases od i <;> cases od j <;> cases nr p s <;> cases nr p t <;> cases decide (p % 4 = 3) <;> rfl
theorem hsym_mul {p : Nat} (hp : Pr p) {i i' j : Nat} {s s' t : Int} (hs : ¬ (p : Int) ∣ s) (hs' : ¬ (p : Int) ∣ s') : hsym p (i + i') (s * s') j t = (hsym p i s j t ^^ hsym p i' s' j t) := by
  unfold hsym
  by_cases h : p = 2
  · subst h
    rw [if_pos rfl, if_pos rfl, if_pos rfl, od_add, e4_mul (odd_of hs) (odd_of hs'), w8_mul (odd_of hs) (odd_of hs')]
    cases e4 s <;> cases e4 s' <;> cases e4 t <;> cases od i <;> cases od i' <;> cases od j <;> cases w8 s <;> cases w8 s' <;> cases w8 t <;> rfl
  · rw [if_neg h, if_neg h, if_neg h, od_add, nr_mul hp (half hp h) hs hs']
    cases od i <;> cases od i' <;> cases od j <;> cases nr p s <;> cases nr p s' <;> cases nr p t <;> cases decide (p % 4 = 3) <;> rfl
/-- whether the symbol at a prime is -1 -/
noncomputable def sy (p : Nat) (a b : Int) : Bool := hsym p (vl p a) (un p a) (vl p b) (un p b)
theorem sy_is {p : Nat} (hp : Pr p) {a b : Int} {i j : Nat} {s t : Int} (ha : a ≠ 0) (hb : b ≠ 0) (h : Pv p a i s) (k : Pv p b j t) : sy p a b = hsym p i s j t := by
  unfold sy
  rw [(vl_is hp ha h).1, (vl_is hp ha h).2, (vl_is hp hb k).1, (vl_is hp hb k).2]
theorem sy_comm (p : Nat) (a b : Int) : sy p a b = sy p b a := hsym_comm ..
theorem sy_mul {p : Nat} (hp : Pr p) {a a' b : Int} (ha : a ≠ 0) (ha' : a' ≠ 0) (hb : b ≠ 0) : sy p (a * a') b = (sy p a b ^^ sy p a' b) := by
  have h1 := vl_spec hp ha
  have h2 := vl_spec hp ha'
  rw [sy_is hp (Int.mul_ne_zero ha ha') hb (h1.mul hp h2) (vl_spec hp hb), hsym_mul hp h1.2 h2.2]
  rfl
end NT

end
section
set_option Elab.async false
set_option linter.all false
/-! plain numbers: an even number of the symbols is -1 -/
namespace NT
def xorL : List Bool → Bool
  | [] => false
  | x :: l => x ^^ xorL l
theorem xorL_perm {l m : List Bool} (h : l.Perm m) : xorL l = xorL m := by
  induction h with
  | nil => rfl
  | cons x _ ih => rw [xorL, xorL, ih]
  | swap x y l => simp only [xorL]; cases x <;> cases y <;> cases xorL l <;> rfl
  | trans _ _ i j => exact i.trans j
theorem xorL_xor {f g : Nat → Bool} : ∀ V : List Nat, xorL (V.map fun p => f p ^^ g p) = (xorL (V.map f) ^^ xorL (V.map g))
  | [] => rfl
  | p :: V => by
    simp only [List.map_cons, xorL]
    rw [xorL_xor V]
    cases f p <;> cases g p <;> cases xorL (V.map f) <;> cases xorL (V.map g) <;> rfl
theorem xorL_false {f : Nat → Bool} : ∀ {V : List Nat}, (∀ p ∈ V, f p = false) → xorL (V.map f) = false
  | [], _ => rfl
  | p :: V, h => by
    rw [List.map_cons, xorL, h p List.mem_cons_self, xorL_false fun q hq => h q (List.mem_cons_of_mem _ hq)]
    rfl
theorem xorL_one {f : Nat → Bool} {V : List Nat} (hn : V.Nodup) {q : Nat} (hq : q ∈ V) : xorL (V.map f) = (f q ^^ xorL ((V.erase q).map f)) := by
  rw [xorL_perm ((List.perm_cons_erase hq).map f)]
  rfl
/-- all but what is told is false -/
theorem xorL_1 {f : Nat → Bool} {V : List Nat} (hn : V.Nodup) {q : Nat} (hq : q ∈ V) (h : ∀ p ∈ V, p ≠ q → f p = false) : xorL (V.map f) = f q := by
  rw [xorL_one hn hq, xorL_false fun p hp => ?_]
  · simp
  · obtain ⟨h1, h2⟩ := (List.Nodup.mem_erase_iff hn).mp hp
    exact h p h2 h1
theorem xorL_2 {f : Nat → Bool} {V : List Nat} (hn : V.Nodup) {q r : Nat} (hq : q ∈ V) (hr : r ∈ V) (hne : r ≠ q) (h : ∀ p ∈ V, p ≠ q → p ≠ r → f p = false) : xorL (V.map f) = (f q ^^ f r) := by
  rw [xorL_one hn hq, xorL_1 (hn.erase q) ((List.Nodup.mem_erase_iff hn).mpr ⟨hne, hr⟩) fun p hp hpr => ?_]
  obtain ⟨h1, h2⟩ := (List.Nodup.mem_erase_iff hn).mp hp
  exact h p h2 h1 hpr
theorem xorL_3 {f : Nat → Bool} {V : List Nat} (hn : V.Nodup) {q r s : Nat} (hq : q ∈ V) (hr : r ∈ V) (hs : s ∈ V) (h1 : r ≠ q) (h2 : s ≠ q) (h3 : s ≠ r) (h : ∀ p ∈ V, p ≠ q → p ≠ r → p ≠ s → f p = false) : xorL (V.map f) = (f q ^^ (f r ^^ f s)) := by
  rw [xorL_one hn hq, xorL_2 (hn.erase q) ((List.Nodup.mem_erase_iff hn).mpr ⟨h1, hr⟩) ((List.Nodup.mem_erase_iff hn).mpr ⟨h2, hs⟩) h3 fun p hp hpr hps => ?_]
  obtain ⟨z1, z2⟩ := (List.Nodup.mem_erase_iff hn).mp hp
  exact h p z2 z1 hpr hps
/-! ### what the symbols of generators are -/
def sneg (a b : Int) : Bool := decide (a < 0) && decide (b < 0)
theorem sneg_mul {a a' b : Int} (ha : a ≠ 0) (ha' : a' ≠ 0) : sneg (a * a') b = (sneg a b ^^ sneg a' b) := by
  have e : decide (a * a' < 0) = (decide (a < 0) ^^ decide (a' < 0)) := by
    rcases Int.lt_or_gt_of_ne ha with h | h <;> rcases Int.lt_or_gt_of_ne ha' with k | k
    · have := Int.mul_pos_of_neg_of_neg h k
      simp [h, k]; omega
    · have := Int.mul_neg_of_neg_of_pos h k
      simp [h, this]; omega
    · have := Int.mul_neg_of_pos_of_neg h k
      simp [k, this]; omega
    · have := Int.mul_pos h k
      have h1 : ¬ a < 0 := by omega
      have h2 : ¬ a' < 0 := by omega
      simp [h1, h2]; omega
  unfold sneg
  rw [e]
  cases decide (a < 0) <;> cases decide (a' < 0) <;> cases decide (b < 0) <;> rfl
/-- the places V, -1 beside: the product of the symbols -/
noncomputable def tot (V : List Nat) (a b : Int) : Bool := sneg a b ^^ xorL (V.map fun p => sy p a b)
section
variable {V : List Nat} (hV : ∀ p ∈ V, Pr p) (hn : V.Nodup) (h2 : 2 ∈ V)
include hV hn h2
theorem tot_mul {a a' b : Int} (ha : a ≠ 0) (ha' : a' ≠ 0) (hb : b ≠ 0) : tot V (a * a') b = (tot V a b ^^ tot V a' b) := by
  unfold tot
  have e : V.map (fun p => sy p (a * a') b) = V.map (fun p => sy p a b ^^ sy p a' b) := List.map_congr_left fun p hp => sy_mul (hV p hp) ha ha' hb
  rw [e, xorL_xor, sneg_mul ha ha']
  cases sneg a b <;> cases sneg a' b <;> cases xorL (V.map fun p => sy p a b) <;> cases xorL (V.map fun p => sy p a' b) <;> rfl
theorem tot_comm (a b : Int) : tot V a b = tot V b a := by
  unfold tot sneg
  have e : V.map (fun p => sy p a b) = V.map (fun p => sy p b a) := List.map_congr_left fun p _ => sy_comm p a b
  rw [e, Bool.and_comm]
theorem pv_neg {p : Nat} (hp : Pr p) : Pv p (-1) 0 (-1) := ⟨by simp, fun d => by
  have := Int.natAbs_dvd_natAbs.mpr d
  have := Nat.le_of_dvd (by decide) this
  have := hp.1
  omega⟩
theorem pv_self {p : Nat} (hp : Pr p) : Pv p p 1 1 := ⟨by rw [Int.pow_one, Int.mul_one], fun d => by
  have := Int.natAbs_dvd_natAbs.mpr d
  have := Nat.le_of_dvd (by decide) this
  have := hp.1
  omega⟩
theorem pv_other {p q : Nat} (hp : Pr p) (hq : Pr q) (h : p ≠ q) : Pv p q 0 q := ⟨by simp, fun d => h (hp.eq_of_dvd hq (Int.natCast_dvd_natCast.mp d))⟩
theorem tot_nn : tot V (-1) (-1) = false := by
  unfold tot
  rw [xorL_1 hn h2 fun p hp hne => ?_]
  · have p2 := hV 2 h2
    have e := sy_is p2 (show (-1 : Int) ≠ 0 by decide) (show (-1 : Int) ≠ 0 by decide) (pv_neg hV hn h2 p2) (pv_neg hV hn h2 p2)
    rw [e]
    decide
  · have pp := hV p hp
    rw [sy_is pp (by decide) (by decide) (pv_neg hV hn h2 pp) (pv_neg hV hn h2 pp)]
    unfold hsym
    rw [if_neg hne]
    simp [od]
theorem tot_nq {q : Nat} (hq : q ∈ V) : tot V (-1) q = false := by
  have qq := hV q hq
  have q0 : (q : Int) ≠ 0 := by have := qq.1; omega
  have p2 := hV 2 h2
  have hs : sneg (-1) q = false := by
    unfold sneg
    simp
  unfold tot
  rw [hs]
  by_cases e : q = 2
  · subst e
    rw [xorL_1 hn h2 fun p hp hne => ?_]
    · rw [sy_is p2 (by decide) q0 (pv_neg hV hn h2 p2) (pv_self hV hn h2 p2)]
      decide
    · have pp := hV p hp
      rw [sy_is pp (by decide) q0 (pv_neg hV hn h2 pp) (pv_other hV hn h2 pp p2 hne)]
      unfold hsym
      rw [if_neg hne]
      simp [od]
  · rw [xorL_2 hn h2 hq e fun p hp hne hnq => ?_]
    · rw [sy_is p2 (by decide) q0 (pv_neg hV hn h2 p2) (pv_other hV hn h2 p2 qq fun z => e z.symm), sy_is qq (by decide) q0 (pv_neg hV hn h2 qq) (pv_self hV hn h2 qq)]
      unfold hsym
      rw [if_pos rfl, if_neg e, nr_neg qq (half qq e)]
      have : e4 (q : Int) = decide (q % 4 = 3) := by
        unfold e4
        have : ((q : Int) % 4 = 3) = (q % 4 = 3) := by apply propext; omega
        simp only [this]
      rw [this]
      simp [od, e4]
    · have pp := hV p hp
      rw [sy_is pp (by decide) q0 (pv_neg hV hn h2 pp) (pv_other hV hn h2 pp qq hnq)]
      unfold hsym
      rw [if_neg hne]
      simp [od]
theorem tot_qq {q r : Nat} (hq : q ∈ V) (hr : r ∈ V) : tot V q r = false := by
  have qq := hV q hq
  have rr := hV r hr
  have q0 : (q : Int) ≠ 0 := by have := qq.1; omega
  have r0 : (r : Int) ≠ 0 := by have := rr.1; omega
  have p2 := hV 2 h2
  have hs : sneg q r = false := by
    unfold sneg
    simp
  have ce : ∀ q : Nat, e4 (q : Int) = decide (q % 4 = 3) := fun q => by
    unfold e4
    have : ((q : Int) % 4 = 3) = (q % 4 = 3) := by apply propext; omega
    simp only [this]
  have cw : ∀ q : Nat, Pr q → q ≠ 2 → w8 (q : Int) = nr q 2 := fun q hq h => by
    have hh := half hq h
    unfold nr
    rw [rs_two hq hh]
    unfold w8
    have : ((q : Int) % 8 = 3 ∨ (q : Int) % 8 = 5) = ¬ (q % 8 = 1 ∨ q % 8 = 7) := by
      apply propext
      constructor
      · omega
      · omega
    simp only [this]
    by_cases z : q % 8 = 1 ∨ q % 8 = 7 <;> simp [z]
  unfold tot
  rw [hs]
  have off : ∀ p ∈ V, p ≠ 2 → p ≠ q → p ≠ r → sy p q r = false := fun p hp n2 nq nr' => by
    have pp := hV p hp
    rw [sy_is pp q0 r0 (pv_other hV hn h2 pp qq nq) (pv_other hV hn h2 pp rr nr')]
    unfold hsym
    rw [if_neg n2]
    simp [od]
  by_cases eq : q = 2
  · by_cases er : r = 2
    · subst eq er
      rw [xorL_1 hn hq fun p hp hne => off p hp hne hne hne, sy_is p2 (by decide) (by decide) (pv_self hV hn h2 p2) (pv_self hV hn h2 p2)]
      decide
    · rw [xorL_2 hn h2 hr er fun p hp hne hnr => off p hp hne (by rw [eq]; exact hne) hnr]
      subst eq
      rw [sy_is p2 q0 r0 (pv_self hV hn h2 p2) (pv_other hV hn h2 p2 rr fun z => er z.symm), sy_is rr q0 r0 (pv_other hV hn h2 rr p2 er) (pv_self hV hn h2 rr)]
      unfold hsym
      rw [if_pos rfl, if_neg er, cw r rr er]
      simp [od, e4, w8]
  · by_cases er : r = 2
    · rw [xorL_2 hn h2 hq eq fun p hp hne hnq => off p hp hne hnq (by rw [er]; exact hne)]
      subst er
      rw [sy_is p2 q0 r0 (pv_other hV hn h2 p2 qq fun z => eq z.symm) (pv_self hV hn h2 p2), sy_is qq q0 r0 (pv_self hV hn h2 qq) (pv_other hV hn h2 qq p2 eq)]
      unfold hsym
      rw [if_pos rfl, if_neg eq, cw q qq eq]
      simp [od, e4, w8]
    · by_cases e : q = r
      · subst e
        rw [xorL_2 hn h2 hq eq fun p hp hne hnq => off p hp hne hnq hnq]
        rw [sy_is p2 q0 q0 (pv_other hV hn h2 p2 qq fun z => eq z.symm) (pv_other hV hn h2 p2 qq fun z => eq z.symm), sy_is qq q0 q0 (pv_self hV hn h2 qq) (pv_self hV hn h2 qq)]
        unfold hsym
        rw [if_pos rfl, if_neg eq, nr_one qq (half qq eq), ce]
        simp [od]
      · rw [xorL_3 hn h2 hq hr eq er (fun z => e z.symm) fun p hp a b c => off p hp a b c]
        rw [sy_is p2 q0 r0 (pv_other hV hn h2 p2 qq fun z => eq z.symm) (pv_other hV hn h2 p2 rr fun z => er z.symm), sy_is qq q0 r0 (pv_self hV hn h2 qq) (pv_other hV hn h2 qq rr e),
          sy_is rr q0 r0 (pv_other hV hn h2 rr qq fun z => e z.symm) (pv_self hV hn h2 rr)]
        unfold hsym
        rw [if_pos rfl, if_neg eq, if_neg er, ce, ce]
        have hr' := recip qq rr (half qq eq) (half rr er) e
        have par : decide ((q - 1) / 2 * ((r - 1) / 2) % 2 = 0) = !(decide (q % 4 = 3) && decide (r % 4 = 3)) := by
          have a1 := half qq eq
          have a2 := half rr er
          generalize (q - 1) / 2 = x at *
          generalize (r - 1) / 2 = y at *
          have hx : x % 2 = 0 ∨ x % 2 = 1 := by omega
          have hy : y % 2 = 0 ∨ y % 2 = 1 := by omega
          have m : x * y % 2 = (x % 2) * (y % 2) % 2 := Nat.mul_mod ..
          rw [m]
          rcases hx with u | u <;> rcases hy with v | v <;> rw [u, v]
          · have : ¬ q % 4 = 3 := by omega
            simp [this]
          · have : ¬ q % 4 = 3 := by omega
            simp [this]
          · have : ¬ r % 4 = 3 := by omega
            simp [this]
          · have b1 : q % 4 = 3 := by omega
            have b2 : r % 4 = 3 := by omega
            simp [b1, b2]
        rw [par] at hr'
        unfold nr
        revert hr'
        generalize rs q r = A
        generalize rs r q = B
        generalize decide (q % 4 = 3) = C
        generalize decide (r % 4 = 3) = E
        have o0 : od 0 = false := rfl
        have o1 : od 1 = true := rfl
        rw [o0, o1]
        cases A <;> cases B <;> cases C <;> cases E <;> simp
/-- all that is made of -1 and the primes of V -/
theorem tot_all : ∀ (f : Nat) (a b : Int), a ≠ 0 → b ≠ 0 → a.natAbs + b.natAbs ≤ f → (∀ p, Pr p → (p : Int) ∣ a → p ∈ V) → (∀ p, Pr p → (p : Int) ∣ b → p ∈ V) → tot V a b = false := by
  have one : ∀ b : Int, b ≠ 0 → tot V 1 b = false := fun b hb => by
    have := tot_mul hV hn h2 (a := 1) (a' := 1) (b := b) (by decide) (by decide) hb
    simp only [Int.mul_one] at this
    revert this
    cases tot V 1 b <;> decide
  -- one generator on the left
  have gen : ∀ x : Int, x ≠ 0 → (tot V x (-1) = false) → (∀ q ∈ V, tot V x q = false) → ∀ (f : Nat) (b : Int), b ≠ 0 → b.natAbs ≤ f → (∀ p, Pr p → (p : Int) ∣ b → p ∈ V) → tot V x b = false := by
    intro x hx hm hq f
    induction f with
    | zero => intro b hb h; omega
    | succ f ih =>
      intro b hb h hp
      by_cases h1 : b.natAbs = 1
      · have : b = 1 ∨ b = -1 := by omega
        rcases this with rfl | rfl
        · rw [tot_comm hV hn h2]; exact one x hx
        · exact hm
      · obtain ⟨p, pp, d⟩ := has_prime b.natAbs (by omega)
        have d : (p : Int) ∣ b := Int.natAbs_dvd_natAbs.mp (by exact d)
        have hpV := hp p pp d
        obtain ⟨c, rfl⟩ := d
        have c0 : c ≠ 0 := fun e => hb (by rw [e]; simp)
        have p0 : (p : Int) ≠ 0 := by have := pp.1; omega
        rw [tot_comm hV hn h2, tot_mul hV hn h2 p0 c0 hx, tot_comm hV hn h2 _ x, hq p hpV, tot_comm hV hn h2 _ x, ih c c0 ?_ fun q qq dq => hp q qq (Int.dvd_trans dq (Int.dvd_mul_left ..))]
        · rfl
        · rw [Int.natAbs_mul] at h
          have h3 : (p : Int).natAbs = p := rfl
          rw [h3] at h
          have := Nat.mul_le_mul_right c.natAbs pp.1
          omega
  intro f
  induction f with
  | zero => intro a b ha hb h; omega
  | succ f ih =>
    intro a b ha hb h hpa hpb
    by_cases h1 : a.natAbs = 1
    · have : a = 1 ∨ a = -1 := by omega
      rcases this with rfl | rfl
      · exact one b hb
      · exact gen (-1) (by decide) (tot_nn hV hn h2) (fun q hq => tot_nq hV hn h2 hq) _ b hb (Nat.le_refl _) hpb
    · obtain ⟨p, pp, d⟩ := has_prime a.natAbs (by omega)
      have d : (p : Int) ∣ a := Int.natAbs_dvd_natAbs.mp (by exact d)
      have hpV := hpa p pp d
      obtain ⟨c, rfl⟩ := d
      have c0 : c ≠ 0 := fun e => ha (by rw [e]; simp)
      have p0 : (p : Int) ≠ 0 := by have := pp.1; omega
      rw [tot_mul hV hn h2 p0 c0 hb, gen p p0 (by rw [tot_comm hV hn h2]; exact tot_nq hV hn h2 hpV) (fun q hq => tot_qq hV hn h2 hpV hq) _ b hb (Nat.le_refl _) hpb, ih c b c0 hb ?_ (fun q qq dq => hpa q qq (Int.dvd_trans dq (Int.dvd_mul_left ..))) hpb]
      · rfl
      · rw [Int.natAbs_mul] at h
        have h3 : (p : Int).natAbs = p := rfl
        rw [h3] at h
        have := Nat.mul_le_mul_right c.natAbs pp.1
        omega
end
end NT

end
section
set_option Elab.async false
set_option linter.all false
set_option maxRecDepth 100000
/-! plain numbers: symbols at 2, 3, 5 and zeros modulo powers -/
namespace NT
/-- a * x * x + b * y * y - z * z has a zero modulo N, not all divisible by p -/
def Solv (p N : Nat) (a b : Int) : Prop := ∃ x y z : Int, (N : Int) ∣ a * (x * x) + b * (y * y) - z * z ∧ ¬ ((p : Int) ∣ x ∧ (p : Int) ∣ y ∧ (p : Int) ∣ z)
theorem Solv.comm {p N : Nat} {a b : Int} (h : Solv p N a b) : Solv p N b a := by
  obtain ⟨x, y, z, d, n⟩ := h
  exact ⟨y, x, z, by rw [Int.add_comm]; exact d, fun k => n ⟨k.2.1, k.1, k.2.2⟩⟩
theorem Solv.unit {p N : Nat} (hp : Pr p) {a b r u : Int} (hu : ¬ (p : Int) ∣ u) (e : (N : Int) ∣ a * (u * u) - r) (h : Solv p N r b) : Solv p N a b := by
  obtain ⟨x, y, z, ⟨k, hk⟩, n⟩ := h
  obtain ⟨j, hj⟩ := e
  refine ⟨u * x, y, z, ⟨k + j * (x * x), ?_⟩, fun q => n ⟨(hp.euclidI q.1).resolve_left hu, q.2⟩⟩
  have e1 : a * (u * x * (u * x)) = (a * (u * u)) * (x * x) := by grind
  have e2 : a * (u * u) = r + N * j := by omega
  rw [e1, e2]
  have e3 : (r + N * j) * (x * x) = r * (x * x) + N * (j * (x * x)) := by grind
  have e4 : (N : Int) * (k + j * (x * x)) = N * k + N * (j * (x * x)) := by grind
  rw [e3, e4]
  omega
/-! ### computed -/
def anyN : Nat → (Nat → Bool) → Bool
  | 0, _ => false
  | n + 1, f => f n || anyN n f
theorem anyN_iff {f : Nat → Bool} : ∀ {n : Nat}, anyN n f = true ↔ ∃ i, i < n ∧ f i = true
  | 0 => by simp [anyN]
  | n + 1 => by
    rw [anyN, Bool.or_eq_true, anyN_iff]
    constructor
    · rintro (h | ⟨i, h1, h2⟩)
      · exact ⟨n, by omega, h⟩
      · exact ⟨i, by omega, h2⟩
    · rintro ⟨i, h1, h2⟩
      by_cases e : i = n
      · subst e; exact .inl h2
      · exact .inr ⟨i, by omega, h2⟩
def solvC (p N m1 m2 r s : Nat) : Bool := anyN N fun x => anyN N fun y => m1.testBit ((r * (x * x) + s * (y * y)) % N) && (x % p != 0 || (y % p != 0 || m2.testBit ((r * (x * x) + s * (y * y)) % N)))
def mskOk (p N m1 m2 : Nat) : Bool := !anyN N fun t => (m1.testBit t != anyN N fun z => z * z % N == t) || (m2.testBit t != anyN N fun z => z * z % N == t && z % p != 0)
theorem msk_1 {p N m1 m2 t : Nat} (h : mskOk p N m1 m2 = true) (ht : t < N) : (m1.testBit t = true ↔ ∃ z, z < N ∧ z * z % N = t) ∧ (m2.testBit t = true ↔ ∃ z, z < N ∧ z * z % N = t ∧ z % p ≠ 0) := by
  unfold mskOk at h
  have h2 : ((m1.testBit t != anyN N fun z => z * z % N == t) || (m2.testBit t != anyN N fun z => z * z % N == t && z % p != 0)) = false := by
    cases e : ((m1.testBit t != anyN N fun z => z * z % N == t) || (m2.testBit t != anyN N fun z => z * z % N == t && z % p != 0)) with
    | false => rfl
    | true =>
      have := (anyN_iff (f := fun t => (m1.testBit t != anyN N fun z => z * z % N == t) || (m2.testBit t != anyN N fun z => z * z % N == t && z % p != 0))).mpr ⟨t, ht, e⟩
      rw [this] at h
      cases h
  rw [Bool.or_eq_false_iff, bne_eq_false_iff_eq, bne_eq_false_iff_eq] at h2
  rw [h2.1, h2.2, anyN_iff, anyN_iff]
  constructor
  · simp
  · simp
theorem emod_nat {N : Nat} (hN : 0 < N) (x : Int) : ∃ k : Nat, k < N ∧ (N : Int) ∣ x - k := by
  have h1 := Int.emod_nonneg x (show (N : Int) ≠ 0 by omega)
  have h2 := Int.emod_lt_of_pos x (show (0 : Int) < N by omega)
  refine ⟨(x % N).toNat, by omega, ?_⟩
  rw [Int.toNat_of_nonneg h1]
  exact ⟨x / N, by have := Int.emod_add_mul_ediv x N; omega⟩
theorem dvd_sub_iff {p N : Nat} (hd : p ∣ N) {x y : Int} (h : (N : Int) ∣ x - y) : (p : Int) ∣ x ↔ (p : Int) ∣ y := by
  have h1 : (p : Int) ∣ x - y := Int.dvd_trans (Int.natCast_dvd_natCast.mpr hd) h
  constructor
  · intro k
    have := Int.dvd_sub k h1
    rwa [show x - (x - y) = y by omega] at this
  · intro k
    have := Int.dvd_add h1 k
    rwa [show x - y + y = x by omega] at this
/-- small ones do -/
theorem Solv.small {p N : Nat} (hN : 0 < N) (hd : p ∣ N) {a b : Int} (h : Solv p N a b) : ∃ x y z : Nat, x < N ∧ y < N ∧ z < N ∧ (N : Int) ∣ a * (x * x) + b * (y * y) - z * z ∧ (x % p ≠ 0 ∨ y % p ≠ 0 ∨ z % p ≠ 0) := by
  obtain ⟨x, y, z, d, n⟩ := h
  obtain ⟨x', hx, ex⟩ := emod_nat hN x
  obtain ⟨y', hy, ey⟩ := emod_nat hN y
  obtain ⟨z', hz, ez⟩ := emod_nat hN z
  rw [dvd_sub_iff hd ex, dvd_sub_iff hd ey, dvd_sub_iff hd ez] at n
  refine ⟨x', y', z', hx, hy, hz, ?_, ?_⟩
  · obtain ⟨k, hk⟩ := d
    obtain ⟨u, hu⟩ := ex
    obtain ⟨v, hv⟩ := ey
    obtain ⟨w, hw⟩ := ez
    have e1 : x = x' + N * u := by omega
    have e2 : y = y' + N * v := by omega
    have e3 : z = z' + N * w := by omega
    subst e1 e2 e3
    refine ⟨k - a * (2 * x' * u + N * u * u) - b * (2 * y' * v + N * v * v) + (2 * z' * w + N * w * w), ?_⟩
    grind
  · refine Classical.byContradiction fun hc => n ?_
    have hx : x' % p = 0 := Classical.byContradiction fun z => hc (.inl z)
    have hy : y' % p = 0 := Classical.byContradiction fun z => hc (.inr (.inl z))
    have hz : z' % p = 0 := Classical.byContradiction fun z => hc (.inr (.inr z))
    exact ⟨Int.natCast_dvd_natCast.mpr (Nat.dvd_of_mod_eq_zero hx), Int.natCast_dvd_natCast.mpr (Nat.dvd_of_mod_eq_zero hy), Int.natCast_dvd_natCast.mpr (Nat.dvd_of_mod_eq_zero hz)⟩
theorem solvC_iff {p N m1 m2 r s : Nat} (hN : 0 < N) (hd : p ∣ N) (hm : mskOk p N m1 m2 = true) : solvC p N m1 m2 r s = true ↔ Solv p N r s := by
  unfold solvC
  rw [anyN_iff]
  constructor
  · rintro ⟨x, hx, h⟩
    obtain ⟨y, hy, h⟩ := anyN_iff.mp h
    rw [Bool.and_eq_true, Bool.or_eq_true, Bool.or_eq_true] at h
    obtain ⟨h1, h2⟩ := h
    generalize ht : (r * (x * x) + s * (y * y)) % N = t at h1 h2
    have lt : t < N := by rw [← ht]; exact Nat.mod_lt _ hN
    obtain ⟨m1', m2'⟩ := msk_1 hm lt
    have fin : ∀ z : Nat, z * z % N = t → (x % p ≠ 0 ∨ y % p ≠ 0 ∨ z % p ≠ 0) → Solv p N r s := fun z hz hn => by
      refine ⟨x, y, z, ?_, fun ⟨d1, d2, d3⟩ => ?_⟩
      · have e : ((r * (x * x) + s * (y * y) : Nat) : Int) % N = ((z * z : Nat) : Int) % N := by
          rw [← Int.natCast_emod, ← Int.natCast_emod, ht, hz]
        have := Int.emod_emod_of_dvd
        have d := (Int.emod_eq_emod_iff_emod_sub_eq_zero ..).mp e
        have d := Int.dvd_of_emod_eq_zero d
        simpa using d
      · have f1 := Nat.mod_eq_zero_of_dvd (Int.natCast_dvd_natCast.mp d1)
        have f2 := Nat.mod_eq_zero_of_dvd (Int.natCast_dvd_natCast.mp d2)
        have f3 := Nat.mod_eq_zero_of_dvd (Int.natCast_dvd_natCast.mp d3)
        omega
    rcases h2 with h2 | h2 | h2
    · obtain ⟨z, _, hz⟩ := m1'.mp h1
      exact fin z hz (.inl (by simpa using h2))
    · obtain ⟨z, _, hz⟩ := m1'.mp h1
      exact fin z hz (.inr (.inl (by simpa using h2)))
    · obtain ⟨z, _, hz, nz⟩ := m2'.mp h2
      exact fin z hz (.inr (.inr nz))
  · intro h
    obtain ⟨x, y, z, hx, hy, hz, d, n⟩ := h.small hN hd
    refine ⟨x, hx, anyN_iff.mpr ⟨y, hy, ?_⟩⟩
    have e : (r * (x * x) + s * (y * y)) % N = z * z % N := by
      have d2 := Int.emod_eq_zero_of_dvd d
      have d3 : ((r * (x * x) + s * (y * y) : Nat) : Int) % N = ((z * z : Nat) : Int) % N := (Int.emod_eq_emod_iff_emod_sub_eq_zero ..).mpr (by simpa using d2)
      rw [← Int.natCast_emod, ← Int.natCast_emod] at d3
      exact Int.ofNat.inj d3
    rw [e]
    obtain ⟨m1', m2'⟩ := msk_1 hm (Nat.mod_lt (z * z) hN)
    rw [Bool.and_eq_true, Bool.or_eq_true, Bool.or_eq_true]
    refine ⟨m1'.mpr ⟨z, hz, rfl⟩, ?_⟩
    rcases n with n | n | n
    · exact .inl (by simpa using n)
    · exact .inr (.inl (by simpa using n))
    · exact .inr (.inr (m2'.mpr ⟨z, hz, rfl, n⟩))
/-! ### what of a number counts -/
def kd (p : Nat) (s : Int) : Bool × Bool := if p = 2 then (e4 s, w8 s) else (nr p s, false)
def hD (p : Nat) (d e : Nat × Bool × Bool) : Bool := if p = 2 then ((d.2.1 && e.2.1) ^^ (od d.1 && e.2.2)) ^^ (od e.1 && d.2.2) else ((od d.1 && od e.1 && decide (p % 4 = 3)) ^^ (od e.1 && d.2.1)) ^^ (od d.1 && e.2.1)
theorem hsym_hD (p i : Nat) (s : Int) (j : Nat) (t : Int) : hsym p i s j t = hD p (i, kd p s) (j, kd p t) := by
  unfold hsym hD kd
  by_cases h : p = 2
  · rw [if_pos h, if_pos h, if_pos h, if_pos h]
  · rw [if_neg h, if_neg h, if_neg h, if_neg h]
def kM (p : Nat) : Nat := if p = 2 then 8 else p
theorem kd_cong {p : Nat} {s t : Int} (h : (kM p : Int) ∣ s - t) : kd p s = kd p t := by
  unfold kM at h
  unfold kd
  by_cases e : p = 2
  · rw [if_pos e] at h
    rw [if_pos e, if_pos e]
    obtain ⟨k, hk⟩ := h
    have h4 : s % 4 = t % 4 := by omega
    have h8 : s % 8 = t % 8 := by omega
    unfold e4 w8
    rw [h4, h8]
  · rw [if_neg e] at h
    rw [if_neg e, if_neg e]
    have h1 : s % p = t % p := (Int.emod_eq_emod_iff_emod_sub_eq_zero ..).mpr (Int.emod_eq_zero_of_dvd h)
    unfold nr rs
    rw [h1]
def dat (p α : Nat) : Nat × Bool × Bool := if α % p = 0 then (1, kd p ((α / p : Nat) : Int)) else (0, kd p (α : Int))
noncomputable def datI (p : Nat) (a : Int) : Nat × Bool × Bool := (vl p a, kd p (un p a))
theorem sy_hD (p : Nat) (a b : Int) : sy p a b = hD p (datI p a) (datI p b) := hsym_hD ..
theorem dat_is {p N α : Nat} (hp : Pr p) (hN : p * kM p ∣ N) {a : Int} (h0 : a ≠ 0) (h2 : ¬ ((p * p : Nat) : Int) ∣ a) (e : (N : Int) ∣ a - α) : datI p a = dat p α := by
  have pp : (p : Int) ≠ 0 := by have := hp.1; omega
  obtain ⟨M, rfl⟩ := hN
  obtain ⟨k, hk⟩ := e
  unfold datI dat
  by_cases h : α % p = 0
  · rw [if_pos h]
    obtain ⟨σ, rfl⟩ := Nat.dvd_of_mod_eq_zero h
    rw [Nat.mul_div_cancel_left σ hp.pos]
    have ea : a = (p : Int) * (σ + kM p * (M * k)) := by
      have : ((p * kM p * M : Nat) : Int) * k = p * (kM p * (M * k)) := by
        rw [Int.natCast_mul, Int.natCast_mul]; grind
      rw [this] at hk
      have : ((p * σ : Nat) : Int) = p * σ := Int.natCast_mul ..
      rw [this] at hk
      have : (p : Int) * (σ + kM p * (M * k)) = p * σ + p * (kM p * (M * k)) := Int.mul_add ..
      omega
    have pv : Pv p a 1 (σ + kM p * (M * k)) := ⟨by rw [Int.pow_succ, Int.pow_zero, Int.one_mul]; exact ea, fun d => h2 (by
      rw [ea, Int.natCast_mul]
      exact Int.mul_dvd_mul (Int.dvd_refl _) d)⟩
    obtain ⟨e1, e2⟩ := vl_is hp h0 pv
    rw [e1, e2]
    congr 1
    refine kd_cong ⟨M * k, ?_⟩
    omega
  · rw [if_neg h]
    have na : ¬ (p : Int) ∣ a := fun d => h (Nat.mod_eq_zero_of_dvd (Int.natCast_dvd_natCast.mp ((dvd_sub_iff (N := p * kM p * M) ⟨kM p * M, by rw [Nat.mul_assoc]⟩ ⟨k, hk⟩).mp d)))
    obtain ⟨e1, e2⟩ := vl_is hp h0 (show Pv p a 0 a from ⟨by simp, na⟩)
    rw [e1, e2]
    congr 1
    refine kd_cong ⟨p * (M * k), ?_⟩
    rw [hk, Int.natCast_mul, Int.natCast_mul]
    grind
/-- what is looked at -/
def repOk (p N : Nat) (reps : List Nat) : Bool := !anyN N fun α => !(α % (p * p) == 0 || reps.any fun r => decide (dat p α = dat p r) && (anyN N (fun u => u % p != 0 && α * (u * u) % N == r) && anyN N (fun u => u % p != 0 && r * (u * u) % N == α)))
def allOk (p N m1 m2 : Nat) (reps : List Nat) : Bool := reps.all fun r => reps.all fun s => solvC p N m1 m2 r s == !hD p (dat p r) (dat p s)
theorem rep_of {p N α : Nat} {reps : List Nat} (h : repOk p N reps = true) (ha : α < N) (h2 : α % (p * p) ≠ 0) : ∃ r ∈ reps, dat p α = dat p r ∧ (∃ u, u % p ≠ 0 ∧ α * (u * u) % N = r) ∧ ∃ u, u % p ≠ 0 ∧ r * (u * u) % N = α := by
  unfold repOk at h
  have h3 : (α % (p * p) == 0 || reps.any fun r => decide (dat p α = dat p r) && (anyN N (fun u => u % p != 0 && α * (u * u) % N == r) && anyN N (fun u => u % p != 0 && r * (u * u) % N == α))) = true := by
    cases e : (α % (p * p) == 0 || reps.any fun r => decide (dat p α = dat p r) && (anyN N (fun u => u % p != 0 && α * (u * u) % N == r) && anyN N (fun u => u % p != 0 && r * (u * u) % N == α))) with
    | true => rfl
    | false =>
      have := (anyN_iff (f := fun α => !(α % (p * p) == 0 || reps.any fun r => decide (dat p α = dat p r) && (anyN N (fun u => u % p != 0 && α * (u * u) % N == r) && anyN N (fun u => u % p != 0 && r * (u * u) % N == α))))).mpr ⟨α, ha, show (!(α % (p * p) == 0 || reps.any fun r => decide (dat p α = dat p r) && (anyN N (fun u => u % p != 0 && α * (u * u) % N == r) && anyN N (fun u => u % p != 0 && r * (u * u) % N == α)))) = true by rw [e]; rfl⟩
      rw [this] at h
      cases h
  rw [Bool.or_eq_true] at h3
  have h3 := h3.resolve_left fun z => h2 (by simpa using z)
  obtain ⟨r, hr, h4⟩ := List.any_eq_true.mp h3
  rw [Bool.and_eq_true, Bool.and_eq_true] at h4
  obtain ⟨u, _, hu⟩ := anyN_iff.mp h4.2.1
  obtain ⟨v, _, hv⟩ := anyN_iff.mp h4.2.2
  rw [Bool.and_eq_true] at hu hv
  exact ⟨r, hr, of_decide_eq_true h4.1, ⟨u, by simpa using hu⟩, ⟨v, by simpa using hv⟩⟩
theorem unit_dvd {p N α r u : Nat} (hu : u % p ≠ 0) (e : α * (u * u) % N = r) : ¬ (p : Int) ∣ (u : Int) ∧ (N : Int) ∣ (α : Int) * ((u : Int) * u) - r := by
  refine ⟨fun d => hu (Nat.mod_eq_zero_of_dvd (Int.natCast_dvd_natCast.mp d)), ?_⟩
  have h := mod_cong (p := N) ((α * (u * u) : Nat) : Int)
  rw [← Int.natCast_emod, e] at h
  simpa using h
theorem neg_dvd {N : Nat} {a α : Int} (h : (N : Int) ∣ a - α) : (N : Int) ∣ α * (1 * 1) - a := by
  obtain ⟨k, hk⟩ := h
  exact ⟨-k, by
    have : (N : Int) * -k = -(N * k) := by grind
    omega⟩
theorem solv_iff {p N m1 m2 : Nat} {reps : List Nat} (hp : Pr p) (hN : 0 < N) (hk : p * kM p ∣ N) (hs : p * p ∣ N) (h1 : mskOk p N m1 m2 = true) (h2 : repOk p N reps = true) (h3 : allOk p N m1 m2 reps = true) {a b : Int} (a0 : a ≠ 0) (b0 : b ≠ 0)
    (ha : ¬ ((p * p : Nat) : Int) ∣ a) (hb : ¬ ((p * p : Nat) : Int) ∣ b) : Solv p N a b ↔ sy p a b = false := by
  have pd : p ∣ N := Nat.dvd_trans (Nat.dvd_mul_right p _) hk
  have one : ¬ (p : Int) ∣ 1 := fun d => by have := Int.le_of_dvd (by decide) d; have := hp.1; omega
  obtain ⟨α, αN, ea⟩ := emod_nat hN a
  obtain ⟨β, βN, eb⟩ := emod_nat hN b
  have na : α % (p * p) ≠ 0 := fun z => ha ((dvd_sub_iff hs ea).mpr (Int.natCast_dvd_natCast.mpr (Nat.dvd_of_mod_eq_zero z)))
  have nb : β % (p * p) ≠ 0 := fun z => hb ((dvd_sub_iff hs eb).mpr (Int.natCast_dvd_natCast.mpr (Nat.dvd_of_mod_eq_zero z)))
  obtain ⟨r, hr, dr, ⟨u, u1, u2⟩, ⟨v, v1, v2⟩⟩ := rep_of h2 αN na
  obtain ⟨s, hs', ds, ⟨w, w1, w2⟩, ⟨x, x1, x2⟩⟩ := rep_of h2 βN nb
  have U := unit_dvd u1 u2
  have V := unit_dvd v1 v2
  have Wd := unit_dvd w1 w2
  have X := unit_dvd x1 x2
  have c1 : ∀ {b : Int}, Solv p N r b ↔ Solv p N a b := fun {b} => by
    have s1 : Solv p N r b → Solv p N α b := fun h => h.unit hp U.1 U.2
    have s2 : Solv p N α b → Solv p N r b := fun h => h.unit hp V.1 V.2
    have s3 : Solv p N α b → Solv p N a b := fun h => h.unit hp one (by simpa using ea)
    have s4 : Solv p N a b → Solv p N α b := fun h => h.unit hp one (neg_dvd ea)
    exact ⟨fun h => s3 (s1 h), fun h => s2 (s4 h)⟩
  have c2 : ∀ {a : Int}, Solv p N s a ↔ Solv p N b a := fun {a} => by
    have s1 : Solv p N s a → Solv p N β a := fun h => h.unit hp Wd.1 Wd.2
    have s2 : Solv p N β a → Solv p N s a := fun h => h.unit hp X.1 X.2
    have s3 : Solv p N β a → Solv p N b a := fun h => h.unit hp one (by simpa using eb)
    have s4 : Solv p N b a → Solv p N β a := fun h => h.unit hp one (neg_dvd eb)
    exact ⟨fun h => s3 (s1 h), fun h => s2 (s4 h)⟩
  have c3 : Solv p N a b ↔ Solv p N r s := by
    rw [← c1]
    exact ⟨fun h => (c2.mpr h.comm).comm, fun h => (c2.mp h.comm).comm⟩
  rw [c3, ← solvC_iff hN pd h1, sy_hD, dat_is hp hk a0 ha ea, dat_is hp hk b0 hb eb, dr, ds]
  have := List.all_eq_true.mp (List.all_eq_true.mp h3 r hr) s hs'
  rw [beq_iff_eq] at this
  rw [this]
  cases hD p (dat p r) (dat p s) <;> simp
theorem solv2 {a b : Int} (a0 : a ≠ 0) (b0 : b ≠ 0) (ha : ¬ (4 : Int) ∣ a) (hb : ¬ (4 : Int) ∣ b) : Solv 2 32 a b ↔ sy 2 a b = false :=
  solv_iff (m1 := 33751571) (m2 := 33686018) (reps := [1, 3, 5, 7, 2, 6, 10, 14]) ⟨by decide, fun d hd => by
    have := Nat.le_of_dvd (by decide) hd
    have : d ≠ 0 := fun z => by subst z; exact absurd (Nat.eq_zero_of_zero_dvd hd) (by decide)
    omega⟩ (by decide) (by decide) (by decide) (by decide +kernel) (by decide +kernel) (by decide +kernel) a0 b0 ha hb
theorem solv3 {a b : Int} (a0 : a ≠ 0) (b0 : b ≠ 0) (ha : ¬ (9 : Int) ∣ a) (hb : ¬ (9 : Int) ∣ b) : Solv 3 27 a b ↔ sy 3 a b = false :=
  solv_iff (m1 := 38348435) (m2 := 38347922) (reps := [1, 2, 3, 6]) (prime_of (q := 2) (by decide) (by decide) (fun d a b => by omega)) (by decide) (by decide) (by decide) (by decide +kernel) (by decide +kernel) (by decide +kernel) a0 b0 ha hb
theorem pr5 : Pr 5 := prime_of (q := 3) (by decide) (by decide) fun d a b => by
  have h : d = 2 := by omega
  subst h
  decide
theorem solv5 {a b : Int} (a0 : a ≠ 0) (b0 : b ≠ 0) (ha : ¬ (25 : Int) ∣ a) (hb : ¬ (25 : Int) ∣ b) : Solv 5 125 a b ↔ sy 5 a b = false :=
  solv_iff (m1 := 24697914995783230640893687520010259027) (m2 := 24697913728132630412664286023273499218) (reps := [1, 2, 5, 10]) pr5 (by decide) (by decide) (by decide) (by decide +kernel) (by decide +kernel) (by decide +kernel) a0 b0 ha hb
end NT

end
section
set_option Elab.async false
set_option linter.all false
set_option maxRecDepth 100000
/-! k01: what the defs promise -/
namespace K01
open PySem PySem.Spec PyProof.Rows L2 RZ PD NT

def numIn (d : D) (lo hi : Int) : Bool := match d with
  | .int i => decide (lo ≤ i ∧ i ≤ hi)
  | _ => false
def Plain (d : D) : Prop := (tyD d).isSome = true ∧ isBool d = false
def F_is_number : FP := fun args P _ => ∃ d lo hi, args = [d, .int lo, .int hi] ∧ Plain d ∧ P (.bl (numIn d lo hi))
/-- a number that is asked -/
def Ask (i : Int) : Prop := i ≠ 0 ∧ i.natAbs ≤ 1000000
/-- a number of any size, not 0 -/
def Big (i : Int) : Prop := i ≠ 0 ∧ i.natAbs < 2 ^ 100
def PF (n : Nat) (l : List (Nat × Nat)) : Prop := (∀ x ∈ l, Pr x.1 ∧ 1 ≤ x.2 ∧ Ex x.1 n x.2) ∧ l.Pairwise (fun x y => x.1 < y.1) ∧ ∀ p, Pr p → p ∣ n → ∃ x ∈ l, x.1 = p
def pairD (x : Nat × Nat) : D := .tup [.int x.1, .int x.2]
def F_primes_of : FP := fun args P _ => ∃ i : Int, args = [.int i] ∧ Ask i ∧ ∀ l, PF i.natAbs l → P (.lst (l.map pairD))
open Classical in
noncomputable def prB (i : Int) : Bool := decide (1 < i ∧ Pr i.toNat)
def F_is_prime : FP := fun args P _ => ∃ i : Int, args = [.int i] ∧ i.natAbs ≤ 1000000 ∧ P (.bl (prB i))
/-- the core -/
def oddP : List (Nat × Nat) → Int
  | [] => 1
  | x :: l => (if x.2 % 2 = 1 then (x.1 : Int) else 1) * oddP l
def CoreR (i c : Int) : Prop := ∃ l, PF i.natAbs l ∧ c = (if 0 < i then 1 else -1) * oddP l
def F_core_of : FP := fun args P _ => ∃ i : Int, args = [.int i] ∧ Ask i ∧ ∀ c, CoreR i c → P (.int c)
def F_power : FP := fun args P _ => ∃ (b : Int) (n m : Nat), args = [.int b, .int n, .int m] ∧ b.natAbs < 2 ^ 200 ∧ n ≤ 1000000 ∧ 2 ≤ m ∧ m ≤ 1000000 ∧ P (.int ((b % m) ^ n % m))
/-- an odd prime -/
def OddPr (p : Nat) : Prop := Pr p ∧ p ≠ 2 ∧ p ≤ 1000000
def F_residue : FP := fun args P _ => ∃ (s : Int) (p : Nat), args = [.int s, .int p] ∧ s.natAbs < 2 ^ 200 ∧ OddPr p ∧ P (.int (sB (nr p s)))
def okI (d : D) : Bool := match d with
  | .int i => decide (i ≠ 0 ∧ i.natAbs ≤ 1000000)
  | _ => false
noncomputable def okP (d : D) : Bool := match d with
  | .int i => (decide (i = -1)) || (decide (i < 100000) && prB i)
  | _ => false
/-- what may be asked -/
def TryN (d : D) : Prop := Plain d ∧ ∀ i, d = .int i → i.natAbs < 2 ^ 60
def F_check_integer : FP := fun args P W => ∃ d, args = [d] ∧ TryN d ∧ (okI d = true → P .non) ∧ (okI d = false → W .range)
def F_check_place : FP := fun args P W => ∃ d, args = [d] ∧ TryN d ∧ (okP d = true → P .non) ∧ (okP d = false → W .range)
def F_parted : FP := fun args P _ => ∃ (n : Int) (p : Nat), args = [.int n, .int p] ∧ Big n ∧ Pr p ∧ p ≤ 1000000 ∧ ∀ i s, Pv p n i s → P (.tup [.int (i : Nat), .int s])
/-- a place -/
def Plc (v : Int) : Prop := v = -1 ∨ ∃ p : Nat, v = p ∧ Pr p ∧ p ≤ 1000000
noncomputable def syV (v a b : Int) : Bool := if v = -1 then sneg a b else sy v.toNat a b
noncomputable def sqB (a v : Int) : Bool := if v = -1 then decide (0 < a) else !od (vl v.toNat a) && (if v = 2 then decide (un v.toNat a % 8 = 1) else rs v.toNat (un v.toNat a))
def F_symbol_at : FP := fun args P _ => ∃ a b v : Int, args = [.int a, .int b, .int v] ∧ Big a ∧ Big b ∧ Plc v ∧ P (.int (sB (syV v a b)))
def F_is_square_at : FP := fun args P _ => ∃ a v : Int, args = [.int a, .int v] ∧ Big a ∧ Plc v ∧ P (.bl (sqB a v))
def ndl (l : List Nat) : D := .lst (l.map fun x : Nat => .int x)
/-- 2 and the primes of two numbers, ascending -/
def Two (a b : Int) (l : List Nat) : Prop := l.Pairwise (· < ·) ∧ ∀ p, p ∈ l ↔ p = 2 ∨ (Pr p ∧ (p ∣ a.natAbs ∨ p ∣ b.natAbs))
def F_primes_in : FP := fun args P _ => ∃ a b : Int, args = [.tup [.int a, .int b]] ∧ Ask a ∧ Ask b ∧ ∀ l, Two a b l → P (ndl l)
def F_core : FP := fun args P W => ∃ d, args = [d] ∧ TryN d ∧ (∀ i c, d = .int i → Ask i → CoreR i c → P (.int c)) ∧ (okI d = false → W .range)
def F_symbol : FP := fun args P W => ∃ d e f, args = [d, e, f] ∧ TryN d ∧ TryN e ∧ TryN f ∧ (∀ a b v, d = .int a → e = .int b → f = .int v → Ask a → Ask b → Plc v → v < 100000 → P (.int (sB (syV v a b)))) ∧ ((okI d && okI e && okP f) = false → W .range)
def F_square_at : FP := fun args P W => ∃ d f, args = [d, f] ∧ TryN d ∧ TryN f ∧ (∀ a v, d = .int a → f = .int v → Ask a → Plc v → v < 100000 → P (.bl (sqB a v))) ∧ ((okI d && okP f) = false → W .range)
/-- the places of a list at which the symbol is -1 -/
noncomputable def oddV (a b : Int) (l : List Nat) : List Int := ((-1 : Int) :: l.map fun x : Nat => (x : Int)).filter fun v => syV v a b
def F_odd_places : FP := fun args P W => ∃ d e, args = [d, e] ∧ TryN d ∧ TryN e ∧ (∀ a b, d = .int a → e = .int b → Ask a → Ask b → ∀ l, Two a b l → P (.tup ((oddV a b l).map D.int))) ∧ ((okI d && okI e) = false → W .range)
/-! what is read is as it was -/
mutual
def rdN : Nat → D → Bool
  | _, .non => true
  | _, .bl _ => true
  | _, .int _ => true
  | _, .str s => decide (s.length ≤ 1000)
  | 0, .tup _ => false
  | n + 1, .tup xs => decide (xs.length ≤ 100000) && rdNs n xs
  | 0, .lst _ => false
  | n + 1, .lst xs => decide (xs.length ≤ 100000) && rdNs n xs
  | _, .fn _ => false
  | _, .own _ => false
  | _, .dct _ _ => false
  | _, .scr _ => false
def rdNs : Nat → List D → Bool
  | _, [] => true
  | n, x :: xs => rdN n x && rdNs n xs
end
def readN (n : Nat) : FP := fun args P _ => ∃ d, args = [d] ∧ rdN n d = true ∧ P d
def F__law_read : FP := readN 4
def ScrOk (ns : List Int) : Prop := ns.length ≤ 63 ∧ ∀ z ∈ ns, Builtin.Int.intBits z ≤ 1048576
def F__law_cell : FP := fun args P _ => ∃ ns : List Int, ∃ k : Nat, args = [.scr ns, .int k] ∧ ScrOk ns ∧ ∀ i : Int, Builtin.Int.intBits i ≤ 1048576 → P (.int i)
def BoxOk (d : D) : Prop := ∃ a b : Nat, d = .lst [.int a, .int b] ∧ Builtin.Int.intBits a ≤ 1048576 ∧ b < 2 ^ 31
def F__law_stream : FP := fun args P _ => ∃ ns : List Int, ∃ k : Nat, args = [.scr ns, .int k] ∧ ScrOk ns ∧ ∀ d, BoxOk d → P d
def F__law_draw : FB := fun args P _ => ∃ bx, ∃ many : Nat, args = [bx, .int many] ∧ BoxOk bx ∧ 1 ≤ many ∧ many ≤ 2 ^ 30 ∧ ∀ (i : Nat) bx', BoxOk bx' → i < many → P (.int i) bx'
def F__law_primes : FP := fun args P _ => ∃ i : Int, args = [.int i] ∧ Ask i ∧ ∀ l : List Nat, l.Pairwise (· < ·) → (∀ p, p ∈ l ↔ Pr p ∧ p ∣ i.natAbs) → P (ndl l)
def F__law_core : FP := F_core_of
def F__law_is_residue : FP := fun args P _ => ∃ (s : Int) (p : Nat), args = [.int s, .int p] ∧ s.natAbs < 2 ^ 200 ∧ OddPr p ∧ P (.bl (rs p s))
def F__law_symbol : FP := F_symbol_at
def F__law_square_at : FP := F_is_square_at
def F__law_number : FB := fun args P _ => ∃ bx, args = [bx] ∧ BoxOk bx ∧ ∀ (i : Int) bx', BoxOk bx' → Ask i → P (.int i) bx'
def F__law_solvable : FP := fun args P _ => ∃ (a b : Int) (p : Nat), args = [.int a, .int b, .int p] ∧ Ask a ∧ Ask b ∧ (p = 2 ∨ p = 3 ∨ p = 5) ∧ ¬ ((p * p : Nat) : Int) ∣ a ∧ ¬ ((p * p : Nat) : Int) ∣ b ∧ P (.bl (!sy p a b))
def F__law_right : FB := fun args P _ => ∃ bx, ∃ a b c v : Int, args = [bx, .int a, .int b, .int c, .int v] ∧ Ask a ∧ Ask b ∧ Ask c ∧ Plc v ∧ v < 100000 ∧ P (.bl true) bx
def F_law : FP := fun args P _ => ∃ ns : List Int, args = [.scr ns] ∧ ns.length ≤ 63 ∧ (∀ z ∈ ns, Builtin.Int.intBits z ≤ 1048576) ∧ P (.bl true)
end K01

end
section
set_option Elab.async false
set_option maxHeartbeats 400000
set_option linter.all false
set_option maxRecDepth 100000
namespace K01
open PySem PySem.Spec PyProof.Rows L2 RZ PD

/-- is_number: slots told least most -/
def d_is_number (W : Ex → Prop) : DS :=
  (dRet (dAndV (dIsi isInt (dVar 0)) (dChain leP leP (dVar 1) (dVar 0) (dVar 2))))
/-- primes_of: slots number rest told prime often -/
def d_primes_of (W : Ex → Prop) : DS :=
  (dSeq (dSet 1 (dCB absP (dCons (dVar 0) dNil)))
  (dSeq (dSetO 2 (dLst dNil))
  (dSeq (dSet 3 (dC (.int 2)))
  (dSeq (dWhile (dTest (dOp leP (dOp mulP (dVar 3) (dVar 3)) (dVar 1)))
  (dSeq (dSet 4 (dC (.int 0)))
  (dSeq (dWhile (dTest (dOp eqP (dOp modP (dVar 1) (dVar 3)) (dC (.int 0))))
  (dPar 1 4 (dCons (dOp divP (dVar 1) (dVar 3)) (dCons (dOp addP (dVar 4) (dC (.int 1))) dNil))))
  (dSeq (dIfS (dTest (dOp gtP (dVar 4) (dC (.int 0))))
  (dApp 2 (dTup (dCons (dVar 3) (dCons (dVar 4) dNil))))
  dNext)
  (dAug 3 (fun i j => i + j) (dIf (dTest (dOp eqP (dVar 3) (dC (.int 2)))) (dC (.int 1)) (dC (.int 2))))))))
  (dRet (dIf (dTest (dOp gtP (dVar 1) (dC (.int 1)))) (dOp addP (dOwn 2) (dLst (dCons (dTup (dCons (dVar 1) (dCons (dC (.int 1)) dNil))) dNil))) (dOwn 2)))))))
/-- is_prime: slots number -/
def d_is_prime (W : Ex → Prop) : DS :=
  (dRet (dAndV (dOp gtP (dVar 0) (dC (.int 1))) (dOp eqP (dCall F_primes_of W (dCons (dVar 0) dNil)) (dLst (dCons (dTup (dCons (dVar 0) (dCons (dC (.int 1)) dNil))) dNil)))))
/-- core_of: slots number told prime often -/
def d_core_of (W : Ex → Prop) : DS :=
  (dSeq (dSet 1 (dIf (dTest (dOp gtP (dVar 0) (dC (.int 0)))) (dC (.int 1)) (dUn negP (dC (.int 1)))))
  (dSeq (dFor (dSeqI (dCall F_primes_of W (dCons (dVar 0) dNil))) (dgTup 2 (dgCons (dgName 2) (dgCons (dgName 3) dgNil)))
  (dIfS (dTest (dOp eqP (dOp modP (dVar 3) (dC (.int 2))) (dC (.int 1))))
  (dSet 1 (dOp mulP (dVar 1) (dVar 2)))
  dNext))
  (dRet (dVar 1))))
/-- power: slots base times modulus told -/
def d_power (W : Ex → Prop) : DS :=
  (dSeq (dSet 3 (dC (.int 1)))
  (dSeq (dSet 0 (dOp modP (dVar 0) (dVar 2)))
  (dSeq (dWhile (dTest (dOp gtP (dVar 1) (dC (.int 0))))
  (dSeq (dIfS (dTest (dOp eqP (dOp modP (dVar 1) (dC (.int 2))) (dC (.int 1))))
  (dSet 3 (dOp modP (dOp mulP (dVar 3) (dVar 0)) (dVar 2)))
  dNext)
  (dSeq (dSet 0 (dOp modP (dOp mulP (dVar 0) (dVar 0)) (dVar 2)))
  (dSet 1 (dOp divP (dVar 1) (dC (.int 2)))))))
  (dRet (dVar 3)))))
/-- residue: slots number prime -/
def d_residue (W : Ex → Prop) : DS :=
  (dRet (dIf (dTest (dOp eqP (dCall F_power W (dCons (dVar 0) (dCons (dOp divP (dOp subP (dVar 1) (dC (.int 1))) (dC (.int 2))) (dCons (dVar 1) dNil)))) (dC (.int 1)))) (dC (.int 1)) (dUn negP (dC (.int 1)))))
/-- check_integer: slots number -/
def d_check_integer (W : Ex → Prop) : DS :=
  (dIfS (dOr (dNot (dTest (dCall F_is_number W (dCons (dVar 0) (dCons (dUn negP (dC (.int (1000000)))) (dCons (dC (.int (1000000))) dNil)))))) (dTest (dOp eqP (dVar 0) (dC (.int 0)))))
  (dRaise W .range)
  dNext)
/-- check_place: slots place -/
def d_check_place (W : Ex → Prop) : DS :=
  (dIfS (dOr (dNot (dTest (dCall F_is_number W (dCons (dVar 0) (dCons (dUn negP (dC (.int 1))) (dCons (dOp subP (dC (.int (100000))) (dC (.int 1))) dNil)))))) (dAnd (dTest (dOp neP (dVar 0) (dUn negP (dC (.int 1))))) (dNot (dTest (dCall F_is_prime W (dCons (dVar 0) dNil))))))
  (dRaise W .range)
  dNext)
/-- parted: slots number prime often -/
def d_parted (W : Ex → Prop) : DS :=
  (dSeq (dSet 2 (dC (.int 0)))
  (dSeq (dWhile (dTest (dOp eqP (dOp modP (dVar 0) (dVar 1)) (dC (.int 0))))
  (dPar 0 2 (dCons (dOp divP (dVar 0) (dVar 1)) (dCons (dOp addP (dVar 2) (dC (.int 1))) dNil))))
  (dRet (dTup (dCons (dVar 2) (dCons (dVar 0) dNil))))))
/-- symbol_at: slots a b place i s j t odd told -/
def d_symbol_at (W : Ex → Prop) : DS :=
  (dSeq (dIfS (dTest (dOp eqP (dVar 2) (dUn negP (dC (.int 1)))))
  (dRet (dIf (dAnd (dTest (dOp ltP (dVar 0) (dC (.int 0)))) (dTest (dOp ltP (dVar 1) (dC (.int 0))))) (dUn negP (dC (.int 1))) (dC (.int 1))))
  dNext)
  (dSeq (dAsg (dCall F_parted W (dCons (dVar 0) (dCons (dVar 2) dNil))) (dgTup 2 (dgCons (dgName 3) (dgCons (dgName 4) dgNil))))
  (dSeq (dAsg (dCall F_parted W (dCons (dVar 1) (dCons (dVar 2) dNil))) (dgTup 2 (dgCons (dgName 5) (dgCons (dgName 6) dgNil))))
  (dSeq (dIfS (dTest (dOp eqP (dVar 2) (dC (.int 2))))
  (dSeq (dSet 7 (dOp addP (dOp addP (dOp mulP (dOp divP (dOp subP (dVar 4) (dC (.int 1))) (dC (.int 2))) (dOp divP (dOp subP (dVar 6) (dC (.int 1))) (dC (.int 2)))) (dOp mulP (dVar 3) (dOp divP (dOp subP (dOp mulP (dVar 6) (dVar 6)) (dC (.int 1))) (dC (.int 8))))) (dOp mulP (dVar 5) (dOp divP (dOp subP (dOp mulP (dVar 4) (dVar 4)) (dC (.int 1))) (dC (.int 8))))))
  (dRet (dIf (dTest (dOp eqP (dOp modP (dVar 7) (dC (.int 2))) (dC (.int 0)))) (dC (.int 1)) (dUn negP (dC (.int 1))))))
  dNext)
  (dSeq (dSet 8 (dIf (dTest (dOp eqP (dOp modP (dOp mulP (dOp mulP (dVar 3) (dVar 5)) (dOp divP (dOp subP (dVar 2) (dC (.int 1))) (dC (.int 2)))) (dC (.int 2))) (dC (.int 1)))) (dUn negP (dC (.int 1))) (dC (.int 1))))
  (dSeq (dIfS (dTest (dOp eqP (dOp modP (dVar 5) (dC (.int 2))) (dC (.int 1))))
  (dSet 8 (dOp mulP (dVar 8) (dCall F_residue W (dCons (dVar 4) (dCons (dVar 2) dNil)))))
  dNext)
  (dRet (dIf (dTest (dOp eqP (dOp modP (dVar 3) (dC (.int 2))) (dC (.int 1)))) (dOp mulP (dVar 8) (dCall F_residue W (dCons (dVar 6) (dCons (dVar 2) dNil)))) (dVar 8)))))))))
/-- is_square_at: slots a place often rest -/
def d_is_square_at (W : Ex → Prop) : DS :=
  (dSeq (dIfS (dTest (dOp eqP (dVar 1) (dUn negP (dC (.int 1)))))
  (dRet (dOp gtP (dVar 0) (dC (.int 0))))
  dNext)
  (dSeq (dAsg (dCall F_parted W (dCons (dVar 0) (dCons (dVar 1) dNil))) (dgTup 2 (dgCons (dgName 2) (dgCons (dgName 3) dgNil))))
  (dSeq (dIfS (dTest (dOp eqP (dOp modP (dVar 2) (dC (.int 2))) (dC (.int 1))))
  (dRet (dC (.bl false)))
  dNext)
  (dRet (dIf (dTest (dOp eqP (dVar 1) (dC (.int 2)))) (dOp eqP (dOp modP (dVar 3) (dC (.int 8))) (dC (.int 1))) (dOp eqP (dCall F_residue W (dCons (dVar 3) (dCons (dVar 1) dNil))) (dC (.int 1))))))))
/-- primes_in: slots numbers found number prime _ -/
def d_primes_in (W : Ex → Prop) : DS :=
  (dSeq (dSetO 1 (dDisp1 2 true))
  (dSeq (dFor (dSeqI (dVar 0)) (dgName 2)
  (dFor (dSeqI (dCall F_primes_of W (dCons (dVar 2) dNil))) (dgTup 2 (dgCons (dgName 3) (dgCons (dgName 4) dgNil)))
  (dDPut 1 (dVar 3) (dC (.bl true)))))
  (dRet (dCB sortDP (dCons (dOwn 1) dNil)))))
/-- core: slots a -/
def d_core (W : Ex → Prop) : DS :=
  (dSeq (dDrop (dCall F_check_integer W (dCons (dVar 0) dNil)))
  (dRet (dCall F_core_of W (dCons (dVar 0) dNil))))
/-- symbol: slots a b place -/
def d_symbol (W : Ex → Prop) : DS :=
  (dSeq (dDrop (dCall F_check_integer W (dCons (dVar 0) dNil)))
  (dSeq (dDrop (dCall F_check_integer W (dCons (dVar 1) dNil)))
  (dSeq (dDrop (dCall F_check_place W (dCons (dVar 2) dNil)))
  (dRet (dCall F_symbol_at W (dCons (dVar 0) (dCons (dVar 1) (dCons (dVar 2) dNil))))))))
/-- square_at: slots a place -/
def d_square_at (W : Ex → Prop) : DS :=
  (dSeq (dDrop (dCall F_check_integer W (dCons (dVar 0) dNil)))
  (dSeq (dDrop (dCall F_check_place W (dCons (dVar 1) dNil)))
  (dRet (dCall F_is_square_at W (dCons (dVar 0) (dCons (dVar 1) dNil))))))
/-- odd_places: slots a b place -/
def d_odd_places (W : Ex → Prop) : DS :=
  (dSeq (dDrop (dCall F_check_integer W (dCons (dVar 0) dNil)))
  (dSeq (dDrop (dCall F_check_integer W (dCons (dVar 1) dNil)))
  (dRet (dTuple (dLc (dSeqI (dOp addP (dLst (dCons (dUn negP (dC (.int 1))) dNil)) (dCall F_primes_in W (dCons (dTup (dCons (dVar 0) (dCons (dVar 1) dNil))) dNil)))) (dgName 2) (dTest (dOp eqP (dCall F_symbol_at noX (dCons (dVar 0) (dCons (dVar 1) (dCons (dVar 2) dNil)))) (dUn negP (dC (.int 1))))) (dVar 2) [2])))))
/-- _law_read: slots told sign part -/
def d__law_read (Fi : FP) (W : Ex → Prop) : DS :=
  (dSeq (dIfS (dOr (dTest (dOp (isNP false) (dVar 0) (dC .non))) (dOr (dTest (dOp isB2P (dVar 0) (dC (.bl true)))) (dTest (dOp isB2P (dVar 0) (dC (.bl false))))))
  (dRet (dVar 0))
  dNext)
  (dSeq (dIfS (dTest (dIsi isInt (dVar 0)))
  (dRet (dCB intP (dCons (dVar 0) dNil)))
  dNext)
  (dSeq (dIfS (dTest (dIsi isStr (dVar 0)))
  (dRet (dJoin (dC (.str "")) (dLc (dStrI (dVar 0)) (dgName 1) dYes (dVar 1) [1])))
  dNext)
  (dSeq (dIfS (dTest (dIsi isTup (dVar 0)))
  (dRet (dTuple (dLc (dSeqI (dVar 0)) (dgName 2) dYes (dCall Fi noX (dCons (dVar 2) dNil)) [2])))
  dNext)
  (dRet (dIf (dTest (dIsi isLst (dVar 0))) (dLc (dSeqI (dVar 0)) (dgName 2) dYes (dCall Fi noX (dCons (dVar 2) dNil)) [2]) (dC (.str "something else"))))))))
/-- _law_cell: slots script k -/
def d__law_cell (W : Ex → Prop) : DS :=
  (dRet (dIf (dTest (dOp ltP (dVar 1) (dCB lenP (dCons (dVar 0) dNil)))) (dCB intP (dCons (dOp ixP (dVar 0) (dVar 1)) dNil)) (dC (.int 0))))
/-- _law_stream: slots script k -/
def d__law_stream : DE :=
  (dLst (dCons (dCB absP (dCons (dCall F__law_cell noX (dCons (dVar 0) (dCons (dVar 1) dNil))) dNil)) (dCons (dOp addP (dOp modP (dCB absP (dCons (dCall F__law_cell noX (dCons (dVar 0) (dCons (dVar 1) dNil))) dNil)) (dC (.int 1000003))) (dC (.int 7))) dNil)))
/-- _law_draw: slots box many told -/
def d__law_draw (W : Ex → Prop) : DS :=
  (dSeq (dIfS (dTest (dOp gtP (dOp ixP (dOwn 0) (dC (.int 0))) (dC (.int 0))))
  (dSeq (dSet 2 (dOp modP (dOp ixP (dOwn 0) (dC (.int 0))) (dVar 1)))
  (dSeq (dSetIx 0 (dOp divP (dOp ixP (dOwn 0) (dC (.int 0))) (dVar 1)) (dC (.int 0)))
  (dRet (dCB intP (dCons (dVar 2) dNil)))))
  dNext)
  (dSeq (dSetIx 0 (dOp modP (dCB intP (dCons (dOp addP (dOp mulP (dOp ixP (dOwn 0) (dC (.int 1))) (dC (.int 48271))) (dC (.int 12345))) dNil)) (dC (.int 2147483647))) (dC (.int 1)))
  (dRet (dOp modP (dCB intP (dCons (dOp divP (dOp ixP (dOwn 0) (dC (.int 1))) (dC (.int 64))) dNil)) (dVar 1)))))
/-- _law_primes: slots number p found -/
def d__law_primes (W : Ex → Prop) : DS :=
  (dSeq (dPar_vvo 0 1 2 (dCB absP (dCons (dVar 0) dNil)) (dC (.int 2)))
  (dSeq (dWhile (dTest (dOp leP (dOp mulP (dVar 1) (dVar 1)) (dVar 0)))
  (dSeq (dIfS (dTest (dOp eqP (dOp modP (dVar 0) (dVar 1)) (dC (.int 0))))
  (dSeq (dApp 2 (dVar 1))
  (dWhile (dTest (dOp eqP (dOp modP (dVar 0) (dVar 1)) (dC (.int 0))))
  (dSet 0 (dOp divP (dVar 0) (dVar 1)))))
  dNext)
  (dSet 1 (dOp addP (dVar 1) (dC (.int 1))))))
  (dRet (dIf (dTest (dOp gtP (dVar 0) (dC (.int 1)))) (dOp addP (dOwn 2) (dLst (dCons (dVar 0) dNil))) (dOwn 2)))))
/-- _law_core: slots number told p often -/
def d__law_core (W : Ex → Prop) : DS :=
  (dSeq (dSet 1 (dIf (dTest (dOp gtP (dVar 0) (dC (.int 0)))) (dC (.int 1)) (dUn negP (dC (.int 1)))))
  (dSeq (dFor (dSeqI (dCall F__law_primes W (dCons (dVar 0) dNil))) (dgName 2)
  (dSeq (dSet 3 (dC (.int 0)))
  (dSeq (dWhile (dTest (dOp eqP (dOp modP (dVar 0) (dVar 2)) (dC (.int 0))))
  (dPar 0 3 (dCons (dOp divP (dVar 0) (dVar 2)) (dCons (dOp addP (dVar 3) (dC (.int 1))) dNil))))
  (dSet 1 (dIf (dTest (dOp eqP (dOp modP (dVar 3) (dC (.int 2))) (dC (.int 1)))) (dOp mulP (dVar 1) (dVar 2)) (dVar 1))))))
  (dRet (dVar 1))))
/-- _law_is_residue: slots s p power_v left base -/
def d__law_is_residue (W : Ex → Prop) : DS :=
  (dSeq (dPar3 2 3 4 (dCons (dC (.int 1)) (dCons (dOp divP (dOp subP (dVar 1) (dC (.int 1))) (dC (.int 2))) (dCons (dOp modP (dVar 0) (dVar 1)) dNil))))
  (dSeq (dWhile (dTest (dOp gtP (dVar 3) (dC (.int 0))))
  (dSeq (dSet 2 (dIf (dTest (dOp eqP (dOp modP (dVar 3) (dC (.int 2))) (dC (.int 1)))) (dOp modP (dOp mulP (dVar 2) (dVar 4)) (dVar 1)) (dVar 2)))
  (dPar 4 3 (dCons (dOp modP (dOp mulP (dVar 4) (dVar 4)) (dVar 1)) (dCons (dOp divP (dVar 3) (dC (.int 2))) dNil)))))
  (dRet (dOp eqP (dVar 2) (dC (.int 1))))))
/-- _law_symbol: slots a b place i j odd -/
def d__law_symbol (W : Ex → Prop) : DS :=
  (dSeq (dIfS (dTest (dOp eqP (dVar 2) (dUn negP (dC (.int 1)))))
  (dRet (dIf (dAnd (dTest (dOp ltP (dVar 0) (dC (.int 0)))) (dTest (dOp ltP (dVar 1) (dC (.int 0))))) (dUn negP (dC (.int 1))) (dC (.int 1))))
  dNext)
  (dSeq (dAsg (dTup (dCons (dC (.int 0)) (dCons (dC (.int 0)) dNil))) (dgTup 2 (dgCons (dgName 3) (dgCons (dgName 4) dgNil))))
  (dSeq (dWhile (dTest (dOp eqP (dOp modP (dVar 0) (dVar 2)) (dC (.int 0))))
  (dPar 0 3 (dCons (dOp divP (dVar 0) (dVar 2)) (dCons (dOp addP (dVar 3) (dC (.int 1))) dNil))))
  (dSeq (dWhile (dTest (dOp eqP (dOp modP (dVar 1) (dVar 2)) (dC (.int 0))))
  (dPar 1 4 (dCons (dOp divP (dVar 1) (dVar 2)) (dCons (dOp addP (dVar 4) (dC (.int 1))) dNil))))
  (dSeq (dIfS (dTest (dOp eqP (dVar 2) (dC (.int 2))))
  (dSet 5 (dOp addP (dOp addP (dOp mulP (dOp divP (dOp modP (dVar 0) (dC (.int 4))) (dC (.int 2))) (dOp divP (dOp modP (dVar 1) (dC (.int 4))) (dC (.int 2)))) (dOp mulP (dVar 3) (dCB intP (dCons (dOp inTP (dOp modP (dVar 1) (dC (.int 8))) (dTup (dCons (dC (.int 3)) (dCons (dC (.int 5)) dNil)))) dNil)))) (dOp mulP (dVar 4) (dCB intP (dCons (dOp inTP (dOp modP (dVar 0) (dC (.int 8))) (dTup (dCons (dC (.int 3)) (dCons (dC (.int 5)) dNil)))) dNil)))))
  (dSet 5 (dOp addP (dOp addP (dOp mulP (dOp mulP (dVar 3) (dVar 4)) (dCB intP (dCons (dOp eqP (dOp modP (dVar 2) (dC (.int 4))) (dC (.int 3))) dNil))) (dOp mulP (dVar 4) (dCB intP (dCons (dNotV (dCall F__law_is_residue W (dCons (dVar 0) (dCons (dVar 2) dNil)))) dNil)))) (dOp mulP (dVar 3) (dCB intP (dCons (dNotV (dCall F__law_is_residue W (dCons (dVar 1) (dCons (dVar 2) dNil)))) dNil))))))
  (dRet (dOp subP (dC (.int 1)) (dOp mulP (dC (.int 2)) (dOp modP (dVar 5) (dC (.int 2)))))))))))
/-- _law_square_at: slots a place often -/
def d__law_square_at (W : Ex → Prop) : DS :=
  (dSeq (dIfS (dTest (dOp eqP (dVar 1) (dUn negP (dC (.int 1)))))
  (dRet (dOp gtP (dVar 0) (dC (.int 0))))
  dNext)
  (dSeq (dSet 2 (dC (.int 0)))
  (dSeq (dWhile (dTest (dOp eqP (dOp modP (dVar 0) (dVar 1)) (dC (.int 0))))
  (dPar 0 2 (dCons (dOp divP (dVar 0) (dVar 1)) (dCons (dOp addP (dVar 2) (dC (.int 1))) dNil))))
  (dRet (dAndV (dOp eqP (dOp modP (dVar 2) (dC (.int 2))) (dC (.int 0))) (dIf (dTest (dOp eqP (dVar 1) (dC (.int 2)))) (dOp eqP (dOp modP (dVar 0) (dC (.int 8))) (dC (.int 1))) (dCall F__law_is_residue W (dCons (dVar 0) (dCons (dVar 1) dNil)))))))))
/-- _law_number: slots box pick sign told turn more -/
def d__law_number (W : Ex → Prop) : DS :=
  (dSeq (dPar 1 2 (dCons (dCallB F__law_draw W 0 (dCons (dC (.int 4)) dNil)) (dCons (dOp ixP (dLst (dCons (dC (.int 1)) (dCons (dUn negP (dC (.int 1))) dNil))) (dCallB F__law_draw W 0 (dCons (dC (.int 2)) dNil))) dNil)))
  (dSeq (dIfS (dTest (dOp eqP (dVar 1) (dC (.int 0))))
  (dRet (dOp mulP (dVar 2) (dOp addP (dC (.int 1)) (dCallB F__law_draw W 0 (dCons (dC (.int 30)) dNil)))))
  dNext)
  (dSeq (dIfS (dTest (dOp eqP (dVar 1) (dC (.int 1))))
  (dRet (dOp mulP (dVar 2) (dOp addP (dC (.int 1)) (dCallB F__law_draw W 0 (dCons (dC (.int 1000000)) dNil)))))
  dNext)
  (dSeq (dSet 3 (dC (.int 1)))
  (dSeq (dFor (dRange1 (dC (.int 6))) (dgName 4)
  (dSeq (dSet 5 (dOp ixP (dLst (dCons (dC (.int 2)) (dCons (dC (.int 3)) (dCons (dC (.int 5)) (dCons (dC (.int 7)) (dCons (dC (.int 4)) (dCons (dC (.int 9)) (dCons (dC (.int 25)) (dCons (dC (.int 11)) (dCons (dC (.int 1)) (dCons (dC (.int 997)) dNil))))))))))) (dCallB F__law_draw W 0 (dCons (dC (.int 10)) dNil))))
  (dSet 3 (dIf (dTest (dOp leP (dOp mulP (dVar 3) (dVar 5)) (dC (.int 1000000)))) (dOp mulP (dVar 3) (dVar 5)) (dVar 3)))))
  (dRet (dOp mulP (dVar 2) (dVar 3))))))))
/-- _law_solvable: slots a b p power_v squares z x y rest -/
def d__law_solvable (W : Ex → Prop) : DS :=
  (dSeq (dSet 3 (dOp ixP (dLst (dCons (dC (.int 32)) (dCons (dC (.int 27)) (dCons (dC (.int 125)) dNil)))) (dIdx (dLst (dCons (dC (.int 2)) (dCons (dC (.int 3)) (dCons (dC (.int 5)) dNil)))) (dVar 2))))
  (dSeq (dSetO 4 dDNew)
  (dSeq (dFor (dRange1 (dVar 3)) (dgName 5)
  (dDPut 4 (dOp modP (dOp mulP (dVar 5) (dVar 5)) (dVar 3)) (dOrV (dDGet2 4 (dOp modP (dOp mulP (dVar 5) (dVar 5)) (dVar 3)) (dC (.bl false))) (dOp neP (dOp modP (dVar 5) (dVar 2)) (dC (.int 0))))))
  (dSeq (dFor (dRange1 (dVar 3)) (dgName 6)
  (dFor (dRange1 (dVar 3)) (dgName 7)
  (dSeq (dSet 8 (dOp modP (dOp addP (dOp mulP (dOp mulP (dVar 0) (dVar 6)) (dVar 6)) (dOp mulP (dOp mulP (dVar 1) (dVar 7)) (dVar 7))) (dVar 3)))
  (dIfS (dAnd (dTest (dDIn 4 (dVar 8))) (dOr (dTest (dOp neP (dOp modP (dVar 6) (dVar 2)) (dC (.int 0)))) (dOr (dTest (dOp neP (dOp modP (dVar 7) (dVar 2)) (dC (.int 0)))) (dTest (dDGet 4 (dVar 8))))))
  (dRet (dC (.bl true)))
  dNext))))
  (dRet (dC (.bl false)))))))
/-- _law_right: slots box a b c place due -/
def d__law_right (W : Ex → Prop) : DS :=
  (dSeq (dSet 5 (dCall F__law_symbol W (dCons (dVar 1) (dCons (dVar 2) (dCons (dVar 4) dNil)))))
  (dSeq (dIfS (dOr (dTest (dOp neP (dTold F__law_read (fun i => i == 0) (fun W => (dCall F_symbol W (dCons (dVar 1) (dCons (dVar 2) (dCons (dVar 4) dNil)))))) (dTup (dCons (dC (.int 0)) (dCons (dVar 5) dNil))))) (dOr (dTest (dOp neP (dVar 5) (dCall F__law_symbol W (dCons (dVar 2) (dCons (dVar 1) (dCons (dVar 4) dNil)))))) (dTest (dOp neP (dCall F__law_symbol W (dCons (dVar 1) (dCons (dUn negP (dVar 1)) (dCons (dVar 4) dNil)))) (dC (.int 1))))))
  (dRet (dC (.bl false)))
  dNext)
  (dSeq (dIfS (dOr (dTest (dOp neP (dOp mulP (dVar 5) (dCall F__law_symbol W (dCons (dVar 3) (dCons (dVar 2) (dCons (dVar 4) dNil))))) (dCall F__law_symbol W (dCons (dOp mulP (dVar 1) (dVar 3)) (dCons (dVar 2) (dCons (dVar 4) dNil)))))) (dTest (dOp neP (dCall F__law_symbol W (dCons (dOp mulP (dOp mulP (dVar 1) (dVar 3)) (dVar 3)) (dCons (dVar 2) (dCons (dVar 4) dNil)))) (dVar 5))))
  (dRet (dC (.bl false)))
  dNext)
  (dRet (dOp eqP (dTold F__law_read (fun i => i == 0) (fun W => (dCall F_square_at W (dCons (dVar 1) (dCons (dVar 4) dNil))))) (dTup (dCons (dC (.int 0)) (dCons (dCall F__law_square_at W (dCons (dVar 1) (dCons (dVar 4) dNil))) dNil))))))))
/-- law: slots script turn box a b c primes p place odd one two bad -/
def d_law (W : Ex → Prop) : DS :=
  (dSeq (dFor (dRange1 (dC (.int 3))) (dgName 1)
  (dSeq (dSetO 2 (dCall F__law_stream noX (dCons (dVar 0) (dCons (dVar 1) dNil))))
  (dSeq (dAsg (dTup (dCons (dCallB F__law_number W 2 dNil) (dCons (dCallB F__law_number W 2 dNil) (dCons (dCallB F__law_number W 2 dNil) dNil)))) (dgTup 3 (dgCons (dgName 3) (dgCons (dgName 4) (dgCons (dgName 5) dgNil)))))
  (dSeq (dIfS (dTest (dOp neP (dTold F__law_read (fun i => i == 2) (fun W => (dCall F_core W (dCons (dVar 3) dNil)))) (dTup (dCons (dC (.int 0)) (dCons (dCall F__law_core W (dCons (dVar 3) dNil)) dNil)))))
  (dRet (dC (.bl false)))
  dNext)
  (dSeq (dSet 6 (dLc (dSeqI (dOp addP (dOp addP (dCall F__law_primes W (dCons (dVar 3) dNil)) (dCall F__law_primes W (dCons (dVar 4) dNil))) (dLst (dCons (dC (.int 2)) (dCons (dC (.int 3)) (dCons (dC (.int 5)) (dCons (dC (.int 7)) (dCons (dC (.int 13)) (dCons (dC (.int 99991)) dNil))))))))) (dgName 7) (dTest (dOp ltP (dVar 7) (dC (.int 100000)))) (dVar 7) [7]))
  (dSeq (dFor (dSeqI (dLst (dCons (dUn negP (dC (.int 1))) (dCons (dC (.int 2)) (dCons (dOp ixP (dVar 6) (dCallB F__law_draw W 2 (dCons (dCB lenP (dCons (dVar 6) dNil)) dNil))) (dCons (dOp ixP (dVar 6) (dCallB F__law_draw W 2 (dCons (dCB lenP (dCons (dVar 6) dNil)) dNil))) dNil)))))) (dgName 8)
  (dIfS (dNot (dTest (dCallB F__law_right W 2 (dCons (dVar 3) (dCons (dVar 4) (dCons (dVar 5) (dCons (dVar 8) dNil)))))))
  (dRet (dC (.bl false)))
  dNext))
  (dSeq (dSet 9 (dLc (dSeqI (dOp addP (dLst (dCons (dUn negP (dC (.int 1))) dNil)) (dSorts (dOp addP (dOp addP (dLst (dCons (dC (.int 2)) dNil)) (dCall F__law_primes W (dCons (dVar 3) dNil))) (dCall F__law_primes W (dCons (dVar 4) dNil)))))) (dgName 7) (dTest (dOp eqP (dCall F__law_symbol noX (dCons (dVar 3) (dCons (dVar 4) (dCons (dVar 7) dNil)))) (dUn negP (dC (.int 1))))) (dVar 7) [7]))
  (dSeq (dIfS (dOr (dTest (dOp neP (dTold F__law_read (fun i => i == 2) (fun W => (dCall F_odd_places W (dCons (dVar 3) (dCons (dVar 4) dNil))))) (dTup (dCons (dC (.int 0)) (dCons (dTuple (dVar 9)) dNil))))) (dTest (dOp eqP (dOp modP (dCB lenP (dCons (dVar 9) dNil)) (dC (.int 2))) (dC (.int 1)))))
  (dRet (dC (.bl false)))
  dNext)
  (dSeq (dSet 7 (dOp ixP (dLst (dCons (dC (.int 2)) (dCons (dC (.int 3)) (dCons (dC (.int 5)) dNil)))) (dCallB F__law_draw W 2 (dCons (dC (.int 3)) dNil))))
  (dSeq (dPar 10 11 (dCons (dCall F__law_core W (dCons (dVar 3) dNil)) (dCons (dCall F__law_core W (dCons (dVar 4) dNil)) dNil)))
  (dSeq (dIfS (dTest (dOp neP (dCall F__law_solvable W (dCons (dVar 10) (dCons (dVar 11) (dCons (dVar 7) dNil)))) (dOp eqP (dCall F__law_symbol W (dCons (dVar 10) (dCons (dVar 11) (dCons (dVar 7) dNil)))) (dC (.int 1)))))
  (dRet (dC (.bl false)))
  dNext)
  (dSeq (dFor (dSeqI (dLst (dCons (dC (.int 0)) (dCons (dC (.int 1000001)) (dCons (dUn negP (dC (.int 1000001))) (dCons (dC (.str "1")) (dCons (dTup (dCons (dC (.int 1)) dNil)) dNil))))))) (dgName 12)
  (dSeq (dIfS (dTest (dOp neP (dTold F__law_read (fun i => i == 2) (fun W => (dCall F_core W (dCons (dVar 12) dNil)))) (dTup (dCons (dC (.int 1)) (dCons (dC (.str "range")) dNil)))))
  (dRet (dC (.bl false)))
  dNext)
  (dSeq (dIfS (dTest (dOp neP (dTold F__law_read (fun i => i == 2) (fun W => (dCall F_symbol W (dCons (dVar 3) (dCons (dVar 12) (dCons (dC (.int 2)) dNil)))))) (dTup (dCons (dC (.int 1)) (dCons (dC (.str "range")) dNil)))))
  (dRet (dC (.bl false)))
  dNext)
  (dSeq (dIfS (dTest (dOp neP (dTold F__law_read (fun i => i == 2) (fun W => (dCall F_symbol W (dCons (dVar 12) (dCons (dVar 4) (dCons (dC (.int 0)) dNil)))))) (dTup (dCons (dC (.int 1)) (dCons (dC (.str "range")) dNil)))))
  (dRet (dC (.bl false)))
  dNext)
  (dSeq (dIfS (dTest (dOp neP (dTold F__law_read (fun i => i == 2) (fun W => (dCall F_square_at W (dCons (dVar 12) (dCons (dC (.int 2)) dNil))))) (dTup (dCons (dC (.int 1)) (dCons (dC (.str "range")) dNil)))))
  (dRet (dC (.bl false)))
  dNext)
  (dIfS (dTest (dOp neP (dTold F__law_read (fun i => i == 2) (fun W => (dCall F_odd_places W (dCons (dVar 3) (dCons (dVar 12) dNil))))) (dTup (dCons (dC (.int 1)) (dCons (dC (.str "range")) dNil)))))
  (dRet (dC (.bl false)))
  dNext))))))
  (dFor (dSeqI (dLst (dCons (dC (.int 0)) (dCons (dC (.int 1)) (dCons (dUn negP (dC (.int 2))) (dCons (dC (.int 4)) (dCons (dC (.int 9)) (dCons (dC (.int 100003)) (dCons (dC (.int 99999)) (dCons (dC (.str "2")) (dCons (dTup (dCons (dC (.int 2)) dNil)) dNil))))))))))) (dgName 12)
  (dSeq (dIfS (dTest (dOp neP (dTold F__law_read (fun i => i == 2) (fun W => (dCall F_symbol W (dCons (dVar 3) (dCons (dVar 4) (dCons (dVar 12) dNil)))))) (dTup (dCons (dC (.int 1)) (dCons (dC (.str "range")) dNil)))))
  (dRet (dC (.bl false)))
  dNext)
  (dIfS (dTest (dOp neP (dTold F__law_read (fun i => i == 2) (fun W => (dCall F_square_at W (dCons (dVar 3) (dCons (dVar 12) dNil))))) (dTup (dCons (dC (.int 1)) (dCons (dC (.str "range")) dNil)))))
  (dRet (dC (.bl false)))
  dNext)))))))))))))))
  (dRet (dC (.bl true))))
end K01

end
section
set_option Elab.async false
set_option linter.all false
set_option maxRecDepth 100000
/-! k01: the readings keep the promises -/
namespace K01
open PySem L2 PD NT

theorem seq_of {s t : DS} {De : DEnds} {ρ : PD.Env} (N : PD.Env → Prop) (h2 : ∀ ρ, N ρ → t De ρ) (h1 : ∀ C : PD.Env → Prop, (∀ ρ, N ρ → C ρ) → s { De with nx := C } ρ) : dSeq s t De ρ := h1 _ h2
theorem size_big : 16777215 < sizeLine := by decide
theorem take_snoc {α : Type} {xs : List α} {i : Nat} {d : α} (h : xs[i]? = some d) : xs.take (i + 1) = xs.take i ++ [d] := by
  rw [List.take_add_one, h]; rfl
theorem sp_is_number : ∀ args P W, args.length = 3 → F_is_number args P W → d_is_number W ⟨fun _ => P .non, fun d ρ => P (retD ρ d), fun _ => False, fun _ => False⟩ (startD 3 args) := by
  rintro args P W _ ⟨d, lo, hi, rfl, ⟨h1, h2⟩, hP⟩
  cases d <;> simp_all [d_is_number, startD, isInt, numIn, isBool]
  rename_i i
  by_cases h : lo ≤ i
  · simp_all
  · have e : decide (lo ≤ i) = false := decide_eq_false h
    have e2 : decide (lo ≤ i ∧ i ≤ hi) = false := decide_eq_false fun z => h z.1
    rw [e]
    simp only [h, false_and, decide_false] at hP
    exact hP
theorem log_small {n : Nat} (h : n < 2 ^ 100) : n.log2 < 100 := by
  by_cases h0 : n = 0
  · rw [h0]; decide
  · exact (Nat.log2_lt h0).mpr h
theorem mulOk {i j : Int} (h1 : i.natAbs < 2 ^ 100) (h2 : j.natAbs < 2 ^ 100) : PD.MulOk i j := by
  have := log_small h1
  have := log_small h2
  unfold PD.MulOk; omega
theorem divOk {i j : Int} (h1 : 0 < j) (h2 : j.natAbs < 2 ^ 100) : PD.DivOk i j := ⟨h1, by have := log_small h2; omega⟩
theorem asc_len : ∀ {l : List (Nat × Nat)} {lo q : Nat}, l.Pairwise (fun x y => x.1 < y.1) → (∀ x ∈ l, lo ≤ x.1 ∧ x.1 < q) → l.length ≤ q - lo
  | [], _, _, _, _ => Nat.zero_le _
  | x :: l, lo, q, hp, hb => by
    obtain ⟨h1, h2⟩ := List.pairwise_cons.mp hp
    have hx := hb x List.mem_cons_self
    have := asc_len (lo := x.1 + 1) (q := q) h2 fun y hy => ⟨h1 y hy, (hb y (List.mem_cons_of_mem _ hy)).2⟩
    rw [List.length_cons]
    omega
theorem big_size : 2000000 < sizeLine := by decide
/-- what stands at the turn of q -/
structure PInv (n rest q M : Nat) (l : List (Nat × Nat)) : Prop where
  q2 : 2 ≤ q
  odd : q = 2 ∨ q % 2 = 1
  r1 : 1 ≤ rest
  eq : n = rest * M
  low : ∀ d, 2 ≤ d → d < q → ¬ d ∣ rest
  mul : ∀ p, Pr p → q ≤ p → ¬ p ∣ M
  ent : ∀ x ∈ l, Pr x.1 ∧ 1 ≤ x.2 ∧ Ex x.1 n x.2 ∧ x.1 < q
  asc : l.Pairwise fun x y => x.1 < y.1
  all : ∀ p, Pr p → p ∣ n → p < q → ∃ x ∈ l, x.1 = p
theorem PInv.qle {n rest q M : Nat} {l : List (Nat × Nat)} (h : PInv n rest q M l) : ∀ x ∈ l, 0 ≤ x.1 ∧ x.1 < q := fun x hx => ⟨Nat.zero_le _, (h.ent x hx).2.2.2⟩
theorem PInv.len {n rest q M : Nat} {l : List (Nat × Nat)} (h : PInv n rest q M l) : l.length ≤ q := asc_len h.asc h.qle
/-- q is taken out -/
theorem PInv.step {n rest q M r e : Nat} {l : List (Nat × Nat)} (h : PInv n rest q M l) (he : rest = r * q ^ e) (hq : ¬ q ∣ r) : PInv n r (if q = 2 then q + 1 else q + 2) (M * q ^ e) (if 0 < e then l ++ [(q, e)] else l) := by
  have q2 := h.q2
  have hr : r ∣ rest := ⟨_, he⟩
  have r1 : 1 ≤ r := Nat.pos_of_ne_zero fun z => hq (by rw [z]; exact Nat.dvd_zero q)
  have nq : 0 < e → Pr q := fun e0 => ⟨q2, fun d hd => by
    have dq : d ∣ rest := Nat.dvd_trans hd (by rw [he]; exact Nat.dvd_trans (Nat.dvd_trans (by rw [Nat.pow_one]; exact Nat.dvd_refl q) (Nat.pow_dvd_pow q e0)) (Nat.dvd_mul_left _ r))
    have dle := Nat.le_of_dvd (by omega) hd
    have d0 : d ≠ 0 := fun z => by subst z; have := Nat.eq_zero_of_zero_dvd hd; omega
    by_cases h1 : d = 1
    · exact .inl h1
    · by_cases h2 : d = q
      · exact .inr h2
      · exact absurd dq (h.low d (by omega) (by omega))⟩
  have odd3 : q ≠ 2 → ¬ 2 ∣ r := fun h2 d => h.low 2 (Nat.le_refl _) (by omega) (Nat.dvd_trans d hr)
  have qn : q < (if q = 2 then q + 1 else q + 2) := by split <;> omega
  refine ⟨by split <;> omega, ?_, r1, by rw [h.eq, he]; grind, fun d d2 hd dd => ?_, fun p hp hle dd => ?_, ?_, ?_, fun p hp hd hlt => ?_⟩
  · have := h.odd
    split
    · right; omega
    · right; omega
  · by_cases h1 : d < q
    · exact h.low d d2 h1 (Nat.dvd_trans dd hr)
    · by_cases h2 : d = q
      · subst h2; exact hq dd
      · by_cases h3 : q = 2
        · rw [if_pos h3] at hd; omega
        · rw [if_neg h3] at hd
          have h4 : d = q + 1 := by omega
          have h5 := h.odd
          refine odd3 h3 (Nat.dvd_trans (Nat.dvd_of_mod_eq_zero (by omega)) dd)
  · rcases hp.euclid dd with d1 | d1
    · exact h.mul p hp (by omega) d1
    · have e0 : 0 < e := Nat.pos_of_ne_zero fun z => by
        subst z
        rw [Nat.pow_zero] at d1
        have := Nat.le_of_dvd (by decide) d1
        have := hp.1
        omega
      have := hp.eq_of_dvd (nq e0) (hp.dvd_pow d1)
      omega
  · intro x hx
    have old : x ∈ l → Pr x.1 ∧ 1 ≤ x.2 ∧ Ex x.1 n x.2 ∧ x.1 < (if q = 2 then q + 1 else q + 2) := fun hx => by
      obtain ⟨a, b, c, d⟩ := h.ent x hx
      exact ⟨a, b, c, by omega⟩
    by_cases e0 : 0 < e
    · rw [if_pos e0] at hx
      rcases List.mem_append.mp hx with hx | hx
      · exact old hx
      · have ex : x = (q, e) := by simpa using hx
        subst ex
        have pq := nq e0
        refine ⟨pq, e0, ⟨⟨r * M, by rw [h.eq, he]; grind⟩, fun d => ?_⟩, qn⟩
        have e3 : n = q ^ e * (r * M) := by rw [h.eq, he]; grind
        rw [e3, Nat.pow_succ] at d
        have := Nat.dvd_of_mul_dvd_mul_left (Nat.pow_pos (by omega)) d
        rcases pq.euclid this with d | d
        · exact hq d
        · exact h.mul q pq (Nat.le_refl _) d
    · rw [if_neg e0] at hx
      exact old hx
  · by_cases e0 : 0 < e
    · rw [if_pos e0]
      refine List.pairwise_append.mpr ⟨h.asc, by simp, fun x hx y hy => ?_⟩
      have : y = (q, e) := by simpa using hy
      subst this
      exact (h.ent x hx).2.2.2
    · rw [if_neg e0]; exact h.asc
  · by_cases h1 : p < q
    · obtain ⟨x, hx, ex⟩ := h.all p hp hd h1
      refine ⟨x, ?_, ex⟩
      by_cases e0 : 0 < e
      · rw [if_pos e0]; exact List.mem_append_left _ hx
      · rw [if_neg e0]; exact hx
    · by_cases h2 : p = q
      · subst h2
        rw [h.eq] at hd
        rcases hp.euclid hd with d | d
        · have e0 : 0 < e := Nat.pos_of_ne_zero fun z => by
            subst z
            rw [Nat.pow_zero, Nat.mul_one] at he
            exact hq (he ▸ d)
          rw [if_pos e0]
          exact ⟨(p, e), by simp, rfl⟩
        · exact absurd d (h.mul p hp (Nat.le_refl _))
      · exfalso
        have h5 := h.odd
        by_cases h3 : q = 2
        · rw [if_pos h3] at hlt; omega
        · rw [if_neg h3] at hlt
          have h4 : p = q + 1 := by omega
          rcases hp.2 2 (Nat.dvd_of_mod_eq_zero (by omega)) with z | z <;> omega
/-- the end -/
theorem PInv.done {n rest q M : Nat} {l : List (Nat × Nat)} (h : PInv n rest q M l) (hq : rest < q * q) : PF n (if 1 < rest then l ++ [(rest, 1)] else l) := by
  by_cases h1 : 1 < rest
  · have pr := prime_of h1 hq h.low
    have hle : q ≤ rest := Nat.le_of_not_lt fun hl => h.low rest h1 hl (Nat.dvd_refl rest)
    rw [if_pos h1]
    refine ⟨fun x hx => ?_, List.pairwise_append.mpr ⟨h.asc, by simp, fun x hx y hy => ?_⟩, fun p hp hd => ?_⟩
    · rcases List.mem_append.mp hx with hx | hx
      · obtain ⟨a, b, c, d⟩ := h.ent x hx
        exact ⟨a, b, c⟩
      · have ex : x = (rest, 1) := by simpa using hx
        subst ex
        refine ⟨pr, Nat.le_refl _, ⟨M, by rw [Nat.pow_one]; exact h.eq⟩, fun d => ?_⟩
        have d : rest ^ (1 + 1) ∣ n := d
        rw [h.eq, Nat.pow_succ, Nat.pow_one] at d
        exact h.mul rest pr hle (Nat.dvd_of_mul_dvd_mul_left (by omega) d)
    · have : y = (rest, 1) := by simpa using hy
      subst this
      have := (h.ent x hx).2.2.2
      show x.1 < rest
      omega
    · rw [h.eq] at hd
      rcases hp.euclid hd with d | d
      · have := hp.eq_of_dvd pr d
        exact ⟨(rest, 1), by simp, this.symm⟩
      · by_cases hlt : p < q
        · obtain ⟨x, hx, ex⟩ := h.all p hp (by rw [h.eq]; exact hd) hlt
          exact ⟨x, List.mem_append_left _ hx, ex⟩
        · exact absurd d (h.mul p hp (by omega))
  · rw [if_neg h1]
    have r1 : rest = 1 := by have := h.r1; omega
    refine ⟨fun x hx => ?_, h.asc, fun p hp hd => ?_⟩
    · obtain ⟨a, b, c, d⟩ := h.ent x hx
      exact ⟨a, b, c⟩
    · refine h.all p hp hd (Nat.lt_of_not_le fun hle => h.mul p hp hle ?_)
      rw [h.eq, r1, Nat.one_mul] at hd
      exact hd
theorem sp_primes_of : ∀ args P W, args.length = 1 → F_primes_of args P W → d_primes_of W ⟨fun _ => P .non, fun d ρ => P (retD ρ d), fun _ => False, fun _ => False⟩ (startD 5 args) := by
  rintro args P W _ ⟨i, rfl, ⟨h0, hn⟩, hP⟩
  simp only [dC_e, dVar_e, dOwn_e, dOp_e, dUn_e, dNil_e, dCons_e, dTup_e, dLst_e, dCB_e, dCall_e, dCallB_e, dSeq_e, dNext_e, dBreak_e, dCont_e, dDrop_e, dRet_e, dRetN_e, dIfS_e, dSet_e, dSetO_e, dAug_e, dRaise_e, dApp_e, dAsg_e, dPar_e, dPar3_e, dPar_vvo_e, dgName_e, dgTup_e, dgCons_e, dgNil_e, dTest_e, dAnd_e, dOr_e, dNot_e, dYes_e, dIf_e, dAndV_e, dOrV_e, dNotV_e, dIsi_e, dBits_e, dTuple_e, dSeqI_e, dChain_e, i2_e, i2'_e, u1_e, eqP_int, neP_int, addP_int, addP_tup, addP_lst, lenP_lst, lenP_tup, lenP_scr, absP_int, intP_int, isN_P, notN_P, isB2_P, tuple_lst, sel_t, sel_f, ixP_t0, ixP_t1, ixP_l0, ixP_l1, ixP_own0, ixP_own1, startD, List.map_cons, List.map_nil, List.length_cons, List.length_nil, List.cons_append, List.nil_append, List.getElem?_cons_zero, List.getElem?_cons_succ, List.set_cons_zero, List.set_cons_succ, Nat.reduceAdd, Nat.reduceSub, List.replicate_succ, List.replicate_zero, Option.some.injEq, d_primes_of]
  have h1 : 1 ≤ i.natAbs := by omega
  generalize i.natAbs = n at *
  refine ⟨by decide, fun m ρ => ∃ rest q M l o, m = n + 2 - q ∧ q ≤ n + 2 ∧ PInv n rest q M l ∧ ρ = [some (.int i), some (.int rest), some (.lst (l.map pairD)), some (.int q), o], ⟨n + 2 - 2, n, 2, 1, [], none, rfl, by omega, ?_, ?_⟩, ?_⟩
  · refine ⟨by decide, .inl rfl, h1, by simp, (fun d a b => by omega), fun p hp _ d => ?_, (fun x hx => by cases hx), List.Pairwise.nil, (fun p hp _ hl => by have := hp.1; omega)⟩
    have := Nat.le_of_dvd (by decide) d
    have := hp.1
    omega
  · simp
  rintro m ρ1 ⟨rest, q, M, l, o, rfl, qn, I, rfl⟩
  have rn : rest ≤ n := Nat.le_of_dvd h1 ⟨M, I.eq⟩
  have q2 := I.q2
  have ln := I.len
  have bs := big_size
  simp only [dC_e, dVar_e, dOwn_e, dOp_e, dUn_e, dNil_e, dCons_e, dTup_e, dLst_e, dCB_e, dCall_e, dCallB_e, dSeq_e, dNext_e, dBreak_e, dCont_e, dDrop_e, dRet_e, dRetN_e, dIfS_e, dSet_e, dSetO_e, dAug_e, dRaise_e, dApp_e, dAsg_e, dPar_e, dPar3_e, dPar_vvo_e, dgName_e, dgTup_e, dgCons_e, dgNil_e, dTest_e, dAnd_e, dOr_e, dNot_e, dYes_e, dIf_e, dAndV_e, dOrV_e, dNotV_e, dIsi_e, dBits_e, dTuple_e, dSeqI_e, dChain_e, i2_e, i2'_e, u1_e, eqP_int, neP_int, addP_int, addP_tup, addP_lst, lenP_lst, lenP_tup, lenP_scr, absP_int, intP_int, isN_P, notN_P, isB2_P, tuple_lst, sel_t, sel_f, ixP_t0, ixP_t1, ixP_l0, ixP_l1, ixP_own0, ixP_own1, startD, List.map_cons, List.map_nil, List.length_cons, List.length_nil, List.cons_append, List.nil_append, List.getElem?_cons_zero, List.getElem?_cons_succ, List.set_cons_zero, List.set_cons_succ, Nat.reduceAdd, Nat.reduceSub, List.replicate_succ, List.replicate_zero, Option.some.injEq]
  refine ⟨mulOk (by omega) (by omega), sel_of (fun h => ?_) (fun h => ?_)⟩
  · have hq : q * q ≤ rest := by
      have := of_decide_eq_true h
      exact_mod_cast this
    have hq2 : 2 * q ≤ q * q := Nat.mul_le_mul_right q q2
    refine ⟨fun m ρ => ∃ r e : Nat, m = r ∧ 1 ≤ r ∧ r ≤ rest ∧ rest = r * q ^ e ∧ ρ = [some (.int i), some (.int r), some (.lst (l.map pairD)), some (.int q), some (.int e)], ⟨rest, rest, 0, rfl, I.r1, Nat.le_refl _, by simp, rfl⟩, ?_⟩
    rintro m ρ2 ⟨r, e, rfl, r1, rle, er, rfl⟩
    simp only [dC_e, dVar_e, dOwn_e, dOp_e, dUn_e, dNil_e, dCons_e, dTup_e, dLst_e, dCB_e, dCall_e, dCallB_e, dSeq_e, dNext_e, dBreak_e, dCont_e, dDrop_e, dRet_e, dRetN_e, dIfS_e, dSet_e, dSetO_e, dAug_e, dRaise_e, dApp_e, dAsg_e, dPar_e, dPar3_e, dPar_vvo_e, dgName_e, dgTup_e, dgCons_e, dgNil_e, dTest_e, dAnd_e, dOr_e, dNot_e, dYes_e, dIf_e, dAndV_e, dOrV_e, dNotV_e, dIsi_e, dBits_e, dTuple_e, dSeqI_e, dChain_e, i2_e, i2'_e, u1_e, eqP_int, neP_int, addP_int, addP_tup, addP_lst, lenP_lst, lenP_tup, lenP_scr, absP_int, intP_int, isN_P, notN_P, isB2_P, tuple_lst, sel_t, sel_f, ixP_t0, ixP_t1, ixP_l0, ixP_l1, ixP_own0, ixP_own1, startD, List.map_cons, List.map_nil, List.length_cons, List.length_nil, List.cons_append, List.nil_append, List.getElem?_cons_zero, List.getElem?_cons_succ, List.set_cons_zero, List.set_cons_succ, Nat.reduceAdd, Nat.reduceSub, List.replicate_succ, List.replicate_zero, Option.some.injEq]
    refine ⟨by omega, sel_of (fun h2 => ?_) (fun h2 => ?_)⟩
    · have h3 : m % q = 0 := by
        have := of_decide_eq_true h2
        exact_mod_cast this
      obtain ⟨c, rfl⟩ := Nat.dvd_of_mod_eq_zero h3
      have c1 : 1 ≤ c := Nat.pos_of_ne_zero fun z => by subst z; simp at r1
      have c2 : 2 * c ≤ q * c := Nat.mul_le_mul_right c q2
      refine ⟨divOk (by omega) (by omega), c, by omega, c, e + 1, rfl, c1, by omega, by rw [er]; grind, ?_⟩
      have e1 : ((q * c : Nat) : Int) / (q : Int) = (c : Nat) := by
        rw [← Int.natCast_ediv, Nat.mul_div_cancel_left c (by omega)]
      rw [e1]; rfl
    · have h3 : ¬ q ∣ m := fun d => by
        have := of_decide_eq_false h2
        have h4 := Nat.mod_eq_zero_of_dvd d
        exact this (by exact_mod_cast h4)
      have st := I.step er h3
      refine sel_of (fun h4 => ?_) (fun h4 => ?_)
      · have e0 : 0 < e := by have := of_decide_eq_true h4; omega
        rw [if_pos e0] at st
        refine ⟨by rw [List.length_map]; omega, sel_of (fun h5 => ?_) (fun h5 => ?_)⟩
        · have h6 : q = 2 := by have := of_decide_eq_true h5; omega
          rw [if_pos h6] at st
          exact ⟨n + 2 - (q + 1), by omega, m, q + 1, _, _, some (.int e), rfl, by omega, st, by simp [pairD]⟩
        · have h6 : q ≠ 2 := by have := of_decide_eq_false h5; omega
          rw [if_neg h6] at st
          exact ⟨n + 2 - (q + 2), by omega, m, q + 2, _, _, some (.int e), rfl, by omega, st, by simp [pairD]⟩
      · have e0 : ¬ 0 < e := by have := of_decide_eq_false h4; omega
        rw [if_neg e0] at st
        refine sel_of (fun h5 => ?_) (fun h5 => ?_)
        · have h6 : q = 2 := by have := of_decide_eq_true h5; omega
          rw [if_pos h6] at st
          exact ⟨n + 2 - (q + 1), by omega, m, q + 1, _, _, some (.int e), rfl, by omega, st, by simp⟩
        · have h6 : q ≠ 2 := by have := of_decide_eq_false h5; omega
          rw [if_neg h6] at st
          exact ⟨n + 2 - (q + 2), by omega, m, q + 2, _, _, some (.int e), rfl, by omega, st, by simp⟩
  · have hq : rest < q * q := by
      have := of_decide_eq_false h
      have h2 : ¬ (q * q ≤ rest) := fun z => this (by exact_mod_cast z)
      omega
    have dn := I.done hq
    refine sel_of (fun h2 => ?_) (fun h2 => ?_)
    · have h3 : 1 < rest := by have := of_decide_eq_true h2; omega
      rw [if_pos h3] at dn
      refine ⟨by rw [List.length_map]; show l.length + 1 ≤ sizeLine; omega, ?_⟩
      have := hP _ dn
      rw [List.map_append] at this
      exact this
    · have h3 : ¬ 1 < rest := by have := of_decide_eq_false h2; omega
      rw [if_neg h3] at dn
      exact hP _ dn
structure QInv (n rest q M : Nat) (l : List Nat) : Prop where
  q2 : 2 ≤ q
  r1 : 1 ≤ rest
  eq : n = rest * M
  low : ∀ d, 2 ≤ d → d < q → ¬ d ∣ rest
  mul : ∀ p, Pr p → q ≤ p → ¬ p ∣ M
  mem : ∀ p, p ∈ l ↔ Pr p ∧ p ∣ n ∧ p < q
  asc : l.Pairwise (· < ·)
theorem nlen : ∀ {l : List Nat} {lo q : Nat}, l.Pairwise (· < ·) → (∀ x ∈ l, lo ≤ x ∧ x < q) → l.length ≤ q - lo
  | [], _, _, _, _ => Nat.zero_le _
  | x :: l, lo, q, hp, hb => by
    obtain ⟨h1, h2⟩ := List.pairwise_cons.mp hp
    have hx := hb x List.mem_cons_self
    have := nlen (lo := x + 1) (q := q) h2 fun y hy => ⟨h1 y hy, (hb y (List.mem_cons_of_mem _ hy)).2⟩
    rw [List.length_cons]
    omega
theorem QInv.len {n rest q M : Nat} {l : List Nat} (h : QInv n rest q M l) : l.length ≤ q := nlen h.asc fun x hx => ⟨Nat.zero_le _, ((h.mem x).mp hx).2.2⟩
theorem QInv.prime {n rest q M : Nat} {l : List Nat} (h : QInv n rest q M l) (hd : q ∣ rest) : Pr q := ⟨h.q2, fun d hd2 => by
  have q2 := h.q2
  have dle := Nat.le_of_dvd (by omega) hd2
  have d0 : d ≠ 0 := fun z => by subst z; have := Nat.eq_zero_of_zero_dvd hd2; omega
  by_cases h1 : d = 1
  · exact .inl h1
  · by_cases h2 : d = q
    · exact .inr h2
    · exact absurd (Nat.dvd_trans hd2 hd) (h.low d (by omega) (by omega))⟩
theorem QInv.skip {n rest q M : Nat} {l : List Nat} (h : QInv n rest q M l) (hd : ¬ q ∣ rest) : QInv n rest (q + 1) M l := by
  refine ⟨by have := h.q2; omega, h.r1, h.eq, fun d d2 hlt dd => ?_, fun p hp hle => h.mul p hp (by omega), fun p => ?_, h.asc⟩
  · by_cases h1 : d = q
    · subst h1; exact hd dd
    · exact h.low d d2 (by omega) dd
  · rw [h.mem p]
    constructor
    · rintro ⟨a, b, c⟩; exact ⟨a, b, by omega⟩
    · rintro ⟨a, b, c⟩
      refine ⟨a, b, ?_⟩
      refine Nat.lt_of_le_of_ne (by omega) fun z => ?_
      subst z
      rw [h.eq] at b
      rcases a.euclid b with d | d
      · exact hd d
      · exact h.mul p a (Nat.le_refl _) d
theorem QInv.take {n rest q M r e : Nat} {l : List Nat} (h : QInv n rest q M l) (hd : q ∣ rest) (he : rest = r * q ^ e) (hq : ¬ q ∣ r) : QInv n r (q + 1) (M * q ^ e) (l ++ [q]) := by
  have pq := h.prime hd
  have hr : r ∣ rest := ⟨_, he⟩
  have q2 := h.q2
  refine ⟨by omega, Nat.pos_of_ne_zero fun z => hq (by rw [z]; exact Nat.dvd_zero q), by rw [h.eq, he]; grind, fun d d2 hlt dd => ?_, fun p hp hle dd => ?_, fun p => ?_, ?_⟩
  · by_cases h1 : d = q
    · subst h1; exact hq dd
    · exact h.low d d2 (by omega) (Nat.dvd_trans dd hr)
  · rcases hp.euclid dd with d | d
    · exact h.mul p hp (by omega) d
    · have := hp.eq_of_dvd pq (hp.dvd_pow d)
      omega
  · rw [List.mem_append, h.mem p, List.mem_singleton]
    constructor
    · rintro (⟨a, b, c⟩ | rfl)
      · exact ⟨a, b, by omega⟩
      · exact ⟨pq, by rw [h.eq]; exact Nat.dvd_trans hd (Nat.dvd_mul_right rest M), by omega⟩
    · rintro ⟨a, b, c⟩
      by_cases h1 : p = q
      · exact .inr h1
      · exact .inl ⟨a, b, by omega⟩
  · refine List.pairwise_append.mpr ⟨h.asc, by simp, fun x hx y hy => ?_⟩
    have := ((h.mem x).mp hx).2.2
    have : y = q := by simpa using hy
    omega
theorem QInv.done {n rest q M : Nat} {l : List Nat} (h : QInv n rest q M l) (hq : rest < q * q) : (if 1 < rest then l ++ [rest] else l).Pairwise (· < ·) ∧ ∀ p, p ∈ (if 1 < rest then l ++ [rest] else l) ↔ Pr p ∧ p ∣ n := by
  by_cases h1 : 1 < rest
  · have pr := prime_of h1 hq h.low
    have hle : q ≤ rest := Nat.le_of_not_lt fun hl => h.low rest h1 hl (Nat.dvd_refl rest)
    rw [if_pos h1]
    refine ⟨List.pairwise_append.mpr ⟨h.asc, by simp, fun x hx y hy => ?_⟩, fun p => ?_⟩
    · have h2 := ((h.mem x).mp hx).2.2
      have : y = rest := by simpa using hy
      omega
    · rw [List.mem_append, h.mem p, List.mem_singleton]
      constructor
      · rintro (⟨a, b, c⟩ | rfl)
        · exact ⟨a, b⟩
        · exact ⟨pr, by rw [h.eq]; exact Nat.dvd_mul_right _ M⟩
      · rintro ⟨a, b⟩
        by_cases h2 : p < q
        · exact .inl ⟨a, b, h2⟩
        · rw [h.eq] at b
          rcases a.euclid b with d | d
          · exact .inr (a.eq_of_dvd pr d)
          · exact absurd d (h.mul p a (by omega))
  · have r1 : rest = 1 := by have := h.r1; omega
    rw [if_neg h1]
    refine ⟨h.asc, fun p => ?_⟩
    rw [h.mem p]
    constructor
    · rintro ⟨a, b, c⟩; exact ⟨a, b⟩
    · rintro ⟨a, b⟩
      refine ⟨a, b, Nat.lt_of_not_le fun hle => h.mul p a hle ?_⟩
      rw [h.eq, r1, Nat.one_mul] at b
      exact b
theorem sp__law_primes : ∀ args P W, args.length = 1 → F__law_primes args P W → d__law_primes W ⟨fun _ => P .non, fun d ρ => P (retD ρ d), fun _ => False, fun _ => False⟩ (startD 3 args) := by
  rintro args P W _ ⟨i, rfl, ⟨h0, hn⟩, hP⟩
  simp only [dC_e, dVar_e, dOwn_e, dOp_e, dUn_e, dNil_e, dCons_e, dTup_e, dLst_e, dCB_e, dCall_e, dCallB_e, dSeq_e, dNext_e, dBreak_e, dCont_e, dDrop_e, dRet_e, dRetN_e, dIfS_e, dSet_e, dSetO_e, dAug_e, dRaise_e, dApp_e, dAsg_e, dPar_e, dPar3_e, dPar_vvo_e, dgName_e, dgTup_e, dgCons_e, dgNil_e, dTest_e, dAnd_e, dOr_e, dNot_e, dYes_e, dIf_e, dAndV_e, dOrV_e, dNotV_e, dIsi_e, dBits_e, dTuple_e, dSeqI_e, dChain_e, i2_e, i2'_e, u1_e, eqP_int, neP_int, addP_int, addP_tup, addP_lst, lenP_lst, lenP_tup, lenP_scr, absP_int, intP_int, isN_P, notN_P, isB2_P, tuple_lst, sel_t, sel_f, ixP_t0, ixP_t1, ixP_l0, ixP_l1, ixP_own0, ixP_own1, startD, List.map_cons, List.map_nil, List.length_cons, List.length_nil, List.cons_append, List.nil_append, List.getElem?_cons_zero, List.getElem?_cons_succ, List.set_cons_zero, List.set_cons_succ, Nat.reduceAdd, Nat.reduceSub, List.replicate_succ, List.replicate_zero, Option.some.injEq, d__law_primes]
  have h1 : 1 ≤ i.natAbs := by omega
  generalize i.natAbs = n at *
  refine ⟨by decide, fun m ρ => ∃ rest q M l, m = n + 2 - q ∧ q ≤ n + 2 ∧ QInv n rest q M l ∧ ρ = [some (.int rest), some (.int q), some (ndl l)], ⟨n + 2 - 2, n, 2, 1, [], rfl, by omega, ?_, rfl⟩, ?_⟩
  · refine ⟨by decide, h1, by simp, (fun d a b => by omega), fun p hp _ d => ?_, fun p => ?_, List.Pairwise.nil⟩
    · have := Nat.le_of_dvd (by decide) d
      have := hp.1
      omega
    · constructor
      · intro h; cases h
      · rintro ⟨a, b, c⟩
        have := a.1
        omega
  rintro m ρ1 ⟨rest, q, M, l, rfl, qn, I, rfl⟩
  have rn : rest ≤ n := Nat.le_of_dvd h1 ⟨M, I.eq⟩
  have q2 := I.q2
  have ln := I.len
  have bs := big_size
  unfold ndl
  simp only [dC_e, dVar_e, dOwn_e, dOp_e, dUn_e, dNil_e, dCons_e, dTup_e, dLst_e, dCB_e, dCall_e, dCallB_e, dSeq_e, dNext_e, dBreak_e, dCont_e, dDrop_e, dRet_e, dRetN_e, dIfS_e, dSet_e, dSetO_e, dAug_e, dRaise_e, dApp_e, dAsg_e, dPar_e, dPar3_e, dPar_vvo_e, dgName_e, dgTup_e, dgCons_e, dgNil_e, dTest_e, dAnd_e, dOr_e, dNot_e, dYes_e, dIf_e, dAndV_e, dOrV_e, dNotV_e, dIsi_e, dBits_e, dTuple_e, dSeqI_e, dChain_e, i2_e, i2'_e, u1_e, eqP_int, neP_int, addP_int, addP_tup, addP_lst, lenP_lst, lenP_tup, lenP_scr, absP_int, intP_int, isN_P, notN_P, isB2_P, tuple_lst, sel_t, sel_f, ixP_t0, ixP_t1, ixP_l0, ixP_l1, ixP_own0, ixP_own1, startD, List.map_cons, List.map_nil, List.length_cons, List.length_nil, List.cons_append, List.nil_append, List.getElem?_cons_zero, List.getElem?_cons_succ, List.set_cons_zero, List.set_cons_succ, Nat.reduceAdd, Nat.reduceSub, List.replicate_succ, List.replicate_zero, Option.some.injEq]
  refine ⟨mulOk (by omega) (by omega), sel_of (fun h => ?_) (fun h => ?_)⟩
  · have hq : q * q ≤ rest := by
      have := of_decide_eq_true h
      exact_mod_cast this
    have hq2 : 2 * q ≤ q * q := Nat.mul_le_mul_right q q2
    refine ⟨by omega, sel_of (fun h2 => ?_) (fun h2 => ?_)⟩
    · have hd : q ∣ rest := by
        have := of_decide_eq_true h2
        exact Nat.dvd_of_mod_eq_zero (by exact_mod_cast this)
      refine ⟨by rw [List.length_map]; omega, fun m ρ => ∃ r e : Nat, m = r ∧ 1 ≤ r ∧ r ≤ rest ∧ rest = r * q ^ e ∧ ρ = [some (.int r), some (.int q), some (.lst (l.map (fun x : Nat => D.int x) ++ [.int q]))], ⟨rest, rest, 0, rfl, I.r1, Nat.le_refl _, by simp, rfl⟩, ?_⟩
      rintro m ρ2 ⟨r, e, rfl, r1, rle, er, rfl⟩
      simp only [dC_e, dVar_e, dOwn_e, dOp_e, dUn_e, dNil_e, dCons_e, dTup_e, dLst_e, dCB_e, dCall_e, dCallB_e, dSeq_e, dNext_e, dBreak_e, dCont_e, dDrop_e, dRet_e, dRetN_e, dIfS_e, dSet_e, dSetO_e, dAug_e, dRaise_e, dApp_e, dAsg_e, dPar_e, dPar3_e, dPar_vvo_e, dgName_e, dgTup_e, dgCons_e, dgNil_e, dTest_e, dAnd_e, dOr_e, dNot_e, dYes_e, dIf_e, dAndV_e, dOrV_e, dNotV_e, dIsi_e, dBits_e, dTuple_e, dSeqI_e, dChain_e, i2_e, i2'_e, u1_e, eqP_int, neP_int, addP_int, addP_tup, addP_lst, lenP_lst, lenP_tup, lenP_scr, absP_int, intP_int, isN_P, notN_P, isB2_P, tuple_lst, sel_t, sel_f, ixP_t0, ixP_t1, ixP_l0, ixP_l1, ixP_own0, ixP_own1, startD, List.map_cons, List.map_nil, List.length_cons, List.length_nil, List.cons_append, List.nil_append, List.getElem?_cons_zero, List.getElem?_cons_succ, List.set_cons_zero, List.set_cons_succ, Nat.reduceAdd, Nat.reduceSub, List.replicate_succ, List.replicate_zero, Option.some.injEq]
      refine ⟨by omega, sel_of (fun h2 => ?_) (fun h2 => ?_)⟩
      · have h3 : m % q = 0 := by
          have := of_decide_eq_true h2
          exact_mod_cast this
        obtain ⟨c, rfl⟩ := Nat.dvd_of_mod_eq_zero h3
        have c1 : 1 ≤ c := Nat.pos_of_ne_zero fun z => by subst z; simp at r1
        have c2 : 2 * c ≤ q * c := Nat.mul_le_mul_right c q2
        refine ⟨divOk (by omega) (by omega), c, by omega, c, e + 1, rfl, c1, by omega, by rw [er]; grind, ?_⟩
        have e1 : ((q * c : Nat) : Int) / (q : Int) = (c : Nat) := by
          rw [← Int.natCast_ediv, Nat.mul_div_cancel_left c (by omega)]
        rw [e1]
      · have h3 : ¬ q ∣ m := fun d => by
          have := of_decide_eq_false h2
          have h4 := Nat.mod_eq_zero_of_dvd d
          exact this (by exact_mod_cast h4)
        exact ⟨n + 2 - (q + 1), by omega, m, q + 1, _, _, rfl, by omega, I.take hd er h3, by simp⟩
    · have hd : ¬ q ∣ rest := fun d => by
        have := of_decide_eq_false h2
        have h4 := Nat.mod_eq_zero_of_dvd d
        exact this (by exact_mod_cast h4)
      exact ⟨n + 2 - (q + 1), by omega, rest, q + 1, _, _, rfl, by omega, I.skip hd, by simp⟩
  · have hq : rest < q * q := by
      have := of_decide_eq_false h
      have h2 : ¬ (q * q ≤ rest) := fun z => this (by exact_mod_cast z)
      omega
    obtain ⟨d1, d2⟩ := I.done hq
    refine sel_of (fun h2 => ?_) (fun h2 => ?_)
    · have h3 : 1 < rest := by have := of_decide_eq_true h2; omega
      rw [if_pos h3] at d1
      simp only [if_pos h3] at d2
      refine ⟨by rw [List.length_map]; show l.length + 1 ≤ sizeLine; omega, ?_⟩
      have := hP _ d1 d2
      unfold ndl at this
      rw [List.map_append] at this
      exact this
    · have h3 : ¬ 1 < rest := by have := of_decide_eq_false h2; omega
      rw [if_neg h3] at d1
      simp only [if_neg h3] at d2
      exact hP _ d1 d2
theorem sp__law_cell : ∀ args P W, args.length = 2 → F__law_cell args P W → d__law_cell W ⟨fun _ => P .non, fun d ρ => P (retD ρ d), fun _ => False, fun _ => False⟩ (startD 2 args) := by
  rintro args P W _ ⟨ns, k, rfl, ⟨hl, hb⟩, hP⟩
  simp only [dC_e, dVar_e, dOwn_e, dOp_e, dUn_e, dNil_e, dCons_e, dTup_e, dLst_e, dCB_e, dCall_e, dCallB_e, dSeq_e, dNext_e, dBreak_e, dCont_e, dDrop_e, dRet_e, dRetN_e, dIfS_e, dSet_e, dSetO_e, dAug_e, dRaise_e, dApp_e, dAsg_e, dPar_e, dPar3_e, dPar_vvo_e, dgName_e, dgTup_e, dgCons_e, dgNil_e, dTest_e, dAnd_e, dOr_e, dNot_e, dYes_e, dIf_e, dAndV_e, dOrV_e, dNotV_e, dIsi_e, dBits_e, dTuple_e, dSeqI_e, dChain_e, i2_e, i2'_e, u1_e, eqP_int, neP_int, addP_int, addP_tup, addP_lst, lenP_lst, lenP_tup, lenP_scr, absP_int, intP_int, isN_P, notN_P, isB2_P, tuple_lst, sel_t, sel_f, ixP_t0, ixP_t1, ixP_l0, ixP_l1, ixP_own0, ixP_own1, startD, List.map_cons, List.map_nil, List.length_cons, List.length_nil, List.cons_append, List.nil_append, List.getElem?_cons_zero, List.getElem?_cons_succ, List.set_cons_zero, List.set_cons_succ, Nat.reduceAdd, Nat.reduceSub, List.replicate_succ, List.replicate_zero, Option.some.injEq, d__law_cell]
  refine sel_of (fun h => ?_) (fun h => ?_)
  · have hk : k < ns.length := by
      have := of_decide_eq_true h
      rw [List.length_map] at this
      omega
    rw [ixP_scr (List.getElem?_eq_getElem hk)]
    exact hP _ (hb _ (List.getElem_mem hk))
  · exact hP 0 (by decide)
theorem sp__law_stream : ∀ args P, args.length = 2 → F__law_stream args P noX → d__law_stream (startD 2 args) fun d _ => P d := by
  rintro args P _ ⟨ns, k, rfl, hs, hP⟩
  simp only [dC_e, dVar_e, dOwn_e, dOp_e, dUn_e, dNil_e, dCons_e, dTup_e, dLst_e, dCB_e, dCall_e, dCallB_e, dSeq_e, dNext_e, dBreak_e, dCont_e, dDrop_e, dRet_e, dRetN_e, dIfS_e, dSet_e, dSetO_e, dAug_e, dRaise_e, dApp_e, dAsg_e, dPar_e, dPar3_e, dPar_vvo_e, dgName_e, dgTup_e, dgCons_e, dgNil_e, dTest_e, dAnd_e, dOr_e, dNot_e, dYes_e, dIf_e, dAndV_e, dOrV_e, dNotV_e, dIsi_e, dBits_e, dTuple_e, dSeqI_e, dChain_e, i2_e, i2'_e, u1_e, eqP_int, neP_int, addP_int, addP_tup, addP_lst, lenP_lst, lenP_tup, lenP_scr, absP_int, intP_int, isN_P, notN_P, isB2_P, tuple_lst, sel_t, sel_f, ixP_t0, ixP_t1, ixP_l0, ixP_l1, ixP_own0, ixP_own1, startD, List.map_cons, List.map_nil, List.length_cons, List.length_nil, List.cons_append, List.nil_append, List.getElem?_cons_zero, List.getElem?_cons_succ, List.set_cons_zero, List.set_cons_succ, Nat.reduceAdd, Nat.reduceSub, List.replicate_succ, List.replicate_zero, Option.some.injEq, d__law_stream]
  refine ⟨ns, k, rfl, hs, fun i hi => ⟨ns, k, rfl, hs, fun j hj => ?_⟩⟩
  simp only [dC_e, dVar_e, dOwn_e, dOp_e, dUn_e, dNil_e, dCons_e, dTup_e, dLst_e, dCB_e, dCall_e, dCallB_e, dSeq_e, dNext_e, dBreak_e, dCont_e, dDrop_e, dRet_e, dRetN_e, dIfS_e, dSet_e, dSetO_e, dAug_e, dRaise_e, dApp_e, dAsg_e, dPar_e, dPar3_e, dPar_vvo_e, dgName_e, dgTup_e, dgCons_e, dgNil_e, dTest_e, dAnd_e, dOr_e, dNot_e, dYes_e, dIf_e, dAndV_e, dOrV_e, dNotV_e, dIsi_e, dBits_e, dTuple_e, dSeqI_e, dChain_e, i2_e, i2'_e, u1_e, eqP_int, neP_int, addP_int, addP_tup, addP_lst, lenP_lst, lenP_tup, lenP_scr, absP_int, intP_int, isN_P, notN_P, isB2_P, tuple_lst, sel_t, sel_f, ixP_t0, ixP_t1, ixP_l0, ixP_l1, ixP_own0, ixP_own1, startD, List.map_cons, List.map_nil, List.length_cons, List.length_nil, List.cons_append, List.nil_append, List.getElem?_cons_zero, List.getElem?_cons_succ, List.set_cons_zero, List.set_cons_succ, Nat.reduceAdd, Nat.reduceSub, List.replicate_succ, List.replicate_zero, Option.some.injEq]
  refine ⟨by decide, hP _ ⟨i.natAbs, j.natAbs % 1000003 + 7, ?_, by rw [bits_abs]; exact hi, by omega⟩⟩
  have : ((j.natAbs : Int) % 1000003 + 7) = ((j.natAbs % 1000003 + 7 : Nat) : Int) := by omega
  rw [this]
theorem sp__law_draw : ∀ bx args P W, args.length + 1 = 2 → F__law_draw (bx :: args) P W → d__law_draw W ⟨fun ρ => ∃ b, ρ[0]? = some (some b) ∧ P .non b, fun d ρ => ∃ b, ρ[0]? = some (some b) ∧ NotOwn d ∧ P d b, fun _ => False, fun _ => False⟩ (startD 3 (bx :: args)) := by
  rintro bx args P W _ ⟨bx', many, e, ⟨a, b, rfl, ha, hb⟩, h1, h2, hP⟩
  cases e
  simp only [dC_e, dVar_e, dOwn_e, dOp_e, dUn_e, dNil_e, dCons_e, dTup_e, dLst_e, dCB_e, dCall_e, dCallB_e, dSeq_e, dNext_e, dBreak_e, dCont_e, dDrop_e, dRet_e, dRetN_e, dIfS_e, dSet_e, dSetO_e, dAug_e, dRaise_e, dApp_e, dAsg_e, dPar_e, dPar3_e, dPar_vvo_e, dgName_e, dgTup_e, dgCons_e, dgNil_e, dTest_e, dAnd_e, dOr_e, dNot_e, dYes_e, dIf_e, dAndV_e, dOrV_e, dNotV_e, dIsi_e, dBits_e, dTuple_e, dSeqI_e, dChain_e, i2_e, i2'_e, u1_e, eqP_int, neP_int, addP_int, addP_tup, addP_lst, lenP_lst, lenP_tup, lenP_scr, absP_int, intP_int, isN_P, notN_P, isB2_P, tuple_lst, sel_t, sel_f, ixP_t0, ixP_t1, ixP_l0, ixP_l1, ixP_own0, ixP_own1, startD, List.map_cons, List.map_nil, List.length_cons, List.length_nil, List.cons_append, List.nil_append, List.getElem?_cons_zero, List.getElem?_cons_succ, List.set_cons_zero, List.set_cons_succ, Nat.reduceAdd, Nat.reduceSub, List.replicate_succ, List.replicate_zero, Option.some.injEq, d__law_draw, dSetIx]
  refine sel_of (fun h => ?_) (fun h => ?_)
  · have e1 : (a : Int) % (many : Int) = ((a % many : Nat) : Int) := by omega
    have e2 : (a : Int) / (many : Int) = ((a / many : Nat) : Int) := by simp
    refine ⟨by omega, divOk (by omega) (by omega), ?_⟩
    rw [e1, e2]
    refine ⟨_, rfl, trivial, hP (a % many) _ ⟨a / many, b, rfl, Nat.le_trans (bits_le (Nat.div_le_self _ _)) ha, hb⟩ (Nat.mod_lt _ h1)⟩
  · refine ⟨mulOk (by omega) (by decide), by decide, ?_⟩
    have e1 : ((b : Int) * 48271 + 12345) % 2147483647 = (((b * 48271 + 12345) % 2147483647 : Nat) : Int) := by omega
    rw [e1]
    have e2 : ((((b * 48271 + 12345) % 2147483647 : Nat) : Int) / 64) % (many : Int) = (((b * 48271 + 12345) % 2147483647 / 64 % many : Nat) : Int) := by simp
    refine ⟨divOk (by decide) (by decide), by omega, ?_⟩
    refine ⟨_, rfl, trivial, ?_⟩
    show P (.int (((((b * 48271 + 12345) % 2147483647 : Nat) : Int) / 64) % (many : Int))) _
    rw [e2]
    exact hP _ _ ⟨a, (b * 48271 + 12345) % 2147483647, rfl, ha, by omega⟩ (Nat.mod_lt _ h1)
theorem rdNs_get {n : Nat} : ∀ {xs : List D} {i : Nat} {d : D}, rdNs n xs = true → xs[i]? = some d → rdN n d = true
  | [], _, _, _, h => by simp at h
  | x :: xs, 0, d, o, h => by
    rw [rdNs, Bool.and_eq_true] at o
    simp at h
    exact h ▸ o.1
  | x :: xs, i + 1, d, o, h => by
    rw [rdNs, Bool.and_eq_true] at o
    exact rdNs_get o.2 (by simpa using h)
/-- a row that is read, one after another -/
theorem read_row {n : Nat} {xs : List D} {x0 : D} {Q : D → PD.Env → Prop} (hl : xs.length ≤ 100000) (ho : rdNs n xs = true) (hQ : Q (.lst xs) [some x0, none, none]) :
    ∃ W : Nat → List D → PD.Env → Prop, W 0 [] [some x0, none, none] ∧
      (∀ i d acc ρ2, xs[i]? = some d → W i acc ρ2 → dgName 2 d (wipeD ρ2 [2]) fun ρ3 => dYes ρ3 fun k ρ4 =>
        sel k ((dCall (readN n) noX (dCons (dVar 2) dNil)) ρ4 fun y ρ5 => acc.length < sizeLine ∧ W (i + 1) (acc ++ [y]) (backD [2] ρ2 ρ5)) (W (i + 1) acc (backD [2] ρ2 ρ4))) ∧ ∀ acc ρ2, W xs.length acc ρ2 → Q (.lst acc) ρ2 := by
  refine ⟨fun i acc ρ => ρ = [some x0, none, none] ∧ acc = xs.take i, ⟨rfl, rfl⟩, ?_, ?_⟩
  · rintro i d acc ρ2 hi ⟨rfl, rfl⟩
    refine ⟨d, rfl, rdNs_get ho hi, ?_, rfl, (take_snoc hi).symm⟩
    have := size_big
    rw [List.length_take]
    omega
  · rintro acc ρ2 ⟨rfl, rfl⟩
    rw [List.take_length]
    exact hQ
theorem read_step {n : Nat} : ∀ args P W, args.length = 1 → readN (n + 1) args P W → d__law_read (readN n) W ⟨fun _ => P .non, fun d ρ => P (retD ρ d), fun _ => False, fun _ => False⟩ (startD 3 args) := by
  rintro args P W _ ⟨d, rfl, ho, hP⟩
  simp only [dC_e, dVar_e, dOwn_e, dOp_e, dUn_e, dNil_e, dCons_e, dTup_e, dLst_e, dCB_e, dCall_e, dCallB_e, dSeq_e, dNext_e, dBreak_e, dCont_e, dDrop_e, dRet_e, dRetN_e, dIfS_e, dSet_e, dSetO_e, dAug_e, dRaise_e, dApp_e, dAsg_e, dPar_e, dPar3_e, dPar_vvo_e, dgName_e, dgTup_e, dgCons_e, dgNil_e, dTest_e, dAnd_e, dOr_e, dNot_e, dYes_e, dIf_e, dAndV_e, dOrV_e, dNotV_e, dIsi_e, dBits_e, dTuple_e, dSeqI_e, dChain_e, i2_e, i2'_e, u1_e, eqP_int, neP_int, addP_int, addP_tup, addP_lst, lenP_lst, lenP_tup, lenP_scr, absP_int, intP_int, isN_P, notN_P, isB2_P, tuple_lst, sel_t, sel_f, ixP_t0, ixP_t1, ixP_l0, ixP_l1, ixP_own0, ixP_own1, startD, List.map_cons, List.map_nil, List.length_cons, List.length_nil, List.cons_append, List.nil_append, List.getElem?_cons_zero, List.getElem?_cons_succ, List.set_cons_zero, List.set_cons_succ, Nat.reduceAdd, Nat.reduceSub, List.replicate_succ, List.replicate_zero, Option.some.injEq, d__law_read]
  cases d with
  | non => exact hP
  | bl b => cases b <;> exact hP
  | int i => exact ⟨rfl, hP⟩
  | str s =>
    rw [rdN] at ho
    have hs : s.length ≤ 1000 := of_decide_eq_true ho
    refine ⟨rfl, rfl, ?_⟩
    obtain ⟨ys, e1, e2, e3⟩ := signs_join s
    have hb := size_big
    have hl : (signs s).length = s.length := by unfold signs; rw [List.length_map, Array.length_toList]; rfl
    refine ⟨fun i acc ρ => ρ = [some (.str s), none, none] ∧ acc = (signs s).take i, ⟨rfl, rfl⟩, ?_, ?_⟩
    · rintro i d acc ρ2 hi ⟨rfl, rfl⟩
      exact ⟨by rw [List.length_take]; omega, rfl, (take_snoc hi).symm⟩
    · rintro acc ρ2 ⟨rfl, rfl⟩
      rw [List.take_length]
      exact ⟨ys, e1, by omega, by rw [e2]; exact hP⟩
  | tup xs =>
    rw [rdN, Bool.and_eq_true] at ho
    refine ⟨rfl, rfl, rfl, ?_⟩
    exact read_row (Q := fun d ρ1 => tupleP ρ1 d fun z => P (retD ρ1 z)) (of_decide_eq_true ho.1) ho.2 hP
  | lst xs =>
    rw [rdN, Bool.and_eq_true] at ho
    refine ⟨rfl, rfl, rfl, rfl, ?_⟩
    exact read_row (Q := fun d ρ1 => P (retD ρ1 d)) (of_decide_eq_true ho.1) ho.2 hP
  | fn a => rw [rdN] at ho; cases ho
  | own a => rw [rdN] at ho; cases ho
  | dct a b => rw [rdN] at ho; cases ho
  | scr a => rw [rdN] at ho; cases ho
theorem read_zero : ∀ args P W, args.length = 1 → readN 0 args P W → d__law_read (fun _ _ _ => False) W ⟨fun _ => P .non, fun d ρ => P (retD ρ d), fun _ => False, fun _ => False⟩ (startD 3 args) := by
  rintro args P W _ ⟨d, rfl, ho, hP⟩
  simp only [dC_e, dVar_e, dOwn_e, dOp_e, dUn_e, dNil_e, dCons_e, dTup_e, dLst_e, dCB_e, dCall_e, dCallB_e, dSeq_e, dNext_e, dBreak_e, dCont_e, dDrop_e, dRet_e, dRetN_e, dIfS_e, dSet_e, dSetO_e, dAug_e, dRaise_e, dApp_e, dAsg_e, dPar_e, dPar3_e, dPar_vvo_e, dgName_e, dgTup_e, dgCons_e, dgNil_e, dTest_e, dAnd_e, dOr_e, dNot_e, dYes_e, dIf_e, dAndV_e, dOrV_e, dNotV_e, dIsi_e, dBits_e, dTuple_e, dSeqI_e, dChain_e, i2_e, i2'_e, u1_e, eqP_int, neP_int, addP_int, addP_tup, addP_lst, lenP_lst, lenP_tup, lenP_scr, absP_int, intP_int, isN_P, notN_P, isB2_P, tuple_lst, sel_t, sel_f, ixP_t0, ixP_t1, ixP_l0, ixP_l1, ixP_own0, ixP_own1, startD, List.map_cons, List.map_nil, List.length_cons, List.length_nil, List.cons_append, List.nil_append, List.getElem?_cons_zero, List.getElem?_cons_succ, List.set_cons_zero, List.set_cons_succ, Nat.reduceAdd, Nat.reduceSub, List.replicate_succ, List.replicate_zero, Option.some.injEq, d__law_read]
  cases d with
  | non => exact hP
  | bl b => cases b <;> exact hP
  | int i => exact ⟨rfl, hP⟩
  | str s =>
    rw [rdN] at ho
    have hs : s.length ≤ 1000 := of_decide_eq_true ho
    refine ⟨rfl, rfl, ?_⟩
    obtain ⟨ys, e1, e2, e3⟩ := signs_join s
    have hb := size_big
    have hl : (signs s).length = s.length := by unfold signs; rw [List.length_map, Array.length_toList]; rfl
    refine ⟨fun i acc ρ => ρ = [some (.str s), none, none] ∧ acc = (signs s).take i, ⟨rfl, rfl⟩, ?_, ?_⟩
    · rintro i d acc ρ2 hi ⟨rfl, rfl⟩
      exact ⟨by rw [List.length_take]; omega, rfl, (take_snoc hi).symm⟩
    · rintro acc ρ2 ⟨rfl, rfl⟩
      rw [List.take_length]
      exact ⟨ys, e1, by omega, by rw [e2]; exact hP⟩
  | _ => rw [rdN] at ho; cases ho
end K01

end
section
set_option Elab.async false
set_option linter.all false
set_option maxRecDepth 100000
/-! k01: the readings keep the promises: numbers -/
namespace K01
open PySem L2 PD NT

/-! ### distinct primes -/
def prodN : List Nat → Nat
  | [] => 1
  | x :: l => x * prodN l
theorem prod_dvd : ∀ {l : List Nat} {n : Nat}, l.Pairwise (· < ·) → (∀ p ∈ l, Pr p ∧ p ∣ n) → prodN l ∣ n
  | [], n, _, _ => Nat.one_dvd n
  | p :: l, n, hp, h => by
    obtain ⟨h1, h2⟩ := List.pairwise_cons.mp hp
    obtain ⟨pp, ⟨m, rfl⟩⟩ := h p List.mem_cons_self
    refine Nat.mul_dvd_mul (Nat.dvd_refl p) (prod_dvd h2 fun q hq => ?_)
    obtain ⟨qq, d⟩ := h q (List.mem_cons_of_mem _ hq)
    refine ⟨qq, (qq.euclid d).resolve_left fun d => ?_⟩
    have := qq.eq_of_dvd pp d
    have := h1 q hq
    omega
theorem prod_pow : ∀ {l : List Nat}, (∀ p ∈ l, Pr p) → 2 ^ l.length ≤ prodN l
  | [], _ => Nat.le_refl _
  | p :: l, h => by
    rw [List.length_cons, Nat.pow_succ, prodN, Nat.mul_comm]
    exact Nat.mul_le_mul (h p List.mem_cons_self).1 (prod_pow fun q hq => h q (List.mem_cons_of_mem _ hq))
theorem primes_few {l : List Nat} {n : Nat} (h0 : 0 < n) (hn : n ≤ 1000000) (h : l.Pairwise (· < ·)) (hp : ∀ p ∈ l, Pr p ∧ p ∣ n) : l.length < 20 := by
  have h1 := Nat.le_of_dvd h0 (prod_dvd h hp)
  have h2 := prod_pow fun p hq => (hp p hq).1
  refine Nat.lt_of_not_le fun hl => ?_
  have := Nat.pow_le_pow_right (show 0 < 2 by decide) hl
  omega
theorem Ex.dvd1 {p n e : Nat} (h : Ex p n e) (h1 : 1 ≤ e) : p ∣ n := by
  refine Nat.dvd_trans ?_ h.1
  have := Nat.pow_dvd_pow p h1
  rwa [Nat.pow_one] at this
theorem PF.keys {n : Nat} {l : List (Nat × Nat)} (h : PF n l) : (l.map (·.1)).Pairwise (· < ·) ∧ ∀ p ∈ l.map (·.1), Pr p ∧ p ∣ n := by
  obtain ⟨h1, h2, h3⟩ := h
  refine ⟨List.pairwise_map.mpr h2, fun p hp => ?_⟩
  obtain ⟨x, hx, rfl⟩ := List.mem_map.mp hp
  obtain ⟨a, b, c⟩ := h1 x hx
  exact ⟨a, Ex.dvd1 c b⟩
theorem PF.few {n : Nat} {l : List (Nat × Nat)} (h0 : 0 < n) (hn : n ≤ 1000000) (h : PF n l) : l.length < 20 := by
  have := primes_few h0 hn h.keys.1 h.keys.2
  rwa [List.length_map] at this
theorem prod_append : ∀ l m : List Nat, prodN (l ++ m) = prodN l * prodN m
  | [], m => by rw [List.nil_append, prodN, Nat.one_mul]
  | x :: l, m => by rw [List.cons_append, prodN, prodN, prod_append l m, Nat.mul_assoc]
/-- what oddP is made of -/
def odl (l : List (Nat × Nat)) : List Nat := (l.filter fun x => decide (x.2 % 2 = 1)).map (·.1)
theorem oddP_is : ∀ l : List (Nat × Nat), oddP l = (prodN (odl l) : Nat)
  | [] => rfl
  | x :: l => by
    rw [oddP, oddP_is l]
    unfold odl
    by_cases h : x.2 % 2 = 1
    · have e : (x :: l).filter (fun x => decide (x.2 % 2 = 1)) = x :: l.filter (fun x => decide (x.2 % 2 = 1)) := List.filter_cons_of_pos (by simpa using h)
      rw [e, if_pos h, List.map_cons, prodN]
      simp
    · have e : (x :: l).filter (fun x => decide (x.2 % 2 = 1)) = l.filter (fun x => decide (x.2 % 2 = 1)) := List.filter_cons_of_neg (by simpa using h)
      rw [e, if_neg h, Int.one_mul]
theorem odl_sub (l : List (Nat × Nat)) : (odl l).Sublist (l.map (·.1)) := List.Sublist.map _ (List.filter_sublist)
theorem odl_dvd {n : Nat} {l m : List (Nat × Nat)} (h : PF n l) (hs : m.Sublist l) : prodN (odl m) ∣ n := by
  have s := (odl_sub m).trans (hs.map (·.1))
  exact prod_dvd (h.keys.1.sublist s) fun p hp => h.keys.2 p (s.mem hp)
theorem odl_pos {n : Nat} {l m : List (Nat × Nat)} (h : PF n l) (hs : m.Sublist l) : 1 ≤ prodN (odl m) := by
  have s := (odl_sub m).trans (hs.map (·.1))
  have := prod_pow (l := odl m) fun p hp => (h.keys.2 p (s.mem hp)).1
  have := Nat.one_le_two_pow (n := (odl m).length)
  omega
theorem oddP_b {n : Nat} {l m : List (Nat × Nat)} (h0 : 0 < n) (hn : n ≤ 1000000) (h : PF n l) (hs : m.Sublist l) : 1 ≤ oddP m ∧ oddP m ≤ 1000000 := by
  have h1 := Nat.le_of_dvd h0 (odl_dvd h hs)
  have h2 := odl_pos h hs
  rw [oddP_is]
  omega
theorem oddP_append : ∀ l m : List (Nat × Nat), oddP (l ++ m) = oddP l * oddP m
  | [], m => by rw [List.nil_append, oddP, Int.one_mul]
  | x :: l, m => by rw [List.cons_append, oddP, oddP, oddP_append l m, Int.mul_assoc]
theorem PF.uniq {n : Nat} {l m : List (Nat × Nat)} (h : PF n l) (k : PF n m) : ∀ x ∈ l, x ∈ m := by
  intro x hx
  obtain ⟨a, b, c⟩ := h.1 x hx
  obtain ⟨y, hy, e⟩ := k.2.2 x.1 a (Ex.dvd1 c b)
  obtain ⟨_, _, d⟩ := k.1 y hy
  rw [e] at d
  have := c.uniq d
  have : x = y := Prod.ext e.symm this
  rw [this]; exact hy
/-! ### 99991 and others -/
open Classical in
theorem prB_yes {p : Nat} (h : Pr p) : prB (p : Int) = true := decide_eq_true ⟨by have := h.1; omega, by simpa using h⟩
open Classical in
theorem prB_no {i : Int} (h : ¬ (1 < i ∧ Pr i.toNat)) : prB i = false := decide_eq_false h
theorem PF_prime {p : Nat} (h : Pr p) {l : List (Nat × Nat)} (k : PF p l) : l = [(p, 1)] := by
  obtain ⟨k1, k2, k3⟩ := k
  have key : ∀ x ∈ l, x = (p, 1) := fun x hx => by
    obtain ⟨a, b, c⟩ := k1 x hx
    have e := a.eq_of_dvd h (Ex.dvd1 c b)
    have h1 : Ex p p 1 := ⟨by rw [Nat.pow_one]; exact Nat.dvd_refl p, fun d => by
      have p2 := h.1
      have := Nat.le_of_dvd (by omega) d
      rw [Nat.pow_succ, Nat.pow_one] at this
      have : 2 * p ≤ p * p := Nat.mul_le_mul_right p p2
      omega⟩
    obtain ⟨x1, x2⟩ := x
    dsimp only at e c
    subst e
    rw [c.uniq h1]
  match l, k2, k3, key with
  | [], _, k3, _ => obtain ⟨x, hx, _⟩ := k3 p h (Nat.dvd_refl p); cases hx
  | [x], _, _, key => rw [key x List.mem_cons_self]
  | x :: y :: l, k2, _, key =>
    have h1 := key x List.mem_cons_self
    have h2 := key y (List.mem_cons_of_mem _ List.mem_cons_self)
    have h3 := (List.pairwise_cons.mp k2).1 y List.mem_cons_self
    rw [h1, h2] at h3
    exact absurd h3 (Nat.lt_irrefl _)
theorem okN_pairs {n : Nat} : ∀ l : List (Nat × Nat), okNs (n + 1) (l.map pairD) = true
  | [] => by rw [List.map_nil, okNs]
  | x :: l => by
    rw [List.map_cons, okNs, okN_pairs l]
    simp only [pairD, okN, okNs, Bool.and_true]
theorem eqDs_one {l : List (Nat × Nat)} {p : Nat} : eqDs (l.map pairD) [pairD (p, 1)] = true ↔ l = [(p, 1)] := by
  match l with
  | [] => simp [eqDs]
  | [x] =>
    rw [List.map_cons, List.map_nil, eqDs, eqDs, Bool.and_true]
    have e : eqD (pairD x) (pairD (p, 1)) = (decide (x.1 = p) && decide (x.2 = 1)) := by
      show PyData.eqv (toPy (.tup [.int x.1, .int x.2])) (toPy (.tup [.int p, .int (1 : Nat)])) = _
      rw [toPy, toPy, PyData.eqv, eqvAll_ds, eqDs, eqDs, eqDs, eqD_int, eqD_int, Bool.and_true]
      congr 1
      · exact decide_eq_decide.mpr (by omega)
      · exact decide_eq_decide.mpr (by omega)
    rw [e, Bool.and_eq_true, decide_eq_true_eq, decide_eq_true_eq, List.cons.injEq]
    constructor
    · rintro ⟨a, b⟩; exact ⟨Prod.ext a b, rfl⟩
    · rintro ⟨rfl, _⟩; exact ⟨rfl, rfl⟩
  | x :: y :: l => simp [eqDs]
theorem sp_is_prime : ∀ args P W, args.length = 1 → F_is_prime args P W → d_is_prime W ⟨fun _ => P .non, fun d ρ => P (retD ρ d), fun _ => False, fun _ => False⟩ (startD 1 args) := by
  rintro args P W _ ⟨i, rfl, hi, hP⟩
  simp only [dC_e, dVar_e, dOwn_e, dOp_e, dUn_e, dNil_e, dCons_e, dTup_e, dLst_e, dCB_e, dCall_e, dCallB_e, dSeq_e, dNext_e, dBreak_e, dCont_e, dDrop_e, dRet_e, dRetN_e, dIfS_e, dSet_e, dSetO_e, dAug_e, dRaise_e, dApp_e, dAsg_e, dPar_e, dPar3_e, dPar_vvo_e, dgName_e, dgTup_e, dgCons_e, dgNil_e, dTest_e, dAnd_e, dOr_e, dNot_e, dYes_e, dIf_e, dAndV_e, dOrV_e, dNotV_e, dIsi_e, dBits_e, dTuple_e, dSeqI_e, dChain_e, i2_e, i2'_e, u1_e, eqP_int, neP_int, addP_int, addP_tup, addP_lst, lenP_lst, lenP_tup, lenP_scr, absP_int, intP_int, isN_P, notN_P, isB2_P, tuple_lst, sel_t, sel_f, ixP_t0, ixP_t1, ixP_l0, ixP_l1, ixP_own0, ixP_own1, startD, List.map_cons, List.map_nil, List.length_cons, List.length_nil, List.cons_append, List.nil_append, List.getElem?_cons_zero, List.getElem?_cons_succ, List.set_cons_zero, List.set_cons_succ, Nat.reduceAdd, Nat.reduceSub, List.replicate_succ, List.replicate_zero, Option.some.injEq, d_is_prime]
  refine sel_of (fun h => ?_) (fun h => ?_)
  · have h1 : 1 < i := of_decide_eq_true h
    refine ⟨i, rfl, ⟨by omega, hi⟩, fun l hl => ?_⟩
    simp only [dC_e, dVar_e, dOwn_e, dOp_e, dUn_e, dNil_e, dCons_e, dTup_e, dLst_e, dCB_e, dCall_e, dCallB_e, dSeq_e, dNext_e, dBreak_e, dCont_e, dDrop_e, dRet_e, dRetN_e, dIfS_e, dSet_e, dSetO_e, dAug_e, dRaise_e, dApp_e, dAsg_e, dPar_e, dPar3_e, dPar_vvo_e, dgName_e, dgTup_e, dgCons_e, dgNil_e, dTest_e, dAnd_e, dOr_e, dNot_e, dYes_e, dIf_e, dAndV_e, dOrV_e, dNotV_e, dIsi_e, dBits_e, dTuple_e, dSeqI_e, dChain_e, i2_e, i2'_e, u1_e, eqP_int, neP_int, addP_int, addP_tup, addP_lst, lenP_lst, lenP_tup, lenP_scr, absP_int, intP_int, isN_P, notN_P, isB2_P, tuple_lst, sel_t, sel_f, ixP_t0, ixP_t1, ixP_l0, ixP_l1, ixP_own0, ixP_own1, startD, List.map_cons, List.map_nil, List.length_cons, List.length_nil, List.cons_append, List.nil_append, List.getElem?_cons_zero, List.getElem?_cons_succ, List.set_cons_zero, List.set_cons_succ, Nat.reduceAdd, Nat.reduceSub, List.replicate_succ, List.replicate_zero, Option.some.injEq]
    obtain ⟨n, rfl⟩ : ∃ n : Nat, i = n := ⟨i.toNat, by omega⟩
    have en : (n : Int).natAbs = n := rfl
    rw [en] at hl
    unfold eqP
    refine ⟨?_, ?_, ?_⟩
    · show okN 60 (.lst (l.map pairD)) = true
      rw [okN]; exact okN_pairs l
    · show okN 60 (.lst [pairD (n, 1)]) = true
      rw [okN]; exact okN_pairs [(n, 1)]
    · show P (.bl (eqD (.lst (l.map pairD)) (.lst [pairD (n, 1)])))
      have e : eqD (.lst (l.map pairD)) (.lst [pairD (n, 1)]) = prB (n : Int) := by
        show PyData.eqv (toPy _) (toPy _) = _
        rw [toPy, toPy, PyData.eqv, eqvAll_ds]
        cases hh : eqDs (l.map pairD) [pairD (n, 1)] with
        | true =>
          have := eqDs_one.mp hh
          subst this
          exact (prB_yes (hl.1 _ List.mem_cons_self).1).symm
        | false =>
          refine (prB_no fun z => ?_).symm
          have := PF_prime (p := n) (by simpa using z.2) hl
          subst this
          rw [eqDs_one.mpr rfl] at hh
          cases hh
      rw [e]; exact hP
  · have h1 : ¬ 1 < i := of_decide_eq_false h
    rw [prB_no fun z => h1 z.1] at hP
    exact hP
theorem sp_core_of : ∀ args P W, args.length = 1 → F_core_of args P W → d_core_of W ⟨fun _ => P .non, fun d ρ => P (retD ρ d), fun _ => False, fun _ => False⟩ (startD 4 args) := by
  rintro args P W _ ⟨i, rfl, ⟨h0, hi⟩, hP⟩
  simp only [dC_e, dVar_e, dOwn_e, dOp_e, dUn_e, dNil_e, dCons_e, dTup_e, dLst_e, dCB_e, dCall_e, dCallB_e, dSeq_e, dNext_e, dBreak_e, dCont_e, dDrop_e, dRet_e, dRetN_e, dIfS_e, dSet_e, dSetO_e, dAug_e, dRaise_e, dApp_e, dAsg_e, dPar_e, dPar3_e, dPar_vvo_e, dgName_e, dgTup_e, dgCons_e, dgNil_e, dTest_e, dAnd_e, dOr_e, dNot_e, dYes_e, dIf_e, dAndV_e, dOrV_e, dNotV_e, dIsi_e, dBits_e, dTuple_e, dSeqI_e, dChain_e, i2_e, i2'_e, u1_e, eqP_int, neP_int, addP_int, addP_tup, addP_lst, lenP_lst, lenP_tup, lenP_scr, absP_int, intP_int, isN_P, notN_P, isB2_P, tuple_lst, sel_t, sel_f, ixP_t0, ixP_t1, ixP_l0, ixP_l1, ixP_own0, ixP_own1, startD, List.map_cons, List.map_nil, List.length_cons, List.length_nil, List.cons_append, List.nil_append, List.getElem?_cons_zero, List.getElem?_cons_succ, List.set_cons_zero, List.set_cons_succ, Nat.reduceAdd, Nat.reduceSub, List.replicate_succ, List.replicate_zero, Option.some.injEq, d_core_of, dFor]
  have key : ∀ s : Int, s = (if 0 < i then 1 else -1) → (∀ c, (∃ l, PF i.natAbs l ∧ c = s * oddP l) → P (.int c)) := fun s e c ⟨l, a, b⟩ => hP c ⟨l, a, e ▸ b⟩
  clear hP
  have go : ∀ s : Int, s = 1 ∨ s = -1 → (∀ c, (∃ l, PF i.natAbs l ∧ c = s * oddP l) → P (.int c)) → F_primes_of [.int i] (fun d => (match d with
    | .lst xs => fun Q : List D → PD.Env → Prop => Q xs [some (.int i), some (.int s), none, none]
    | .tup xs => fun Q => Q xs [some (.int i), some (.int s), none, none]
    | .scr ns => fun Q => Q (ns.map D.int) [some (.int i), some (.int s), none, none]
    | _ => fun Q => False) fun items ρ1 => ∃ W' : Nat → PD.Env → Prop, W' 0 ρ1 ∧ (∀ i d ρ2, items[i]? = some d → W' i ρ2 → dgTup 2 (dgCons (dgName 2) (dgCons (dgName 3) dgNil)) d ρ2 fun ρ3 => (dIfS (dTest (dOp eqP (dOp modP (dVar 3) (dC (.int 2))) (dC (.int 1))))
      (dSet 1 (dOp mulP (dVar 1) (dVar 2))) dNext) ⟨W' (i + 1), fun d ρ => P (retD ρ d), fun ρ => (match ρ[1]? with | some (some d) => P (retD ρ d) | _ => False), W' (i + 1)⟩ ρ3) ∧ ∀ ρ2, W' items.length ρ2 → (match ρ2[1]? with | some (some d) => P (retD ρ2 d) | _ => False)) W := by
    intro s hs hP
    refine ⟨i, rfl, ⟨h0, hi⟩, fun l hl => ?_⟩
    refine ⟨fun j ρ => ∃ y z, ρ = [some (.int i), some (.int (s * oddP (l.take j))), y, z], ⟨none, none, by simp [oddP]⟩, ?_, ?_⟩
    · rintro j d ρ2 hj ⟨y, z, rfl⟩
      rw [List.getElem?_map] at hj
      obtain ⟨x, hx, rfl⟩ := Option.map_eq_some_iff.mp hj
      unfold pairD
      simp only [dC_e, dVar_e, dOwn_e, dOp_e, dUn_e, dNil_e, dCons_e, dTup_e, dLst_e, dCB_e, dCall_e, dCallB_e, dSeq_e, dNext_e, dBreak_e, dCont_e, dDrop_e, dRet_e, dRetN_e, dIfS_e, dSet_e, dSetO_e, dAug_e, dRaise_e, dApp_e, dAsg_e, dPar_e, dPar3_e, dPar_vvo_e, dgName_e, dgTup_e, dgCons_e, dgNil_e, dTest_e, dAnd_e, dOr_e, dNot_e, dYes_e, dIf_e, dAndV_e, dOrV_e, dNotV_e, dIsi_e, dBits_e, dTuple_e, dSeqI_e, dChain_e, i2_e, i2'_e, u1_e, eqP_int, neP_int, addP_int, addP_tup, addP_lst, lenP_lst, lenP_tup, lenP_scr, absP_int, intP_int, isN_P, notN_P, isB2_P, tuple_lst, sel_t, sel_f, ixP_t0, ixP_t1, ixP_l0, ixP_l1, ixP_own0, ixP_own1, startD, List.map_cons, List.map_nil, List.length_cons, List.length_nil, List.cons_append, List.nil_append, List.getElem?_cons_zero, List.getElem?_cons_succ, List.set_cons_zero, List.set_cons_succ, Nat.reduceAdd, Nat.reduceSub, List.replicate_succ, List.replicate_zero, Option.some.injEq]
      have b1 := oddP_b (by omega) hi hl (List.take_sublist j l)
      have b2 := oddP_b (by omega) hi hl (List.take_sublist (j + 1) l)
      have xm := List.mem_of_getElem? hx
      obtain ⟨x1, x2⟩ := x
      have xp := hl.1 _ xm
      have xle := Nat.le_of_dvd (by omega) (Ex.dvd1 xp.2.2 xp.2.1)
      dsimp only at xle
      refine ⟨trivial, by decide, sel_of (fun h => ?_) (fun h => ?_)⟩
      · have h1 : x2 % 2 = 1 := by have := of_decide_eq_true h; omega
        refine ⟨mulOk ?_ (by omega), some (.int x1), some (.int x2), ?_⟩
        · rcases hs with rfl | rfl <;> omega
        · rw [take_snoc hx, oddP_append]
          simp [oddP, h1, Int.mul_assoc]
      · have h1 : ¬ x2 % 2 = 1 := by have := of_decide_eq_false h; omega
        refine ⟨some (.int x1), some (.int x2), ?_⟩
        rw [take_snoc hx, oddP_append]
        simp [oddP, h1]
    · rintro ρ2 ⟨y, z, rfl⟩
      rw [List.length_map, List.take_length]
      exact hP _ ⟨l, hl, rfl⟩
  refine sel_of (fun h => ?_) (fun h => ?_)
  · have h1 : 0 < i := of_decide_eq_true h
    have := go 1 (.inl rfl) (key 1 (by rw [if_pos h1]))
    obtain ⟨j, e, a, b⟩ := this
    refine ⟨j, e, a, fun l hl => ?_⟩
    exact b l hl
  · have h1 : ¬ 0 < i := of_decide_eq_false h
    have := go (-1) (.inr rfl) (key (-1) (by rw [if_neg h1]))
    obtain ⟨j, e, a, b⟩ := this
    refine ⟨j, e, a, fun l hl => ?_⟩
    exact b l hl
end K01

end
section
set_option Elab.async false
set_option linter.all false
set_option maxRecDepth 100000
/-! k01: the readings keep the promises: powers, symbols -/
namespace K01
open PySem L2 PD NT

/-! ### powers -/
structure PwI (B : Int) (n m : Nat) (k : Nat) (c t : Int) : Prop where
  c0 : 0 ≤ c
  cm : c < m
  t0 : 0 ≤ t
  tm : t < m
  eq : (t * c ^ k) % m = B ^ n % m
theorem PwI.init {B : Int} {n m : Nat} (h2 : 2 ≤ m) : PwI (B % m) n m n (B % m) 1 := ⟨Int.emod_nonneg _ (by omega), Int.emod_lt_of_pos _ (by omega), by omega, by omega, by rw [Int.one_mul]⟩
theorem PwI.step {B : Int} {n m k : Nat} {c t : Int} (h2 : 2 ≤ m) (h : PwI B n m k c t) : PwI B n m (k / 2) (c * c % m) (if k % 2 = 1 then t * c % m else t) := by
  have m0 : (0 : Int) < m := by omega
  refine ⟨Int.emod_nonneg _ (by omega), Int.emod_lt_of_pos _ m0, ?_, ?_, ?_⟩
  · split
    · exact Int.emod_nonneg _ (by omega)
    · exact h.t0
  · split
    · exact Int.emod_lt_of_pos _ m0
    · exact h.tm
  · rw [← h.eq]
    obtain ⟨u, hu⟩ := pow_cong (mod_cong (p := m) (c * c)) (k / 2)
    obtain ⟨v, hv⟩ := mod_cong (p := m) (t * c)
    have e : c ^ k = (c * c) ^ (k / 2) * (if k % 2 = 1 then c else 1) := by
      rw [show c * c = c ^ 2 by rw [Int.pow_succ, Int.pow_succ, Int.pow_zero, Int.one_mul], ← Int.pow_mul]
      by_cases z : k % 2 = 1
      · rw [if_pos z, ← Int.pow_succ]; congr 1; omega
      · rw [if_neg z, Int.mul_one]; congr 1; omega
    rw [e]
    refine (Int.emod_emod_of_dvd _ (Int.dvd_refl _)).symm.trans ?_
    rw [Int.emod_emod]
    refine (Int.emod_eq_emod_iff_emod_sub_eq_zero ..).mpr ((Int.dvd_iff_emod_eq_zero ..).mp ?_)
    have e2 : (c * c) ^ (k / 2) = (c * c % m) ^ (k / 2) + m * u := by omega
    have e3 : t * c = t * c % m + m * v := by omega
    rw [e2]
    generalize (c * c % m) ^ (k / 2) = w at *
    by_cases z : k % 2 = 1
    · rw [if_pos z, if_pos z]
      refine ⟨-(v * w + t * c * u), ?_⟩
      generalize t * c % m = y at *
      have : t * ((w + m * u) * c) = (t * c) * w + m * (t * c * u) := by grind
      rw [this]
      have e4 : (t * c) * w = y * w + m * (v * w) := by rw [e3]; grind
      grind
    · rw [if_neg z, if_neg z]
      exact ⟨-(t * u), by grind⟩
theorem sp_power : ∀ args P W, args.length = 3 → F_power args P W → d_power W ⟨fun _ => P .non, fun d ρ => P (retD ρ d), fun _ => False, fun _ => False⟩ (startD 4 args) := by
  rintro args P W _ ⟨b, n, m, rfl, hb, hn, h2, hm, hP⟩
  simp only [dC_e, dVar_e, dOwn_e, dOp_e, dUn_e, dNil_e, dCons_e, dTup_e, dLst_e, dCB_e, dCall_e, dCallB_e, dSeq_e, dNext_e, dBreak_e, dCont_e, dDrop_e, dRet_e, dRetN_e, dIfS_e, dSet_e, dSetO_e, dAug_e, dRaise_e, dApp_e, dAsg_e, dPar_e, dPar3_e, dPar_vvo_e, dgName_e, dgTup_e, dgCons_e, dgNil_e, dTest_e, dAnd_e, dOr_e, dNot_e, dYes_e, dIf_e, dAndV_e, dOrV_e, dNotV_e, dIsi_e, dBits_e, dTuple_e, dSeqI_e, dChain_e, i2_e, i2'_e, u1_e, eqP_int, neP_int, addP_int, addP_tup, addP_lst, lenP_lst, lenP_tup, lenP_scr, absP_int, intP_int, isN_P, notN_P, isB2_P, tuple_lst, sel_t, sel_f, ixP_t0, ixP_t1, ixP_l0, ixP_l1, ixP_own0, ixP_own1, startD, List.map_cons, List.map_nil, List.length_cons, List.length_nil, List.cons_append, List.nil_append, List.getElem?_cons_zero, List.getElem?_cons_succ, List.set_cons_zero, List.set_cons_succ, Nat.reduceAdd, Nat.reduceSub, List.replicate_succ, List.replicate_zero, Option.some.injEq, d_power]
  refine ⟨by omega, fun k ρ => ∃ c t, PwI (b % m) n m k c t ∧ ρ = [some (.int c), some (.int (k : Nat)), some (.int m), some (.int t)], ⟨n, _, _, PwI.init h2, rfl⟩, ?_⟩
  rintro k ρ ⟨c, t, I, rfl⟩
  have st := I.step h2
  obtain ⟨c0, cm, t0, tm, eq⟩ := I
  simp only [dC_e, dVar_e, dOwn_e, dOp_e, dUn_e, dNil_e, dCons_e, dTup_e, dLst_e, dCB_e, dCall_e, dCallB_e, dSeq_e, dNext_e, dBreak_e, dCont_e, dDrop_e, dRet_e, dRetN_e, dIfS_e, dSet_e, dSetO_e, dAug_e, dRaise_e, dApp_e, dAsg_e, dPar_e, dPar3_e, dPar_vvo_e, dgName_e, dgTup_e, dgCons_e, dgNil_e, dTest_e, dAnd_e, dOr_e, dNot_e, dYes_e, dIf_e, dAndV_e, dOrV_e, dNotV_e, dIsi_e, dBits_e, dTuple_e, dSeqI_e, dChain_e, i2_e, i2'_e, u1_e, eqP_int, neP_int, addP_int, addP_tup, addP_lst, lenP_lst, lenP_tup, lenP_scr, absP_int, intP_int, isN_P, notN_P, isB2_P, tuple_lst, sel_t, sel_f, ixP_t0, ixP_t1, ixP_l0, ixP_l1, ixP_own0, ixP_own1, startD, List.map_cons, List.map_nil, List.length_cons, List.length_nil, List.cons_append, List.nil_append, List.getElem?_cons_zero, List.getElem?_cons_succ, List.set_cons_zero, List.set_cons_succ, Nat.reduceAdd, Nat.reduceSub, List.replicate_succ, List.replicate_zero, Option.some.injEq]
  refine sel_of (fun h => ?_) (fun h => ?_)
  · have k1 : 0 < k := by have := of_decide_eq_true h; omega
    refine ⟨by decide, sel_of (fun h2 => ?_) (fun h2 => ?_)⟩
    · have k2 : k % 2 = 1 := by have := of_decide_eq_true h2; omega
      rw [if_pos k2] at st
      refine ⟨mulOk (by omega) (by omega), by omega, mulOk (by omega) (by omega), by omega, divOk (by decide) (by decide), k / 2, by omega, _, _, st, ?_⟩
      have : ((k : Int) / 2) = ((k / 2 : Nat) : Int) := by omega
      rw [this]
    · have k2 : ¬ k % 2 = 1 := by have := of_decide_eq_false h2; omega
      rw [if_neg k2] at st
      refine ⟨mulOk (by omega) (by omega), by omega, divOk (by decide) (by decide), k / 2, by omega, _, _, st, ?_⟩
      have : ((k : Int) / 2) = ((k / 2 : Nat) : Int) := by omega
      rw [this]
  · have k1 : k = 0 := by have := of_decide_eq_false h; omega
    subst k1
    rw [Int.pow_zero, Int.mul_one, Int.emod_eq_of_lt t0 tm] at eq
    rw [eq]
    exact hP
theorem sp__law_is_residue : ∀ args P W, args.length = 2 → F__law_is_residue args P W → d__law_is_residue W ⟨fun _ => P .non, fun d ρ => P (retD ρ d), fun _ => False, fun _ => False⟩ (startD 5 args) := by
  rintro args P W _ ⟨s, p, rfl, hs, ⟨pp, p2, hp⟩, hP⟩
  have p2' := pp.1
  have e0 : ((p : Int) - 1) / 2 = ((p - 1) / 2 : Nat) := by omega
  simp only [dC_e, dVar_e, dOwn_e, dOp_e, dUn_e, dNil_e, dCons_e, dTup_e, dLst_e, dCB_e, dCall_e, dCallB_e, dSeq_e, dNext_e, dBreak_e, dCont_e, dDrop_e, dRet_e, dRetN_e, dIfS_e, dSet_e, dSetO_e, dAug_e, dRaise_e, dApp_e, dAsg_e, dPar_e, dPar3_e, dPar_vvo_e, dgName_e, dgTup_e, dgCons_e, dgNil_e, dTest_e, dAnd_e, dOr_e, dNot_e, dYes_e, dIf_e, dAndV_e, dOrV_e, dNotV_e, dIsi_e, dBits_e, dTuple_e, dSeqI_e, dChain_e, i2_e, i2'_e, u1_e, eqP_int, neP_int, addP_int, addP_tup, addP_lst, lenP_lst, lenP_tup, lenP_scr, absP_int, intP_int, isN_P, notN_P, isB2_P, tuple_lst, sel_t, sel_f, ixP_t0, ixP_t1, ixP_l0, ixP_l1, ixP_own0, ixP_own1, startD, List.map_cons, List.map_nil, List.length_cons, List.length_nil, List.cons_append, List.nil_append, List.getElem?_cons_zero, List.getElem?_cons_succ, List.set_cons_zero, List.set_cons_succ, Nat.reduceAdd, Nat.reduceSub, List.replicate_succ, List.replicate_zero, Option.some.injEq, d__law_is_residue]
  refine ⟨divOk (by decide) (by decide), by omega, ?_⟩
  rw [e0]
  refine ⟨fun k ρ => ∃ c t, PwI (s % p) ((p - 1) / 2) p k c t ∧ ρ = [some (.int s), some (.int p), some (.int t), some (.int (k : Nat)), some (.int c)], ⟨_, _, _, PwI.init p2', rfl⟩, ?_⟩
  rintro k ρ ⟨c, t, I, rfl⟩
  have st := I.step p2'
  obtain ⟨c0, cm, t0, tm, eq⟩ := I
  simp only [dC_e, dVar_e, dOwn_e, dOp_e, dUn_e, dNil_e, dCons_e, dTup_e, dLst_e, dCB_e, dCall_e, dCallB_e, dSeq_e, dNext_e, dBreak_e, dCont_e, dDrop_e, dRet_e, dRetN_e, dIfS_e, dSet_e, dSetO_e, dAug_e, dRaise_e, dApp_e, dAsg_e, dPar_e, dPar3_e, dPar_vvo_e, dgName_e, dgTup_e, dgCons_e, dgNil_e, dTest_e, dAnd_e, dOr_e, dNot_e, dYes_e, dIf_e, dAndV_e, dOrV_e, dNotV_e, dIsi_e, dBits_e, dTuple_e, dSeqI_e, dChain_e, i2_e, i2'_e, u1_e, eqP_int, neP_int, addP_int, addP_tup, addP_lst, lenP_lst, lenP_tup, lenP_scr, absP_int, intP_int, isN_P, notN_P, isB2_P, tuple_lst, sel_t, sel_f, ixP_t0, ixP_t1, ixP_l0, ixP_l1, ixP_own0, ixP_own1, startD, List.map_cons, List.map_nil, List.length_cons, List.length_nil, List.cons_append, List.nil_append, List.getElem?_cons_zero, List.getElem?_cons_succ, List.set_cons_zero, List.set_cons_succ, Nat.reduceAdd, Nat.reduceSub, List.replicate_succ, List.replicate_zero, Option.some.injEq]
  refine sel_of (fun h => ?_) (fun h => ?_)
  · have k1 : 0 < k := by have := of_decide_eq_true h; omega
    refine ⟨by decide, sel_of (fun h2 => ?_) (fun h2 => ?_)⟩
    · have k2 : k % 2 = 1 := by have := of_decide_eq_true h2; omega
      rw [if_pos k2] at st
      refine ⟨mulOk (by omega) (by omega), by omega, mulOk (by omega) (by omega), by omega, divOk (by decide) (by decide), k / 2, by omega, _, _, st, ?_⟩
      have : ((k : Int) / 2) = ((k / 2 : Nat) : Int) := by omega
      rw [this]
    · have k2 : ¬ k % 2 = 1 := by have := of_decide_eq_false h2; omega
      rw [if_neg k2] at st
      refine ⟨mulOk (by omega) (by omega), by omega, divOk (by decide) (by decide), k / 2, by omega, _, _, st, ?_⟩
      have : ((k : Int) / 2) = ((k / 2 : Nat) : Int) := by omega
      rw [this]
  · have k1 : k = 0 := by have := of_decide_eq_false h; omega
    subst k1
    rw [Int.pow_zero, Int.mul_one, Int.emod_eq_of_lt t0 tm] at eq
    rw [eq]
    exact hP
theorem sp_residue : ∀ args P W, args.length = 2 → F_residue args P W → d_residue W ⟨fun _ => P .non, fun d ρ => P (retD ρ d), fun _ => False, fun _ => False⟩ (startD 2 args) := by
  rintro args P W _ ⟨s, p, rfl, hs, ⟨pp, p2, hp⟩, hP⟩
  have p2' := pp.1
  have e0 : ((p : Int) - 1) / 2 = ((p - 1) / 2 : Nat) := by omega
  simp only [dC_e, dVar_e, dOwn_e, dOp_e, dUn_e, dNil_e, dCons_e, dTup_e, dLst_e, dCB_e, dCall_e, dCallB_e, dSeq_e, dNext_e, dBreak_e, dCont_e, dDrop_e, dRet_e, dRetN_e, dIfS_e, dSet_e, dSetO_e, dAug_e, dRaise_e, dApp_e, dAsg_e, dPar_e, dPar3_e, dPar_vvo_e, dgName_e, dgTup_e, dgCons_e, dgNil_e, dTest_e, dAnd_e, dOr_e, dNot_e, dYes_e, dIf_e, dAndV_e, dOrV_e, dNotV_e, dIsi_e, dBits_e, dTuple_e, dSeqI_e, dChain_e, i2_e, i2'_e, u1_e, eqP_int, neP_int, addP_int, addP_tup, addP_lst, lenP_lst, lenP_tup, lenP_scr, absP_int, intP_int, isN_P, notN_P, isB2_P, tuple_lst, sel_t, sel_f, ixP_t0, ixP_t1, ixP_l0, ixP_l1, ixP_own0, ixP_own1, startD, List.map_cons, List.map_nil, List.length_cons, List.length_nil, List.cons_append, List.nil_append, List.getElem?_cons_zero, List.getElem?_cons_succ, List.set_cons_zero, List.set_cons_succ, Nat.reduceAdd, Nat.reduceSub, List.replicate_succ, List.replicate_zero, Option.some.injEq, d_residue]
  refine ⟨divOk (by decide) (by decide), ?_⟩
  rw [e0]
  refine ⟨s, (p - 1) / 2, p, rfl, hs, by omega, p2', hp, ?_⟩
  simp only [dC_e, dVar_e, dOwn_e, dOp_e, dUn_e, dNil_e, dCons_e, dTup_e, dLst_e, dCB_e, dCall_e, dCallB_e, dSeq_e, dNext_e, dBreak_e, dCont_e, dDrop_e, dRet_e, dRetN_e, dIfS_e, dSet_e, dSetO_e, dAug_e, dRaise_e, dApp_e, dAsg_e, dPar_e, dPar3_e, dPar_vvo_e, dgName_e, dgTup_e, dgCons_e, dgNil_e, dTest_e, dAnd_e, dOr_e, dNot_e, dYes_e, dIf_e, dAndV_e, dOrV_e, dNotV_e, dIsi_e, dBits_e, dTuple_e, dSeqI_e, dChain_e, i2_e, i2'_e, u1_e, eqP_int, neP_int, addP_int, addP_tup, addP_lst, lenP_lst, lenP_tup, lenP_scr, absP_int, intP_int, isN_P, notN_P, isB2_P, tuple_lst, sel_t, sel_f, ixP_t0, ixP_t1, ixP_l0, ixP_l1, ixP_own0, ixP_own1, startD, List.map_cons, List.map_nil, List.length_cons, List.length_nil, List.cons_append, List.nil_append, List.getElem?_cons_zero, List.getElem?_cons_succ, List.set_cons_zero, List.set_cons_succ, Nat.reduceAdd, Nat.reduceSub, List.replicate_succ, List.replicate_zero, Option.some.injEq]
  unfold nr rs sB at hP
  refine sel_of (fun h => ?_) (fun h => ?_)
  · rw [h] at hP; exact hP
  · rw [h] at hP; exact hP
/-! ### what is asked -/
theorem sp_check_integer : ∀ args P W, args.length = 1 → F_check_integer args P W → d_check_integer W ⟨fun _ => P .non, fun d ρ => P (retD ρ d), fun _ => False, fun _ => False⟩ (startD 1 args) := by
  rintro args P W _ ⟨d, rfl, ⟨pd, _⟩, h1, h2⟩
  simp only [dC_e, dVar_e, dOwn_e, dOp_e, dUn_e, dNil_e, dCons_e, dTup_e, dLst_e, dCB_e, dCall_e, dCallB_e, dSeq_e, dNext_e, dBreak_e, dCont_e, dDrop_e, dRet_e, dRetN_e, dIfS_e, dSet_e, dSetO_e, dAug_e, dRaise_e, dApp_e, dAsg_e, dPar_e, dPar3_e, dPar_vvo_e, dgName_e, dgTup_e, dgCons_e, dgNil_e, dTest_e, dAnd_e, dOr_e, dNot_e, dYes_e, dIf_e, dAndV_e, dOrV_e, dNotV_e, dIsi_e, dBits_e, dTuple_e, dSeqI_e, dChain_e, i2_e, i2'_e, u1_e, eqP_int, neP_int, addP_int, addP_tup, addP_lst, lenP_lst, lenP_tup, lenP_scr, absP_int, intP_int, isN_P, notN_P, isB2_P, tuple_lst, sel_t, sel_f, ixP_t0, ixP_t1, ixP_l0, ixP_l1, ixP_own0, ixP_own1, startD, List.map_cons, List.map_nil, List.length_cons, List.length_nil, List.cons_append, List.nil_append, List.getElem?_cons_zero, List.getElem?_cons_succ, List.set_cons_zero, List.set_cons_succ, Nat.reduceAdd, Nat.reduceSub, List.replicate_succ, List.replicate_zero, Option.some.injEq, d_check_integer]
  refine ⟨d, -1000000, 1000000, rfl, pd, ?_⟩
  cases e : numIn d (-1000000) 1000000 with
  | false =>
    refine h2 ?_
    by_cases hd : ∃ i, d = .int i
    rotate_left
    · cases d <;> first | rfl | exact absurd ⟨_, rfl⟩ hd
    obtain ⟨i, rfl⟩ := hd
    refine decide_eq_false fun z => ?_
    have := of_decide_eq_false e
    omega
  | true =>
    obtain ⟨i, rfl⟩ : ∃ i, d = .int i := by cases d <;> first | exact ⟨_, rfl⟩ | cases e
    have hi := of_decide_eq_true e
    refine sel_n rfl ?_
    simp only [dC_e, dVar_e, dOwn_e, dOp_e, dUn_e, dNil_e, dCons_e, dTup_e, dLst_e, dCB_e, dCall_e, dCallB_e, dSeq_e, dNext_e, dBreak_e, dCont_e, dDrop_e, dRet_e, dRetN_e, dIfS_e, dSet_e, dSetO_e, dAug_e, dRaise_e, dApp_e, dAsg_e, dPar_e, dPar3_e, dPar_vvo_e, dgName_e, dgTup_e, dgCons_e, dgNil_e, dTest_e, dAnd_e, dOr_e, dNot_e, dYes_e, dIf_e, dAndV_e, dOrV_e, dNotV_e, dIsi_e, dBits_e, dTuple_e, dSeqI_e, dChain_e, i2_e, i2'_e, u1_e, eqP_int, neP_int, addP_int, addP_tup, addP_lst, lenP_lst, lenP_tup, lenP_scr, absP_int, intP_int, isN_P, notN_P, isB2_P, tuple_lst, sel_t, sel_f, ixP_t0, ixP_t1, ixP_l0, ixP_l1, ixP_own0, ixP_own1, startD, List.map_cons, List.map_nil, List.length_cons, List.length_nil, List.cons_append, List.nil_append, List.getElem?_cons_zero, List.getElem?_cons_succ, List.set_cons_zero, List.set_cons_succ, Nat.reduceAdd, Nat.reduceSub, List.replicate_succ, List.replicate_zero, Option.some.injEq]
    refine sel_of (fun h => ?_) (fun h => ?_)
    · refine h2 (decide_eq_false fun z => z.1 (of_decide_eq_true h))
    · exact h1 (decide_eq_true ⟨of_decide_eq_false h, by omega⟩)
theorem okP_int {i : Int} : okP (.int i) = (decide (i = -1) || (decide (i < 100000) && prB i)) := rfl
theorem sp_check_place : ∀ args P W, args.length = 1 → F_check_place args P W → d_check_place W ⟨fun _ => P .non, fun d ρ => P (retD ρ d), fun _ => False, fun _ => False⟩ (startD 1 args) := by
  rintro args P W _ ⟨d, rfl, ⟨pd, _⟩, h1, h2⟩
  simp only [dC_e, dVar_e, dOwn_e, dOp_e, dUn_e, dNil_e, dCons_e, dTup_e, dLst_e, dCB_e, dCall_e, dCallB_e, dSeq_e, dNext_e, dBreak_e, dCont_e, dDrop_e, dRet_e, dRetN_e, dIfS_e, dSet_e, dSetO_e, dAug_e, dRaise_e, dApp_e, dAsg_e, dPar_e, dPar3_e, dPar_vvo_e, dgName_e, dgTup_e, dgCons_e, dgNil_e, dTest_e, dAnd_e, dOr_e, dNot_e, dYes_e, dIf_e, dAndV_e, dOrV_e, dNotV_e, dIsi_e, dBits_e, dTuple_e, dSeqI_e, dChain_e, i2_e, i2'_e, u1_e, eqP_int, neP_int, addP_int, addP_tup, addP_lst, lenP_lst, lenP_tup, lenP_scr, absP_int, intP_int, isN_P, notN_P, isB2_P, tuple_lst, sel_t, sel_f, ixP_t0, ixP_t1, ixP_l0, ixP_l1, ixP_own0, ixP_own1, startD, List.map_cons, List.map_nil, List.length_cons, List.length_nil, List.cons_append, List.nil_append, List.getElem?_cons_zero, List.getElem?_cons_succ, List.set_cons_zero, List.set_cons_succ, Nat.reduceAdd, Nat.reduceSub, List.replicate_succ, List.replicate_zero, Option.some.injEq, d_check_place]
  refine ⟨d, -1, 99999, rfl, pd, ?_⟩
  cases e : numIn d (-1) 99999 with
  | false =>
    refine h2 ?_
    by_cases hd : ∃ i, d = .int i
    rotate_left
    · cases d <;> first | rfl | exact absurd ⟨_, rfl⟩ hd
    obtain ⟨i, rfl⟩ := hd
    have := of_decide_eq_false e
    rw [okP_int]
    have a : ¬ i = -1 := by omega
    rw [decide_eq_false a, Bool.false_or]
    by_cases b : i < 100000
    · rw [prB_no fun z => by omega, Bool.and_false]
    · rw [decide_eq_false b, Bool.false_and]
  | true =>
    obtain ⟨i, rfl⟩ : ∃ i, d = .int i := by cases d <;> first | exact ⟨_, rfl⟩ | cases e
    have hi := of_decide_eq_true e
    rw [okP_int] at h1 h2
    refine sel_n rfl ?_
    simp only [dC_e, dVar_e, dOwn_e, dOp_e, dUn_e, dNil_e, dCons_e, dTup_e, dLst_e, dCB_e, dCall_e, dCallB_e, dSeq_e, dNext_e, dBreak_e, dCont_e, dDrop_e, dRet_e, dRetN_e, dIfS_e, dSet_e, dSetO_e, dAug_e, dRaise_e, dApp_e, dAsg_e, dPar_e, dPar3_e, dPar_vvo_e, dgName_e, dgTup_e, dgCons_e, dgNil_e, dTest_e, dAnd_e, dOr_e, dNot_e, dYes_e, dIf_e, dAndV_e, dOrV_e, dNotV_e, dIsi_e, dBits_e, dTuple_e, dSeqI_e, dChain_e, i2_e, i2'_e, u1_e, eqP_int, neP_int, addP_int, addP_tup, addP_lst, lenP_lst, lenP_tup, lenP_scr, absP_int, intP_int, isN_P, notN_P, isB2_P, tuple_lst, sel_t, sel_f, ixP_t0, ixP_t1, ixP_l0, ixP_l1, ixP_own0, ixP_own1, startD, List.map_cons, List.map_nil, List.length_cons, List.length_nil, List.cons_append, List.nil_append, List.getElem?_cons_zero, List.getElem?_cons_succ, List.set_cons_zero, List.set_cons_succ, Nat.reduceAdd, Nat.reduceSub, List.replicate_succ, List.replicate_zero, Option.some.injEq, u1_e]
    by_cases a : i = -1
    · subst a
      exact h1 rfl
    · rw [decide_eq_false a, Bool.false_or] at h1 h2
      refine sel_y (by rw [decide_eq_false a]; rfl) ?_
      refine ⟨i, rfl, by omega, ?_⟩
      rw [decide_eq_true (show i < 100000 by omega), Bool.true_and] at h1 h2
      simp only [dC_e, dVar_e, dOwn_e, dOp_e, dUn_e, dNil_e, dCons_e, dTup_e, dLst_e, dCB_e, dCall_e, dCallB_e, dSeq_e, dNext_e, dBreak_e, dCont_e, dDrop_e, dRet_e, dRetN_e, dIfS_e, dSet_e, dSetO_e, dAug_e, dRaise_e, dApp_e, dAsg_e, dPar_e, dPar3_e, dPar_vvo_e, dgName_e, dgTup_e, dgCons_e, dgNil_e, dTest_e, dAnd_e, dOr_e, dNot_e, dYes_e, dIf_e, dAndV_e, dOrV_e, dNotV_e, dIsi_e, dBits_e, dTuple_e, dSeqI_e, dChain_e, i2_e, i2'_e, u1_e, eqP_int, neP_int, addP_int, addP_tup, addP_lst, lenP_lst, lenP_tup, lenP_scr, absP_int, intP_int, isN_P, notN_P, isB2_P, tuple_lst, sel_t, sel_f, ixP_t0, ixP_t1, ixP_l0, ixP_l1, ixP_own0, ixP_own1, startD, List.map_cons, List.map_nil, List.length_cons, List.length_nil, List.cons_append, List.nil_append, List.getElem?_cons_zero, List.getElem?_cons_succ, List.set_cons_zero, List.set_cons_succ, Nat.reduceAdd, Nat.reduceSub, List.replicate_succ, List.replicate_zero, Option.some.injEq]
      refine sel_of (fun h => ?_) (fun h => ?_)
      · exact h2 (by simpa using h)
      · exact h1 (by simpa using h)
/-! ### how often -/
theorem pow_b {p : Nat} (hp : 2 ≤ p) {n : Int} {i : Nat} {s : Int} (h0 : n ≠ 0) (e : n = (p : Int) ^ i * s) : i < n.natAbs ∧ s.natAbs ≤ n.natAbs ∧ s ≠ 0 := by
  have s0 : s ≠ 0 := fun z => h0 (by rw [e, z, Int.mul_zero])
  have e2 : n.natAbs = p ^ i * s.natAbs := by rw [e, Int.natAbs_mul, Int.natAbs_pow]; rfl
  have l1 : i < p ^ i := Nat.lt_pow_self (by omega)
  have : p ^ i * 1 ≤ p ^ i * s.natAbs := Nat.mul_le_mul_left _ (by omega)
  have : 1 * s.natAbs ≤ p ^ i * s.natAbs := Nat.mul_le_mul_right _ (by omega)
  omega
theorem set_self {ρ : PD.Env} {x : Nat} {v : Option D} (h : ρ[x]? = some v) : ρ.set x v = ρ := by
  obtain ⟨hl, e⟩ := List.getElem?_eq_some_iff.mp h
  rw [← e]; exact List.set_getElem_self hl
theorem part_loop {x y z : Nat} {De : DEnds} {ρ : PD.Env} (n : Int) (p : Nat) (hp : 2 ≤ p) (hb : p < 2 ^ 100) (h0 : n ≠ 0) (hx : ρ[x]? = some (some (.int n))) (hy : ρ[y]? = some (some (.int p))) (hz : ρ[z]? = some (some (.int 0)))
    (xy : x ≠ y) (zy : z ≠ y) (xz : x ≠ z) (hd : ∀ i s, Pv p n i s → De.nx ((ρ.set x (some (.int s))).set z (some (.int (i : Nat))))) :
    dWhile (dTest (dOp eqP (dOp modP (dVar x) (dVar y)) (dC (.int 0)))) (dPar x z (dCons (dOp divP (dVar x) (dVar y)) (dCons (dOp addP (dVar z) (dC (.int 1))) dNil))) De ρ := by
  have lx := (List.getElem?_eq_some_iff.mp hx).1
  have ly := (List.getElem?_eq_some_iff.mp hy).1
  have lz := (List.getElem?_eq_some_iff.mp hz).1
  refine ⟨fun m ρ' => ∃ (i : Nat) (s : Int), m = s.natAbs ∧ n = (p : Int) ^ i * s ∧ ρ' = (ρ.set x (some (.int s))).set z (some (.int (i : Nat))), ⟨_, 0, n, rfl, by simp, ?_⟩, ?_⟩
  · rw [set_self hx]
    exact (set_self hz).symm
  rintro m ρ1 ⟨i, s, rfl, e, rfl⟩
  obtain ⟨b1, b2, b3⟩ := pow_b hp h0 e
  have gx : ((ρ.set x (some (.int s))).set z (some (.int (i : Nat))))[x]? = some (some (.int s)) := by
    rw [List.getElem?_set_ne (fun q => xz q.symm), List.getElem?_set_self lx]
  have gy : ((ρ.set x (some (.int s))).set z (some (.int (i : Nat))))[y]? = some (some (.int p)) := by
    rw [List.getElem?_set_ne zy, List.getElem?_set_ne xy, hy]
  have gz : ((ρ.set x (some (.int s))).set z (some (.int (i : Nat))))[z]? = some (some (.int (i : Nat))) := by
    rw [List.getElem?_set_self (by rw [List.length_set]; exact lz)]
  simp only [dC_e, dVar_e, dOwn_e, dOp_e, dUn_e, dNil_e, dCons_e, dTup_e, dLst_e, dCB_e, dCall_e, dCallB_e, dSeq_e, dNext_e, dBreak_e, dCont_e, dDrop_e, dRet_e, dRetN_e, dIfS_e, dSet_e, dSetO_e, dAug_e, dRaise_e, dApp_e, dAsg_e, dPar_e, dPar3_e, dPar_vvo_e, dgName_e, dgTup_e, dgCons_e, dgNil_e, dTest_e, dAnd_e, dOr_e, dNot_e, dYes_e, dIf_e, dAndV_e, dOrV_e, dNotV_e, dIsi_e, dBits_e, dTuple_e, dSeqI_e, dChain_e, i2_e, i2'_e, u1_e, eqP_int, neP_int, addP_int, addP_tup, addP_lst, lenP_lst, lenP_tup, lenP_scr, absP_int, intP_int, isN_P, notN_P, isB2_P, tuple_lst, sel_t, sel_f, ixP_t0, ixP_t1, ixP_l0, ixP_l1, ixP_own0, ixP_own1, startD, List.map_cons, List.map_nil, List.length_cons, List.length_nil, List.cons_append, List.nil_append, List.getElem?_cons_zero, List.getElem?_cons_succ, List.set_cons_zero, List.set_cons_succ, Nat.reduceAdd, Nat.reduceSub, List.replicate_succ, List.replicate_zero, Option.some.injEq, gx, gy]
  refine ⟨by omega, sel_of (fun h => ?_) (fun h => ?_)⟩
  · obtain ⟨t, rfl⟩ := Int.dvd_of_emod_eq_zero (of_decide_eq_true h)
    have ed : (p : Int) * t / p = t := Int.mul_ediv_cancel_left t (by omega)
    simp only [dC_e, dVar_e, dOwn_e, dOp_e, dUn_e, dNil_e, dCons_e, dTup_e, dLst_e, dCB_e, dCall_e, dCallB_e, dSeq_e, dNext_e, dBreak_e, dCont_e, dDrop_e, dRet_e, dRetN_e, dIfS_e, dSet_e, dSetO_e, dAug_e, dRaise_e, dApp_e, dAsg_e, dPar_e, dPar3_e, dPar_vvo_e, dgName_e, dgTup_e, dgCons_e, dgNil_e, dTest_e, dAnd_e, dOr_e, dNot_e, dYes_e, dIf_e, dAndV_e, dOrV_e, dNotV_e, dIsi_e, dBits_e, dTuple_e, dSeqI_e, dChain_e, i2_e, i2'_e, u1_e, eqP_int, neP_int, addP_int, addP_tup, addP_lst, lenP_lst, lenP_tup, lenP_scr, absP_int, intP_int, isN_P, notN_P, isB2_P, tuple_lst, sel_t, sel_f, ixP_t0, ixP_t1, ixP_l0, ixP_l1, ixP_own0, ixP_own1, startD, List.map_cons, List.map_nil, List.length_cons, List.length_nil, List.cons_append, List.nil_append, List.getElem?_cons_zero, List.getElem?_cons_succ, List.set_cons_zero, List.set_cons_succ, Nat.reduceAdd, Nat.reduceSub, List.replicate_succ, List.replicate_zero, Option.some.injEq, gz]
    refine ⟨divOk (by omega) (by omega), ?_⟩
    rw [ed]
    refine ⟨t.natAbs, ?_, i + 1, t, rfl, by rw [e, Int.pow_succ]; grind, ?_⟩
    · rw [Int.natAbs_mul]
      have h1 : 1 ≤ t.natAbs := Nat.pos_of_ne_zero fun q => b3 (by rw [Int.natAbs_eq_zero.mp q, Int.mul_zero])
      have h2 : 2 * t.natAbs ≤ p * t.natAbs := Nat.mul_le_mul_right _ hp
      have h3 : (p : Int).natAbs = p := rfl
      rw [h3]
      omega
    · rw [List.set_comm _ _ (fun q => xz q.symm), List.set_set, List.set_set]
      rfl
  · exact hd i s ⟨e, fun d => of_decide_eq_false h (Int.emod_eq_zero_of_dvd d)⟩
theorem sp_parted : ∀ args P W, args.length = 2 → F_parted args P W → d_parted W ⟨fun _ => P .non, fun d ρ => P (retD ρ d), fun _ => False, fun _ => False⟩ (startD 3 args) := by
  rintro args P W _ ⟨n, p, rfl, ⟨h0, hn⟩, pp, hp, hP⟩
  simp only [dC_e, dVar_e, dOwn_e, dOp_e, dUn_e, dNil_e, dCons_e, dTup_e, dLst_e, dCB_e, dCall_e, dCallB_e, dSeq_e, dNext_e, dBreak_e, dCont_e, dDrop_e, dRet_e, dRetN_e, dIfS_e, dSet_e, dSetO_e, dAug_e, dRaise_e, dApp_e, dAsg_e, dPar_e, dPar3_e, dPar_vvo_e, dgName_e, dgTup_e, dgCons_e, dgNil_e, dTest_e, dAnd_e, dOr_e, dNot_e, dYes_e, dIf_e, dAndV_e, dOrV_e, dNotV_e, dIsi_e, dBits_e, dTuple_e, dSeqI_e, dChain_e, i2_e, i2'_e, u1_e, eqP_int, neP_int, addP_int, addP_tup, addP_lst, lenP_lst, lenP_tup, lenP_scr, absP_int, intP_int, isN_P, notN_P, isB2_P, tuple_lst, sel_t, sel_f, ixP_t0, ixP_t1, ixP_l0, ixP_l1, ixP_own0, ixP_own1, startD, List.map_cons, List.map_nil, List.length_cons, List.length_nil, List.cons_append, List.nil_append, List.getElem?_cons_zero, List.getElem?_cons_succ, List.set_cons_zero, List.set_cons_succ, Nat.reduceAdd, Nat.reduceSub, List.replicate_succ, List.replicate_zero, Option.some.injEq, d_parted]
  refine part_loop n p pp.1 (by omega) h0 rfl rfl rfl (by decide) (by decide) (by decide) fun i s h => ?_
  simp only [dC_e, dVar_e, dOwn_e, dOp_e, dUn_e, dNil_e, dCons_e, dTup_e, dLst_e, dCB_e, dCall_e, dCallB_e, dSeq_e, dNext_e, dBreak_e, dCont_e, dDrop_e, dRet_e, dRetN_e, dIfS_e, dSet_e, dSetO_e, dAug_e, dRaise_e, dApp_e, dAsg_e, dPar_e, dPar3_e, dPar_vvo_e, dgName_e, dgTup_e, dgCons_e, dgNil_e, dTest_e, dAnd_e, dOr_e, dNot_e, dYes_e, dIf_e, dAndV_e, dOrV_e, dNotV_e, dIsi_e, dBits_e, dTuple_e, dSeqI_e, dChain_e, i2_e, i2'_e, u1_e, eqP_int, neP_int, addP_int, addP_tup, addP_lst, lenP_lst, lenP_tup, lenP_scr, absP_int, intP_int, isN_P, notN_P, isB2_P, tuple_lst, sel_t, sel_f, ixP_t0, ixP_t1, ixP_l0, ixP_l1, ixP_own0, ixP_own1, startD, List.map_cons, List.map_nil, List.length_cons, List.length_nil, List.cons_append, List.nil_append, List.getElem?_cons_zero, List.getElem?_cons_succ, List.set_cons_zero, List.set_cons_succ, Nat.reduceAdd, Nat.reduceSub, List.replicate_succ, List.replicate_zero, Option.some.injEq]
  exact hP i s h
/-! ### the symbol -/
theorem odd_half {s : Int} (hs : s % 2 = 1) : (s - 1) / 2 % 2 = if e4 s then 1 else 0 := by
  unfold e4
  by_cases h : s % 4 = 3
  · rw [decide_eq_true h, if_pos rfl]; omega
  · rw [decide_eq_false h, if_neg Bool.false_ne_true]; omega
theorem odd_eighth {s : Int} (hs : s % 2 = 1) : (s * s - 1) / 8 % 2 = if w8 s then 1 else 0 := by
  unfold w8
  obtain ⟨k, r, e, h⟩ : ∃ k r : Int, s = 8 * k + r ∧ (r = 1 ∨ r = 3 ∨ r = 5 ∨ r = 7) := ⟨s / 8, s % 8, by omega, by omega⟩
  subst e
  have e2 : (8 * k + r) * (8 * k + r) = 16 * (4 * (k * k) + k * r) + r * r := by grind
  rw [e2]
  generalize 4 * (k * k) + k * r = z
  rcases h with rfl | rfl | rfl | rfl
  · have : ¬ ((8 * k + 1) % 8 = 3 ∨ (8 * k + 1) % 8 = 5) := by omega
    rw [decide_eq_false this, if_neg Bool.false_ne_true]; omega
  · have : ((8 * k + 3) % 8 = 3 ∨ (8 * k + 3) % 8 = 5) := by omega
    rw [decide_eq_true this, if_pos rfl]; omega
  · have : ((8 * k + 5) % 8 = 3 ∨ (8 * k + 5) % 8 = 5) := by omega
    rw [decide_eq_true this, if_pos rfl]; omega
  · have : ¬ ((8 * k + 7) % 8 = 3 ∨ (8 * k + 7) % 8 = 5) := by omega
    rw [decide_eq_false this, if_neg Bool.false_ne_true]; omega
/-- a number's remainder modulo 2, told by a bit -/
def Par (x : Int) (b : Bool) : Prop := x % 2 = if b then 1 else 0
theorem Par.mul {x y : Int} {a b : Bool} (h : Par x a) (k : Par y b) : Par (x * y) (a && b) := by
  unfold Par at *
  rw [Int.mul_emod, h, k]
  cases a <;> cases b <;> rfl
theorem Par.add {x y : Int} {a b : Bool} (h : Par x a) (k : Par y b) : Par (x + y) (a ^^ b) := by
  unfold Par at *
  rw [Int.add_emod, h, k]
  cases a <;> cases b <;> rfl
theorem Par.nat (i : Nat) : Par (i : Nat) (od i) := by
  unfold Par od
  by_cases h : i % 2 = 1
  · rw [decide_eq_true h, if_pos rfl]; omega
  · rw [decide_eq_false h, if_neg Bool.false_ne_true]; omega
theorem Par.sign {x : Int} {b : Bool} {P : Int → Prop} (h : Par x b) (hp : P (sB b)) : sel (decide (x % 2 = 0)) (P 1) (P (-1)) := by
  unfold Par at h
  rw [h]
  cases b <;> exact hp
theorem sq_b {s : Int} {k : Nat} (h : s.natAbs < 2 ^ k) : (s * s).natAbs < 2 ^ (2 * k) := by
  rw [Int.natAbs_mul, show 2 * k = k + k by omega, Nat.pow_add]
  exact Nat.mul_lt_mul'' h h
theorem logk {n k : Nat} (h : n < 2 ^ k) : n.log2 ≤ k := by
  by_cases h0 : n = 0
  · rw [h0]; exact Nat.zero_le _
  · exact Nat.le_of_lt ((Nat.log2_lt h0).mpr h)
theorem mulk {k l : Nat} {i j : Int} (h1 : i.natAbs < 2 ^ k) (h2 : j.natAbs < 2 ^ l) (h : k + l < 1000000) : PD.MulOk i j := by
  have := logk h1
  have := logk h2
  unfold PD.MulOk; omega
theorem syV_p {p : Nat} (hp : Pr p) {a b : Int} : syV (p : Nat) a b = sy p a b := by
  unfold syV
  rw [if_neg (by have := hp.1; omega)]
  simp
theorem sp_symbol_at : ∀ args P W, args.length = 3 → F_symbol_at args P W → d_symbol_at W ⟨fun _ => P .non, fun d ρ => P (retD ρ d), fun _ => False, fun _ => False⟩ (startD 9 args) := by
  rintro args P W _ ⟨a, b, v, rfl, ⟨a0, an⟩, ⟨b0, bn⟩, hv, hP⟩
  simp only [dC_e, dVar_e, dOwn_e, dOp_e, dUn_e, dNil_e, dCons_e, dTup_e, dLst_e, dCB_e, dCall_e, dCallB_e, dSeq_e, dNext_e, dBreak_e, dCont_e, dDrop_e, dRet_e, dRetN_e, dIfS_e, dSet_e, dSetO_e, dAug_e, dRaise_e, dApp_e, dAsg_e, dPar_e, dPar3_e, dPar_vvo_e, dgName_e, dgTup_e, dgCons_e, dgNil_e, dTest_e, dAnd_e, dOr_e, dNot_e, dYes_e, dIf_e, dAndV_e, dOrV_e, dNotV_e, dIsi_e, dBits_e, dTuple_e, dSeqI_e, dChain_e, i2_e, i2'_e, u1_e, eqP_int, neP_int, addP_int, addP_tup, addP_lst, lenP_lst, lenP_tup, lenP_scr, absP_int, intP_int, isN_P, notN_P, isB2_P, tuple_lst, sel_t, sel_f, ixP_t0, ixP_t1, ixP_l0, ixP_l1, ixP_own0, ixP_own1, startD, List.map_cons, List.map_nil, List.length_cons, List.length_nil, List.cons_append, List.nil_append, List.getElem?_cons_zero, List.getElem?_cons_succ, List.set_cons_zero, List.set_cons_succ, Nat.reduceAdd, Nat.reduceSub, List.replicate_succ, List.replicate_zero, Option.some.injEq, d_symbol_at, u1_e]
  refine sel_of (fun h => ?_) (fun h => ?_)
  · have h1 : v = -1 := of_decide_eq_true h
    subst h1
    unfold syV sneg at hP
    rw [if_pos rfl] at hP
    refine sel_of (fun h => ?_) (fun h => ?_)
    · rw [h, Bool.true_and] at hP
      refine sel_of (fun h => ?_) (fun h => ?_)
      · rw [h] at hP; exact hP
      · rw [h] at hP; exact hP
    · rw [h] at hP
      exact hP
  have h1 : v ≠ -1 := of_decide_eq_false h
  obtain ⟨p, rfl, pp, hp⟩ := hv.resolve_left h1
  refine ⟨a, p, rfl, ⟨a0, an⟩, pp, hp, fun i s hs => ?_⟩
  simp only [dC_e, dVar_e, dOwn_e, dOp_e, dUn_e, dNil_e, dCons_e, dTup_e, dLst_e, dCB_e, dCall_e, dCallB_e, dSeq_e, dNext_e, dBreak_e, dCont_e, dDrop_e, dRet_e, dRetN_e, dIfS_e, dSet_e, dSetO_e, dAug_e, dRaise_e, dApp_e, dAsg_e, dPar_e, dPar3_e, dPar_vvo_e, dgName_e, dgTup_e, dgCons_e, dgNil_e, dTest_e, dAnd_e, dOr_e, dNot_e, dYes_e, dIf_e, dAndV_e, dOrV_e, dNotV_e, dIsi_e, dBits_e, dTuple_e, dSeqI_e, dChain_e, i2_e, i2'_e, u1_e, eqP_int, neP_int, addP_int, addP_tup, addP_lst, lenP_lst, lenP_tup, lenP_scr, absP_int, intP_int, isN_P, notN_P, isB2_P, tuple_lst, sel_t, sel_f, ixP_t0, ixP_t1, ixP_l0, ixP_l1, ixP_own0, ixP_own1, startD, List.map_cons, List.map_nil, List.length_cons, List.length_nil, List.cons_append, List.nil_append, List.getElem?_cons_zero, List.getElem?_cons_succ, List.set_cons_zero, List.set_cons_succ, Nat.reduceAdd, Nat.reduceSub, List.replicate_succ, List.replicate_zero, Option.some.injEq]
  refine ⟨trivial, b, p, rfl, ⟨b0, bn⟩, pp, hp, fun j t ht => ?_⟩
  simp only [dC_e, dVar_e, dOwn_e, dOp_e, dUn_e, dNil_e, dCons_e, dTup_e, dLst_e, dCB_e, dCall_e, dCallB_e, dSeq_e, dNext_e, dBreak_e, dCont_e, dDrop_e, dRet_e, dRetN_e, dIfS_e, dSet_e, dSetO_e, dAug_e, dRaise_e, dApp_e, dAsg_e, dPar_e, dPar3_e, dPar_vvo_e, dgName_e, dgTup_e, dgCons_e, dgNil_e, dTest_e, dAnd_e, dOr_e, dNot_e, dYes_e, dIf_e, dAndV_e, dOrV_e, dNotV_e, dIsi_e, dBits_e, dTuple_e, dSeqI_e, dChain_e, i2_e, i2'_e, u1_e, eqP_int, neP_int, addP_int, addP_tup, addP_lst, lenP_lst, lenP_tup, lenP_scr, absP_int, intP_int, isN_P, notN_P, isB2_P, tuple_lst, sel_t, sel_f, ixP_t0, ixP_t1, ixP_l0, ixP_l1, ixP_own0, ixP_own1, startD, List.map_cons, List.map_nil, List.length_cons, List.length_nil, List.cons_append, List.nil_append, List.getElem?_cons_zero, List.getElem?_cons_succ, List.set_cons_zero, List.set_cons_succ, Nat.reduceAdd, Nat.reduceSub, List.replicate_succ, List.replicate_zero, Option.some.injEq, u1_e]
  refine ⟨trivial, ?_⟩
  rw [syV_p pp, sy_is pp a0 b0 hs ht] at hP
  obtain ⟨si, sn, s0⟩ := pow_b pp.1 a0 hs.1
  obtain ⟨tj, tn, t0⟩ := pow_b pp.1 b0 ht.1
  unfold hsym at hP
  refine sel_of (fun h => ?_) (fun h => ?_)
  · have h2 : p = 2 := by have := of_decide_eq_true h; omega
    subst h2
    rw [if_pos rfl] at hP
    have os := odd_of hs.2
    have ot := odd_of ht.2
    have qs := sq_b (s := s) (k := 100) (by omega)
    have qt := sq_b (s := t) (k := 100) (by omega)
    refine ⟨divOk (by decide) (by decide), divOk (by decide) (by decide), mulOk (by omega) (by omega), mulOk (by omega) (by omega), divOk (by decide) (by decide), mulk (k := 100) (l := 201) (by omega) (by omega) (by decide),
      mulOk (by omega) (by omega), divOk (by decide) (by decide), mulk (k := 100) (l := 201) (by omega) (by omega) (by decide), by decide, ?_⟩
    have x1 : Par ((s - 1) / 2) (e4 s) := odd_half os
    have x2 : Par ((t - 1) / 2) (e4 t) := odd_half ot
    have x3 : Par ((s * s - 1) / 8) (w8 s) := odd_eighth os
    have x4 : Par ((t * t - 1) / 8) (w8 t) := odd_eighth ot
    have key := ((x1.mul x2).add ((Par.nat i).mul x4)).add ((Par.nat j).mul x3)
    exact key.sign (P := fun z => P (.int z)) hP
  · have h2 : p ≠ 2 := by have := of_decide_eq_false h; omega
    rw [if_neg h2] at hP
    have hh := half pp h2
    have p2 := pp.1
    have oddp : OddPr p := ⟨pp, h2, hp⟩
    have x1 : Par (((p : Int) - 1) / 2) (decide (p % 4 = 3)) := by
      unfold Par
      by_cases z : p % 4 = 3
      · rw [decide_eq_true z, if_pos rfl]; omega
      · rw [decide_eq_false z, if_neg Bool.false_ne_true]; omega
    have x2 := ((Par.nat i).mul (Par.nat j)).mul x1
    have bij : ((i : Int) * (j : Int)).natAbs < 2 ^ 200 := by
      rw [Int.natAbs_mul, show (200 : Nat) = 100 + 100 by rfl, Nat.pow_add]
      exact Nat.mul_lt_mul'' (show i < 2 ^ 100 by omega) (show j < 2 ^ 100 by omega)
    refine ⟨mulOk (by omega) (by omega), divOk (by decide) (by decide), mulk (k := 200) (l := 100) bij (by omega) (by decide), by decide, ?_⟩
    unfold Par at x2
    rw [x2]
    have fin : ∀ o : Bool, (∀ c : Bool, c = ((o ^^ (od j && nr p s)) ^^ (od i && nr p t)) → P (.int (sB c))) → (dSeq (dIfS (dTest (dOp eqP (dOp modP (dVar 5) (dC (.int 2))) (dC (.int 1))))
      (dSet 8 (dOp mulP (dVar 8) (dCall F_residue W (dCons (dVar 4) (dCons (dVar 2) dNil)))))
      dNext)
      (dRet (dIf (dTest (dOp eqP (dOp modP (dVar 3) (dC (.int 2))) (dC (.int 1)))) (dOp mulP (dVar 8) (dCall F_residue W (dCons (dVar 6) (dCons (dVar 2) dNil)))) (dVar 8))))
      ⟨fun _ => P .non, fun d ρ => P (retD ρ d), fun _ => False, fun _ => False⟩ [some (.int a), some (.int b), some (.int (p : Nat)), some (.int (i : Nat)), some (.int s), some (.int (j : Nat)), some (.int t), none, some (.int (sB o))] := by
      intro o hP
      have sb1 : ∀ o : Bool, (sB o).natAbs ≤ 1 := fun o => by cases o <;> decide
      have fin2 : ∀ o : Bool, (∀ c : Bool, c = (o ^^ (od i && nr p t)) → P (.int (sB c))) → (dRet (dIf (dTest (dOp eqP (dOp modP (dVar 3) (dC (.int 2))) (dC (.int 1)))) (dOp mulP (dVar 8) (dCall F_residue W (dCons (dVar 6) (dCons (dVar 2) dNil)))) (dVar 8)))
          ⟨fun _ => P .non, fun d ρ => P (retD ρ d), fun _ => False, fun _ => False⟩ [some (.int a), some (.int b), some (.int (p : Nat)), some (.int (i : Nat)), some (.int s), some (.int (j : Nat)), some (.int t), none, some (.int (sB o))] := by
        intro o hP
        simp only [dC_e, dVar_e, dOwn_e, dOp_e, dUn_e, dNil_e, dCons_e, dTup_e, dLst_e, dCB_e, dCall_e, dCallB_e, dSeq_e, dNext_e, dBreak_e, dCont_e, dDrop_e, dRet_e, dRetN_e, dIfS_e, dSet_e, dSetO_e, dAug_e, dRaise_e, dApp_e, dAsg_e, dPar_e, dPar3_e, dPar_vvo_e, dgName_e, dgTup_e, dgCons_e, dgNil_e, dTest_e, dAnd_e, dOr_e, dNot_e, dYes_e, dIf_e, dAndV_e, dOrV_e, dNotV_e, dIsi_e, dBits_e, dTuple_e, dSeqI_e, dChain_e, i2_e, i2'_e, u1_e, eqP_int, neP_int, addP_int, addP_tup, addP_lst, lenP_lst, lenP_tup, lenP_scr, absP_int, intP_int, isN_P, notN_P, isB2_P, tuple_lst, sel_t, sel_f, ixP_t0, ixP_t1, ixP_l0, ixP_l1, ixP_own0, ixP_own1, startD, List.map_cons, List.map_nil, List.length_cons, List.length_nil, List.cons_append, List.nil_append, List.getElem?_cons_zero, List.getElem?_cons_succ, List.set_cons_zero, List.set_cons_succ, Nat.reduceAdd, Nat.reduceSub, List.replicate_succ, List.replicate_zero, Option.some.injEq]
        have pi := Par.nat i
        unfold Par at pi
        refine ⟨by decide, ?_⟩
        rw [pi]
        cases hi : od i with
        | true =>
          refine ⟨t, p, rfl, by omega, oddp, ?_⟩
          simp only [dC_e, dVar_e, dOwn_e, dOp_e, dUn_e, dNil_e, dCons_e, dTup_e, dLst_e, dCB_e, dCall_e, dCallB_e, dSeq_e, dNext_e, dBreak_e, dCont_e, dDrop_e, dRet_e, dRetN_e, dIfS_e, dSet_e, dSetO_e, dAug_e, dRaise_e, dApp_e, dAsg_e, dPar_e, dPar3_e, dPar_vvo_e, dgName_e, dgTup_e, dgCons_e, dgNil_e, dTest_e, dAnd_e, dOr_e, dNot_e, dYes_e, dIf_e, dAndV_e, dOrV_e, dNotV_e, dIsi_e, dBits_e, dTuple_e, dSeqI_e, dChain_e, i2_e, i2'_e, u1_e, eqP_int, neP_int, addP_int, addP_tup, addP_lst, lenP_lst, lenP_tup, lenP_scr, absP_int, intP_int, isN_P, notN_P, isB2_P, tuple_lst, sel_t, sel_f, ixP_t0, ixP_t1, ixP_l0, ixP_l1, ixP_own0, ixP_own1, startD, List.map_cons, List.map_nil, List.length_cons, List.length_nil, List.cons_append, List.nil_append, List.getElem?_cons_zero, List.getElem?_cons_succ, List.set_cons_zero, List.set_cons_succ, Nat.reduceAdd, Nat.reduceSub, List.replicate_succ, List.replicate_zero, Option.some.injEq]
          have := sb1 o
          have := sb1 (nr p t)
          refine ⟨mulOk (by omega) (by omega), ?_⟩
          rw [hi] at hP
          rw [← sB_xor]
          exact hP _ (by simp)
        | false =>
          rw [hi] at hP
          exact hP _ (by simp)
      have pj := Par.nat j
      unfold Par at pj
      simp only [dSeq_e, dIfS_e, dTest_e, dOp_e, dVar_e, dC_e, i2_e, eqP_int, List.getElem?_cons_zero, List.getElem?_cons_succ]
      refine ⟨by decide, ?_⟩
      rw [pj]
      cases hj : od j with
      | true =>
        simp only [dSeq_e, dIfS_e, dTest_e, dOp_e, dVar_e, dC_e, dCall_e, dCons_e, dNil_e, dSet_e, i2_e, eqP_int, List.getElem?_cons_zero, List.getElem?_cons_succ, List.set_cons_succ, List.set_cons_zero]
        refine ⟨s, p, rfl, by omega, oddp, ?_⟩
        have := sb1 o
        have := sb1 (nr p s)
        refine ⟨mulOk (by omega) (by omega), ?_⟩
        dsimp only
        rw [← sB_xor]
        rw [hj] at hP
        exact fin2 _ fun c hc => hP c (by rw [hc, Bool.true_and])
      | false =>
        rw [hj] at hP
        exact fin2 _ fun c hc => hP c (by rw [hc]; simp)
    cases ho : (od i && od j && decide (p % 4 = 3)) with
    | true =>
      rw [ho] at hP
      refine sel_y (by decide) ?_
      have q := fin true fun c hc => hc ▸ hP
      rw [show sB true = -1 by rfl] at q
      simp only [dC_e, dVar_e, dOwn_e, dOp_e, dUn_e, dNil_e, dCons_e, dTup_e, dLst_e, dCB_e, dCall_e, dCallB_e, dSeq_e, dNext_e, dBreak_e, dCont_e, dDrop_e, dRet_e, dRetN_e, dIfS_e, dSet_e, dSetO_e, dAug_e, dRaise_e, dApp_e, dAsg_e, dPar_e, dPar3_e, dPar_vvo_e, dgName_e, dgTup_e, dgCons_e, dgNil_e, dTest_e, dAnd_e, dOr_e, dNot_e, dYes_e, dIf_e, dAndV_e, dOrV_e, dNotV_e, dIsi_e, dBits_e, dTuple_e, dSeqI_e, dChain_e, i2_e, i2'_e, u1_e, eqP_int, neP_int, addP_int, addP_tup, addP_lst, lenP_lst, lenP_tup, lenP_scr, absP_int, intP_int, isN_P, notN_P, isB2_P, tuple_lst, sel_t, sel_f, ixP_t0, ixP_t1, ixP_l0, ixP_l1, ixP_own0, ixP_own1, startD, List.map_cons, List.map_nil, List.length_cons, List.length_nil, List.cons_append, List.nil_append, List.getElem?_cons_zero, List.getElem?_cons_succ, List.set_cons_zero, List.set_cons_succ, Nat.reduceAdd, Nat.reduceSub, List.replicate_succ, List.replicate_zero, Option.some.injEq] at q
      exact q
    | false =>
      rw [ho] at hP
      refine sel_n (by decide) ?_
      have q := fin false fun c hc => hc ▸ hP
      rw [show sB false = 1 by rfl] at q
      simp only [dC_e, dVar_e, dOwn_e, dOp_e, dUn_e, dNil_e, dCons_e, dTup_e, dLst_e, dCB_e, dCall_e, dCallB_e, dSeq_e, dNext_e, dBreak_e, dCont_e, dDrop_e, dRet_e, dRetN_e, dIfS_e, dSet_e, dSetO_e, dAug_e, dRaise_e, dApp_e, dAsg_e, dPar_e, dPar3_e, dPar_vvo_e, dgName_e, dgTup_e, dgCons_e, dgNil_e, dTest_e, dAnd_e, dOr_e, dNot_e, dYes_e, dIf_e, dAndV_e, dOrV_e, dNotV_e, dIsi_e, dBits_e, dTuple_e, dSeqI_e, dChain_e, i2_e, i2'_e, u1_e, eqP_int, neP_int, addP_int, addP_tup, addP_lst, lenP_lst, lenP_tup, lenP_scr, absP_int, intP_int, isN_P, notN_P, isB2_P, tuple_lst, sel_t, sel_f, ixP_t0, ixP_t1, ixP_l0, ixP_l1, ixP_own0, ixP_own1, startD, List.map_cons, List.map_nil, List.length_cons, List.length_nil, List.cons_append, List.nil_append, List.getElem?_cons_zero, List.getElem?_cons_succ, List.set_cons_zero, List.set_cons_succ, Nat.reduceAdd, Nat.reduceSub, List.replicate_succ, List.replicate_zero, Option.some.injEq] at q
      exact q
theorem sp_is_square_at : ∀ args P W, args.length = 2 → F_is_square_at args P W → d_is_square_at W ⟨fun _ => P .non, fun d ρ => P (retD ρ d), fun _ => False, fun _ => False⟩ (startD 4 args) := by
  rintro args P W _ ⟨a, v, rfl, ⟨a0, an⟩, hv, hP⟩
  simp only [dC_e, dVar_e, dOwn_e, dOp_e, dUn_e, dNil_e, dCons_e, dTup_e, dLst_e, dCB_e, dCall_e, dCallB_e, dSeq_e, dNext_e, dBreak_e, dCont_e, dDrop_e, dRet_e, dRetN_e, dIfS_e, dSet_e, dSetO_e, dAug_e, dRaise_e, dApp_e, dAsg_e, dPar_e, dPar3_e, dPar_vvo_e, dgName_e, dgTup_e, dgCons_e, dgNil_e, dTest_e, dAnd_e, dOr_e, dNot_e, dYes_e, dIf_e, dAndV_e, dOrV_e, dNotV_e, dIsi_e, dBits_e, dTuple_e, dSeqI_e, dChain_e, i2_e, i2'_e, u1_e, eqP_int, neP_int, addP_int, addP_tup, addP_lst, lenP_lst, lenP_tup, lenP_scr, absP_int, intP_int, isN_P, notN_P, isB2_P, tuple_lst, sel_t, sel_f, ixP_t0, ixP_t1, ixP_l0, ixP_l1, ixP_own0, ixP_own1, startD, List.map_cons, List.map_nil, List.length_cons, List.length_nil, List.cons_append, List.nil_append, List.getElem?_cons_zero, List.getElem?_cons_succ, List.set_cons_zero, List.set_cons_succ, Nat.reduceAdd, Nat.reduceSub, List.replicate_succ, List.replicate_zero, Option.some.injEq, d_is_square_at, u1_e]
  unfold sqB at hP
  refine sel_of (fun h => ?_) (fun h => ?_)
  · have h1 : v = -1 := of_decide_eq_true h
    rw [if_pos h1] at hP
    exact hP
  have h1 : v ≠ -1 := of_decide_eq_false h
  rw [if_neg h1] at hP
  obtain ⟨p, rfl, pp, hp⟩ := hv.resolve_left h1
  rw [Int.toNat_natCast] at hP
  refine ⟨a, p, rfl, ⟨a0, an⟩, pp, hp, fun i s hs => ?_⟩
  rw [(vl_is pp a0 hs).1, (vl_is pp a0 hs).2] at hP
  obtain ⟨si, sn, s0⟩ := pow_b pp.1 a0 hs.1
  simp only [dC_e, dVar_e, dOwn_e, dOp_e, dUn_e, dNil_e, dCons_e, dTup_e, dLst_e, dCB_e, dCall_e, dCallB_e, dSeq_e, dNext_e, dBreak_e, dCont_e, dDrop_e, dRet_e, dRetN_e, dIfS_e, dSet_e, dSetO_e, dAug_e, dRaise_e, dApp_e, dAsg_e, dPar_e, dPar3_e, dPar_vvo_e, dgName_e, dgTup_e, dgCons_e, dgNil_e, dTest_e, dAnd_e, dOr_e, dNot_e, dYes_e, dIf_e, dAndV_e, dOrV_e, dNotV_e, dIsi_e, dBits_e, dTuple_e, dSeqI_e, dChain_e, i2_e, i2'_e, u1_e, eqP_int, neP_int, addP_int, addP_tup, addP_lst, lenP_lst, lenP_tup, lenP_scr, absP_int, intP_int, isN_P, notN_P, isB2_P, tuple_lst, sel_t, sel_f, ixP_t0, ixP_t1, ixP_l0, ixP_l1, ixP_own0, ixP_own1, startD, List.map_cons, List.map_nil, List.length_cons, List.length_nil, List.cons_append, List.nil_append, List.getElem?_cons_zero, List.getElem?_cons_succ, List.set_cons_zero, List.set_cons_succ, Nat.reduceAdd, Nat.reduceSub, List.replicate_succ, List.replicate_zero, Option.some.injEq]
  have pi := Par.nat i
  unfold Par at pi
  refine ⟨trivial, by decide, ?_⟩
  rw [pi]
  cases hi : od i with
  | true => rw [hi] at hP; exact sel_y (by decide) hP
  | false =>
    rw [hi, Bool.not_false, Bool.true_and] at hP
    refine sel_n (by decide) ?_
    refine sel_of (fun h => ?_) (fun h => ?_)
    · rw [if_pos (of_decide_eq_true h)] at hP
      exact ⟨by decide, hP⟩
    · have h2 : p ≠ 2 := by have := of_decide_eq_false h; omega
      rw [if_neg (of_decide_eq_false h)] at hP
      refine ⟨s, p, rfl, by omega, ⟨pp, h2, hp⟩, ?_⟩
      simp only [dC_e, dVar_e, dOwn_e, dOp_e, dUn_e, dNil_e, dCons_e, dTup_e, dLst_e, dCB_e, dCall_e, dCallB_e, dSeq_e, dNext_e, dBreak_e, dCont_e, dDrop_e, dRet_e, dRetN_e, dIfS_e, dSet_e, dSetO_e, dAug_e, dRaise_e, dApp_e, dAsg_e, dPar_e, dPar3_e, dPar_vvo_e, dgName_e, dgTup_e, dgCons_e, dgNil_e, dTest_e, dAnd_e, dOr_e, dNot_e, dYes_e, dIf_e, dAndV_e, dOrV_e, dNotV_e, dIsi_e, dBits_e, dTuple_e, dSeqI_e, dChain_e, i2_e, i2'_e, u1_e, eqP_int, neP_int, addP_int, addP_tup, addP_lst, lenP_lst, lenP_tup, lenP_scr, absP_int, intP_int, isN_P, notN_P, isB2_P, tuple_lst, sel_t, sel_f, ixP_t0, ixP_t1, ixP_l0, ixP_l1, ixP_own0, ixP_own1, startD, List.map_cons, List.map_nil, List.length_cons, List.length_nil, List.cons_append, List.nil_append, List.getElem?_cons_zero, List.getElem?_cons_succ, List.set_cons_zero, List.set_cons_succ, Nat.reduceAdd, Nat.reduceSub, List.replicate_succ, List.replicate_zero, Option.some.injEq]
      have e : decide (sB (nr p s) = 1) = rs p s := by
        unfold nr sB
        cases rs p s <;> decide
      rw [e]
      exact hP
end K01

end
section
set_option Elab.async false
set_option linter.all false
set_option maxRecDepth 100000
/-! k01: the readings keep the promises: places -/
namespace K01
open PySem L2 PD NT

theorem mem_putK {ks : List Int} {i x : Int} : x ∈ putK' ks i ↔ x ∈ ks ∨ x = i := by
  unfold putK'
  split
  · rename_i h
    constructor
    · exact .inl
    · rintro (h1 | rfl)
      · exact h1
      · exact h
  · simp
theorem putK_nodup {ks : List Int} {i : Int} (h : ks.Nodup) : (putK' ks i).Nodup := by
  unfold putK'
  split
  · exact h
  · rename_i hn
    exact List.nodup_append.mpr ⟨h, by simp, fun a ha b hb e => hn (by simp at hb; subst hb; subst e; exact ha)⟩
theorem putK_len {ks : List Int} {i : Int} : (putK' ks i).length ≤ ks.length + 1 := by
  unfold putK'
  split
  · omega
  · simp
theorem strict_of {l : List Int} (h : l.Pairwise (· ≤ ·)) (n : l.Nodup) : l.Pairwise (· < ·) := (h.and n).imp fun {a b} ⟨h1, h2⟩ => by omega
/-- natural numbers of a list of integers -/
theorem nats_of {l : List Int} (h : ∀ x ∈ l, 0 ≤ x) : l = (l.map Int.toNat).map fun x : Nat => (x : Int) := by
  rw [List.map_map]
  refine (List.map_congr_left (g := id) fun x hx => ?_).trans (List.map_id _) |>.symm
  show ((x.toNat : Nat) : Int) = x
  exact Int.toNat_of_nonneg (h x hx)
/-- what the dict holds -/
def Keys (a b : Int) (ks : List Int) (k : Nat) (A : Int → Prop) : Prop := ks.Nodup ∧ ks.length ≤ k ∧ ∀ x, x ∈ ks ↔ x = 2 ∨ A x
def PrD (n : Int) (x : Int) : Prop := ∃ p : Nat, x = p ∧ Pr p ∧ p ∣ n.natAbs
theorem for_of {di : DI} {g : DG} {b : DS} {De : DEnds} {ρ : PD.Env} (h : di ρ fun items ρ1 => ∃ W : Nat → PD.Env → Prop, W 0 ρ1 ∧
  (∀ i d ρ2, items[i]? = some d → W i ρ2 → g d ρ2 fun ρ3 => b { De with nx := W (i + 1), ct := W (i + 1), bk := De.nx } ρ3) ∧ ∀ ρ2, W items.length ρ2 → De.nx ρ2) : dFor di g b De ρ := h
set_option maxHeartbeats 1000000 in
theorem sp_primes_in : ∀ args P W, args.length = 1 → F_primes_in args P W → d_primes_in W ⟨fun _ => P .non, fun d ρ => P (retD ρ d), fun _ => False, fun _ => False⟩ (startD 5 args) := by
  rintro args P W _ ⟨a, b, rfl, ⟨a0, an⟩, ⟨b0, bn⟩, hP⟩
  unfold d_primes_in
  refine seq_of (fun ρ => ρ = [some (.tup [.int a, .int b]), some (.dct [2] [.bl true]), none, none, none]) ?_ (fun C hC => ?_)
  rotate_left
  · simp only [dC_e, dVar_e, dOwn_e, dOp_e, dUn_e, dNil_e, dCons_e, dTup_e, dLst_e, dCB_e, dCall_e, dCallB_e, dSeq_e, dNext_e, dBreak_e, dCont_e, dDrop_e, dRet_e, dRetN_e, dIfS_e, dSet_e, dSetO_e, dAug_e, dRaise_e, dApp_e, dAsg_e, dPar_e, dPar3_e, dPar_vvo_e, dgName_e, dgTup_e, dgCons_e, dgNil_e, dTest_e, dAnd_e, dOr_e, dNot_e, dYes_e, dIf_e, dAndV_e, dOrV_e, dNotV_e, dIsi_e, dBits_e, dTuple_e, dSeqI_e, dChain_e, i2_e, i2'_e, u1_e, eqP_int, neP_int, addP_int, addP_tup, addP_lst, lenP_lst, lenP_tup, lenP_scr, absP_int, intP_int, isN_P, notN_P, isB2_P, tuple_lst, sel_t, sel_f, ixP_t0, ixP_t1, ixP_l0, ixP_l1, ixP_own0, ixP_own1, startD, List.map_cons, List.map_nil, List.length_cons, List.length_nil, List.cons_append, List.nil_append, List.getElem?_cons_zero, List.getElem?_cons_succ, List.set_cons_zero, List.set_cons_succ, Nat.reduceAdd, Nat.reduceSub, List.replicate_succ, List.replicate_zero, Option.some.injEq, dDisp1]
    exact ⟨by decide, hC _ rfl⟩
  rintro ρ rfl
  refine seq_of (fun ρ => ∃ ks ds y2 y3 y4, ρ = [some (.tup [.int a, .int b]), some (.dct ks ds), y2, y3, y4] ∧ ks.Nodup ∧ ks.length ≤ 41 ∧ ∀ x, x ∈ ks ↔ x = 2 ∨ PrD a x ∨ PrD b x) ?_ (fun C hC => ?_)
  · rintro ρ ⟨ks, ds, y2, y3, y4, rfl, h1, h2, h3⟩
    simp only [dC_e, dVar_e, dOwn_e, dOp_e, dUn_e, dNil_e, dCons_e, dTup_e, dLst_e, dCB_e, dCall_e, dCallB_e, dSeq_e, dNext_e, dBreak_e, dCont_e, dDrop_e, dRet_e, dRetN_e, dIfS_e, dSet_e, dSetO_e, dAug_e, dRaise_e, dApp_e, dAsg_e, dPar_e, dPar3_e, dPar_vvo_e, dgName_e, dgTup_e, dgCons_e, dgNil_e, dTest_e, dAnd_e, dOr_e, dNot_e, dYes_e, dIf_e, dAndV_e, dOrV_e, dNotV_e, dIsi_e, dBits_e, dTuple_e, dSeqI_e, dChain_e, i2_e, i2'_e, u1_e, eqP_int, neP_int, addP_int, addP_tup, addP_lst, lenP_lst, lenP_tup, lenP_scr, absP_int, intP_int, isN_P, notN_P, isB2_P, tuple_lst, sel_t, sel_f, ixP_t0, ixP_t1, ixP_l0, ixP_l1, ixP_own0, ixP_own1, startD, List.map_cons, List.map_nil, List.length_cons, List.length_nil, List.cons_append, List.nil_append, List.getElem?_cons_zero, List.getElem?_cons_succ, List.set_cons_zero, List.set_cons_succ, Nat.reduceAdd, Nat.reduceSub, List.replicate_succ, List.replicate_zero, Option.some.injEq, sortDP]
    refine ⟨by omega, fun ys hp hs => ?_⟩
    have hst := strict_of hs (hp.nodup_iff.mpr h1)
    have nn : ∀ x ∈ ys, 0 ≤ x := fun x hx => by
      rcases (h3 x).mp (hp.mem_iff.mp hx) with rfl | ⟨p, rfl, _⟩ | ⟨p, rfl, _⟩
      · decide
      · omega
      · omega
    have e := nats_of nn
    have := hP (ys.map Int.toNat) ⟨?_, fun p => ?_⟩
    · unfold ndl at this
      have e2 : (ys.map Int.toNat).map (fun x : Nat => D.int x) = ys.map D.int := by
        rw [List.map_map]
        exact List.map_congr_left fun x hx => congrArg D.int (Int.toNat_of_nonneg (nn x hx))
      rw [e2] at this
      exact this
    · rw [e] at hst
      exact (List.pairwise_map.mp hst).imp fun {a b} h => by omega
    · have hm : p ∈ ys.map Int.toNat ↔ (p : Int) ∈ ys := by
        constructor
        · intro h
          obtain ⟨x, hx, rfl⟩ := List.mem_map.mp h
          rw [Int.toNat_of_nonneg (nn x hx)]; exact hx
        · intro h
          exact List.mem_map.mpr ⟨_, h, by simp⟩
      rw [hm, hp.mem_iff, h3]
      constructor
      · rintro (h | ⟨q, e, h⟩ | ⟨q, e, h⟩)
        · left; omega
        · right; have : p = q := by omega
          subst this; exact ⟨h.1, .inl h.2⟩
        · right; have : p = q := by omega
          subst this; exact ⟨h.1, .inr h.2⟩
      · rintro (h | ⟨h, h' | h'⟩)
        · left; omega
        · exact .inr (.inl ⟨p, rfl, h, h'⟩)
        · exact .inr (.inr ⟨p, rfl, h, h'⟩)
  · refine for_of ?_
    simp only [dC_e, dVar_e, dOwn_e, dOp_e, dUn_e, dNil_e, dCons_e, dTup_e, dLst_e, dCB_e, dCall_e, dCallB_e, dSeq_e, dNext_e, dBreak_e, dCont_e, dDrop_e, dRet_e, dRetN_e, dIfS_e, dSet_e, dSetO_e, dAug_e, dRaise_e, dApp_e, dAsg_e, dPar_e, dPar3_e, dPar_vvo_e, dgName_e, dgTup_e, dgCons_e, dgNil_e, dTest_e, dAnd_e, dOr_e, dNot_e, dYes_e, dIf_e, dAndV_e, dOrV_e, dNotV_e, dIsi_e, dBits_e, dTuple_e, dSeqI_e, dChain_e, i2_e, i2'_e, u1_e, eqP_int, neP_int, addP_int, addP_tup, addP_lst, lenP_lst, lenP_tup, lenP_scr, absP_int, intP_int, isN_P, notN_P, isB2_P, tuple_lst, sel_t, sel_f, ixP_t0, ixP_t1, ixP_l0, ixP_l1, ixP_own0, ixP_own1, startD, List.map_cons, List.map_nil, List.length_cons, List.length_nil, List.cons_append, List.nil_append, List.getElem?_cons_zero, List.getElem?_cons_succ, List.set_cons_zero, List.set_cons_succ, Nat.reduceAdd, Nat.reduceSub, List.replicate_succ, List.replicate_zero, Option.some.injEq]
    let A : Nat → Int → Prop := fun i x => (1 ≤ i ∧ PrD a x) ∨ (2 ≤ i ∧ PrD b x)
    have go : ∀ (i : Nat) (n : Int), Ask n → (∀ x, A i x ∨ PrD n x ↔ A (i + 1) x) → ∀ (ks : List Int) (ds : List PD.D) (y2 y3 y4 : Option PD.D), ks.Nodup → ks.length ≤ 1 + 20 * i → i < 2 → (∀ x, x ∈ ks ↔ x = 2 ∨ A i x) → ∀ De : DEnds,
        (∀ (ks : List Int) (ds : List PD.D) (y2 y3 y4 : Option PD.D), ks.Nodup → ks.length ≤ 1 + 20 * (i + 1) → (∀ x, x ∈ ks ↔ x = 2 ∨ A (i + 1) x) → De.nx [some (.tup [.int a, .int b]), some (.dct ks ds), y2, y3, y4]) →
        dFor (dSeqI (dCall F_primes_of W (dCons (dVar 2) dNil))) (dgTup 2 (dgCons (dgName 3) (dgCons (dgName 4) dgNil))) (dDPut 1 (dVar 3) (dC (.bl true))) De [some (.tup [.int a, .int b]), some (.dct ks ds), some (.int n), y3, y4] := by
      rintro i n ⟨n0, nn⟩ hA ks ds y2 y3 y4 k1 k2 i2 k3 De hD
      refine ⟨n, rfl, ⟨n0, nn⟩, fun l hl => ?_⟩
      have few := hl.few (by omega) nn
      refine ⟨fun j ρ => ∃ ks ds y3 y4, ρ = [some (.tup [.int a, .int b]), some (.dct ks ds), some (.int n), y3, y4] ∧ ks.Nodup ∧ ks.length ≤ 1 + 20 * i + j ∧ ∀ x, x ∈ ks ↔ (x = 2 ∨ A i x) ∨ ∃ y ∈ l.take j, x = (y.1 : Nat), ⟨ks, ds, y3, y4, rfl, k1, k2, fun x => by rw [k3 x]; simp⟩, ?_, ?_⟩
      · rintro j d ρ2 hj ⟨ks, ds, y3, y4, rfl, k1, k2, k3⟩
        rw [List.getElem?_map] at hj
        obtain ⟨x, hx, rfl⟩ := Option.map_eq_some_iff.mp hj
        have jl := (List.getElem?_eq_some_iff.mp hx).1
        unfold pairD
        simp only [dC_e, dVar_e, dOwn_e, dOp_e, dUn_e, dNil_e, dCons_e, dTup_e, dLst_e, dCB_e, dCall_e, dCallB_e, dSeq_e, dNext_e, dBreak_e, dCont_e, dDrop_e, dRet_e, dRetN_e, dIfS_e, dSet_e, dSetO_e, dAug_e, dRaise_e, dApp_e, dAsg_e, dPar_e, dPar3_e, dPar_vvo_e, dgName_e, dgTup_e, dgCons_e, dgNil_e, dTest_e, dAnd_e, dOr_e, dNot_e, dYes_e, dIf_e, dAndV_e, dOrV_e, dNotV_e, dIsi_e, dBits_e, dTuple_e, dSeqI_e, dChain_e, i2_e, i2'_e, u1_e, eqP_int, neP_int, addP_int, addP_tup, addP_lst, lenP_lst, lenP_tup, lenP_scr, absP_int, intP_int, isN_P, notN_P, isB2_P, tuple_lst, sel_t, sel_f, ixP_t0, ixP_t1, ixP_l0, ixP_l1, ixP_own0, ixP_own1, startD, List.map_cons, List.map_nil, List.length_cons, List.length_nil, List.cons_append, List.nil_append, List.getElem?_cons_zero, List.getElem?_cons_succ, List.set_cons_zero, List.set_cons_succ, Nat.reduceAdd, Nat.reduceSub, List.replicate_succ, List.replicate_zero, Option.some.injEq, dDPut]
        have := big_size
        refine ⟨trivial, by omega, _, _, _, _, rfl, putK_nodup k1, ?_, fun z => ?_⟩
        · have := putK_len (ks := ks) (i := (x.1 : Int))
          omega
        · rw [mem_putK, k3 z, take_snoc hx]
          simp only [List.mem_append, List.mem_singleton, or_and_right, exists_or, exists_eq_left]
          constructor
          · rintro ((h | h) | h)
            · exact .inl h
            · exact .inr (.inl h)
            · exact .inr (.inr h)
          · rintro (h | h | h)
            · exact .inl (.inl h)
            · exact .inl (.inr h)
            · exact .inr h
      · rintro ρ2 ⟨ks, ds, y3, y4, rfl, k1, k2, k3⟩
        rw [List.length_map] at k2 k3
        rw [List.take_length] at k3
        refine hD _ _ _ _ _ k1 (by omega) fun x => ?_
        rw [k3 x, ← hA x, or_assoc]
        refine or_congr Iff.rfl (or_congr Iff.rfl ?_)
        constructor
        · rintro ⟨y, hy, rfl⟩
          obtain ⟨p1, p2, p3⟩ := hl.1 y hy
          exact ⟨y.1, rfl, p1, Ex.dvd1 p3 p2⟩
        · rintro ⟨p, rfl, pp, d⟩
          obtain ⟨y, hy, e⟩ := hl.2.2 p pp d
          exact ⟨y, hy, by rw [e]⟩
    refine ⟨fun i ρ => ∃ ks ds y2 y3 y4, ρ = [some (.tup [.int a, .int b]), some (.dct ks ds), y2, y3, y4] ∧ ks.Nodup ∧ ks.length ≤ 1 + 20 * i ∧ ∀ x, x ∈ ks ↔ x = 2 ∨ A i x, ⟨_, _, _, _, _, rfl, by simp, by simp, fun x => ?_⟩, ?_, ?_⟩
    · simp [A]
    · rintro i d ρ2 hi ⟨ks, ds, y2, y3, y4, rfl, k1, k2, k3⟩
      have hi2 := (List.getElem?_eq_some_iff.mp hi).1
      have : i = 0 ∨ i = 1 := by
        have : i < 2 := hi2
        omega
      rcases this with rfl | rfl
      · simp at hi
        subst hi
        simp only [dC_e, dVar_e, dOwn_e, dOp_e, dUn_e, dNil_e, dCons_e, dTup_e, dLst_e, dCB_e, dCall_e, dCallB_e, dSeq_e, dNext_e, dBreak_e, dCont_e, dDrop_e, dRet_e, dRetN_e, dIfS_e, dSet_e, dSetO_e, dAug_e, dRaise_e, dApp_e, dAsg_e, dPar_e, dPar3_e, dPar_vvo_e, dgName_e, dgTup_e, dgCons_e, dgNil_e, dTest_e, dAnd_e, dOr_e, dNot_e, dYes_e, dIf_e, dAndV_e, dOrV_e, dNotV_e, dIsi_e, dBits_e, dTuple_e, dSeqI_e, dChain_e, i2_e, i2'_e, u1_e, eqP_int, neP_int, addP_int, addP_tup, addP_lst, lenP_lst, lenP_tup, lenP_scr, absP_int, intP_int, isN_P, notN_P, isB2_P, tuple_lst, sel_t, sel_f, ixP_t0, ixP_t1, ixP_l0, ixP_l1, ixP_own0, ixP_own1, startD, List.map_cons, List.map_nil, List.length_cons, List.length_nil, List.cons_append, List.nil_append, List.getElem?_cons_zero, List.getElem?_cons_succ, List.set_cons_zero, List.set_cons_succ, Nat.reduceAdd, Nat.reduceSub, List.replicate_succ, List.replicate_zero, Option.some.injEq]
        refine go 0 a ⟨a0, an⟩ (fun x => by simp [A]) ks ds none y3 y4 k1 k2 (by decide) k3 _ ?_
        exact fun ks ds y2 y3 y4 q1 q2 q3 => ⟨_, _, _, _, _, rfl, q1, q2, q3⟩
      · simp at hi
        subst hi
        simp only [dC_e, dVar_e, dOwn_e, dOp_e, dUn_e, dNil_e, dCons_e, dTup_e, dLst_e, dCB_e, dCall_e, dCallB_e, dSeq_e, dNext_e, dBreak_e, dCont_e, dDrop_e, dRet_e, dRetN_e, dIfS_e, dSet_e, dSetO_e, dAug_e, dRaise_e, dApp_e, dAsg_e, dPar_e, dPar3_e, dPar_vvo_e, dgName_e, dgTup_e, dgCons_e, dgNil_e, dTest_e, dAnd_e, dOr_e, dNot_e, dYes_e, dIf_e, dAndV_e, dOrV_e, dNotV_e, dIsi_e, dBits_e, dTuple_e, dSeqI_e, dChain_e, i2_e, i2'_e, u1_e, eqP_int, neP_int, addP_int, addP_tup, addP_lst, lenP_lst, lenP_tup, lenP_scr, absP_int, intP_int, isN_P, notN_P, isB2_P, tuple_lst, sel_t, sel_f, ixP_t0, ixP_t1, ixP_l0, ixP_l1, ixP_own0, ixP_own1, startD, List.map_cons, List.map_nil, List.length_cons, List.length_nil, List.cons_append, List.nil_append, List.getElem?_cons_zero, List.getElem?_cons_succ, List.set_cons_zero, List.set_cons_succ, Nat.reduceAdd, Nat.reduceSub, List.replicate_succ, List.replicate_zero, Option.some.injEq]
        refine go 1 b ⟨b0, bn⟩ (fun x => by simp [A]) ks ds none y3 y4 k1 k2 (by decide) k3 _ ?_
        exact fun ks ds y2 y3 y4 q1 q2 q3 => ⟨_, _, _, _, _, rfl, q1, q2, q3⟩
    · rintro ρ2 ⟨ks, ds, y2, y3, y4, rfl, k1, k2, k3⟩
      refine hC _ ⟨_, _, _, _, _, rfl, k1, k2, fun x => ?_⟩
      rw [k3 x]
      simp [A]
/-! ### what is told -/
theorem ask_of {d : D} {i : Int} (e : d = .int i) (h : Ask i) : okI d = true := by
  subst e
  have h : i ≠ 0 ∧ i.natAbs ≤ 1000000 := h
  show decide (i ≠ 0 ∧ i.natAbs ≤ 1000000) = true
  exact decide_eq_true h
theorem ask_to {d : D} (h : okI d = true) : ∃ i, d = .int i ∧ Ask i := by
  cases d with
  | int i =>
    have h : decide (i ≠ 0 ∧ i.natAbs ≤ 1000000) = true := h
    have h := of_decide_eq_true h
    exact ⟨i, rfl, h⟩
  | _ => cases h
open Classical in
theorem plc_to {d : D} (h : okP d = true) : ∃ v, d = .int v ∧ Plc v ∧ v < 100000 := by
  cases d with
  | int i =>
    rw [okP_int, Bool.or_eq_true, Bool.and_eq_true] at h
    rcases h with h | ⟨h1, h2⟩
    · have := of_decide_eq_true h
      subst this
      exact ⟨-1, rfl, .inl rfl, by decide⟩
    · have h1 := of_decide_eq_true h1
      unfold prB at h2
      have h2 := of_decide_eq_true h2
      exact ⟨i, rfl, .inr ⟨i.toNat, by omega, h2.2, by omega⟩, h1⟩
  | _ => cases h
theorem Ask.big {i : Int} (h : Ask i) : Big i := ⟨h.1, by have := h.2; omega⟩
theorem asc_eq {α : Type} {R : α → α → Prop} (as : ∀ x y, R x y → ¬ R y x) : ∀ {l m : List α}, l.Pairwise R → m.Pairwise R → (∀ x, x ∈ l ↔ x ∈ m) → l = m
  | [], [], _, _, _ => rfl
  | [], y :: m, _, _, h => nomatch (h y).mpr List.mem_cons_self
  | x :: l, [], _, _, h => nomatch (h x).mp List.mem_cons_self
  | x :: l, y :: m, hl, hm, h => by
    obtain ⟨l1, l2⟩ := List.pairwise_cons.mp hl
    obtain ⟨m1, m2⟩ := List.pairwise_cons.mp hm
    have e : x = y := by
      rcases List.mem_cons.mp ((h x).mp List.mem_cons_self) with e | e
      · exact e
      · rcases List.mem_cons.mp ((h y).mpr List.mem_cons_self) with e2 | e2
        · exact e2.symm
        · exact absurd (l1 y e2) (as _ _ (m1 x e))
    subst e
    rw [asc_eq as l2 m2 fun z => ?_]
    constructor
    · intro hz
      rcases List.mem_cons.mp ((h z).mp (List.mem_cons_of_mem _ hz)) with e | e
      · subst e; exact absurd (l1 z hz) fun q => as _ _ q q
      · exact e
    · intro hz
      rcases List.mem_cons.mp ((h z).mpr (List.mem_cons_of_mem _ hz)) with e | e
      · subst e; exact absurd (m1 z hz) fun q => as _ _ q q
      · exact e
theorem PF.eq {n : Nat} {l m : List (Nat × Nat)} (h : PF n l) (k : PF n m) : l = m := asc_eq (fun x y a b => absurd a (Nat.lt_asymm b)) h.2.1 k.2.1 fun x => ⟨h.uniq k x, k.uniq h x⟩
theorem CoreR.uniq {i c d : Int} (h : CoreR i c) (k : CoreR i d) : c = d := by
  obtain ⟨l, hl, rfl⟩ := h
  obtain ⟨m, hm, rfl⟩ := k
  rw [hl.eq hm]
theorem Two.uniq {a b : Int} {l m : List Nat} (h : Two a b l) (k : Two a b m) : l = m := asc_eq (fun x y a b => absurd a (Nat.lt_asymm b)) h.1 k.1 fun x => (h.2 x).trans (k.2 x).symm
theorem sp_core : ∀ args P W, args.length = 1 → F_core args P W → d_core W ⟨fun _ => P .non, fun d ρ => P (retD ρ d), fun _ => False, fun _ => False⟩ (startD 1 args) := by
  rintro args P W _ ⟨d, rfl, td, h1, h2⟩
  simp only [dC_e, dVar_e, dOwn_e, dOp_e, dUn_e, dNil_e, dCons_e, dTup_e, dLst_e, dCB_e, dCall_e, dCallB_e, dSeq_e, dNext_e, dBreak_e, dCont_e, dDrop_e, dRet_e, dRetN_e, dIfS_e, dSet_e, dSetO_e, dAug_e, dRaise_e, dApp_e, dAsg_e, dPar_e, dPar3_e, dPar_vvo_e, dgName_e, dgTup_e, dgCons_e, dgNil_e, dTest_e, dAnd_e, dOr_e, dNot_e, dYes_e, dIf_e, dAndV_e, dOrV_e, dNotV_e, dIsi_e, dBits_e, dTuple_e, dSeqI_e, dChain_e, i2_e, i2'_e, u1_e, eqP_int, neP_int, addP_int, addP_tup, addP_lst, lenP_lst, lenP_tup, lenP_scr, absP_int, intP_int, isN_P, notN_P, isB2_P, tuple_lst, sel_t, sel_f, ixP_t0, ixP_t1, ixP_l0, ixP_l1, ixP_own0, ixP_own1, startD, List.map_cons, List.map_nil, List.length_cons, List.length_nil, List.cons_append, List.nil_append, List.getElem?_cons_zero, List.getElem?_cons_succ, List.set_cons_zero, List.set_cons_succ, Nat.reduceAdd, Nat.reduceSub, List.replicate_succ, List.replicate_zero, Option.some.injEq, d_core]
  refine ⟨d, rfl, td, fun ok => ?_, h2⟩
  obtain ⟨i, rfl, hi⟩ := ask_to ok
  refine ⟨i, rfl, hi, fun c hc => ?_⟩
  exact h1 i c rfl hi hc
theorem sp_symbol : ∀ args P W, args.length = 3 → F_symbol args P W → d_symbol W ⟨fun _ => P .non, fun d ρ => P (retD ρ d), fun _ => False, fun _ => False⟩ (startD 3 args) := by
  rintro args P W _ ⟨d, e, f, rfl, td, te, tf, h1, h2⟩
  simp only [dC_e, dVar_e, dOwn_e, dOp_e, dUn_e, dNil_e, dCons_e, dTup_e, dLst_e, dCB_e, dCall_e, dCallB_e, dSeq_e, dNext_e, dBreak_e, dCont_e, dDrop_e, dRet_e, dRetN_e, dIfS_e, dSet_e, dSetO_e, dAug_e, dRaise_e, dApp_e, dAsg_e, dPar_e, dPar3_e, dPar_vvo_e, dgName_e, dgTup_e, dgCons_e, dgNil_e, dTest_e, dAnd_e, dOr_e, dNot_e, dYes_e, dIf_e, dAndV_e, dOrV_e, dNotV_e, dIsi_e, dBits_e, dTuple_e, dSeqI_e, dChain_e, i2_e, i2'_e, u1_e, eqP_int, neP_int, addP_int, addP_tup, addP_lst, lenP_lst, lenP_tup, lenP_scr, absP_int, intP_int, isN_P, notN_P, isB2_P, tuple_lst, sel_t, sel_f, ixP_t0, ixP_t1, ixP_l0, ixP_l1, ixP_own0, ixP_own1, startD, List.map_cons, List.map_nil, List.length_cons, List.length_nil, List.cons_append, List.nil_append, List.getElem?_cons_zero, List.getElem?_cons_succ, List.set_cons_zero, List.set_cons_succ, Nat.reduceAdd, Nat.reduceSub, List.replicate_succ, List.replicate_zero, Option.some.injEq, d_symbol]
  refine ⟨d, rfl, td, fun ok1 => ?_, fun n => h2 (by rw [n]; rfl)⟩
  refine ⟨e, rfl, te, fun ok2 => ?_, fun n => h2 (by rw [n, Bool.and_false]; rfl)⟩
  refine ⟨f, rfl, tf, fun ok3 => ?_, fun n => h2 (by rw [n, Bool.and_false])⟩
  obtain ⟨a, rfl, ha⟩ := ask_to ok1
  obtain ⟨b, rfl, hb⟩ := ask_to ok2
  obtain ⟨v, rfl, hv, lv⟩ := plc_to ok3
  exact ⟨a, b, v, rfl, ha.big, hb.big, hv, h1 a b v rfl rfl rfl ha hb hv lv⟩
theorem sp_square_at : ∀ args P W, args.length = 2 → F_square_at args P W → d_square_at W ⟨fun _ => P .non, fun d ρ => P (retD ρ d), fun _ => False, fun _ => False⟩ (startD 2 args) := by
  rintro args P W _ ⟨d, f, rfl, td, tf, h1, h2⟩
  simp only [dC_e, dVar_e, dOwn_e, dOp_e, dUn_e, dNil_e, dCons_e, dTup_e, dLst_e, dCB_e, dCall_e, dCallB_e, dSeq_e, dNext_e, dBreak_e, dCont_e, dDrop_e, dRet_e, dRetN_e, dIfS_e, dSet_e, dSetO_e, dAug_e, dRaise_e, dApp_e, dAsg_e, dPar_e, dPar3_e, dPar_vvo_e, dgName_e, dgTup_e, dgCons_e, dgNil_e, dTest_e, dAnd_e, dOr_e, dNot_e, dYes_e, dIf_e, dAndV_e, dOrV_e, dNotV_e, dIsi_e, dBits_e, dTuple_e, dSeqI_e, dChain_e, i2_e, i2'_e, u1_e, eqP_int, neP_int, addP_int, addP_tup, addP_lst, lenP_lst, lenP_tup, lenP_scr, absP_int, intP_int, isN_P, notN_P, isB2_P, tuple_lst, sel_t, sel_f, ixP_t0, ixP_t1, ixP_l0, ixP_l1, ixP_own0, ixP_own1, startD, List.map_cons, List.map_nil, List.length_cons, List.length_nil, List.cons_append, List.nil_append, List.getElem?_cons_zero, List.getElem?_cons_succ, List.set_cons_zero, List.set_cons_succ, Nat.reduceAdd, Nat.reduceSub, List.replicate_succ, List.replicate_zero, Option.some.injEq, d_square_at]
  refine ⟨d, rfl, td, fun ok1 => ?_, fun n => h2 (by rw [n]; rfl)⟩
  refine ⟨f, rfl, tf, fun ok3 => ?_, fun n => h2 (by rw [n, Bool.and_false])⟩
  obtain ⟨a, rfl, ha⟩ := ask_to ok1
  obtain ⟨v, rfl, hv, lv⟩ := plc_to ok3
  exact ⟨a, v, rfl, ha.big, hv, h1 a v rfl rfl ha hv lv⟩
theorem two_len {a b : Int} {l : List Nat} (ha : Ask a) (hb : Ask b) (h : Two a b l) : l.length ≤ 41 ∧ ∀ p ∈ l, Pr p ∧ p ≤ 1000000 := by
  obtain ⟨h1, h2⟩ := h
  obtain ⟨a0, an⟩ := ha
  obtain ⟨b0, bn⟩ := hb
  have p2 : Pr 2 := ⟨by decide, fun d hd => by
                                           have := Nat.le_of_dvd (by decide) hd
                                           have : d ≠ 0 := fun z => by subst z; exact absurd (Nat.eq_zero_of_zero_dvd hd) (by decide)
                                           omega⟩
  have pm : ∀ p ∈ l, Pr p ∧ p ≤ 1000000 := fun p hp => by
    rcases (h2 p).mp hp with rfl | ⟨pp, d | d⟩
    · exact ⟨p2, by decide⟩
    · exact ⟨pp, Nat.le_trans (Nat.le_of_dvd (by omega) d) an⟩
    · exact ⟨pp, Nat.le_trans (Nat.le_of_dvd (by omega) d) bn⟩
  refine ⟨?_, pm⟩
  have d1 := prod_dvd (n := 2 * (a.natAbs * b.natAbs)) h1 fun p hp => ⟨(pm p hp).1, by
    rcases (h2 p).mp hp with rfl | ⟨pp, d | d⟩
    · exact Nat.dvd_mul_right _ _
    · exact Nat.dvd_trans (Nat.dvd_trans d (Nat.dvd_mul_right _ _)) (Nat.dvd_mul_left _ _)
    · exact Nat.dvd_trans (Nat.dvd_trans d (Nat.dvd_mul_left _ _)) (Nat.dvd_mul_left _ _)⟩
  have d2 := prod_pow fun p hp => (pm p hp).1
  have m1 : 1 ≤ a.natAbs * b.natAbs := Nat.mul_pos (by omega) (by omega)
  have m2 : a.natAbs * b.natAbs ≤ 1000000 * 1000000 := Nat.mul_le_mul an bn
  have d3 := Nat.le_of_dvd (by omega) d1
  refine Nat.le_of_not_lt fun hl => ?_
  have := Nat.pow_le_pow_right (show 0 < 2 by decide) (show 42 ≤ l.length by omega)
  omega
theorem plc_of {a b : Int} {l : List Nat} (ha : Ask a) (hb : Ask b) (h : Two a b l) : ∀ v ∈ (-1 : Int) :: l.map fun x : Nat => (x : Int), Plc v := fun v hv => by
  rcases List.mem_cons.mp hv with rfl | hv
  · exact .inl rfl
  · obtain ⟨p, hp, rfl⟩ := List.mem_map.mp hv
    exact .inr ⟨p, rfl, (two_len ha hb h).2 p hp⟩
theorem filter_snoc {α : Type} {f : α → Bool} {xs : List α} {i : Nat} {d : α} (h : xs[i]? = some d) : (xs.take (i + 1)).filter f = (xs.take i).filter f ++ (if f d then [d] else []) := by
  rw [take_snoc h, List.filter_append]
  congr 1
  by_cases z : f d
  · rw [if_pos z, List.filter_cons_of_pos z]; rfl
  · rw [if_neg z, List.filter_cons_of_neg z]; rfl
theorem sp_odd_places : ∀ args P W, args.length = 2 → F_odd_places args P W → d_odd_places W ⟨fun _ => P .non, fun d ρ => P (retD ρ d), fun _ => False, fun _ => False⟩ (startD 3 args) := by
  rintro args P W _ ⟨d, e, rfl, td, te, h1, h2⟩
  simp only [dC_e, dVar_e, dOwn_e, dOp_e, dUn_e, dNil_e, dCons_e, dTup_e, dLst_e, dCB_e, dCall_e, dCallB_e, dSeq_e, dNext_e, dBreak_e, dCont_e, dDrop_e, dRet_e, dRetN_e, dIfS_e, dSet_e, dSetO_e, dAug_e, dRaise_e, dApp_e, dAsg_e, dPar_e, dPar3_e, dPar_vvo_e, dgName_e, dgTup_e, dgCons_e, dgNil_e, dTest_e, dAnd_e, dOr_e, dNot_e, dYes_e, dIf_e, dAndV_e, dOrV_e, dNotV_e, dIsi_e, dBits_e, dTuple_e, dSeqI_e, dChain_e, i2_e, i2'_e, u1_e, eqP_int, neP_int, addP_int, addP_tup, addP_lst, lenP_lst, lenP_tup, lenP_scr, absP_int, intP_int, isN_P, notN_P, isB2_P, tuple_lst, sel_t, sel_f, ixP_t0, ixP_t1, ixP_l0, ixP_l1, ixP_own0, ixP_own1, startD, List.map_cons, List.map_nil, List.length_cons, List.length_nil, List.cons_append, List.nil_append, List.getElem?_cons_zero, List.getElem?_cons_succ, List.set_cons_zero, List.set_cons_succ, Nat.reduceAdd, Nat.reduceSub, List.replicate_succ, List.replicate_zero, Option.some.injEq, d_odd_places, u1_e]
  refine ⟨d, rfl, td, fun ok1 => ?_, fun n => h2 (by rw [n]; rfl)⟩
  refine ⟨e, rfl, te, fun ok2 => ?_, fun n => h2 (by rw [n, Bool.and_false])⟩
  obtain ⟨a, rfl, ha⟩ := ask_to ok1
  obtain ⟨b, rfl, hb⟩ := ask_to ok2
  simp only [dC_e, dVar_e, dOwn_e, dOp_e, dUn_e, dNil_e, dCons_e, dTup_e, dLst_e, dCB_e, dCall_e, dCallB_e, dSeq_e, dNext_e, dBreak_e, dCont_e, dDrop_e, dRet_e, dRetN_e, dIfS_e, dSet_e, dSetO_e, dAug_e, dRaise_e, dApp_e, dAsg_e, dPar_e, dPar3_e, dPar_vvo_e, dgName_e, dgTup_e, dgCons_e, dgNil_e, dTest_e, dAnd_e, dOr_e, dNot_e, dYes_e, dIf_e, dAndV_e, dOrV_e, dNotV_e, dIsi_e, dBits_e, dTuple_e, dSeqI_e, dChain_e, i2_e, i2'_e, u1_e, eqP_int, neP_int, addP_int, addP_tup, addP_lst, lenP_lst, lenP_tup, lenP_scr, absP_int, intP_int, isN_P, notN_P, isB2_P, tuple_lst, sel_t, sel_f, ixP_t0, ixP_t1, ixP_l0, ixP_l1, ixP_own0, ixP_own1, startD, List.map_cons, List.map_nil, List.length_cons, List.length_nil, List.cons_append, List.nil_append, List.getElem?_cons_zero, List.getElem?_cons_succ, List.set_cons_zero, List.set_cons_succ, Nat.reduceAdd, Nat.reduceSub, List.replicate_succ, List.replicate_zero, Option.some.injEq, dLc, u1_e]
  refine ⟨a, b, rfl, ha, hb, fun l hl => ?_⟩
  have few := (two_len ha hb hl).1
  have hp := plc_of ha hb hl
  unfold ndl
  have bs := big_size
  simp only [dC_e, dVar_e, dOwn_e, dOp_e, dUn_e, dNil_e, dCons_e, dTup_e, dLst_e, dCB_e, dCall_e, dCallB_e, dSeq_e, dNext_e, dBreak_e, dCont_e, dDrop_e, dRet_e, dRetN_e, dIfS_e, dSet_e, dSetO_e, dAug_e, dRaise_e, dApp_e, dAsg_e, dPar_e, dPar3_e, dPar_vvo_e, dgName_e, dgTup_e, dgCons_e, dgNil_e, dTest_e, dAnd_e, dOr_e, dNot_e, dYes_e, dIf_e, dAndV_e, dOrV_e, dNotV_e, dIsi_e, dBits_e, dTuple_e, dSeqI_e, dChain_e, i2_e, i2'_e, u1_e, eqP_int, neP_int, addP_int, addP_tup, addP_lst, lenP_lst, lenP_tup, lenP_scr, absP_int, intP_int, isN_P, notN_P, isB2_P, tuple_lst, sel_t, sel_f, ixP_t0, ixP_t1, ixP_l0, ixP_l1, ixP_own0, ixP_own1, startD, List.map_cons, List.map_nil, List.length_cons, List.length_nil, List.cons_append, List.nil_append, List.getElem?_cons_zero, List.getElem?_cons_succ, List.set_cons_zero, List.set_cons_succ, Nat.reduceAdd, Nat.reduceSub, List.replicate_succ, List.replicate_zero, Option.some.injEq]
  refine ⟨by rw [List.length_map]; omega, ?_⟩
  have em : D.int (-1) :: l.map (fun x : Nat => D.int x) = (((-1 : Int) :: l.map fun x : Nat => (x : Int)).map D.int) := by
    rw [List.map_cons, List.map_map]; rfl
  rw [em]
  have key := h1 a b rfl rfl ha hb l hl
  unfold oddV at key
  have ll : ((-1 : Int) :: l.map fun x : Nat => (x : Int)).length ≤ 42 := by rw [List.length_cons, List.length_map]; omega
  generalize hL : ((-1 : Int) :: l.map fun x : Nat => (x : Int)) = L at *
  refine ⟨fun i acc ρ => ρ = [some (.int a), some (.int b), none] ∧ acc = ((L.take i).filter fun v => syV v a b).map D.int, ⟨rfl, rfl⟩, ?_, ?_⟩
  · rintro i d acc ρ2 hi ⟨rfl, rfl⟩
    rw [List.getElem?_map] at hi
    obtain ⟨x, hx, rfl⟩ := Option.map_eq_some_iff.mp hi
    simp only [dC_e, dVar_e, dOwn_e, dOp_e, dUn_e, dNil_e, dCons_e, dTup_e, dLst_e, dCB_e, dCall_e, dCallB_e, dSeq_e, dNext_e, dBreak_e, dCont_e, dDrop_e, dRet_e, dRetN_e, dIfS_e, dSet_e, dSetO_e, dAug_e, dRaise_e, dApp_e, dAsg_e, dPar_e, dPar3_e, dPar_vvo_e, dgName_e, dgTup_e, dgCons_e, dgNil_e, dTest_e, dAnd_e, dOr_e, dNot_e, dYes_e, dIf_e, dAndV_e, dOrV_e, dNotV_e, dIsi_e, dBits_e, dTuple_e, dSeqI_e, dChain_e, i2_e, i2'_e, u1_e, eqP_int, neP_int, addP_int, addP_tup, addP_lst, lenP_lst, lenP_tup, lenP_scr, absP_int, intP_int, isN_P, notN_P, isB2_P, tuple_lst, sel_t, sel_f, ixP_t0, ixP_t1, ixP_l0, ixP_l1, ixP_own0, ixP_own1, startD, List.map_cons, List.map_nil, List.length_cons, List.length_nil, List.cons_append, List.nil_append, List.getElem?_cons_zero, List.getElem?_cons_succ, List.set_cons_zero, List.set_cons_succ, Nat.reduceAdd, Nat.reduceSub, List.replicate_succ, List.replicate_zero, Option.some.injEq, wipeD]
    refine ⟨a, b, x, rfl, ha.big, hb.big, hp x (List.mem_of_getElem? hx), ?_⟩
    simp only [dC_e, dVar_e, dOwn_e, dOp_e, dUn_e, dNil_e, dCons_e, dTup_e, dLst_e, dCB_e, dCall_e, dCallB_e, dSeq_e, dNext_e, dBreak_e, dCont_e, dDrop_e, dRet_e, dRetN_e, dIfS_e, dSet_e, dSetO_e, dAug_e, dRaise_e, dApp_e, dAsg_e, dPar_e, dPar3_e, dPar_vvo_e, dgName_e, dgTup_e, dgCons_e, dgNil_e, dTest_e, dAnd_e, dOr_e, dNot_e, dYes_e, dIf_e, dAndV_e, dOrV_e, dNotV_e, dIsi_e, dBits_e, dTuple_e, dSeqI_e, dChain_e, i2_e, i2'_e, u1_e, eqP_int, neP_int, addP_int, addP_tup, addP_lst, lenP_lst, lenP_tup, lenP_scr, absP_int, intP_int, isN_P, notN_P, isB2_P, tuple_lst, sel_t, sel_f, ixP_t0, ixP_t1, ixP_l0, ixP_l1, ixP_own0, ixP_own1, startD, List.map_cons, List.map_nil, List.length_cons, List.length_nil, List.cons_append, List.nil_append, List.getElem?_cons_zero, List.getElem?_cons_succ, List.set_cons_zero, List.set_cons_succ, Nat.reduceAdd, Nat.reduceSub, List.replicate_succ, List.replicate_zero, Option.some.injEq, u1_e]
    have e : decide (sB (syV x a b) = -1) = syV x a b := by unfold sB; cases syV x a b <;> decide
    rw [e, filter_snoc hx]
    refine sel_of (fun h => ?_) (fun h => ?_)
    · rw [h]
      refine ⟨?_, rfl, by simp⟩
      rw [List.length_map]
      have := List.length_filter_le (fun v => syV v a b) (L.take i)
      have := List.length_take_le i L
      have : (L.take i).length ≤ L.length := by rw [List.length_take]; omega
      omega
    · rw [h]
      exact ⟨rfl, by simp⟩
  · rintro acc ρ2 ⟨rfl, rfl⟩
    have e9 : (l.map fun x : Nat => D.int x).length + 1 = L.length := by rw [← hL]; simp
    have e8 : (L.map D.int).length = L.length := List.length_map ..
    first | rw [e9, List.take_length] | rw [e8, List.take_length]
    exact key
end K01

end
section
set_option Elab.async false
set_option linter.all false
set_option maxRecDepth 100000
/-! k01: the law's own words -/
namespace K01
open PySem L2 PD NT

theorem sp__law_symbol : ∀ args P W, args.length = 3 → F__law_symbol args P W → d__law_symbol W ⟨fun _ => P .non, fun d ρ => P (retD ρ d), fun _ => False, fun _ => False⟩ (startD 6 args) := by
  rintro args P W _ ⟨a, b, v, rfl, ⟨a0, an⟩, ⟨b0, bn⟩, hv, hP⟩
  simp only [dC_e, dVar_e, dOwn_e, dOp_e, dUn_e, dNil_e, dCons_e, dTup_e, dLst_e, dCB_e, dCall_e, dCallB_e, dSeq_e, dNext_e, dBreak_e, dCont_e, dDrop_e, dRet_e, dRetN_e, dIfS_e, dSet_e, dSetO_e, dAug_e, dRaise_e, dApp_e, dAsg_e, dPar_e, dPar3_e, dPar_vvo_e, dgName_e, dgTup_e, dgCons_e, dgNil_e, dTest_e, dAnd_e, dOr_e, dNot_e, dYes_e, dIf_e, dAndV_e, dOrV_e, dNotV_e, dIsi_e, dBits_e, dTuple_e, dSeqI_e, dChain_e, i2_e, i2'_e, u1_e, eqP_int, neP_int, addP_int, addP_tup, addP_lst, lenP_lst, lenP_tup, lenP_scr, absP_int, intP_int, isN_P, notN_P, isB2_P, tuple_lst, sel_t, sel_f, ixP_t0, ixP_t1, ixP_l0, ixP_l1, ixP_own0, ixP_own1, startD, List.map_cons, List.map_nil, List.length_cons, List.length_nil, List.cons_append, List.nil_append, List.getElem?_cons_zero, List.getElem?_cons_succ, List.set_cons_zero, List.set_cons_succ, Nat.reduceAdd, Nat.reduceSub, List.replicate_succ, List.replicate_zero, Option.some.injEq, d__law_symbol, u1_e]
  refine sel_of (fun h => ?_) (fun h => ?_)
  · have h1 : v = -1 := of_decide_eq_true h
    subst h1
    unfold syV sneg at hP
    rw [if_pos rfl] at hP
    refine sel_of (fun h => ?_) (fun h => ?_)
    · rw [h, Bool.true_and] at hP
      refine sel_of (fun h => ?_) (fun h => ?_)
      · rw [h] at hP; exact hP
      · rw [h] at hP; exact hP
    · rw [h] at hP
      exact hP
  have h1 : v ≠ -1 := of_decide_eq_false h
  obtain ⟨p, rfl, pp, hp⟩ := hv.resolve_left h1
  refine ⟨trivial, ?_⟩
  refine part_loop a p pp.1 (by omega) a0 rfl rfl rfl (by decide) (by decide) (by decide) fun i s hs => ?_
  simp only [dC_e, dVar_e, dOwn_e, dOp_e, dUn_e, dNil_e, dCons_e, dTup_e, dLst_e, dCB_e, dCall_e, dCallB_e, dSeq_e, dNext_e, dBreak_e, dCont_e, dDrop_e, dRet_e, dRetN_e, dIfS_e, dSet_e, dSetO_e, dAug_e, dRaise_e, dApp_e, dAsg_e, dPar_e, dPar3_e, dPar_vvo_e, dgName_e, dgTup_e, dgCons_e, dgNil_e, dTest_e, dAnd_e, dOr_e, dNot_e, dYes_e, dIf_e, dAndV_e, dOrV_e, dNotV_e, dIsi_e, dBits_e, dTuple_e, dSeqI_e, dChain_e, i2_e, i2'_e, u1_e, eqP_int, neP_int, addP_int, addP_tup, addP_lst, lenP_lst, lenP_tup, lenP_scr, absP_int, intP_int, isN_P, notN_P, isB2_P, tuple_lst, sel_t, sel_f, ixP_t0, ixP_t1, ixP_l0, ixP_l1, ixP_own0, ixP_own1, startD, List.map_cons, List.map_nil, List.length_cons, List.length_nil, List.cons_append, List.nil_append, List.getElem?_cons_zero, List.getElem?_cons_succ, List.set_cons_zero, List.set_cons_succ, Nat.reduceAdd, Nat.reduceSub, List.replicate_succ, List.replicate_zero, Option.some.injEq]
  refine part_loop b p pp.1 (by omega) b0 rfl rfl rfl (by decide) (by decide) (by decide) fun j t ht => ?_
  simp only [dC_e, dVar_e, dOwn_e, dOp_e, dUn_e, dNil_e, dCons_e, dTup_e, dLst_e, dCB_e, dCall_e, dCallB_e, dSeq_e, dNext_e, dBreak_e, dCont_e, dDrop_e, dRet_e, dRetN_e, dIfS_e, dSet_e, dSetO_e, dAug_e, dRaise_e, dApp_e, dAsg_e, dPar_e, dPar3_e, dPar_vvo_e, dgName_e, dgTup_e, dgCons_e, dgNil_e, dTest_e, dAnd_e, dOr_e, dNot_e, dYes_e, dIf_e, dAndV_e, dOrV_e, dNotV_e, dIsi_e, dBits_e, dTuple_e, dSeqI_e, dChain_e, i2_e, i2'_e, u1_e, eqP_int, neP_int, addP_int, addP_tup, addP_lst, lenP_lst, lenP_tup, lenP_scr, absP_int, intP_int, isN_P, notN_P, isB2_P, tuple_lst, sel_t, sel_f, ixP_t0, ixP_t1, ixP_l0, ixP_l1, ixP_own0, ixP_own1, startD, List.map_cons, List.map_nil, List.length_cons, List.length_nil, List.cons_append, List.nil_append, List.getElem?_cons_zero, List.getElem?_cons_succ, List.set_cons_zero, List.set_cons_succ, Nat.reduceAdd, Nat.reduceSub, List.replicate_succ, List.replicate_zero, Option.some.injEq]
  rw [syV_p pp, sy_is pp a0 b0 hs ht] at hP
  obtain ⟨si, sn, s0⟩ := pow_b pp.1 a0 hs.1
  obtain ⟨tj, tn, t0⟩ := pow_b pp.1 b0 ht.1
  have fin : ∀ (x : Int) (b : Bool), Par x b → P (.int (sB b)) → P (.int (1 - 2 * (x % 2))) := fun x b h k => by
    unfold Par at h
    rw [h]
    cases b <;> exact k
  have pb : ∀ b : Bool, Par (if b = true then 1 else 0) b := fun b => by cases b <;> rfl
  have bb : ∀ b : Bool, (if b = true then (1 : Int) else 0).natAbs < 2 ^ 100 := fun b => by cases b <;> decide
  have bp : ∀ {x y : Int}, x.natAbs < 2 ^ 100 → y.natAbs < 2 ^ 100 → (x * y).natAbs < 2 ^ 200 := fun {x y} h k => by
    rw [Int.natAbs_mul, show (200 : Nat) = 100 + 100 by rfl, Nat.pow_add]
    exact Nat.mul_lt_mul'' h k
  unfold hsym at hP
  refine sel_of (fun h => ?_) (fun h => ?_)
  · have h2 : p = 2 := by have := of_decide_eq_true h; omega
    subst h2
    rw [if_pos rfl] at hP
    have os := odd_of hs.2
    have ot := odd_of ht.2
    have x1 : ∀ {s : Int}, s % 2 = 1 → Par (s % 4 / 2) (e4 s) := fun {s} h => by
      unfold Par e4
      by_cases z : s % 4 = 3
      · rw [decide_eq_true z, if_pos rfl]; omega
      · rw [decide_eq_false z, if_neg Bool.false_ne_true]; omega
    have x2 : ∀ s : Int, ([D.int 3, D.int 5].any fun z => eqD z (.int (s % 8))) = w8 s := fun s => by
      simp only [List.any_cons, List.any_nil, eqD_int, Bool.or_false]
      unfold w8
      by_cases z : s % 8 = 3
      · simp [z]
      · rw [decide_eq_false (by omega), Bool.false_or]
        exact decide_eq_decide.mpr (by omega)
    have key := (((x1 os).mul (x1 ot)).add ((Par.nat i).mul (pb (w8 t)))).add ((Par.nat j).mul (pb (w8 s)))
    have o35 : okNs 59 [D.int 3, D.int 5] = true := by simp only [okNs, okN, Bool.and_true]
    have o8 : ∀ z : Int, okN 60 (D.int z) = true := fun z => by rw [okN]
    refine ⟨by decide, divOk (by decide) (by decide), by decide, divOk (by decide) (by decide), mulOk (by omega) (by omega), by decide, ?_⟩
    refine ⟨o8 _, o35, ?_⟩
    show PD.MulOk _ _ ∧ _
    rw [show deref _ (D.int (t % 8)) = D.int (t % 8) from rfl, x2 t]
    refine ⟨mulOk (by omega) (bb _), by decide, ?_⟩
    refine ⟨o8 _, o35, ?_⟩
    show PD.MulOk _ _ ∧ _
    rw [show deref _ (D.int (s % 8)) = D.int (s % 8) from rfl, x2 s]
    refine ⟨mulOk (by omega) (bb _), show (0 : Int) < 2 by decide, mulOk (by omega) (by omega), ?_⟩
    exact fin _ _ key hP
  · have h2 : p ≠ 2 := by have := of_decide_eq_false h; omega
    rw [if_neg h2] at hP
    have p2 := pp.1
    have oddp : OddPr p := ⟨pp, h2, hp⟩
    have key := (((Par.nat i).mul (Par.nat j)).mul (pb (decide (p % 4 = 3)))).add ((Par.nat j).mul (pb (nr p s))) |>.add ((Par.nat i).mul (pb (nr p t)))
    have e43 : decide ((p : Int) % 4 = 3) = decide (p % 4 = 3) := decide_eq_decide.mpr (by omega)
    refine ⟨mulOk (by omega) (by omega), by decide, ?_⟩
    show PD.MulOk _ _ ∧ _
    rw [e43]
    refine ⟨mulk (k := 200) (l := 100) (bp (by omega) (by omega)) (bb _) (by decide), ?_⟩
    refine ⟨s, p, rfl, by omega, oddp, ?_⟩
    show PD.MulOk _ _ ∧ _
    refine ⟨mulOk (by omega) (bb _), ?_⟩
    refine ⟨t, p, rfl, by omega, oddp, ?_⟩
    show PD.MulOk _ _ ∧ _
    refine ⟨mulOk (by omega) (bb _), ?_⟩
    refine ⟨show (0 : Int) < 2 by decide, mulOk (by omega) (by omega), ?_⟩
    exact fin _ _ key hP
theorem sp__law_square_at : ∀ args P W, args.length = 2 → F__law_square_at args P W → d__law_square_at W ⟨fun _ => P .non, fun d ρ => P (retD ρ d), fun _ => False, fun _ => False⟩ (startD 3 args) := by
  rintro args P W _ ⟨a, v, rfl, ⟨a0, an⟩, hv, hP⟩
  simp only [dC_e, dVar_e, dOwn_e, dOp_e, dUn_e, dNil_e, dCons_e, dTup_e, dLst_e, dCB_e, dCall_e, dCallB_e, dSeq_e, dNext_e, dBreak_e, dCont_e, dDrop_e, dRet_e, dRetN_e, dIfS_e, dSet_e, dSetO_e, dAug_e, dRaise_e, dApp_e, dAsg_e, dPar_e, dPar3_e, dPar_vvo_e, dgName_e, dgTup_e, dgCons_e, dgNil_e, dTest_e, dAnd_e, dOr_e, dNot_e, dYes_e, dIf_e, dAndV_e, dOrV_e, dNotV_e, dIsi_e, dBits_e, dTuple_e, dSeqI_e, dChain_e, i2_e, i2'_e, u1_e, eqP_int, neP_int, addP_int, addP_tup, addP_lst, lenP_lst, lenP_tup, lenP_scr, absP_int, intP_int, isN_P, notN_P, isB2_P, tuple_lst, sel_t, sel_f, ixP_t0, ixP_t1, ixP_l0, ixP_l1, ixP_own0, ixP_own1, startD, List.map_cons, List.map_nil, List.length_cons, List.length_nil, List.cons_append, List.nil_append, List.getElem?_cons_zero, List.getElem?_cons_succ, List.set_cons_zero, List.set_cons_succ, Nat.reduceAdd, Nat.reduceSub, List.replicate_succ, List.replicate_zero, Option.some.injEq, d__law_square_at, u1_e]
  unfold sqB at hP
  refine sel_of (fun h => ?_) (fun h => ?_)
  · have h1 : v = -1 := of_decide_eq_true h
    rw [if_pos h1] at hP
    exact hP
  have h1 : v ≠ -1 := of_decide_eq_false h
  rw [if_neg h1] at hP
  obtain ⟨p, rfl, pp, hp⟩ := hv.resolve_left h1
  rw [Int.toNat_natCast] at hP
  refine part_loop a p pp.1 (by omega) a0 rfl rfl rfl (by decide) (by decide) (by decide) fun i s hs => ?_
  rw [(vl_is pp a0 hs).1, (vl_is pp a0 hs).2] at hP
  obtain ⟨si, sn, s0⟩ := pow_b pp.1 a0 hs.1
  simp only [dC_e, dVar_e, dOwn_e, dOp_e, dUn_e, dNil_e, dCons_e, dTup_e, dLst_e, dCB_e, dCall_e, dCallB_e, dSeq_e, dNext_e, dBreak_e, dCont_e, dDrop_e, dRet_e, dRetN_e, dIfS_e, dSet_e, dSetO_e, dAug_e, dRaise_e, dApp_e, dAsg_e, dPar_e, dPar3_e, dPar_vvo_e, dgName_e, dgTup_e, dgCons_e, dgNil_e, dTest_e, dAnd_e, dOr_e, dNot_e, dYes_e, dIf_e, dAndV_e, dOrV_e, dNotV_e, dIsi_e, dBits_e, dTuple_e, dSeqI_e, dChain_e, i2_e, i2'_e, u1_e, eqP_int, neP_int, addP_int, addP_tup, addP_lst, lenP_lst, lenP_tup, lenP_scr, absP_int, intP_int, isN_P, notN_P, isB2_P, tuple_lst, sel_t, sel_f, ixP_t0, ixP_t1, ixP_l0, ixP_l1, ixP_own0, ixP_own1, startD, List.map_cons, List.map_nil, List.length_cons, List.length_nil, List.cons_append, List.nil_append, List.getElem?_cons_zero, List.getElem?_cons_succ, List.set_cons_zero, List.set_cons_succ, Nat.reduceAdd, Nat.reduceSub, List.replicate_succ, List.replicate_zero, Option.some.injEq]
  have pi := Par.nat i
  unfold Par at pi
  refine ⟨by decide, ?_⟩
  rw [pi]
  cases hi : od i with
  | true => rw [hi] at hP; exact sel_n (by decide) hP
  | false =>
    rw [hi, Bool.not_false, Bool.true_and] at hP
    refine sel_y (by decide) ?_
    refine sel_of (fun h => ?_) (fun h => ?_)
    · rw [if_pos (of_decide_eq_true h)] at hP
      exact ⟨by decide, hP⟩
    · have h2 : p ≠ 2 := by have := of_decide_eq_false h; omega
      rw [if_neg (of_decide_eq_false h)] at hP
      exact ⟨s, p, rfl, by omega, ⟨pp, h2, hp⟩, hP⟩
/-! ### the core -/
theorem Pv.ex {p : Nat} {n : Int} {i : Nat} {s : Int} (hp : Pr p) (h : Pv p n i s) : Ex p n.natAbs i := by
  obtain ⟨e, hs⟩ := h
  have e2 : n.natAbs = p ^ i * s.natAbs := by rw [e, Int.natAbs_mul, Int.natAbs_pow]; rfl
  refine ⟨⟨_, e2⟩, fun d => hs ?_⟩
  rw [e2, Nat.pow_succ] at d
  exact Int.natAbs_dvd_natAbs.mp (Nat.dvd_of_mul_dvd_mul_left (Nat.pow_pos (by have := hp.1; omega)) d)
theorem vl_pos {p : Nat} (hp : Pr p) {n : Int} (h0 : n ≠ 0) (d : p ∣ n.natAbs) : 1 ≤ vl p n := by
  obtain ⟨e, hs⟩ := vl_spec hp h0
  refine Nat.pos_of_ne_zero fun z => hs ?_
  rw [z, Int.pow_zero, Int.one_mul] at e
  rw [← e]
  exact Int.natAbs_dvd_natAbs.mp d
noncomputable def wv (i : Int) (l : List Nat) : List (Nat × Nat) := l.map fun p => (p, vl p i)
theorem wv_PF {i : Int} {l : List Nat} (h0 : i ≠ 0) (h1 : l.Pairwise (· < ·)) (h2 : ∀ p, p ∈ l ↔ Pr p ∧ p ∣ i.natAbs) : PF i.natAbs (wv i l) := by
  refine ⟨fun x hx => ?_, List.pairwise_map.mpr h1, fun p pp d => ⟨(p, vl p i), List.mem_map.mpr ⟨p, (h2 p).mpr ⟨pp, d⟩, rfl⟩, rfl⟩⟩
  obtain ⟨p, hp, rfl⟩ := List.mem_map.mp hx
  obtain ⟨pp, d⟩ := (h2 p).mp hp
  exact ⟨pp, vl_pos pp h0 d, Pv.ex pp (vl_spec pp h0)⟩
theorem sp__law_core : ∀ args P W, args.length = 1 → F__law_core args P W → d__law_core W ⟨fun _ => P .non, fun d ρ => P (retD ρ d), fun _ => False, fun _ => False⟩ (startD 4 args) := by
  rintro args P W _ ⟨i, rfl, ⟨h0, hi⟩, hP⟩
  unfold d__law_core
  have key : ∀ s : Int, s = (if 0 < i then 1 else -1) → (∀ c, (∃ l, PF i.natAbs l ∧ c = s * oddP l) → P (.int c)) := fun s e c ⟨l, a, b⟩ => hP c ⟨l, a, e ▸ b⟩
  clear hP
  refine seq_of (fun ρ => ∃ s : Int, (s = 1 ∨ s = -1) ∧ s = (if 0 < i then 1 else -1) ∧ ρ = [some (.int i), some (.int s), none, none]) ?_ (fun C hC => ?_)
  rotate_left
  · simp only [dC_e, dVar_e, dOwn_e, dOp_e, dUn_e, dNil_e, dCons_e, dTup_e, dLst_e, dCB_e, dCall_e, dCallB_e, dSeq_e, dNext_e, dBreak_e, dCont_e, dDrop_e, dRet_e, dRetN_e, dIfS_e, dSet_e, dSetO_e, dAug_e, dRaise_e, dApp_e, dAsg_e, dPar_e, dPar3_e, dPar_vvo_e, dgName_e, dgTup_e, dgCons_e, dgNil_e, dTest_e, dAnd_e, dOr_e, dNot_e, dYes_e, dIf_e, dAndV_e, dOrV_e, dNotV_e, dIsi_e, dBits_e, dTuple_e, dSeqI_e, dChain_e, i2_e, i2'_e, u1_e, eqP_int, neP_int, addP_int, addP_tup, addP_lst, lenP_lst, lenP_tup, lenP_scr, absP_int, intP_int, isN_P, notN_P, isB2_P, tuple_lst, sel_t, sel_f, ixP_t0, ixP_t1, ixP_l0, ixP_l1, ixP_own0, ixP_own1, startD, List.map_cons, List.map_nil, List.length_cons, List.length_nil, List.cons_append, List.nil_append, List.getElem?_cons_zero, List.getElem?_cons_succ, List.set_cons_zero, List.set_cons_succ, Nat.reduceAdd, Nat.reduceSub, List.replicate_succ, List.replicate_zero, Option.some.injEq, u1_e]
    refine sel_of (fun h => ?_) (fun h => ?_)
    · exact hC _ ⟨1, .inl rfl, by rw [if_pos (of_decide_eq_true h)], rfl⟩
    · exact hC _ ⟨-1, .inr rfl, by rw [if_neg (of_decide_eq_false h)], rfl⟩
  rintro ρ ⟨s, hs, es, rfl⟩
  have hP := key s es
  clear key es
  refine for_of ?_
  simp only [dC_e, dVar_e, dOwn_e, dOp_e, dUn_e, dNil_e, dCons_e, dTup_e, dLst_e, dCB_e, dCall_e, dCallB_e, dSeq_e, dNext_e, dBreak_e, dCont_e, dDrop_e, dRet_e, dRetN_e, dIfS_e, dSet_e, dSetO_e, dAug_e, dRaise_e, dApp_e, dAsg_e, dPar_e, dPar3_e, dPar_vvo_e, dgName_e, dgTup_e, dgCons_e, dgNil_e, dTest_e, dAnd_e, dOr_e, dNot_e, dYes_e, dIf_e, dAndV_e, dOrV_e, dNotV_e, dIsi_e, dBits_e, dTuple_e, dSeqI_e, dChain_e, i2_e, i2'_e, u1_e, eqP_int, neP_int, addP_int, addP_tup, addP_lst, lenP_lst, lenP_tup, lenP_scr, absP_int, intP_int, isN_P, notN_P, isB2_P, tuple_lst, sel_t, sel_f, ixP_t0, ixP_t1, ixP_l0, ixP_l1, ixP_own0, ixP_own1, startD, List.map_cons, List.map_nil, List.length_cons, List.length_nil, List.cons_append, List.nil_append, List.getElem?_cons_zero, List.getElem?_cons_succ, List.set_cons_zero, List.set_cons_succ, Nat.reduceAdd, Nat.reduceSub, List.replicate_succ, List.replicate_zero, Option.some.injEq]
  refine ⟨i, rfl, ⟨h0, hi⟩, fun l l1 l2 => ?_⟩
  have hF := wv_PF h0 l1 l2
  unfold ndl
  simp only [dC_e, dVar_e, dOwn_e, dOp_e, dUn_e, dNil_e, dCons_e, dTup_e, dLst_e, dCB_e, dCall_e, dCallB_e, dSeq_e, dNext_e, dBreak_e, dCont_e, dDrop_e, dRet_e, dRetN_e, dIfS_e, dSet_e, dSetO_e, dAug_e, dRaise_e, dApp_e, dAsg_e, dPar_e, dPar3_e, dPar_vvo_e, dgName_e, dgTup_e, dgCons_e, dgNil_e, dTest_e, dAnd_e, dOr_e, dNot_e, dYes_e, dIf_e, dAndV_e, dOrV_e, dNotV_e, dIsi_e, dBits_e, dTuple_e, dSeqI_e, dChain_e, i2_e, i2'_e, u1_e, eqP_int, neP_int, addP_int, addP_tup, addP_lst, lenP_lst, lenP_tup, lenP_scr, absP_int, intP_int, isN_P, notN_P, isB2_P, tuple_lst, sel_t, sel_f, ixP_t0, ixP_t1, ixP_l0, ixP_l1, ixP_own0, ixP_own1, startD, List.map_cons, List.map_nil, List.length_cons, List.length_nil, List.cons_append, List.nil_append, List.getElem?_cons_zero, List.getElem?_cons_succ, List.set_cons_zero, List.set_cons_succ, Nat.reduceAdd, Nat.reduceSub, List.replicate_succ, List.replicate_zero, Option.some.injEq]
  refine ⟨fun j ρ => ∃ (r M : Int) (y z : Option PD.D), i = r * M ∧ r ≠ 0 ∧ (∀ q ∈ l.drop j, ¬ (q : Int) ∣ M) ∧ ρ = [some (.int r), some (.int (s * oddP ((wv i l).take j))), y, z], ⟨i, 1, none, none, by simp, h0, fun q hq d => ?_, by simp [oddP]⟩, ?_, ?_⟩
  · have := ((l2 q).mp hq).1.1
    have := Int.le_of_dvd (by decide) d
    omega
  · rintro j d ρ2 hj ⟨r, M, y, z, eM, r0, hM, rfl⟩
    rw [List.getElem?_map] at hj
    obtain ⟨q, hq, rfl⟩ := Option.map_eq_some_iff.mp hj
    have qm := List.mem_of_getElem? hq
    obtain ⟨qq, qd⟩ := (l2 q).mp qm
    have qle := Nat.le_of_dvd (by omega) qd
    have hw : (wv i l)[j]? = some (q, vl q i) := by unfold wv; rw [List.getElem?_map, hq]; rfl
    have b1 := oddP_b (by omega) hi hF (List.take_sublist j _)
    simp only [dC_e, dVar_e, dOwn_e, dOp_e, dUn_e, dNil_e, dCons_e, dTup_e, dLst_e, dCB_e, dCall_e, dCallB_e, dSeq_e, dNext_e, dBreak_e, dCont_e, dDrop_e, dRet_e, dRetN_e, dIfS_e, dSet_e, dSetO_e, dAug_e, dRaise_e, dApp_e, dAsg_e, dPar_e, dPar3_e, dPar_vvo_e, dgName_e, dgTup_e, dgCons_e, dgNil_e, dTest_e, dAnd_e, dOr_e, dNot_e, dYes_e, dIf_e, dAndV_e, dOrV_e, dNotV_e, dIsi_e, dBits_e, dTuple_e, dSeqI_e, dChain_e, i2_e, i2'_e, u1_e, eqP_int, neP_int, addP_int, addP_tup, addP_lst, lenP_lst, lenP_tup, lenP_scr, absP_int, intP_int, isN_P, notN_P, isB2_P, tuple_lst, sel_t, sel_f, ixP_t0, ixP_t1, ixP_l0, ixP_l1, ixP_own0, ixP_own1, startD, List.map_cons, List.map_nil, List.length_cons, List.length_nil, List.cons_append, List.nil_append, List.getElem?_cons_zero, List.getElem?_cons_succ, List.set_cons_zero, List.set_cons_succ, Nat.reduceAdd, Nat.reduceSub, List.replicate_succ, List.replicate_zero, Option.some.injEq]
    refine part_loop r q qq.1 (by omega) r0 rfl rfl rfl (by decide) (by decide) (by decide) fun e t ht => ?_
    obtain ⟨re, rn, t0⟩ := pow_b qq.1 r0 ht.1
    have jl := (List.getElem?_eq_some_iff.mp hq).1
    have dr : l.drop j = q :: l.drop (j + 1) := by
      rw [List.drop_eq_getElem_cons jl, (List.getElem?_eq_some_iff.mp hq).2]
    rw [dr] at hM
    have nM := hM q List.mem_cons_self
    have ve : vl q i = e := (vl_is qq h0 ⟨by rw [eM, ht.1]; exact Int.mul_assoc .., fun d => (qq.euclidI d).elim ht.2 nM⟩).1
    have M0 : ∀ q' ∈ l.drop (j + 1), ¬ (q' : Int) ∣ (q : Int) ^ e * M := fun q' hq' d => by
      have q'm : q' ∈ l := List.mem_of_mem_drop hq'
      have qq' := ((l2 q').mp q'm).1
      have hlt : q < q' := by
        have h3 : (l.drop j).Pairwise (· < ·) := l1.sublist (List.drop_sublist j l)
        rw [dr] at h3
        exact (List.pairwise_cons.mp h3).1 q' hq'
      rcases qq'.euclidI d with d | d
      · rw [show ((q : Int) ^ e) = ((q ^ e : Nat) : Int) by simp] at d
        have := qq'.dvd_pow (Int.natCast_dvd_natCast.mp d)
        have := qq'.eq_of_dvd qq this
        omega
      · exact hM q' (List.mem_cons_of_mem _ hq') d
    simp only [dC_e, dVar_e, dOwn_e, dOp_e, dUn_e, dNil_e, dCons_e, dTup_e, dLst_e, dCB_e, dCall_e, dCallB_e, dSeq_e, dNext_e, dBreak_e, dCont_e, dDrop_e, dRet_e, dRetN_e, dIfS_e, dSet_e, dSetO_e, dAug_e, dRaise_e, dApp_e, dAsg_e, dPar_e, dPar3_e, dPar_vvo_e, dgName_e, dgTup_e, dgCons_e, dgNil_e, dTest_e, dAnd_e, dOr_e, dNot_e, dYes_e, dIf_e, dAndV_e, dOrV_e, dNotV_e, dIsi_e, dBits_e, dTuple_e, dSeqI_e, dChain_e, i2_e, i2'_e, u1_e, eqP_int, neP_int, addP_int, addP_tup, addP_lst, lenP_lst, lenP_tup, lenP_scr, absP_int, intP_int, isN_P, notN_P, isB2_P, tuple_lst, sel_t, sel_f, ixP_t0, ixP_t1, ixP_l0, ixP_l1, ixP_own0, ixP_own1, startD, List.map_cons, List.map_nil, List.length_cons, List.length_nil, List.cons_append, List.nil_append, List.getElem?_cons_zero, List.getElem?_cons_succ, List.set_cons_zero, List.set_cons_succ, Nat.reduceAdd, Nat.reduceSub, List.replicate_succ, List.replicate_zero, Option.some.injEq]
    refine ⟨by decide, sel_of (fun h => ?_) (fun h => ?_)⟩
    · have h1 : e % 2 = 1 := by have := of_decide_eq_true h; omega
      refine ⟨mulOk ?_ (by omega), ?_⟩
      · rcases hs with rfl | rfl <;> omega
      refine ⟨t, (q : Int) ^ e * M, some (.int q), some (.int e), by rw [eM, ht.1]; grind, t0, M0, ?_⟩
      rw [take_snoc hw, oddP_append, ve]
      simp [oddP, h1, Int.mul_assoc]
    · have h1 : ¬ e % 2 = 1 := by have := of_decide_eq_false h; omega
      refine ⟨t, (q : Int) ^ e * M, some (.int q), some (.int e), by rw [eM, ht.1]; grind, t0, M0, ?_⟩
      rw [take_snoc hw, oddP_append, ve]
      simp [oddP, h1]
  · rintro ρ2 ⟨r, M, y, z, eM, r0, hM, rfl⟩
    have e : (l.map fun x : Nat => D.int x).length = (wv i l).length := by unfold wv; rw [List.length_map, List.length_map]
    rw [e, List.take_length]
    exact hP _ ⟨_, hF, rfl⟩
/-! ### numbers that are drawn -/
theorem sp__law_number : ∀ bx args P W, args.length + 1 = 1 → F__law_number (bx :: args) P W → d__law_number W ⟨fun ρ => ∃ b, ρ[0]? = some (some b) ∧ P .non b, fun d ρ => ∃ b, ρ[0]? = some (some b) ∧ NotOwn d ∧ P d b, fun _ => False, fun _ => False⟩ (startD 6 (bx :: args)) := by
  rintro bx args P W hl ⟨bx', e, hb, hP⟩
  cases e
  clear hl
  unfold d__law_number
  have ask : ∀ {s x : Int}, s = 1 ∨ s = -1 → 1 ≤ x → x ≤ 1000000 → Ask (s * x) := fun {s x} h h1 h2 => by
    unfold Ask
    rcases h with rfl | rfl <;> omega
  refine seq_of (fun ρ => ∃ (b : PD.D) (k s : Int), BoxOk b ∧ (s = 1 ∨ s = -1) ∧ ρ = [some b, some (.int k), some (.int s), none, none, none]) ?_ (fun C hC => ?_)
  rotate_left
  · simp only [dC_e, dVar_e, dOwn_e, dOp_e, dUn_e, dNil_e, dCons_e, dTup_e, dLst_e, dCB_e, dCall_e, dCallB_e, dSeq_e, dNext_e, dBreak_e, dCont_e, dDrop_e, dRet_e, dRetN_e, dIfS_e, dSet_e, dSetO_e, dAug_e, dRaise_e, dApp_e, dAsg_e, dPar_e, dPar3_e, dPar_vvo_e, dgName_e, dgTup_e, dgCons_e, dgNil_e, dTest_e, dAnd_e, dOr_e, dNot_e, dYes_e, dIf_e, dAndV_e, dOrV_e, dNotV_e, dIsi_e, dBits_e, dTuple_e, dSeqI_e, dChain_e, i2_e, i2'_e, u1_e, eqP_int, neP_int, addP_int, addP_tup, addP_lst, lenP_lst, lenP_tup, lenP_scr, absP_int, intP_int, isN_P, notN_P, isB2_P, tuple_lst, sel_t, sel_f, ixP_t0, ixP_t1, ixP_l0, ixP_l1, ixP_own0, ixP_own1, startD, List.map_cons, List.map_nil, List.length_cons, List.length_nil, List.cons_append, List.nil_append, List.getElem?_cons_zero, List.getElem?_cons_succ, List.set_cons_zero, List.set_cons_succ, Nat.reduceAdd, Nat.reduceSub, List.replicate_succ, List.replicate_zero, Option.some.injEq, u1_e]
    refine ⟨bx, 4, rfl, hb, by decide, by decide, fun k b1 hb1 hk => ?_⟩
    simp only [dC_e, dVar_e, dOwn_e, dOp_e, dUn_e, dNil_e, dCons_e, dTup_e, dLst_e, dCB_e, dCall_e, dCallB_e, dSeq_e, dNext_e, dBreak_e, dCont_e, dDrop_e, dRet_e, dRetN_e, dIfS_e, dSet_e, dSetO_e, dAug_e, dRaise_e, dApp_e, dAsg_e, dPar_e, dPar3_e, dPar_vvo_e, dgName_e, dgTup_e, dgCons_e, dgNil_e, dTest_e, dAnd_e, dOr_e, dNot_e, dYes_e, dIf_e, dAndV_e, dOrV_e, dNotV_e, dIsi_e, dBits_e, dTuple_e, dSeqI_e, dChain_e, i2_e, i2'_e, u1_e, eqP_int, neP_int, addP_int, addP_tup, addP_lst, lenP_lst, lenP_tup, lenP_scr, absP_int, intP_int, isN_P, notN_P, isB2_P, tuple_lst, sel_t, sel_f, ixP_t0, ixP_t1, ixP_l0, ixP_l1, ixP_own0, ixP_own1, startD, List.map_cons, List.map_nil, List.length_cons, List.length_nil, List.cons_append, List.nil_append, List.getElem?_cons_zero, List.getElem?_cons_succ, List.set_cons_zero, List.set_cons_succ, Nat.reduceAdd, Nat.reduceSub, List.replicate_succ, List.replicate_zero, Option.some.injEq, u1_e]
    refine ⟨b1, 2, rfl, hb1, by decide, by decide, fun j b2 hb2 hj => ?_⟩
    have : j = 0 ∨ j = 1 := by omega
    rcases this with rfl | rfl
    · dsimp only
      rw [ixP_lst (j := 0) (z := .int 1) rfl]
      exact hC _ ⟨b2, k, 1, hb2, .inl rfl, rfl⟩
    · dsimp only
      rw [ixP_lst (j := 1) (z := .int (-1)) rfl]
      exact hC _ ⟨b2, k, -1, hb2, .inr rfl, rfl⟩
  rintro ρ ⟨b, k, s, hb, hs, rfl⟩
  simp only [dC_e, dVar_e, dOwn_e, dOp_e, dUn_e, dNil_e, dCons_e, dTup_e, dLst_e, dCB_e, dCall_e, dCallB_e, dSeq_e, dNext_e, dBreak_e, dCont_e, dDrop_e, dRet_e, dRetN_e, dIfS_e, dSet_e, dSetO_e, dAug_e, dRaise_e, dApp_e, dAsg_e, dPar_e, dPar3_e, dPar_vvo_e, dgName_e, dgTup_e, dgCons_e, dgNil_e, dTest_e, dAnd_e, dOr_e, dNot_e, dYes_e, dIf_e, dAndV_e, dOrV_e, dNotV_e, dIsi_e, dBits_e, dTuple_e, dSeqI_e, dChain_e, i2_e, i2'_e, u1_e, eqP_int, neP_int, addP_int, addP_tup, addP_lst, lenP_lst, lenP_tup, lenP_scr, absP_int, intP_int, isN_P, notN_P, isB2_P, tuple_lst, sel_t, sel_f, ixP_t0, ixP_t1, ixP_l0, ixP_l1, ixP_own0, ixP_own1, startD, List.map_cons, List.map_nil, List.length_cons, List.length_nil, List.cons_append, List.nil_append, List.getElem?_cons_zero, List.getElem?_cons_succ, List.set_cons_zero, List.set_cons_succ, Nat.reduceAdd, Nat.reduceSub, List.replicate_succ, List.replicate_zero, Option.some.injEq]
  refine sel_of (fun _ => ?_) (fun _ => ?_)
  · refine ⟨b, 30, rfl, hb, by decide, by decide, fun j b1 hb1 hj => ?_⟩
    refine ⟨mulOk ?_ ?_, b1, rfl, trivial, hP _ _ hb1 (ask hs (by omega) (by omega))⟩
    · rcases hs with rfl | rfl <;> decide
    · omega
  refine sel_of (fun _ => ?_) (fun _ => ?_)
  · refine ⟨b, 1000000, rfl, hb, by decide, by decide, fun j b1 hb1 hj => ?_⟩
    refine ⟨mulOk ?_ ?_, b1, rfl, trivial, hP _ _ hb1 (ask hs (by omega) (by omega))⟩
    · rcases hs with rfl | rfl <;> decide
    · omega
  refine ⟨by decide, fun i ρ => ∃ (b : PD.D) (t : Int) (y z : Option PD.D), BoxOk b ∧ 1 ≤ t ∧ t ≤ 1000000 ∧ ρ = [some b, some (.int k), some (.int s), some (.int t), y, z], ⟨b, 1, none, none, hb, by decide, by decide, rfl⟩, ?_, ?_⟩
  · rintro i d ρ2 hi ⟨b, t, y, z, hb, t1, t2, rfl⟩
    simp only [dC_e, dVar_e, dOwn_e, dOp_e, dUn_e, dNil_e, dCons_e, dTup_e, dLst_e, dCB_e, dCall_e, dCallB_e, dSeq_e, dNext_e, dBreak_e, dCont_e, dDrop_e, dRet_e, dRetN_e, dIfS_e, dSet_e, dSetO_e, dAug_e, dRaise_e, dApp_e, dAsg_e, dPar_e, dPar3_e, dPar_vvo_e, dgName_e, dgTup_e, dgCons_e, dgNil_e, dTest_e, dAnd_e, dOr_e, dNot_e, dYes_e, dIf_e, dAndV_e, dOrV_e, dNotV_e, dIsi_e, dBits_e, dTuple_e, dSeqI_e, dChain_e, i2_e, i2'_e, u1_e, eqP_int, neP_int, addP_int, addP_tup, addP_lst, lenP_lst, lenP_tup, lenP_scr, absP_int, intP_int, isN_P, notN_P, isB2_P, tuple_lst, sel_t, sel_f, ixP_t0, ixP_t1, ixP_l0, ixP_l1, ixP_own0, ixP_own1, startD, List.map_cons, List.map_nil, List.length_cons, List.length_nil, List.cons_append, List.nil_append, List.getElem?_cons_zero, List.getElem?_cons_succ, List.set_cons_zero, List.set_cons_succ, Nat.reduceAdd, Nat.reduceSub, List.replicate_succ, List.replicate_zero, Option.some.injEq]
    refine ⟨b, 10, rfl, hb, by decide, by decide, fun j b1 hb1 hj => ?_⟩
    have hz : ∃ m : Int, ([.int 2, .int 3, .int 5, .int 7, .int 4, .int 9, .int 25, .int 11, .int 1, .int 997] : List PD.D)[j]? = some (.int m) ∧ 1 ≤ m ∧ m ≤ 1000 := by
      have : j = 0 ∨ j = 1 ∨ j = 2 ∨ j = 3 ∨ j = 4 ∨ j = 5 ∨ j = 6 ∨ j = 7 ∨ j = 8 ∨ j = 9 := by omega
      rcases this with rfl | rfl | rfl | rfl | rfl | rfl | rfl | rfl | rfl | rfl <;> exact ⟨_, rfl, by decide, by decide⟩
    obtain ⟨m, hz, m1, m2⟩ := hz
    dsimp only
    rw [ixP_lst hz]
    simp only [dC_e, dVar_e, dOwn_e, dOp_e, dUn_e, dNil_e, dCons_e, dTup_e, dLst_e, dCB_e, dCall_e, dCallB_e, dSeq_e, dNext_e, dBreak_e, dCont_e, dDrop_e, dRet_e, dRetN_e, dIfS_e, dSet_e, dSetO_e, dAug_e, dRaise_e, dApp_e, dAsg_e, dPar_e, dPar3_e, dPar_vvo_e, dgName_e, dgTup_e, dgCons_e, dgNil_e, dTest_e, dAnd_e, dOr_e, dNot_e, dYes_e, dIf_e, dAndV_e, dOrV_e, dNotV_e, dIsi_e, dBits_e, dTuple_e, dSeqI_e, dChain_e, i2_e, i2'_e, u1_e, eqP_int, neP_int, addP_int, addP_tup, addP_lst, lenP_lst, lenP_tup, lenP_scr, absP_int, intP_int, isN_P, notN_P, isB2_P, tuple_lst, sel_t, sel_f, ixP_t0, ixP_t1, ixP_l0, ixP_l1, ixP_own0, ixP_own1, startD, List.map_cons, List.map_nil, List.length_cons, List.length_nil, List.cons_append, List.nil_append, List.getElem?_cons_zero, List.getElem?_cons_succ, List.set_cons_zero, List.set_cons_succ, Nat.reduceAdd, Nat.reduceSub, List.replicate_succ, List.replicate_zero, Option.some.injEq]
    refine ⟨mulOk (by omega) (by omega), sel_of (fun h => ?_) (fun h => ?_)⟩
    · refine ⟨mulOk (by omega) (by omega), b1, t * m, _, _, hb1, Int.mul_pos t1 m1, of_decide_eq_true h, rfl⟩
    · exact ⟨b1, t, _, _, hb1, t1, t2, rfl⟩
  · rintro ρ2 ⟨b, t, y, z, hb, t1, t2, rfl⟩
    simp only [dC_e, dVar_e, dOwn_e, dOp_e, dUn_e, dNil_e, dCons_e, dTup_e, dLst_e, dCB_e, dCall_e, dCallB_e, dSeq_e, dNext_e, dBreak_e, dCont_e, dDrop_e, dRet_e, dRetN_e, dIfS_e, dSet_e, dSetO_e, dAug_e, dRaise_e, dApp_e, dAsg_e, dPar_e, dPar3_e, dPar_vvo_e, dgName_e, dgTup_e, dgCons_e, dgNil_e, dTest_e, dAnd_e, dOr_e, dNot_e, dYes_e, dIf_e, dAndV_e, dOrV_e, dNotV_e, dIsi_e, dBits_e, dTuple_e, dSeqI_e, dChain_e, i2_e, i2'_e, u1_e, eqP_int, neP_int, addP_int, addP_tup, addP_lst, lenP_lst, lenP_tup, lenP_scr, absP_int, intP_int, isN_P, notN_P, isB2_P, tuple_lst, sel_t, sel_f, ixP_t0, ixP_t1, ixP_l0, ixP_l1, ixP_own0, ixP_own1, startD, List.map_cons, List.map_nil, List.length_cons, List.length_nil, List.cons_append, List.nil_append, List.getElem?_cons_zero, List.getElem?_cons_succ, List.set_cons_zero, List.set_cons_succ, Nat.reduceAdd, Nat.reduceSub, List.replicate_succ, List.replicate_zero, Option.some.injEq]
    refine ⟨mulOk ?_ (by omega), b, rfl, trivial, hP _ _ hb (ask hs t1 t2)⟩
    rcases hs with rfl | rfl <;> decide
end K01

end
section
set_option Elab.async false
set_option linter.all false
set_option maxRecDepth 100000
/-! k01: zeros modulo powers -/
namespace K01
open PySem L2 PD NT

theorem for_r1 {a : DE} {n : Int} {j : Nat} {b : DS} {De : DEnds} {ρ : PD.Env} (I : Nat → PD.Env → Prop) (ha : ∀ C : PD.D → PD.Env → Prop, C (.int n) ρ → a ρ C) (hn : -(2 ^ 62) ≤ n ∧ n < 2 ^ 62) (h0 : I 0 ρ)
    (hs : ∀ (i : Nat) (ρ2 : PD.Env) (De' : DEnds), i < n.toNat → I i ρ2 → (∀ ρ, I (i + 1) ρ → De'.nx ρ) → De'.rt = De.rt → b De' (ρ2.set j (some (.int i)))) (hd : ∀ ρ, I n.toNat ρ → De.nx ρ) : dFor (dRange1 a) (dgName j) b De ρ := by
  refine ha _ ⟨hn, I, h0, fun i d ρ2 hi h2 => ?_, fun ρ2 h2 => hd ρ2 ?_⟩
  · obtain ⟨hj, rfl⟩ := rgD_got hi
    rw [show (0 : Int) + (i : Nat) = (i : Int) by omega]
    exact hs i ρ2 _ hj h2 (fun _ h => h) rfl
  · have : (rgD 0 n.toNat).length = n.toNat := by unfold rgD; rw [List.length_map, List.length_range]
    rw [this] at h2
    exact h2
theorem getA_map {α β : Type} (f : α → β) : ∀ (ks : List Int) (xs : List α) (t : Int), getA ks (xs.map f) t = (getA ks xs t).map f
  | [], xs, t => by cases xs <;> rfl
  | k :: ks, [], t => rfl
  | k :: ks, x :: xs, t => by
    rw [List.map_cons, getA, getA]
    by_cases h : k = t
    · rw [if_pos h, if_pos h]; rfl
    · rw [if_neg h, if_neg h]; exact getA_map f ks xs t
theorem putV_map {α β : Type} (f : α → β) (i : Int) (y : α) : ∀ (ks : List Int) (xs : List α), putV i (f y) ks (xs.map f) = (putV i y ks xs).map f
  | [], xs => by cases xs <;> rfl
  | k :: ks, [] => rfl
  | k :: ks, x :: xs => by
    rw [List.map_cons, putV, putV, List.map_cons, putV_map f i y ks xs]
    congr 1
    split <;> rfl
theorem putL_map {α β : Type} (f : α → β) (i : Int) (y : α) (ks : List Int) (xs : List α) : putL ks (xs.map f) i (f y) = (putL ks xs i y).map f := by
  unfold putL
  split
  · exact putV_map f i y ks xs
  · simp
theorem getA_snoc {α : Type} {i : Int} {y : α} {t : Int} : ∀ {ks : List Int} {xs : List α}, ks.length = xs.length → i ∉ ks → getA (ks ++ [i]) (xs ++ [y]) t = if t = i then some y else getA ks xs t
  | [], [], _, _ => by
    show getA [i] [y] t = _
    rw [getA]
    by_cases h : t = i
    · rw [if_pos h.symm, if_pos h]
    · rw [if_neg fun z => h z.symm, if_neg h]
  | k :: ks, x :: xs, h, hn => by
    rw [List.cons_append, List.cons_append, getA, getA, getA_snoc (by simpa using h) fun z => hn (List.mem_cons_of_mem _ z)]
    by_cases e : k = t
    · have : ¬ t = i := fun z => hn (by rw [← z, e]; exact List.mem_cons_self)
      rw [if_pos e, if_neg this, if_pos e]
    · rw [if_neg e, if_neg e]
theorem getA_putV {α : Type} {i : Int} {y : α} {t : Int} : ∀ {ks : List Int} {xs : List α}, ks.length = xs.length → i ∈ ks → getA ks (putV i y ks xs) t = if t = i then some y else getA ks xs t
  | [], [], _, hn => nomatch hn
  | k :: ks, x :: xs, h, hn => by
    rw [putV, getA, getA]
    by_cases e : k = t
    · rw [if_pos e, if_pos e]
      by_cases e2 : k = i
      · rw [if_pos e2, if_pos (e.symm.trans e2)]
      · rw [if_neg e2, if_neg fun z => e2 (e.trans z)]
    · rw [if_neg e, if_neg e]
      by_cases e3 : i ∈ ks
      · exact getA_putV (by simpa using h) e3
      · have hi : i = k := by
          rcases List.mem_cons.mp hn with z | z
          · exact z
          · exact absurd z e3
        have e4 : ¬ t = i := fun z => e (hi.symm.trans z.symm)
        rw [if_neg e4]
        have same : ∀ (ks : List Int) (xs : List α), i ∉ ks → ks.length = xs.length → putV i y ks xs = xs := by
          intro ks
          induction ks with
          | nil => intro xs _ hl; cases xs with
            | nil => rfl
            | cons _ _ => cases hl
          | cons k' ks ih =>
            intro xs hn hl
            cases xs with
            | nil => rfl
            | cons x' xs =>
              rw [putV, if_neg (fun z => hn (by rw [z]; exact List.mem_cons_self)), ih xs (fun z => hn (List.mem_cons_of_mem _ z)) (by simpa using hl)]
        rw [same ks xs e3 (by simpa using h)]
theorem getA_put {α : Type} {i : Int} {y : α} {t : Int} {ks : List Int} {xs : List α} (h : ks.length = xs.length) : getA (putK' ks i) (putL ks xs i y) t = if t = i then some y else getA ks xs t := by
  unfold putK' putL
  by_cases e : i ∈ ks
  · rw [if_pos e, if_pos e]; exact getA_putV h e
  · rw [if_neg e, if_neg e]; exact getA_snoc h e
/-- what stands at t in the dict of squares after i turns -/
def sqF (p N i : Nat) (t : Int) : Option Bool := if anyN i (fun z => decide (((z * z % N : Nat) : Int) = t)) then some (anyN i (fun z => decide (((z * z % N : Nat) : Int) = t) && z % p != 0)) else none
theorem sqF_step {p N i : Nat} {t : Int} : sqF p N (i + 1) t = if t = ((i * i % N : Nat) : Int) then some ((sqF p N i t).getD false || i % p != 0) else sqF p N i t := by
  unfold sqF
  rw [anyN, anyN]
  by_cases e : t = ((i * i % N : Nat) : Int)
  · rw [if_pos e, decide_eq_true e.symm, Bool.true_or, if_pos rfl, Bool.true_and]
    congr 1
    cases h : anyN i (fun z => decide (((z * z % N : Nat) : Int) = t)) with
    | true => rw [if_pos rfl, Option.getD_some, Bool.or_comm]
    | false =>
      rw [if_neg Bool.false_ne_true, Option.getD_none, Bool.false_or]
      cases h2 : anyN i (fun z => decide (((z * z % N : Nat) : Int) = t) && z % p != 0) with
      | false => rw [Bool.or_false]
      | true =>
        obtain ⟨z, hz, k⟩ := anyN_iff.mp h2
        rw [Bool.and_eq_true] at k
        rw [anyN_iff.mpr ⟨z, hz, k.1⟩] at h
        cases h
  · rw [if_neg e, decide_eq_false (fun z => e z.symm), Bool.false_or, Bool.false_and, Bool.false_or]
def hitB (p N : Nat) (a b : Int) (x y : Nat) : Bool := match sqF p N N ((a * x * x + b * y * y) % N) with
  | none => false
  | some k => x % p != 0 || (y % p != 0 || k)
theorem hit_solv {p N : Nat} {a b : Int} {x y : Nat} (h : hitB p N a b x y = true) : Solv p N a b := by
  unfold hitB sqF at h
  split at h
  · cases h
  · rename_i k e
    split at e
    · rename_i h1
      have key : ∀ z : Nat, ((z * z % N : Nat) : Int) = (a * x * x + b * y * y) % N → (x % p ≠ 0 ∨ y % p ≠ 0 ∨ z % p ≠ 0) → Solv p N a b := fun z ez hn => by
        refine ⟨x, y, z, ?_, fun ⟨d1, d2, d3⟩ => ?_⟩
        · have e2 : (a * (x * x) + b * (y * y)) % N = ((z * z : Nat) : Int) % N := by
            rw [← Int.natCast_emod, ez, Int.mul_assoc, Int.mul_assoc]
          have d := Int.dvd_of_emod_eq_zero ((Int.emod_eq_emod_iff_emod_sub_eq_zero ..).mp e2)
          simpa using d
        · have f1 := Nat.mod_eq_zero_of_dvd (Int.natCast_dvd_natCast.mp d1)
          have f2 := Nat.mod_eq_zero_of_dvd (Int.natCast_dvd_natCast.mp d2)
          have f3 := Nat.mod_eq_zero_of_dvd (Int.natCast_dvd_natCast.mp d3)
          omega
      rw [Bool.or_eq_true, Bool.or_eq_true] at h
      obtain ⟨z, _, hz⟩ := anyN_iff.mp h1
      rcases h with h | h | h
      · exact key z (of_decide_eq_true hz) (.inl (by simpa using h))
      · exact key z (of_decide_eq_true hz) (.inr (.inl (by simpa using h)))
      · have e := Option.some.inj e
        rw [h] at e
        obtain ⟨z, _, hz⟩ := anyN_iff.mp e
        rw [Bool.and_eq_true] at hz
        exact key z (of_decide_eq_true hz.1) (.inr (.inr (by simpa using hz.2)))
    · cases e
theorem solv_hit {p N : Nat} (hN : 0 < N) (hd : p ∣ N) {a b : Int} (h : Solv p N a b) : ∃ x y : Nat, x < N ∧ y < N ∧ hitB p N a b x y = true := by
  obtain ⟨x, y, z, hx, hy, hz, d, n⟩ := h.small hN hd
  refine ⟨x, y, hx, hy, ?_⟩
  have e2 : ((z * z % N : Nat) : Int) = (a * x * x + b * y * y) % N := by
    rw [Int.natCast_emod, Int.mul_assoc, Int.mul_assoc]
    refine ((Int.emod_eq_emod_iff_emod_sub_eq_zero ..).mpr (Int.emod_eq_zero_of_dvd ?_)).symm
    simpa using d
  unfold hitB sqF
  rw [if_pos (anyN_iff.mpr ⟨z, hz, decide_eq_true e2⟩)]
  show (x % p != 0 || (y % p != 0 || _)) = true
  rw [Bool.or_eq_true, Bool.or_eq_true]
  rcases n with n | n | n
  · exact .inl (by simpa using n)
  · exact .inr (.inl (by simpa using n))
  · exact .inr (.inr (anyN_iff.mpr ⟨z, hz, by rw [decide_eq_true e2, Bool.true_and]; simpa using n⟩))
set_option maxHeartbeats 1000000 in
theorem sp__law_solvable : ∀ args P W, args.length = 3 → F__law_solvable args P W → d__law_solvable W ⟨fun _ => P .non, fun d ρ => P (retD ρ d), fun _ => False, fun _ => False⟩ (startD 9 args) := by
  rintro args P W _ ⟨a, b, p, rfl, ⟨a0, an⟩, ⟨b0, bn⟩, hp, ha, hb, hP⟩
  obtain ⟨N, hN, pN, N0, Nb, iff⟩ : ∃ N : Nat, (p = 2 ∧ N = 32 ∨ p = 3 ∧ N = 27 ∨ p = 5 ∧ N = 125) ∧ p ∣ N ∧ 0 < N ∧ N ≤ 125 ∧ (Solv p N a b ↔ sy p a b = false) := by
    rcases hp with rfl | rfl | rfl
    · exact ⟨32, .inl ⟨rfl, rfl⟩, by decide, by decide, by decide, solv2 a0 b0 (by simpa using ha) (by simpa using hb)⟩
    · exact ⟨27, .inr (.inl ⟨rfl, rfl⟩), by decide, by decide, by decide, solv3 a0 b0 (by simpa using ha) (by simpa using hb)⟩
    · exact ⟨125, .inr (.inr ⟨rfl, rfl⟩), by decide, by decide, by decide, solv5 a0 b0 (by simpa using ha) (by simpa using hb)⟩
  have p2 : 2 ≤ p := by omega
  have p5 : p ≤ 5 := by omega
  have yes : Solv p N a b → P (.bl true) := fun h => by rw [iff.mp h] at hP; exact hP
  have no : ¬ Solv p N a b → P (.bl false) := fun h => by
    have : sy p a b = true := by
      cases e : sy p a b with
      | true => rfl
      | false => exact absurd (iff.mpr e) h
    rw [this] at hP; exact hP
  clear hP iff ha hb
  unfold d__law_solvable
  refine seq_of (fun ρ => ρ = [some (.int a), some (.int b), some (.int p), some (.int N), none, none, none, none, none]) ?_ (fun C hC => ?_)
  rotate_left
  · simp only [dC_e, dVar_e, dOwn_e, dOp_e, dUn_e, dNil_e, dCons_e, dTup_e, dLst_e, dCB_e, dCall_e, dCallB_e, dSeq_e, dNext_e, dBreak_e, dCont_e, dDrop_e, dRet_e, dRetN_e, dIfS_e, dSet_e, dSetO_e, dAug_e, dRaise_e, dApp_e, dAsg_e, dPar_e, dPar3_e, dPar_vvo_e, dgName_e, dgTup_e, dgCons_e, dgNil_e, dTest_e, dAnd_e, dOr_e, dNot_e, dYes_e, dIf_e, dAndV_e, dOrV_e, dNotV_e, dIsi_e, dBits_e, dTuple_e, dSeqI_e, dChain_e, i2_e, i2'_e, u1_e, eqP_int, neP_int, addP_int, addP_tup, addP_lst, lenP_lst, lenP_tup, lenP_scr, absP_int, intP_int, isN_P, notN_P, isB2_P, tuple_lst, sel_t, sel_f, ixP_t0, ixP_t1, ixP_l0, ixP_l1, ixP_own0, ixP_own1, startD, List.map_cons, List.map_nil, List.length_cons, List.length_nil, List.cons_append, List.nil_append, List.getElem?_cons_zero, List.getElem?_cons_succ, List.set_cons_zero, List.set_cons_succ, Nat.reduceAdd, Nat.reduceSub, List.replicate_succ, List.replicate_zero, Option.some.injEq, dIdx]
    refine ⟨[2, 3, 5], rfl, ?_, ?_⟩
    · rcases hp with rfl | rfl | rfl <;> decide
    · rcases hN with ⟨rfl, rfl⟩ | ⟨rfl, rfl⟩ | ⟨rfl, rfl⟩
      · rw [ixP_lst (z := .int 32) rfl]; exact hC _ rfl
      · rw [ixP_lst (z := .int 27) rfl]; exact hC _ rfl
      · rw [ixP_lst (z := .int 125) rfl]; exact hC _ rfl
  clear hN
  rintro ρ rfl
  refine seq_of (fun ρ => ρ = [some (.int a), some (.int b), some (.int p), some (.int N), some (.dct [] []), none, none, none, none]) ?_ (fun C hC => ?_)
  rotate_left
  · simp only [dC_e, dVar_e, dOwn_e, dOp_e, dUn_e, dNil_e, dCons_e, dTup_e, dLst_e, dCB_e, dCall_e, dCallB_e, dSeq_e, dNext_e, dBreak_e, dCont_e, dDrop_e, dRet_e, dRetN_e, dIfS_e, dSet_e, dSetO_e, dAug_e, dRaise_e, dApp_e, dAsg_e, dPar_e, dPar3_e, dPar_vvo_e, dgName_e, dgTup_e, dgCons_e, dgNil_e, dTest_e, dAnd_e, dOr_e, dNot_e, dYes_e, dIf_e, dAndV_e, dOrV_e, dNotV_e, dIsi_e, dBits_e, dTuple_e, dSeqI_e, dChain_e, i2_e, i2'_e, u1_e, eqP_int, neP_int, addP_int, addP_tup, addP_lst, lenP_lst, lenP_tup, lenP_scr, absP_int, intP_int, isN_P, notN_P, isB2_P, tuple_lst, sel_t, sel_f, ixP_t0, ixP_t1, ixP_l0, ixP_l1, ixP_own0, ixP_own1, startD, List.map_cons, List.map_nil, List.length_cons, List.length_nil, List.cons_append, List.nil_append, List.getElem?_cons_zero, List.getElem?_cons_succ, List.set_cons_zero, List.set_cons_succ, Nat.reduceAdd, Nat.reduceSub, List.replicate_succ, List.replicate_zero, Option.some.injEq, dDNew]
    exact ⟨by decide, hC _ rfl⟩
  rintro ρ rfl
  let Sq : Nat → PD.Env → Prop := fun i ρ => ∃ (ks : List Int) (bs : List Bool) (z : Option PD.D), ks.length = bs.length ∧ ks.length ≤ i ∧ (∀ t, getA ks bs t = sqF p N i t) ∧ ρ = [some (.int a), some (.int b), some (.int p), some (.int N), some (.dct ks (bs.map .bl)), z, none, none, none]
  refine seq_of (Sq N) ?_ (fun C hC => ?_)
  rotate_left
  · refine for_r1 Sq (n := N) (fun C h => by simp only [dC_e, dVar_e, dOwn_e, dOp_e, dUn_e, dNil_e, dCons_e, dTup_e, dLst_e, dCB_e, dCall_e, dCallB_e, dSeq_e, dNext_e, dBreak_e, dCont_e, dDrop_e, dRet_e, dRetN_e, dIfS_e, dSet_e, dSetO_e, dAug_e, dRaise_e, dApp_e, dAsg_e, dPar_e, dPar3_e, dPar_vvo_e, dgName_e, dgTup_e, dgCons_e, dgNil_e, dTest_e, dAnd_e, dOr_e, dNot_e, dYes_e, dIf_e, dAndV_e, dOrV_e, dNotV_e, dIsi_e, dBits_e, dTuple_e, dSeqI_e, dChain_e, i2_e, i2'_e, u1_e, eqP_int, neP_int, addP_int, addP_tup, addP_lst, lenP_lst, lenP_tup, lenP_scr, absP_int, intP_int, isN_P, notN_P, isB2_P, tuple_lst, sel_t, sel_f, ixP_t0, ixP_t1, ixP_l0, ixP_l1, ixP_own0, ixP_own1, startD, List.map_cons, List.map_nil, List.length_cons, List.length_nil, List.cons_append, List.nil_append, List.getElem?_cons_zero, List.getElem?_cons_succ, List.set_cons_zero, List.set_cons_succ, Nat.reduceAdd, Nat.reduceSub, List.replicate_succ, List.replicate_zero, Option.some.injEq]; exact h) (by omega) ⟨[], [], none, rfl, Nat.le_refl _, fun t => rfl, rfl⟩ ?_ fun ρ h => hC ρ (by simpa using h)
    rintro i ρ2 De' hi ⟨ks, bs, z, h1, h2, h3, rfl⟩ hn _
    have iN : i < N := by omega
    have es : ((i : Int) * (i : Int)) % (N : Int) = ((i * i % N : Nat) : Int) := by simp
    simp only [dC_e, dVar_e, dOwn_e, dOp_e, dUn_e, dNil_e, dCons_e, dTup_e, dLst_e, dCB_e, dCall_e, dCallB_e, dSeq_e, dNext_e, dBreak_e, dCont_e, dDrop_e, dRet_e, dRetN_e, dIfS_e, dSet_e, dSetO_e, dAug_e, dRaise_e, dApp_e, dAsg_e, dPar_e, dPar3_e, dPar_vvo_e, dgName_e, dgTup_e, dgCons_e, dgNil_e, dTest_e, dAnd_e, dOr_e, dNot_e, dYes_e, dIf_e, dAndV_e, dOrV_e, dNotV_e, dIsi_e, dBits_e, dTuple_e, dSeqI_e, dChain_e, i2_e, i2'_e, u1_e, eqP_int, neP_int, addP_int, addP_tup, addP_lst, lenP_lst, lenP_tup, lenP_scr, absP_int, intP_int, isN_P, notN_P, isB2_P, tuple_lst, sel_t, sel_f, ixP_t0, ixP_t1, ixP_l0, ixP_l1, ixP_own0, ixP_own1, startD, List.map_cons, List.map_nil, List.length_cons, List.length_nil, List.cons_append, List.nil_append, List.getElem?_cons_zero, List.getElem?_cons_succ, List.set_cons_zero, List.set_cons_succ, Nat.reduceAdd, Nat.reduceSub, List.replicate_succ, List.replicate_zero, Option.some.injEq, dDPut, dDGet2]
    refine ⟨mulOk (by omega) (by omega), by omega, ?_⟩
    rw [es, getA_map, h3]
    have fin : ∀ v : Bool, v = ((sqF p N i ((i * i % N : Nat) : Int)).getD false || i % p != 0) → PD.MulOk (i : Int) (i : Int) ∧ (0 : Int) < N ∧ ks.length < sizeLine ∧ De'.nx ([some (.int a), some (.int b), some (.int p), some (.int N), some (.dct (putK' ks ((i : Int) * i % N)) (putL ks (bs.map .bl) ((i : Int) * i % N) (.bl v))), some (.int i), none, none, none]) := by
      intro v hv
      refine ⟨mulOk (by omega) (by omega), by omega, by have := big_size; omega, ?_⟩
      rw [es]
      refine hn _ ⟨putK' ks ((i * i % N : Nat) : Int), putL ks bs ((i * i % N : Nat) : Int) v, some (.int i), put_len h1 _ _, ?_, fun t => ?_, ?_⟩
      · have := putK_len (ks := ks) (i := ((i * i % N : Nat) : Int))
        omega
      · rw [getA_put h1, sqF_step, h3 t]
        by_cases e : t = ((i * i % N : Nat) : Int)
        · rw [if_pos e, if_pos e, hv, ← e]
        · rw [if_neg e, if_neg e]
      · rw [putL_map PD.D.bl]
    have ev : decide ((i : Int) % (p : Int) = 0) = !(i % p != 0) := by
      have : ((i : Int) % (p : Int) = 0) ↔ i % p = 0 := by
        rw [← Int.natCast_emod]; omega
      by_cases z : i % p = 0
      · rw [decide_eq_true (this.mpr z)]; simp [z]
      · rw [decide_eq_false fun q => z (this.mp q)]; simp [z]
    cases e : sqF p N i ((i * i % N : Nat) : Int) with
    | none =>
      rw [e] at fin
      simp only [dC_e, dVar_e, dOwn_e, dOp_e, dUn_e, dNil_e, dCons_e, dTup_e, dLst_e, dCB_e, dCall_e, dCallB_e, dSeq_e, dNext_e, dBreak_e, dCont_e, dDrop_e, dRet_e, dRetN_e, dIfS_e, dSet_e, dSetO_e, dAug_e, dRaise_e, dApp_e, dAsg_e, dPar_e, dPar3_e, dPar_vvo_e, dgName_e, dgTup_e, dgCons_e, dgNil_e, dTest_e, dAnd_e, dOr_e, dNot_e, dYes_e, dIf_e, dAndV_e, dOrV_e, dNotV_e, dIsi_e, dBits_e, dTuple_e, dSeqI_e, dChain_e, i2_e, i2'_e, u1_e, eqP_int, neP_int, addP_int, addP_tup, addP_lst, lenP_lst, lenP_tup, lenP_scr, absP_int, intP_int, isN_P, notN_P, isB2_P, tuple_lst, sel_t, sel_f, ixP_t0, ixP_t1, ixP_l0, ixP_l1, ixP_own0, ixP_own1, startD, List.map_cons, List.map_nil, List.length_cons, List.length_nil, List.cons_append, List.nil_append, List.getElem?_cons_zero, List.getElem?_cons_succ, List.set_cons_zero, List.set_cons_succ, Nat.reduceAdd, Nat.reduceSub, List.replicate_succ, List.replicate_zero, Option.some.injEq, Option.map_none, Option.getD_none]
      refine ⟨by omega, ?_⟩
      rw [ev, Bool.not_not]
      exact fin _ rfl
    | some k =>
      rw [e] at fin
      simp only [dC_e, dVar_e, dOwn_e, dOp_e, dUn_e, dNil_e, dCons_e, dTup_e, dLst_e, dCB_e, dCall_e, dCallB_e, dSeq_e, dNext_e, dBreak_e, dCont_e, dDrop_e, dRet_e, dRetN_e, dIfS_e, dSet_e, dSetO_e, dAug_e, dRaise_e, dApp_e, dAsg_e, dPar_e, dPar3_e, dPar_vvo_e, dgName_e, dgTup_e, dgCons_e, dgNil_e, dTest_e, dAnd_e, dOr_e, dNot_e, dYes_e, dIf_e, dAndV_e, dOrV_e, dNotV_e, dIsi_e, dBits_e, dTuple_e, dSeqI_e, dChain_e, i2_e, i2'_e, u1_e, eqP_int, neP_int, addP_int, addP_tup, addP_lst, lenP_lst, lenP_tup, lenP_scr, absP_int, intP_int, isN_P, notN_P, isB2_P, tuple_lst, sel_t, sel_f, ixP_t0, ixP_t1, ixP_l0, ixP_l1, ixP_own0, ixP_own1, startD, List.map_cons, List.map_nil, List.length_cons, List.length_nil, List.cons_append, List.nil_append, List.getElem?_cons_zero, List.getElem?_cons_succ, List.set_cons_zero, List.set_cons_succ, Nat.reduceAdd, Nat.reduceSub, List.replicate_succ, List.replicate_zero, Option.some.injEq, Option.map_some, Option.getD_some]
      cases k with
      | true => exact fin true rfl
      | false =>
        simp only [dC_e, dVar_e, dOwn_e, dOp_e, dUn_e, dNil_e, dCons_e, dTup_e, dLst_e, dCB_e, dCall_e, dCallB_e, dSeq_e, dNext_e, dBreak_e, dCont_e, dDrop_e, dRet_e, dRetN_e, dIfS_e, dSet_e, dSetO_e, dAug_e, dRaise_e, dApp_e, dAsg_e, dPar_e, dPar3_e, dPar_vvo_e, dgName_e, dgTup_e, dgCons_e, dgNil_e, dTest_e, dAnd_e, dOr_e, dNot_e, dYes_e, dIf_e, dAndV_e, dOrV_e, dNotV_e, dIsi_e, dBits_e, dTuple_e, dSeqI_e, dChain_e, i2_e, i2'_e, u1_e, eqP_int, neP_int, addP_int, addP_tup, addP_lst, lenP_lst, lenP_tup, lenP_scr, absP_int, intP_int, isN_P, notN_P, isB2_P, tuple_lst, sel_t, sel_f, ixP_t0, ixP_t1, ixP_l0, ixP_l1, ixP_own0, ixP_own1, startD, List.map_cons, List.map_nil, List.length_cons, List.length_nil, List.cons_append, List.nil_append, List.getElem?_cons_zero, List.getElem?_cons_succ, List.set_cons_zero, List.set_cons_succ, Nat.reduceAdd, Nat.reduceSub, List.replicate_succ, List.replicate_zero, Option.some.injEq]
        refine ⟨by omega, ?_⟩
        rw [ev, Bool.not_not]
        exact fin _ rfl
  rintro ρ ⟨ks, bs, z, h1, h2, h3, rfl⟩
  -- the search
  let R : Nat → Nat → PD.Env → Prop := fun i j ρ => (∀ x y, x < i → y < N → hitB p N a b x y = false) ∧ (∀ y, y < j → hitB p N a b i y = false) ∧ ∃ x y r : Option PD.D, ρ = [some (.int a), some (.int b), some (.int p), some (.int N), some (.dct ks (bs.map .bl)), z, x, y, r]
  refine seq_of (R N 0) ?_ (fun C hC => ?_)
  · rintro ρ ⟨k1, k2, _⟩
    simp only [dC_e, dVar_e, dOwn_e, dOp_e, dUn_e, dNil_e, dCons_e, dTup_e, dLst_e, dCB_e, dCall_e, dCallB_e, dSeq_e, dNext_e, dBreak_e, dCont_e, dDrop_e, dRet_e, dRetN_e, dIfS_e, dSet_e, dSetO_e, dAug_e, dRaise_e, dApp_e, dAsg_e, dPar_e, dPar3_e, dPar_vvo_e, dgName_e, dgTup_e, dgCons_e, dgNil_e, dTest_e, dAnd_e, dOr_e, dNot_e, dYes_e, dIf_e, dAndV_e, dOrV_e, dNotV_e, dIsi_e, dBits_e, dTuple_e, dSeqI_e, dChain_e, i2_e, i2'_e, u1_e, eqP_int, neP_int, addP_int, addP_tup, addP_lst, lenP_lst, lenP_tup, lenP_scr, absP_int, intP_int, isN_P, notN_P, isB2_P, tuple_lst, sel_t, sel_f, ixP_t0, ixP_t1, ixP_l0, ixP_l1, ixP_own0, ixP_own1, startD, List.map_cons, List.map_nil, List.length_cons, List.length_nil, List.cons_append, List.nil_append, List.getElem?_cons_zero, List.getElem?_cons_succ, List.set_cons_zero, List.set_cons_succ, Nat.reduceAdd, Nat.reduceSub, List.replicate_succ, List.replicate_zero, Option.some.injEq]
    refine no fun hs => ?_
    obtain ⟨x, y, hx, hy, hh⟩ := solv_hit N0 pN hs
    rw [k1 x y hx hy] at hh
    cases hh
  · refine for_r1 (fun i => R i 0) (n := N) (fun C h => by simp only [dC_e, dVar_e, dOwn_e, dOp_e, dUn_e, dNil_e, dCons_e, dTup_e, dLst_e, dCB_e, dCall_e, dCallB_e, dSeq_e, dNext_e, dBreak_e, dCont_e, dDrop_e, dRet_e, dRetN_e, dIfS_e, dSet_e, dSetO_e, dAug_e, dRaise_e, dApp_e, dAsg_e, dPar_e, dPar3_e, dPar_vvo_e, dgName_e, dgTup_e, dgCons_e, dgNil_e, dTest_e, dAnd_e, dOr_e, dNot_e, dYes_e, dIf_e, dAndV_e, dOrV_e, dNotV_e, dIsi_e, dBits_e, dTuple_e, dSeqI_e, dChain_e, i2_e, i2'_e, u1_e, eqP_int, neP_int, addP_int, addP_tup, addP_lst, lenP_lst, lenP_tup, lenP_scr, absP_int, intP_int, isN_P, notN_P, isB2_P, tuple_lst, sel_t, sel_f, ixP_t0, ixP_t1, ixP_l0, ixP_l1, ixP_own0, ixP_own1, startD, List.map_cons, List.map_nil, List.length_cons, List.length_nil, List.cons_append, List.nil_append, List.getElem?_cons_zero, List.getElem?_cons_succ, List.set_cons_zero, List.set_cons_succ, Nat.reduceAdd, Nat.reduceSub, List.replicate_succ, List.replicate_zero, Option.some.injEq]; exact h) (by omega) ⟨fun x y hx => by omega, fun y hy => by omega, none, none, none, rfl⟩ ?_ fun ρ h => hC ρ (by simpa using h)
    rintro i ρ2 De' hi ⟨k1, _, x, y, r, rfl⟩ hn hr
    have iN : i < N := by omega
    refine for_r1 (fun j ρ => (∀ y, y < j → hitB p N a b i y = false) ∧ ∃ y r : Option PD.D, ρ = [some (.int a), some (.int b), some (.int p), some (.int N), some (.dct ks (bs.map .bl)), z, some (.int i), y, r]) (n := N) (fun C h => by simp only [dC_e, dVar_e, dOwn_e, dOp_e, dUn_e, dNil_e, dCons_e, dTup_e, dLst_e, dCB_e, dCall_e, dCallB_e, dSeq_e, dNext_e, dBreak_e, dCont_e, dDrop_e, dRet_e, dRetN_e, dIfS_e, dSet_e, dSetO_e, dAug_e, dRaise_e, dApp_e, dAsg_e, dPar_e, dPar3_e, dPar_vvo_e, dgName_e, dgTup_e, dgCons_e, dgNil_e, dTest_e, dAnd_e, dOr_e, dNot_e, dYes_e, dIf_e, dAndV_e, dOrV_e, dNotV_e, dIsi_e, dBits_e, dTuple_e, dSeqI_e, dChain_e, i2_e, i2'_e, u1_e, eqP_int, neP_int, addP_int, addP_tup, addP_lst, lenP_lst, lenP_tup, lenP_scr, absP_int, intP_int, isN_P, notN_P, isB2_P, tuple_lst, sel_t, sel_f, ixP_t0, ixP_t1, ixP_l0, ixP_l1, ixP_own0, ixP_own1, startD, List.map_cons, List.map_nil, List.length_cons, List.length_nil, List.cons_append, List.nil_append, List.getElem?_cons_zero, List.getElem?_cons_succ, List.set_cons_zero, List.set_cons_succ, Nat.reduceAdd, Nat.reduceSub, List.replicate_succ, List.replicate_zero, Option.some.injEq]; exact h) (by omega) ⟨fun y hy => by omega, y, r, rfl⟩ ?_ ?_
    · rintro j ρ3 De'' hj ⟨k2, y, r, rfl⟩ hn2 hr2
      have jN : j < N := by omega
      have bb : ∀ {u : Int} {v w : Nat}, u.natAbs ≤ 1000000 → v ≤ 125 → w ≤ 125 → (u * v).natAbs < 2 ^ 100 := fun {u v w} h1 h2 h3 => by
        rw [Int.natAbs_mul]
        have := Nat.mul_le_mul h1 h2
        have e : (v : Int).natAbs = v := rfl
        rw [e]
        omega
      simp only [dC_e, dVar_e, dOwn_e, dOp_e, dUn_e, dNil_e, dCons_e, dTup_e, dLst_e, dCB_e, dCall_e, dCallB_e, dSeq_e, dNext_e, dBreak_e, dCont_e, dDrop_e, dRet_e, dRetN_e, dIfS_e, dSet_e, dSetO_e, dAug_e, dRaise_e, dApp_e, dAsg_e, dPar_e, dPar3_e, dPar_vvo_e, dgName_e, dgTup_e, dgCons_e, dgNil_e, dTest_e, dAnd_e, dOr_e, dNot_e, dYes_e, dIf_e, dAndV_e, dOrV_e, dNotV_e, dIsi_e, dBits_e, dTuple_e, dSeqI_e, dChain_e, i2_e, i2'_e, u1_e, eqP_int, neP_int, addP_int, addP_tup, addP_lst, lenP_lst, lenP_tup, lenP_scr, absP_int, intP_int, isN_P, notN_P, isB2_P, tuple_lst, sel_t, sel_f, ixP_t0, ixP_t1, ixP_l0, ixP_l1, ixP_own0, ixP_own1, startD, List.map_cons, List.map_nil, List.length_cons, List.length_nil, List.cons_append, List.nil_append, List.getElem?_cons_zero, List.getElem?_cons_succ, List.set_cons_zero, List.set_cons_succ, Nat.reduceAdd, Nat.reduceSub, List.replicate_succ, List.replicate_zero, Option.some.injEq, dDIn, dDGet]
      refine ⟨mulOk (by omega) (by omega), mulOk (bb an (w := 1) (show i ≤ 125 by omega) (by decide)) (by omega), mulOk (by omega) (by omega), mulOk (bb bn (w := 1) (show j ≤ 125 by omega) (by decide)) (by omega), by omega, ?_⟩
      rw [getA_map, h3]
      have hit : hitB p N a b i j = match sqF p N N ((a * i * i + b * j * j) % N) with
        | none => false
        | some k => i % p != 0 || (j % p != 0 || k) := rfl
      have go : hitB p N a b i j = true → De''.rt (.bl true) [some (.int a), some (.int b), some (.int p), some (.int N), some (.dct ks (bs.map .bl)), z, some (.int i), some (.int j), some (.int ((a * i * i + b * j * j) % N))] := fun h => by
        rw [hr2, hr]
        exact yes (hit_solv h)
      have next : hitB p N a b i j = false → De''.nx [some (.int a), some (.int b), some (.int p), some (.int N), some (.dct ks (bs.map .bl)), z, some (.int i), some (.int j), some (.int ((a * i * i + b * j * j) % N))] := fun h => by
        refine hn2 _ ⟨fun y hy => ?_, _, _, rfl⟩
        by_cases e : y = j
        · rw [e]; exact h
        · exact k2 y (by omega)
      have ev : ∀ i : Nat, decide ((i : Int) % (p : Int) = 0) = !(i % p != 0) := fun i => by
        have : ((i : Int) % (p : Int) = 0) ↔ i % p = 0 := by
          rw [← Int.natCast_emod]; omega
        by_cases z : i % p = 0
        · rw [decide_eq_true (this.mpr z)]; simp [z]
        · rw [decide_eq_false fun q => z (this.mp q)]; simp [z]
      cases e : sqF p N N ((a * i * i + b * j * j) % N) with
      | none =>
        rw [e] at hit
        exact next hit
      | some k =>
        rw [e] at hit
        dsimp only at hit
        refine sel_y rfl ?_
        refine ⟨by omega, ?_⟩
        rw [ev, Bool.not_not]
        cases c1 : (i % p != 0) with
        | true => rw [c1] at hit; exact sel_y rfl (go hit)
        | false =>
          rw [c1, Bool.false_or] at hit
          refine sel_n rfl ⟨by omega, ?_⟩
          rw [ev, Bool.not_not]
          cases c2 : (j % p != 0) with
          | true => rw [c2] at hit; exact sel_y rfl (go hit)
          | false =>
            rw [c2, Bool.false_or] at hit
            refine sel_n rfl ?_
            cases k with
            | true => exact go hit
            | false => exact next hit
    · rintro ρ3 ⟨k2, y, r, rfl⟩
      refine hn _ ⟨fun u v hu hv => ?_, fun v hv => by omega, _, _, _, rfl⟩
      by_cases e : u = i
      · rw [e]; exact k2 v (by simpa using hv)
      · exact k1 u v (by omega) hv
end K01

end
section
set_option Elab.async false
set_option linter.all false
set_option maxRecDepth 100000
/-! k01: what hangs together -/
namespace K01
open PySem L2 PD NT

theorem neP_self {ρ : PD.Env} {xs : List PD.D} {k : PD.D → Prop} (o : okN 60 (.tup xs) = true) (h : k (.bl false)) : neP ρ (.tup xs) (.tup xs) k := by
  refine ⟨o, o, ?_⟩
  rw [show deref ρ (.tup xs) = .tup xs from rfl, eqD_refl o]
  exact h
theorem eqP_self {ρ : PD.Env} {xs : List PD.D} {k : PD.D → Prop} (o : okN 60 (.tup xs) = true) (h : k (.bl true)) : eqP ρ (.tup xs) (.tup xs) k := by
  refine ⟨o, o, ?_⟩
  rw [show deref ρ (.tup xs) = .tup xs from rfl, eqD_refl o]
  exact h
theorem neP_bl {ρ : PD.Env} {x y : Bool} {k : PD.D → Prop} (h : k (.bl (!(x == y)))) : neP ρ (.bl x) (.bl y) k := by
  refine ⟨rfl, rfl, ?_⟩
  rw [show deref ρ (.bl x) = .bl x from rfl, show deref ρ (.bl y) = .bl y from rfl, eqD_bl]
  exact h
theorem ok_zero {d : PD.D} (h : okN 59 d = true) : okN 60 (.tup [.int 0, d]) = true := by
  simp only [okN, okNs, h, Bool.and_true]
theorem ok_zi (i : Int) : okN 60 (.tup [.int 0, .int i]) = true := ok_zero (by rw [okN])
theorem ok_zb (i : Bool) : okN 60 (.tup [.int 0, .bl i]) = true := ok_zero (by rw [okN])
theorem rd_int (i : Int) : rdN 4 (.int i) = true := by rw [rdN]
theorem rd_bl (i : Bool) : rdN 4 (.bl i) = true := by rw [rdN]
theorem wipe6 {a0 a1 a2 a3 a4 a5 : Option PD.D} : wipeO (fun i => i == 0) [a0, a1, a2, a3, a4, a5] = [none, a1, a2, a3, a4, a5] := rfl
theorem tn_int {i : Int} (h : i.natAbs < 2 ^ 60) : TryN (.int i) := ⟨⟨rfl, rfl⟩, fun j e => by cases e; exact h⟩
theorem tn_ask {i : Int} (h : Ask i) : TryN (.int i) := tn_int (by have := h.2; omega)
theorem tn_plc {v : Int} (h : Plc v) : TryN (.int v) := tn_int (by
  rcases h with rfl | ⟨p, rfl, _, h⟩
  · decide
  · omega)
theorem bad_i {d : PD.D} {i : Int} {p : Prop} (e : d = .int i) (h : Ask i) (n : okI d = false) : p := by rw [ask_of e h] at n; cases n
theorem okP_of {v : Int} (h : Plc v) (l : v < 100000) : okP (.int v) = true := by
  rw [okP_int]
  rcases h with rfl | ⟨p, rfl, hp, _⟩
  · rfl
  · rw [prB_yes hp, decide_eq_true l, Bool.true_and, Bool.or_true]
/-! ### laws of the symbol -/
theorem syV_comm (v a b : Int) : syV v a b = syV v b a := by
  unfold syV sneg
  split
  · rw [Bool.and_comm]
  · exact sy_comm ..
theorem syV_mul {v a a' b : Int} (hv : Plc v) (ha : a ≠ 0) (ha' : a' ≠ 0) (hb : b ≠ 0) : syV v (a * a') b = (syV v a b ^^ syV v a' b) := by
  rcases hv with rfl | ⟨p, rfl, hp, _⟩
  · exact sneg_mul ha ha'
  · rw [syV_p hp, syV_p hp, syV_p hp]; exact sy_mul hp ha ha' hb
theorem pv_min {p : Nat} {a : Int} {i : Nat} {s : Int} (h : Pv p a i s) : Pv p (-a) i (-s) := by
  obtain ⟨e, n⟩ := h
  exact ⟨by rw [e]; grind, fun d => n (by have := Int.dvd_neg.mpr d; rwa [Int.neg_neg] at this)⟩
theorem syV_self {v a : Int} (hv : Plc v) (ha : a ≠ 0) : syV v a (-a) = false := by
  rcases hv with rfl | ⟨p, rfl, hp, _⟩
  · unfold syV sneg
    rw [if_pos rfl]
    by_cases h : a < 0
    · rw [decide_eq_false (show ¬ -a < 0 by omega), Bool.and_false]
    · rw [decide_eq_false h, Bool.false_and]
  · rw [syV_p hp]
    have k := vl_spec hp ha
    rw [sy_is hp ha (by omega) k (pv_min k)]
    generalize vl p a = i at *
    generalize un p a = s at *
    unfold hsym
    by_cases h : p = 2
    · subst h
      rw [if_pos rfl]
      have os := odd_of k.2
      have e1 : (e4 s && e4 (-s)) = false := by
        unfold e4
        by_cases z : s % 4 = 3
        · rw [decide_eq_false (show ¬ -s % 4 = 3 by omega), Bool.and_false]
        · rw [decide_eq_false z, Bool.false_and]
      have e2 : w8 (-s) = w8 s := by
        unfold w8
        exact decide_eq_decide.mpr (by omega)
      rw [e1, e2, Bool.false_xor, Bool.xor_self]
    · rw [if_neg h]
      have hh := half hp h
      have e1 : nr p (-s) = (nr p (-1) ^^ nr p s) := by
        have := nr_mul hp hh (s := -1) (t := s) (fun d => by
          have := Int.natAbs_dvd_natAbs.mpr d
          have := Nat.le_of_dvd (by decide) this
          have := hp.1
          omega) k.2
        rw [← this]; congr 1; omega
      rw [e1, nr_neg hp hh]
      cases od i <;> cases nr p s <;> cases decide (p % 4 = 3) <;> rfl
theorem sp__law_right : ∀ bx args P W, args.length + 1 = 5 → F__law_right (bx :: args) P W → d__law_right W ⟨fun ρ => ∃ b, ρ[0]? = some (some b) ∧ P .non b, fun d ρ => ∃ b, ρ[0]? = some (some b) ∧ NotOwn d ∧ P d b, fun _ => False, fun _ => False⟩ (startD 6 (bx :: args)) := by
  rintro bx args P W hl ⟨bx', a, b, c, v, e, ha, hb, hc, hv, lv, hP⟩
  cases e
  clear hl
  have sb : ∀ o : Bool, (sB o).natAbs < 2 ^ 100 := fun o => by cases o <;> decide
  have an := ha.big
  have bn := hb.big
  have cn := hc.big
  have a2 := ha.2
  have c2 := hc.2
  have m1 : (a * c).natAbs ≤ 1000000000000 := by
    rw [Int.natAbs_mul]
    exact Nat.mul_le_mul a2 c2
  have m2 : (a * c * c).natAbs ≤ 1000000000000000000 := by
    rw [Int.natAbs_mul]
    exact Nat.mul_le_mul m1 c2
  have n1 : a * c ≠ 0 := Int.mul_ne_zero ha.1 hc.1
  have n2 : a * c * c ≠ 0 := Int.mul_ne_zero n1 hc.1
  have b1 : Big (a * c) := ⟨n1, by omega⟩
  have b2 : Big (a * c * c) := ⟨n2, by omega⟩
  have bm : Big (-a) := ⟨by have := ha.1; omega, by have := an.2; omega⟩
  unfold d__law_right
  refine seq_of (fun ρ => ρ = [some bx, some (.int a), some (.int b), some (.int c), some (.int v), some (.int (sB (syV v a b)))]) ?_ (fun C hC => ?_)
  rotate_left
  · simp only [dC_e, dVar_e, dOwn_e, dOp_e, dUn_e, dNil_e, dCons_e, dTup_e, dLst_e, dCB_e, dCall_e, dCallB_e, dSeq_e, dNext_e, dBreak_e, dCont_e, dDrop_e, dRet_e, dRetN_e, dIfS_e, dSet_e, dSetO_e, dAug_e, dRaise_e, dApp_e, dAsg_e, dPar_e, dPar3_e, dPar_vvo_e, dgName_e, dgTup_e, dgCons_e, dgNil_e, dTest_e, dAnd_e, dOr_e, dNot_e, dYes_e, dIf_e, dAndV_e, dOrV_e, dNotV_e, dIsi_e, dBits_e, dTuple_e, dSeqI_e, dChain_e, i2_e, i2'_e, u1_e, eqP_int, neP_int, addP_int, addP_tup, addP_lst, lenP_lst, lenP_tup, lenP_scr, absP_int, intP_int, isN_P, notN_P, isB2_P, tuple_lst, sel_t, sel_f, ixP_t0, ixP_t1, ixP_l0, ixP_l1, ixP_own0, ixP_own1, startD, List.map_cons, List.map_nil, List.length_cons, List.length_nil, List.cons_append, List.nil_append, List.getElem?_cons_zero, List.getElem?_cons_succ, List.set_cons_zero, List.set_cons_succ, Nat.reduceAdd, Nat.reduceSub, List.replicate_succ, List.replicate_zero, Option.some.injEq]
    exact ⟨a, b, v, rfl, an, bn, hv, hC _ rfl⟩
  rintro ρ rfl
  refine seq_of (fun ρ => ρ = [some bx, some (.int a), some (.int b), some (.int c), some (.int v), some (.int (sB (syV v a b)))]) ?_ (fun C hC => ?_)
  rotate_left
  · simp only [dC_e, dVar_e, dOwn_e, dOp_e, dUn_e, dNil_e, dCons_e, dTup_e, dLst_e, dCB_e, dCall_e, dCallB_e, dSeq_e, dNext_e, dBreak_e, dCont_e, dDrop_e, dRet_e, dRetN_e, dIfS_e, dSet_e, dSetO_e, dAug_e, dRaise_e, dApp_e, dAsg_e, dPar_e, dPar3_e, dPar_vvo_e, dgName_e, dgTup_e, dgCons_e, dgNil_e, dTest_e, dAnd_e, dOr_e, dNot_e, dYes_e, dIf_e, dAndV_e, dOrV_e, dNotV_e, dIsi_e, dBits_e, dTuple_e, dSeqI_e, dChain_e, i2_e, i2'_e, u1_e, eqP_int, neP_int, addP_int, addP_tup, addP_lst, lenP_lst, lenP_tup, lenP_scr, absP_int, intP_int, isN_P, notN_P, isB2_P, tuple_lst, sel_t, sel_f, ixP_t0, ixP_t1, ixP_l0, ixP_l1, ixP_own0, ixP_own1, startD, List.map_cons, List.map_nil, List.length_cons, List.length_nil, List.cons_append, List.nil_append, List.getElem?_cons_zero, List.getElem?_cons_succ, List.set_cons_zero, List.set_cons_succ, Nat.reduceAdd, Nat.reduceSub, List.replicate_succ, List.replicate_zero, Option.some.injEq, dTold, wipe6, u1_e]
    refine ⟨.int a, .int b, .int v, rfl, tn_ask ha, tn_ask hb, tn_plc hv, fun a' b' v' ea eb ev _ _ _ _ => ?_, fun n => ?_⟩
    · cases ea; cases eb; cases ev
      refine ⟨_, rfl, rd_int _, neP_self (ok_zi _) ?_⟩
      refine ⟨b, a, v, rfl, bn, an, hv, ?_⟩
      dsimp only
      rw [neP_int, syV_comm v b a, decide_eq_true rfl]
      refine ⟨a, -a, v, rfl, an, bm, hv, ?_⟩
      dsimp only
      rw [neP_int, syV_self hv ha.1, show sB false = 1 by rfl, decide_eq_true rfl]
      exact hC _ rfl
    · rw [ask_of rfl ha, ask_of rfl hb, okP_of hv lv] at n
      cases n
  rintro ρ rfl
  refine seq_of (fun ρ => ρ = [some bx, some (.int a), some (.int b), some (.int c), some (.int v), some (.int (sB (syV v a b)))]) ?_ (fun C hC => ?_)
  rotate_left
  · simp only [dC_e, dVar_e, dOwn_e, dOp_e, dUn_e, dNil_e, dCons_e, dTup_e, dLst_e, dCB_e, dCall_e, dCallB_e, dSeq_e, dNext_e, dBreak_e, dCont_e, dDrop_e, dRet_e, dRetN_e, dIfS_e, dSet_e, dSetO_e, dAug_e, dRaise_e, dApp_e, dAsg_e, dPar_e, dPar3_e, dPar_vvo_e, dgName_e, dgTup_e, dgCons_e, dgNil_e, dTest_e, dAnd_e, dOr_e, dNot_e, dYes_e, dIf_e, dAndV_e, dOrV_e, dNotV_e, dIsi_e, dBits_e, dTuple_e, dSeqI_e, dChain_e, i2_e, i2'_e, u1_e, eqP_int, neP_int, addP_int, addP_tup, addP_lst, lenP_lst, lenP_tup, lenP_scr, absP_int, intP_int, isN_P, notN_P, isB2_P, tuple_lst, sel_t, sel_f, ixP_t0, ixP_t1, ixP_l0, ixP_l1, ixP_own0, ixP_own1, startD, List.map_cons, List.map_nil, List.length_cons, List.length_nil, List.cons_append, List.nil_append, List.getElem?_cons_zero, List.getElem?_cons_succ, List.set_cons_zero, List.set_cons_succ, Nat.reduceAdd, Nat.reduceSub, List.replicate_succ, List.replicate_zero, Option.some.injEq]
    refine ⟨c, b, v, rfl, cn, bn, hv, ?_⟩
    simp only [dC_e, dVar_e, dOwn_e, dOp_e, dUn_e, dNil_e, dCons_e, dTup_e, dLst_e, dCB_e, dCall_e, dCallB_e, dSeq_e, dNext_e, dBreak_e, dCont_e, dDrop_e, dRet_e, dRetN_e, dIfS_e, dSet_e, dSetO_e, dAug_e, dRaise_e, dApp_e, dAsg_e, dPar_e, dPar3_e, dPar_vvo_e, dgName_e, dgTup_e, dgCons_e, dgNil_e, dTest_e, dAnd_e, dOr_e, dNot_e, dYes_e, dIf_e, dAndV_e, dOrV_e, dNotV_e, dIsi_e, dBits_e, dTuple_e, dSeqI_e, dChain_e, i2_e, i2'_e, u1_e, eqP_int, neP_int, addP_int, addP_tup, addP_lst, lenP_lst, lenP_tup, lenP_scr, absP_int, intP_int, isN_P, notN_P, isB2_P, tuple_lst, sel_t, sel_f, ixP_t0, ixP_t1, ixP_l0, ixP_l1, ixP_own0, ixP_own1, startD, List.map_cons, List.map_nil, List.length_cons, List.length_nil, List.cons_append, List.nil_append, List.getElem?_cons_zero, List.getElem?_cons_succ, List.set_cons_zero, List.set_cons_succ, Nat.reduceAdd, Nat.reduceSub, List.replicate_succ, List.replicate_zero, Option.some.injEq]
    refine ⟨mulOk (sb _) (sb _), mulOk an.2 cn.2, a * c, b, v, rfl, b1, bn, hv, ?_⟩
    dsimp only
    rw [neP_int, syV_mul hv ha.1 hc.1 hb.1, sB_xor, decide_eq_true rfl]
    refine ⟨mulOk an.2 cn.2, mulOk b1.2 cn.2, a * c * c, b, v, rfl, b2, bn, hv, ?_⟩
    dsimp only
    rw [neP_int, syV_mul hv n1 hc.1 hb.1, syV_mul hv ha.1 hc.1 hb.1, Bool.xor_assoc, Bool.xor_self, Bool.xor_false, decide_eq_true rfl]
    exact hC _ rfl
  rintro ρ rfl
  simp only [dC_e, dVar_e, dOwn_e, dOp_e, dUn_e, dNil_e, dCons_e, dTup_e, dLst_e, dCB_e, dCall_e, dCallB_e, dSeq_e, dNext_e, dBreak_e, dCont_e, dDrop_e, dRet_e, dRetN_e, dIfS_e, dSet_e, dSetO_e, dAug_e, dRaise_e, dApp_e, dAsg_e, dPar_e, dPar3_e, dPar_vvo_e, dgName_e, dgTup_e, dgCons_e, dgNil_e, dTest_e, dAnd_e, dOr_e, dNot_e, dYes_e, dIf_e, dAndV_e, dOrV_e, dNotV_e, dIsi_e, dBits_e, dTuple_e, dSeqI_e, dChain_e, i2_e, i2'_e, u1_e, eqP_int, neP_int, addP_int, addP_tup, addP_lst, lenP_lst, lenP_tup, lenP_scr, absP_int, intP_int, isN_P, notN_P, isB2_P, tuple_lst, sel_t, sel_f, ixP_t0, ixP_t1, ixP_l0, ixP_l1, ixP_own0, ixP_own1, startD, List.map_cons, List.map_nil, List.length_cons, List.length_nil, List.cons_append, List.nil_append, List.getElem?_cons_zero, List.getElem?_cons_succ, List.set_cons_zero, List.set_cons_succ, Nat.reduceAdd, Nat.reduceSub, List.replicate_succ, List.replicate_zero, Option.some.injEq, dTold, wipe6]
  refine ⟨.int a, .int v, rfl, tn_ask ha, tn_plc hv, fun a' v' ea ev _ _ _ => ?_, fun n => ?_⟩
  · cases ea; cases ev
    refine ⟨_, rfl, rd_bl _, ?_⟩
    refine ⟨a, v, rfl, an, hv, ?_⟩
    refine eqP_self (ok_zb _) ?_
    exact ⟨bx, rfl, trivial, hP⟩
  · rw [ask_of rfl ha, okP_of hv lv] at n
    cases n
end K01

end
section
set_option Elab.async false
set_option linter.all false
set_option maxRecDepth 100000
/-! k01: the law -/
namespace K01
open PySem L2 PD NT

theorem wipe13 {a0 a1 a2 a3 a4 a5 a6 a7 a8 a9 a10 a11 a12 : Option PD.D} : wipeO (fun i => i == 2) [a0, a1, a2, a3, a4, a5, a6, a7, a8, a9, a10, a11, a12] = [a0, a1, none, a3, a4, a5, a6, a7, a8, a9, a10, a11, a12] := by simp [wipeO]
theorem for_any {di : DI} {g : DG} {b : DS} {De : DEnds} {ρ : PD.Env} (X : PD.D → Prop) (I : PD.Env → Prop)
    (h0 : ∀ C : List PD.D → PD.Env → Prop, (∀ items ρ1, (∀ d ∈ items, X d) → I ρ1 → C items ρ1) → di ρ C)
    (hs : ∀ (d : PD.D) (ρ2 : PD.Env) (De' : DEnds), X d → I ρ2 → (∀ ρ, I ρ → De'.nx ρ) → g d ρ2 (b De')) (hd : ∀ ρ, I ρ → De.nx ρ) : dFor di g b De ρ :=
  h0 _ fun items ρ1 hx h1 => ⟨fun _ => I, h1, fun i d ρ2 hi h2 => hs d ρ2 _ (hx d (List.mem_of_getElem? hi)) h2 fun _ h => h, fun ρ2 h2 => hd ρ2 h2⟩
/-- what holds within a turn -/
structure Tn (a b c : Int) : Prop where
  a : Ask a
  b : Ask b
  c : Ask c
def St (ns : List Int) (t : Nat) (a b c : Int) (ρ : PD.Env) : Prop := ∃ bx x6 x7 x8 x9 x10 x11 x12, BoxOk bx ∧ ρ = [some (.scr ns), some (.int t), some bx, some (.int a), some (.int b), some (.int c), x6, x7, x8, x9, x10, x11, x12]
def StB (ns : List Int) (t : Nat) (a b c : Int) (d : PD.D) (ρ : PD.Env) : Prop := ∃ bx x6 x7 x8 x9 x10 x11, BoxOk bx ∧ ρ = [some (.scr ns), some (.int t), some bx, some (.int a), some (.int b), some (.int c), x6, x7, x8, x9, x10, x11, some d]
theorem StB.st {ns t a b c d ρ} (h : StB ns t a b c d ρ) : St ns t a b c ρ := by
  obtain ⟨bx, x6, x7, x8, x9, x10, x11, hb, e⟩ := h
  exact ⟨bx, x6, x7, x8, x9, x10, x11, _, hb, e⟩
def InvT (ns : List Int) (ρ : PD.Env) : Prop := ∃ x1 x2 x3 x4 x5 x6 x7 x8 x9 x10 x11 x12, ρ = [some (.scr ns), x1, x2, x3, x4, x5, x6, x7, x8, x9, x10, x11, x12]
theorem ok_range : okN 60 (.tup [.int 1, .str "range"]) = true := by
  simp only [okN, okNs, Bool.and_true, Bool.true_and]; decide +kernel
theorem pr2 : Pr 2 := ⟨by decide, fun d hd => by
  have := Nat.le_of_dvd (by decide) hd
  have : d ≠ 0 := fun z => by subst z; exact absurd (Nat.eq_zero_of_zero_dvd hd) (by decide)
  omega⟩
def smallD (n q : Nat) : Bool := anyN q fun d => decide (2 ≤ d) && n % d == 0
theorem pr_of {n q : Nat} (h1 : 1 < n) (hq : n < q * q) (h : smallD n q = false) : Pr n := prime_of h1 hq fun d h2 hd dd => by
  have := (anyN_iff (f := fun d => decide (2 ≤ d) && n % d == 0)).mpr ⟨d, hd, by rw [decide_eq_true h2, Nat.mod_eq_zero_of_dvd dd]; rfl⟩
  unfold smallD at h
  rw [this] at h
  cases h
theorem pr_9 : Pr 99991 := pr_of (q := 317) (by decide) (by decide) (by decide +kernel)
theorem not_pr {n d : Nat} (h : d ∣ n) (h1 : d ≠ 1) (h2 : d ≠ n) : ¬ Pr n := fun hp => (hp.2 d h).elim h1 h2
/-! ### an even number of them -/
theorem xor_par : ∀ l : List Bool, (l.filter id).length % 2 = if xorL l then 1 else 0
  | [] => rfl
  | x :: l => by
    have ih := xor_par l
    cases x with
    | false => rw [List.filter_cons_of_neg (by simp), xorL, Bool.false_xor]; exact ih
    | true =>
      rw [List.filter_cons_of_pos rfl, List.length_cons, xorL]
      cases h : xorL l <;> rw [h] at ih <;> simp at ih ⊢ <;> omega
theorem flen {α : Type} (f : α → Bool) : ∀ l : List α, (l.filter f).length = ((l.map f).filter id).length
  | [] => rfl
  | x :: l => by
    rw [List.map_cons]
    cases h : f x with
    | true => rw [List.filter_cons_of_pos h, List.filter_cons_of_pos rfl, List.length_cons, List.length_cons, flen f l]
    | false => rw [List.filter_cons_of_neg (by simp [h]), List.filter_cons_of_neg (by simp), flen f l]
theorem odd_even {a b : Int} {l : List Nat} (ha : Ask a) (hb : Ask b) (h : Two a b l) : (oddV a b l).length % 2 = 0 := by
  unfold oddV
  have hp := (two_len ha hb h).2
  rw [flen, xor_par, List.map_cons, xorL]
  have e1 : syV (-1) a b = sneg a b := by unfold syV; rw [if_pos rfl]
  have e2 : (l.map fun x : Nat => (x : Int)).map (fun v => syV v a b) = l.map fun p => sy p a b := by
    rw [List.map_map]
    exact List.map_congr_left fun p hq => syV_p (hp p hq).1
  rw [e1, e2]
  have key := tot_all (V := l) (fun p hq => (hp p hq).1) (h.1.imp fun {a b} z => Nat.ne_of_lt z) ((h.2 2).mpr (.inl rfl)) _ a b ha.1 hb.1 (Nat.le_refl _)
    (fun p pp d => (h.2 p).mpr (.inr ⟨pp, .inl (Int.natAbs_dvd_natAbs.mpr d)⟩)) (fun p pp d => (h.2 p).mpr (.inr ⟨pp, .inr (Int.natAbs_dvd_natAbs.mpr d)⟩))
  unfold tot at key
  rw [key]
  rfl
theorem core_ask {i c : Int} (hi : Ask i) (h : CoreR i c) : Ask c ∧ ∀ p, Pr p → ¬ ((p * p : Nat) : Int) ∣ c := by
  obtain ⟨l, hl, rfl⟩ := h
  obtain ⟨h0, hn⟩ := hi
  have b := oddP_b (by omega) hn hl (List.Sublist.refl l)
  have na : ((if 0 < i then 1 else -1) * oddP l).natAbs = prodN (odl l) := by
    rw [oddP_is] at b ⊢
    split <;> omega
  refine ⟨⟨by split <;> omega, by split <;> omega⟩, fun p pp d => ?_⟩
  have d := Int.natAbs_dvd_natAbs.mpr d
  rw [na] at d
  have d : p * p ∣ prodN (odl l) := d
  have hk := hl.keys
  have s := odl_sub l
  have key : ∀ (m : List Nat), m.Pairwise (· < ·) → (∀ q ∈ m, Pr q) → ¬ p * p ∣ prodN m := by
    intro m
    induction m with
    | nil =>
      intro _ _ d
      have := Nat.le_of_dvd (by decide) d
      have := Nat.mul_le_mul pp.1 pp.1
      have e : prodN [] = 1 := rfl
      omega
    | cons q m ih =>
      intro hm hq d
      obtain ⟨m1, m2⟩ := List.pairwise_cons.mp hm
      have qq := hq q List.mem_cons_self
      have rest : ∀ r ∈ m, Pr r := fun r hr => hq r (List.mem_cons_of_mem _ hr)
      rw [prodN] at d
      have notin : ∀ (m : List Nat), (∀ r ∈ m, Pr r ∧ p < r) → ¬ p ∣ prodN m := by
        intro m
        induction m with
        | nil => intro _ d; have := Nat.le_of_dvd (by decide) d; have := pp.1; have e : prodN [] = 1 := rfl; omega
        | cons r m ih =>
          intro hr d
          rw [prodN] at d
          rcases pp.euclid d with d | d
          · have := pp.eq_of_dvd (hr r List.mem_cons_self).1 d
            have := (hr r List.mem_cons_self).2
            omega
          · exact ih (fun z hz => hr z (List.mem_cons_of_mem _ hz)) d
      by_cases e : p = q
      · subst e
        have := Nat.dvd_of_mul_dvd_mul_left pp.pos d
        exact notin m (fun r hr => ⟨rest r hr, m1 r hr⟩) this
      · refine ih m2 rest ?_
        have cop : Nat.Coprime (p * p) q := by
          have := pp.cop (a := q) fun z => e (pp.eq_of_dvd qq z)
          exact Nat.Coprime.mul_left this this
        exact cop.dvd_of_dvd_mul_left d
  exact key _ (hk.1.sublist s) (fun q hq => (hk.2 q (s.mem hq)).1) d
theorem core_ex {i : Int} (hi : Ask i) {Q : Int → Prop} (W : Ex → Prop) (h : ∀ c, CoreR i c → Q c) : F_core_of [.int i] (fun d => ∃ c, d = .int c ∧ CoreR i c ∧ Q c) W := ⟨i, rfl, hi, fun c hc => ⟨c, rfl, hc, h c hc⟩⟩
end K01

end
section
set_option Elab.async false
set_option linter.all false
set_option maxRecDepth 100000
/-! k01: the law -/
namespace K01
open PySem L2 PD NT

theorem pl_append {l m : List Nat} : (l.map fun x : Nat => D.int x) ++ (m.map fun x : Nat => D.int x) = (l ++ m).map fun x : Nat => D.int x := by rw [List.map_append]
/-- what a number asked twice says -/
def BadN (d : PD.D) : Prop := TryN d ∧ okI d = false
def BadP (d : PD.D) : Prop := TryN d ∧ okP d = false
theorem bad_one {d : PD.D} {ns t a b c} (T : Tn a b c) (hd : BadN d) {De : DEnds} {ρ : PD.Env} (H : StB ns t a b c d ρ) (hD : ∀ ρ, StB ns t a b c d ρ → De.nx ρ) :
    (dSeq (dIfS (dTest (dOp neP (dTold F__law_read (fun i => i == 2) (fun W => (dCall F_core W (dCons (dVar 12) dNil)))) (dTup (dCons (dC (.int 1)) (dCons (dC (.str "range")) dNil)))))
  (dRet (dC (.bl false)))
  dNext)
  (dSeq (dIfS (dTest (dOp neP (dTold F__law_read (fun i => i == 2) (fun W => (dCall F_symbol W (dCons (dVar 3) (dCons (dVar 12) (dCons (dC (.int 2)) dNil)))))) (dTup (dCons (dC (.int 1)) (dCons (dC (.str "range")) dNil)))))
  (dRet (dC (.bl false)))
  dNext)
  (dSeq (dIfS (dTest (dOp neP (dTold F__law_read (fun i => i == 2) (fun W => (dCall F_symbol W (dCons (dVar 12) (dCons (dVar 4) (dCons (dC (.int 0)) dNil)))))) (dTup (dCons (dC (.int 1)) (dCons (dC (.str "range")) dNil)))))
  (dRet (dC (.bl false)))
  dNext)
  (dSeq (dIfS (dTest (dOp neP (dTold F__law_read (fun i => i == 2) (fun W => (dCall F_square_at W (dCons (dVar 12) (dCons (dC (.int 2)) dNil))))) (dTup (dCons (dC (.int 1)) (dCons (dC (.str "range")) dNil)))))
  (dRet (dC (.bl false)))
  dNext)
  (dIfS (dTest (dOp neP (dTold F__law_read (fun i => i == 2) (fun W => (dCall F_odd_places W (dCons (dVar 3) (dCons (dVar 12) dNil))))) (dTup (dCons (dC (.int 1)) (dCons (dC (.str "range")) dNil)))))
  (dRet (dC (.bl false)))
  dNext))))) De ρ := by
  obtain ⟨td, nd⟩ := hd
  have ta := tn_ask T.a
  have tb := tn_ask T.b
  have t2 : TryN (.int 2) := tn_int (by decide)
  have t0 : TryN (.int 0) := tn_int (by decide)
  refine seq_of (StB ns t a b c d) ?_ (fun C hC => ?_)
  rotate_left
  · obtain ⟨bx, x6, x7, x8, x9, x10, x11, hb, rfl⟩ := H
    simp only [dC_e, dVar_e, dOwn_e, dOp_e, dUn_e, dNil_e, dCons_e, dTup_e, dLst_e, dCB_e, dCall_e, dCallB_e, dSeq_e, dNext_e, dBreak_e, dCont_e, dDrop_e, dRet_e, dRetN_e, dIfS_e, dSet_e, dSetO_e, dAug_e, dRaise_e, dApp_e, dAsg_e, dPar_e, dPar3_e, dPar_vvo_e, dgName_e, dgTup_e, dgCons_e, dgNil_e, dTest_e, dAnd_e, dOr_e, dNot_e, dYes_e, dIf_e, dAndV_e, dOrV_e, dNotV_e, dIsi_e, dBits_e, dTuple_e, dSeqI_e, dChain_e, i2_e, i2'_e, u1_e, eqP_int, neP_int, addP_int, addP_tup, addP_lst, lenP_lst, lenP_tup, lenP_scr, absP_int, intP_int, isN_P, notN_P, isB2_P, tuple_lst, sel_t, sel_f, ixP_t0, ixP_t1, ixP_l0, ixP_l1, ixP_own0, ixP_own1, startD, List.map_cons, List.map_nil, List.length_cons, List.length_nil, List.cons_append, List.nil_append, List.getElem?_cons_zero, List.getElem?_cons_succ, List.set_cons_zero, List.set_cons_succ, Nat.reduceAdd, Nat.reduceSub, List.replicate_succ, List.replicate_zero, Option.some.injEq, dTold, wipe13]
    refine ⟨d, rfl, td, fun i c e h _ => bad_i e h nd, fun _ => ?_⟩
    exact neP_self ok_range (hC _ ⟨_, _, _, _, _, _, _, hb, rfl⟩)
  clear H
  rintro ρ H
  refine seq_of (StB ns t a b c d) ?_ (fun C hC => ?_)
  rotate_left
  · obtain ⟨bx, x6, x7, x8, x9, x10, x11, hb, rfl⟩ := H
    simp only [dC_e, dVar_e, dOwn_e, dOp_e, dUn_e, dNil_e, dCons_e, dTup_e, dLst_e, dCB_e, dCall_e, dCallB_e, dSeq_e, dNext_e, dBreak_e, dCont_e, dDrop_e, dRet_e, dRetN_e, dIfS_e, dSet_e, dSetO_e, dAug_e, dRaise_e, dApp_e, dAsg_e, dPar_e, dPar3_e, dPar_vvo_e, dgName_e, dgTup_e, dgCons_e, dgNil_e, dTest_e, dAnd_e, dOr_e, dNot_e, dYes_e, dIf_e, dAndV_e, dOrV_e, dNotV_e, dIsi_e, dBits_e, dTuple_e, dSeqI_e, dChain_e, i2_e, i2'_e, u1_e, eqP_int, neP_int, addP_int, addP_tup, addP_lst, lenP_lst, lenP_tup, lenP_scr, absP_int, intP_int, isN_P, notN_P, isB2_P, tuple_lst, sel_t, sel_f, ixP_t0, ixP_t1, ixP_l0, ixP_l1, ixP_own0, ixP_own1, startD, List.map_cons, List.map_nil, List.length_cons, List.length_nil, List.cons_append, List.nil_append, List.getElem?_cons_zero, List.getElem?_cons_succ, List.set_cons_zero, List.set_cons_succ, Nat.reduceAdd, Nat.reduceSub, List.replicate_succ, List.replicate_zero, Option.some.injEq, dTold, wipe13]
    refine ⟨.int a, d, .int 2, rfl, ta, td, t2, fun a' b' v _ e _ _ h _ _ => bad_i e h nd, fun _ => ?_⟩
    exact neP_self ok_range (hC _ ⟨_, _, _, _, _, _, _, hb, rfl⟩)
  clear H
  rintro ρ H
  refine seq_of (StB ns t a b c d) ?_ (fun C hC => ?_)
  rotate_left
  · obtain ⟨bx, x6, x7, x8, x9, x10, x11, hb, rfl⟩ := H
    simp only [dC_e, dVar_e, dOwn_e, dOp_e, dUn_e, dNil_e, dCons_e, dTup_e, dLst_e, dCB_e, dCall_e, dCallB_e, dSeq_e, dNext_e, dBreak_e, dCont_e, dDrop_e, dRet_e, dRetN_e, dIfS_e, dSet_e, dSetO_e, dAug_e, dRaise_e, dApp_e, dAsg_e, dPar_e, dPar3_e, dPar_vvo_e, dgName_e, dgTup_e, dgCons_e, dgNil_e, dTest_e, dAnd_e, dOr_e, dNot_e, dYes_e, dIf_e, dAndV_e, dOrV_e, dNotV_e, dIsi_e, dBits_e, dTuple_e, dSeqI_e, dChain_e, i2_e, i2'_e, u1_e, eqP_int, neP_int, addP_int, addP_tup, addP_lst, lenP_lst, lenP_tup, lenP_scr, absP_int, intP_int, isN_P, notN_P, isB2_P, tuple_lst, sel_t, sel_f, ixP_t0, ixP_t1, ixP_l0, ixP_l1, ixP_own0, ixP_own1, startD, List.map_cons, List.map_nil, List.length_cons, List.length_nil, List.cons_append, List.nil_append, List.getElem?_cons_zero, List.getElem?_cons_succ, List.set_cons_zero, List.set_cons_succ, Nat.reduceAdd, Nat.reduceSub, List.replicate_succ, List.replicate_zero, Option.some.injEq, dTold, wipe13]
    refine ⟨d, .int b, .int 0, rfl, td, tb, t0, fun a' b' v e _ _ h _ _ _ => bad_i e h nd, fun _ => ?_⟩
    exact neP_self ok_range (hC _ ⟨_, _, _, _, _, _, _, hb, rfl⟩)
  clear H
  rintro ρ H
  refine seq_of (StB ns t a b c d) ?_ (fun C hC => ?_)
  rotate_left
  · obtain ⟨bx, x6, x7, x8, x9, x10, x11, hb, rfl⟩ := H
    simp only [dC_e, dVar_e, dOwn_e, dOp_e, dUn_e, dNil_e, dCons_e, dTup_e, dLst_e, dCB_e, dCall_e, dCallB_e, dSeq_e, dNext_e, dBreak_e, dCont_e, dDrop_e, dRet_e, dRetN_e, dIfS_e, dSet_e, dSetO_e, dAug_e, dRaise_e, dApp_e, dAsg_e, dPar_e, dPar3_e, dPar_vvo_e, dgName_e, dgTup_e, dgCons_e, dgNil_e, dTest_e, dAnd_e, dOr_e, dNot_e, dYes_e, dIf_e, dAndV_e, dOrV_e, dNotV_e, dIsi_e, dBits_e, dTuple_e, dSeqI_e, dChain_e, i2_e, i2'_e, u1_e, eqP_int, neP_int, addP_int, addP_tup, addP_lst, lenP_lst, lenP_tup, lenP_scr, absP_int, intP_int, isN_P, notN_P, isB2_P, tuple_lst, sel_t, sel_f, ixP_t0, ixP_t1, ixP_l0, ixP_l1, ixP_own0, ixP_own1, startD, List.map_cons, List.map_nil, List.length_cons, List.length_nil, List.cons_append, List.nil_append, List.getElem?_cons_zero, List.getElem?_cons_succ, List.set_cons_zero, List.set_cons_succ, Nat.reduceAdd, Nat.reduceSub, List.replicate_succ, List.replicate_zero, Option.some.injEq, dTold, wipe13]
    refine ⟨d, .int 2, rfl, td, t2, fun a' v e _ h _ _ => bad_i e h nd, fun _ => ?_⟩
    exact neP_self ok_range (hC _ ⟨_, _, _, _, _, _, _, hb, rfl⟩)
  clear H
  rintro ρ H
  obtain ⟨bx, x6, x7, x8, x9, x10, x11, hb, rfl⟩ := H
  simp only [dC_e, dVar_e, dOwn_e, dOp_e, dUn_e, dNil_e, dCons_e, dTup_e, dLst_e, dCB_e, dCall_e, dCallB_e, dSeq_e, dNext_e, dBreak_e, dCont_e, dDrop_e, dRet_e, dRetN_e, dIfS_e, dSet_e, dSetO_e, dAug_e, dRaise_e, dApp_e, dAsg_e, dPar_e, dPar3_e, dPar_vvo_e, dgName_e, dgTup_e, dgCons_e, dgNil_e, dTest_e, dAnd_e, dOr_e, dNot_e, dYes_e, dIf_e, dAndV_e, dOrV_e, dNotV_e, dIsi_e, dBits_e, dTuple_e, dSeqI_e, dChain_e, i2_e, i2'_e, u1_e, eqP_int, neP_int, addP_int, addP_tup, addP_lst, lenP_lst, lenP_tup, lenP_scr, absP_int, intP_int, isN_P, notN_P, isB2_P, tuple_lst, sel_t, sel_f, ixP_t0, ixP_t1, ixP_l0, ixP_l1, ixP_own0, ixP_own1, startD, List.map_cons, List.map_nil, List.length_cons, List.length_nil, List.cons_append, List.nil_append, List.getElem?_cons_zero, List.getElem?_cons_succ, List.set_cons_zero, List.set_cons_succ, Nat.reduceAdd, Nat.reduceSub, List.replicate_succ, List.replicate_zero, Option.some.injEq, dTold, wipe13]
  refine ⟨.int a, d, rfl, ta, td, fun a' b' _ e _ h _ _ => bad_i e h nd, fun _ => ?_⟩
  exact neP_self ok_range (hD _ ⟨_, _, _, _, _, _, _, hb, rfl⟩)
theorem bad_p {d : PD.D} {v : Int} {p : Prop} (e : d = .int v) (h : Plc v) (l : v < 100000) (n : okP d = false) : p := by rw [e, okP_of h l] at n; cases n
theorem bad_two {d : PD.D} {ns t a b c} (T : Tn a b c) (hd : BadP d) {De : DEnds} {ρ : PD.Env} (H : StB ns t a b c d ρ) (hD : ∀ ρ, StB ns t a b c d ρ → De.nx ρ) :
    (dSeq (dIfS (dTest (dOp neP (dTold F__law_read (fun i => i == 2) (fun W => (dCall F_symbol W (dCons (dVar 3) (dCons (dVar 4) (dCons (dVar 12) dNil)))))) (dTup (dCons (dC (.int 1)) (dCons (dC (.str "range")) dNil)))))
  (dRet (dC (.bl false)))
  dNext)
  (dIfS (dTest (dOp neP (dTold F__law_read (fun i => i == 2) (fun W => (dCall F_square_at W (dCons (dVar 3) (dCons (dVar 12) dNil))))) (dTup (dCons (dC (.int 1)) (dCons (dC (.str "range")) dNil)))))
  (dRet (dC (.bl false)))
  dNext)) De ρ := by
  obtain ⟨td, nd⟩ := hd
  have ta := tn_ask T.a
  have tb := tn_ask T.b
  refine seq_of (StB ns t a b c d) ?_ (fun C hC => ?_)
  rotate_left
  · obtain ⟨bx, x6, x7, x8, x9, x10, x11, hb, rfl⟩ := H
    simp only [dC_e, dVar_e, dOwn_e, dOp_e, dUn_e, dNil_e, dCons_e, dTup_e, dLst_e, dCB_e, dCall_e, dCallB_e, dSeq_e, dNext_e, dBreak_e, dCont_e, dDrop_e, dRet_e, dRetN_e, dIfS_e, dSet_e, dSetO_e, dAug_e, dRaise_e, dApp_e, dAsg_e, dPar_e, dPar3_e, dPar_vvo_e, dgName_e, dgTup_e, dgCons_e, dgNil_e, dTest_e, dAnd_e, dOr_e, dNot_e, dYes_e, dIf_e, dAndV_e, dOrV_e, dNotV_e, dIsi_e, dBits_e, dTuple_e, dSeqI_e, dChain_e, i2_e, i2'_e, u1_e, eqP_int, neP_int, addP_int, addP_tup, addP_lst, lenP_lst, lenP_tup, lenP_scr, absP_int, intP_int, isN_P, notN_P, isB2_P, tuple_lst, sel_t, sel_f, ixP_t0, ixP_t1, ixP_l0, ixP_l1, ixP_own0, ixP_own1, startD, List.map_cons, List.map_nil, List.length_cons, List.length_nil, List.cons_append, List.nil_append, List.getElem?_cons_zero, List.getElem?_cons_succ, List.set_cons_zero, List.set_cons_succ, Nat.reduceAdd, Nat.reduceSub, List.replicate_succ, List.replicate_zero, Option.some.injEq, dTold, wipe13]
    refine ⟨.int a, .int b, d, rfl, ta, tb, td, fun a' b' v _ _ e _ _ h l => bad_p e h l nd, fun _ => ?_⟩
    exact neP_self ok_range (hC _ ⟨_, _, _, _, _, _, _, hb, rfl⟩)
  clear H
  rintro ρ H
  obtain ⟨bx, x6, x7, x8, x9, x10, x11, hb, rfl⟩ := H
  simp only [dC_e, dVar_e, dOwn_e, dOp_e, dUn_e, dNil_e, dCons_e, dTup_e, dLst_e, dCB_e, dCall_e, dCallB_e, dSeq_e, dNext_e, dBreak_e, dCont_e, dDrop_e, dRet_e, dRetN_e, dIfS_e, dSet_e, dSetO_e, dAug_e, dRaise_e, dApp_e, dAsg_e, dPar_e, dPar3_e, dPar_vvo_e, dgName_e, dgTup_e, dgCons_e, dgNil_e, dTest_e, dAnd_e, dOr_e, dNot_e, dYes_e, dIf_e, dAndV_e, dOrV_e, dNotV_e, dIsi_e, dBits_e, dTuple_e, dSeqI_e, dChain_e, i2_e, i2'_e, u1_e, eqP_int, neP_int, addP_int, addP_tup, addP_lst, lenP_lst, lenP_tup, lenP_scr, absP_int, intP_int, isN_P, notN_P, isB2_P, tuple_lst, sel_t, sel_f, ixP_t0, ixP_t1, ixP_l0, ixP_l1, ixP_own0, ixP_own1, startD, List.map_cons, List.map_nil, List.length_cons, List.length_nil, List.cons_append, List.nil_append, List.getElem?_cons_zero, List.getElem?_cons_succ, List.set_cons_zero, List.set_cons_succ, Nat.reduceAdd, Nat.reduceSub, List.replicate_succ, List.replicate_zero, Option.some.injEq, dTold, wipe13]
  refine ⟨.int a, d, rfl, ta, td, fun a' v _ e _ h l => bad_p e h l nd, fun _ => ?_⟩
  exact neP_self ok_range (hD _ ⟨_, _, _, _, _, _, _, hb, rfl⟩)
theorem tn_other {d : PD.D} (h : Plain d) (n : ∀ i, d ≠ .int i) : TryN d := ⟨h, fun i e => absurd e (n i)⟩
theorem bads_n : ∀ d ∈ ([.int 0, .int 1000001, .int (-1000001), .str "1", .tup [.int 1]] : List PD.D), BadN d := by
  intro d hd
  simp only [List.mem_cons, List.not_mem_nil, or_false] at hd
  rcases hd with rfl | rfl | rfl | rfl | rfl
  · exact ⟨tn_int (by decide), by decide⟩
  · exact ⟨tn_int (by decide), by decide⟩
  · exact ⟨tn_int (by decide), by decide⟩
  · exact ⟨tn_other ⟨rfl, rfl⟩ (fun i e => nomatch e), rfl⟩
  · exact ⟨tn_other ⟨rfl, rfl⟩ (fun i e => nomatch e), rfl⟩
theorem okP_no {i : Int} (h : i ≠ -1) (k : ¬ i < 100000 ∨ ¬ (1 < i ∧ Pr i.toNat)) : okP (.int i) = false := by
  rw [okP_int, decide_eq_false h, Bool.false_or]
  rcases k with k | k
  · rw [decide_eq_false k, Bool.false_and]
  · rw [prB_no k, Bool.and_false]
theorem bads_p : ∀ d ∈ ([.int 0, .int 1, .int (-2), .int 4, .int 9, .int 100003, .int 99999, .str "2", .tup [.int 2]] : List PD.D), BadP d := by
  intro d hd
  simp only [List.mem_cons, List.not_mem_nil, or_false] at hd
  rcases hd with rfl | rfl | rfl | rfl | rfl | rfl | rfl | rfl | rfl
  · exact ⟨tn_int (by decide), okP_no (by decide) (.inr fun z => by omega)⟩
  · exact ⟨tn_int (by decide), okP_no (by decide) (.inr fun z => by omega)⟩
  · exact ⟨tn_int (by decide), okP_no (by decide) (.inr fun z => by omega)⟩
  · exact ⟨tn_int (by decide), okP_no (by decide) (.inr fun z => not_pr (d := 2) (by decide) (by decide) (by decide) z.2)⟩
  · exact ⟨tn_int (by decide), okP_no (by decide) (.inr fun z => not_pr (d := 3) (by decide) (by decide) (by decide) z.2)⟩
  · exact ⟨tn_int (by decide), okP_no (by decide) (.inl (by decide))⟩
  · exact ⟨tn_int (by decide), okP_no (by decide) (.inr fun z => not_pr (d := 3) (by decide) (by decide) (by decide) z.2)⟩
  · exact ⟨tn_other ⟨rfl, rfl⟩ (fun i e => nomatch e), rfl⟩
  · exact ⟨tn_other ⟨rfl, rfl⟩ (fun i e => nomatch e), rfl⟩
/-- what the law's places are drawn from -/
def PlL (L : List Int) : Prop := L.length ≤ 50 ∧ 0 < L.length ∧ ∀ v ∈ L, Plc v ∧ v < 100000
def smallC : List Nat := [2, 3, 5, 7, 13, 99991]
theorem smallC_pr : ∀ p ∈ smallC, Pr p ∧ p < 100000 := by
  intro p hp
  simp only [smallC, List.mem_cons, List.not_mem_nil, or_false] at hp
  rcases hp with rfl | rfl | rfl | rfl | rfl | rfl
  · exact ⟨pr2, by decide⟩
  · exact ⟨pr_of (q := 2) (by decide) (by decide) (by decide), by decide⟩
  · exact ⟨pr5, by decide⟩
  · exact ⟨pr_of (q := 3) (by decide) (by decide) (by decide), by decide⟩
  · exact ⟨pr_of (q := 4) (by decide) (by decide) (by decide), by decide⟩
  · exact ⟨pr_9, by decide⟩
theorem two_of {a b : Int} {la lb : List Nat} {ys : List Int} (h1 : ∀ p, p ∈ la ↔ Pr p ∧ p ∣ a.natAbs) (h2 : ∀ p, p ∈ lb ↔ Pr p ∧ p ∣ b.natAbs) (hs : ys.Pairwise (· < ·)) (hm : ∀ y, y ∈ ys ↔ y ∈ (2 : Int) :: ((la.map fun x : Nat => (x : Int)) ++ lb.map fun x : Nat => (x : Int))) :
    ∃ l, Two a b l ∧ ys = l.map fun x : Nat => (x : Int) := by
  have hm2 : ∀ y, y ∈ ys ↔ ∃ p : Nat, y = p ∧ (p = 2 ∨ (Pr p ∧ (p ∣ a.natAbs ∨ p ∣ b.natAbs))) := by
    intro y
    rw [hm]
    simp only [List.mem_cons, List.mem_append, List.mem_map]
    constructor
    · rintro (rfl | ⟨p, hp, rfl⟩ | ⟨p, hp, rfl⟩)
      · exact ⟨2, rfl, .inl rfl⟩
      · have := (h1 p).mp hp
        exact ⟨p, rfl, .inr ⟨this.1, .inl this.2⟩⟩
      · have := (h2 p).mp hp
        exact ⟨p, rfl, .inr ⟨this.1, .inr this.2⟩⟩
    · rintro ⟨p, rfl, h | ⟨pp, h | h⟩⟩
      · left; omega
      · exact .inr (.inl ⟨p, (h1 p).mpr ⟨pp, h⟩, rfl⟩)
      · exact .inr (.inr ⟨p, (h2 p).mpr ⟨pp, h⟩, rfl⟩)
  have nn : ∀ y ∈ ys, 0 ≤ y := fun y hy => by
    obtain ⟨p, rfl, _⟩ := (hm2 y).mp hy
    omega
  have e := nats_of nn
  refine ⟨ys.map Int.toNat, ⟨?_, fun p => ?_⟩, e⟩
  · rw [e] at hs
    exact (List.pairwise_map.mp hs).imp fun {a b} h => by omega
  · have hp : p ∈ ys.map Int.toNat ↔ (p : Int) ∈ ys := by
      constructor
      · intro h
        obtain ⟨x, hx, rfl⟩ := List.mem_map.mp h
        rw [Int.toNat_of_nonneg (nn x hx)]; exact hx
      · intro h
        exact List.mem_map.mpr ⟨_, h, by simp⟩
    rw [hp, hm2]
    constructor
    · rintro ⟨q, e, h⟩
      have : p = q := by omega
      subst this; exact h
    · intro h; exact ⟨p, rfl, h⟩
theorem few_of {a : Int} {la : List Nat} (ha : Ask a) (h : la.Pairwise (· < ·)) (h1 : ∀ p, p ∈ la ↔ Pr p ∧ p ∣ a.natAbs) : la.length < 20 := primes_few (by have := ha.1; omega) ha.2 h fun p hp => (h1 p).mp hp
/-- one of some places -/
theorem pick {L : List Int} (h : PlL L) {bx : PD.D} (hb : BoxOk bx) {W : Ex → Prop} {P : PD.D → PD.D → Prop} (hP : ∀ j v bx', L[j]? = some v → BoxOk bx' → P (.int (j : Nat)) bx') : F__law_draw [bx, .int (L.map D.int).length] P W := by
  rw [List.length_map]
  refine ⟨bx, L.length, rfl, hb, h.2.1, by have := h.1; omega, fun i bx' hb' hi => ?_⟩
  exact hP i _ bx' (List.getElem?_eq_getElem hi) hb'
end K01

end
section
set_option Elab.async false
set_option linter.all false
set_option maxRecDepth 100000
/-! k01: the law, whole -/
namespace K01
open PySem L2 PD NT

set_option maxHeartbeats 2000000 in
theorem sp_law : ∀ args P W, args.length = 1 → F_law args P W → d_law W ⟨fun _ => P .non, fun d ρ => P (retD ρ d), fun _ => False, fun _ => False⟩ (startD 13 args) := by
  rintro args P W _ ⟨ns, rfl, hl, hz, hP⟩
  unfold d_law
  refine seq_of (fun _ => True) (fun ρ _ => hP) fun C hC => ?_
  refine for_r1 (fun _ => InvT ns) (n := 3) (fun C h => h) (by decide) ⟨_, _, _, _, _, _, _, _, _, _, _, _, rfl⟩ ?_ fun ρ _ => hC ρ trivial
  rintro t ρ2 De ht ⟨x1, x2, x3, x4, x5, x6, x7, x8, x9, x10, x11, x12, rfl⟩ hDe hrt
  refine seq_of (fun ρ => ∃ bx, BoxOk bx ∧ ρ = [some (.scr ns), some (.int t), some bx, x3, x4, x5, x6, x7, x8, x9, x10, x11, x12]) ?_ (fun C hC => ?_)
  rotate_left
  · simp only [dC_e, dVar_e, dOwn_e, dOp_e, dUn_e, dNil_e, dCons_e, dTup_e, dLst_e, dCB_e, dCall_e, dCallB_e, dSeq_e, dNext_e, dBreak_e, dCont_e, dDrop_e, dRet_e, dRetN_e, dIfS_e, dSet_e, dSetO_e, dAug_e, dRaise_e, dApp_e, dAsg_e, dPar_e, dPar3_e, dPar_vvo_e, dgName_e, dgTup_e, dgCons_e, dgNil_e, dTest_e, dAnd_e, dOr_e, dNot_e, dYes_e, dIf_e, dAndV_e, dOrV_e, dNotV_e, dIsi_e, dBits_e, dTuple_e, dSeqI_e, dChain_e, i2_e, i2'_e, u1_e, eqP_int, neP_int, addP_int, addP_tup, addP_lst, lenP_lst, lenP_tup, lenP_scr, absP_int, intP_int, isN_P, notN_P, isB2_P, tuple_lst, sel_t, sel_f, ixP_t0, ixP_t1, ixP_l0, ixP_l1, ixP_own0, ixP_own1, startD, List.map_cons, List.map_nil, List.length_cons, List.length_nil, List.cons_append, List.nil_append, List.getElem?_cons_zero, List.getElem?_cons_succ, List.set_cons_zero, List.set_cons_succ, Nat.reduceAdd, Nat.reduceSub, List.replicate_succ, List.replicate_zero, Option.some.injEq]
    exact ⟨ns, t, rfl, ⟨hl, hz⟩, fun d hd => ⟨by decide, hC _ ⟨d, hd, rfl⟩⟩⟩
  rintro ρ ⟨bx, hb, rfl⟩
  refine seq_of (fun ρ => ∃ a b c, Tn a b c ∧ St ns t a b c ρ) ?_ (fun C hC => ?_)
  rotate_left
  · simp only [dC_e, dVar_e, dOwn_e, dOp_e, dUn_e, dNil_e, dCons_e, dTup_e, dLst_e, dCB_e, dCall_e, dCallB_e, dSeq_e, dNext_e, dBreak_e, dCont_e, dDrop_e, dRet_e, dRetN_e, dIfS_e, dSet_e, dSetO_e, dAug_e, dRaise_e, dApp_e, dAsg_e, dPar_e, dPar3_e, dPar_vvo_e, dgName_e, dgTup_e, dgCons_e, dgNil_e, dTest_e, dAnd_e, dOr_e, dNot_e, dYes_e, dIf_e, dAndV_e, dOrV_e, dNotV_e, dIsi_e, dBits_e, dTuple_e, dSeqI_e, dChain_e, i2_e, i2'_e, u1_e, eqP_int, neP_int, addP_int, addP_tup, addP_lst, lenP_lst, lenP_tup, lenP_scr, absP_int, intP_int, isN_P, notN_P, isB2_P, tuple_lst, sel_t, sel_f, ixP_t0, ixP_t1, ixP_l0, ixP_l1, ixP_own0, ixP_own1, startD, List.map_cons, List.map_nil, List.length_cons, List.length_nil, List.cons_append, List.nil_append, List.getElem?_cons_zero, List.getElem?_cons_succ, List.set_cons_zero, List.set_cons_succ, Nat.reduceAdd, Nat.reduceSub, List.replicate_succ, List.replicate_zero, Option.some.injEq]
    refine ⟨bx, rfl, hb, fun a b1 hb1 ha => ?_⟩
    refine ⟨b1, rfl, hb1, fun b b2 hb2 hbb => ?_⟩
    refine ⟨b2, rfl, hb2, fun c b3 hb3 hc => ?_⟩
    exact ⟨trivial, hC _ ⟨a, b, c, ⟨ha, hbb, hc⟩, _, _, _, _, _, _, _, _, hb3, rfl⟩⟩
  clear hb bx x1 x2 x3 x4 x5 x6 x7 x8 x9 x10 x11 x12
  rintro ρ ⟨a, b, c, T, H⟩
  -- core
  refine seq_of (St ns t a b c) ?_ (fun C hC => ?_)
  rotate_left
  · obtain ⟨bx, x6, x7, x8, x9, x10, x11, x12, hb, rfl⟩ := H
    simp only [dC_e, dVar_e, dOwn_e, dOp_e, dUn_e, dNil_e, dCons_e, dTup_e, dLst_e, dCB_e, dCall_e, dCallB_e, dSeq_e, dNext_e, dBreak_e, dCont_e, dDrop_e, dRet_e, dRetN_e, dIfS_e, dSet_e, dSetO_e, dAug_e, dRaise_e, dApp_e, dAsg_e, dPar_e, dPar3_e, dPar_vvo_e, dgName_e, dgTup_e, dgCons_e, dgNil_e, dTest_e, dAnd_e, dOr_e, dNot_e, dYes_e, dIf_e, dAndV_e, dOrV_e, dNotV_e, dIsi_e, dBits_e, dTuple_e, dSeqI_e, dChain_e, i2_e, i2'_e, u1_e, eqP_int, neP_int, addP_int, addP_tup, addP_lst, lenP_lst, lenP_tup, lenP_scr, absP_int, intP_int, isN_P, notN_P, isB2_P, tuple_lst, sel_t, sel_f, ixP_t0, ixP_t1, ixP_l0, ixP_l1, ixP_own0, ixP_own1, startD, List.map_cons, List.map_nil, List.length_cons, List.length_nil, List.cons_append, List.nil_append, List.getElem?_cons_zero, List.getElem?_cons_succ, List.set_cons_zero, List.set_cons_succ, Nat.reduceAdd, Nat.reduceSub, List.replicate_succ, List.replicate_zero, Option.some.injEq, dTold, wipe13]
    refine ⟨.int a, rfl, tn_ask T.a, fun i c' e hi hc => ?_, fun n => bad_i rfl T.a n⟩
    cases e
    refine ⟨_, rfl, rd_int _, a, rfl, T.a, fun c2 h2 => ?_⟩
    rw [hc.uniq h2]
    exact neP_self (ok_zi _) (hC _ ⟨_, _, _, _, _, _, _, _, hb, rfl⟩)
  clear H
  rintro ρ H
  -- the primes
  refine seq_of (fun ρ => ∃ L, PlL L ∧ ∃ bx x7 x8 x9 x10 x11 x12, BoxOk bx ∧ ρ = [some (.scr ns), some (.int t), some bx, some (.int a), some (.int b), some (.int c), some (.lst (L.map D.int)), x7, x8, x9, x10, x11, x12]) ?_ (fun C hC => ?_)
  rotate_left
  · obtain ⟨bx, x6, x7, x8, x9, x10, x11, x12, hb, rfl⟩ := H
    simp only [dC_e, dVar_e, dOwn_e, dOp_e, dUn_e, dNil_e, dCons_e, dTup_e, dLst_e, dCB_e, dCall_e, dCallB_e, dSeq_e, dNext_e, dBreak_e, dCont_e, dDrop_e, dRet_e, dRetN_e, dIfS_e, dSet_e, dSetO_e, dAug_e, dRaise_e, dApp_e, dAsg_e, dPar_e, dPar3_e, dPar_vvo_e, dgName_e, dgTup_e, dgCons_e, dgNil_e, dTest_e, dAnd_e, dOr_e, dNot_e, dYes_e, dIf_e, dAndV_e, dOrV_e, dNotV_e, dIsi_e, dBits_e, dTuple_e, dSeqI_e, dChain_e, i2_e, i2'_e, u1_e, eqP_int, neP_int, addP_int, addP_tup, addP_lst, lenP_lst, lenP_tup, lenP_scr, absP_int, intP_int, isN_P, notN_P, isB2_P, tuple_lst, sel_t, sel_f, ixP_t0, ixP_t1, ixP_l0, ixP_l1, ixP_own0, ixP_own1, startD, List.map_cons, List.map_nil, List.length_cons, List.length_nil, List.cons_append, List.nil_append, List.getElem?_cons_zero, List.getElem?_cons_succ, List.set_cons_zero, List.set_cons_succ, Nat.reduceAdd, Nat.reduceSub, List.replicate_succ, List.replicate_zero, Option.some.injEq, dLc]
    refine ⟨a, rfl, T.a, fun la a1 a2 => ⟨b, rfl, T.b, fun lb b1 b2 => ?_⟩⟩
    have fa := few_of T.a a1 a2
    have fb := few_of T.b b1 b2
    have bs := big_size
    unfold ndl
    simp only [dC_e, dVar_e, dOwn_e, dOp_e, dUn_e, dNil_e, dCons_e, dTup_e, dLst_e, dCB_e, dCall_e, dCallB_e, dSeq_e, dNext_e, dBreak_e, dCont_e, dDrop_e, dRet_e, dRetN_e, dIfS_e, dSet_e, dSetO_e, dAug_e, dRaise_e, dApp_e, dAsg_e, dPar_e, dPar3_e, dPar_vvo_e, dgName_e, dgTup_e, dgCons_e, dgNil_e, dTest_e, dAnd_e, dOr_e, dNot_e, dYes_e, dIf_e, dAndV_e, dOrV_e, dNotV_e, dIsi_e, dBits_e, dTuple_e, dSeqI_e, dChain_e, i2_e, i2'_e, u1_e, eqP_int, neP_int, addP_int, addP_tup, addP_lst, lenP_lst, lenP_tup, lenP_scr, absP_int, intP_int, isN_P, notN_P, isB2_P, tuple_lst, sel_t, sel_f, ixP_t0, ixP_t1, ixP_l0, ixP_l1, ixP_own0, ixP_own1, startD, List.map_cons, List.map_nil, List.length_cons, List.length_nil, List.cons_append, List.nil_append, List.getElem?_cons_zero, List.getElem?_cons_succ, List.set_cons_zero, List.set_cons_succ, Nat.reduceAdd, Nat.reduceSub, List.replicate_succ, List.replicate_zero, Option.some.injEq]
    refine ⟨by rw [List.length_map, List.length_map]; omega, by rw [List.length_append, List.length_map, List.length_map]; omega, ?_⟩
    have em : (la.map fun x : Nat => D.int x) ++ (lb.map fun x : Nat => D.int x) ++ [D.int 2, .int 3, .int 5, .int 7, .int 13, .int 99991] = ((la ++ lb ++ smallC).map fun x : Nat => (x : Int)).map D.int := by
      rw [List.map_map, List.map_append, List.map_append]; rfl
    rw [em]
    have LL : (la ++ lb ++ smallC).length ≤ 46 := by rw [List.length_append, List.length_append]; have : smallC.length = 6 := rfl; omega
    have Lp : ∀ p ∈ la ++ lb ++ smallC, Pr p := fun p hp => by
      rcases List.mem_append.mp hp with hp | hp
      · rcases List.mem_append.mp hp with hp | hp
        · exact ((a2 p).mp hp).1
        · exact ((b2 p).mp hp).1
      · exact (smallC_pr p hp).1
    have L2 : 2 ∈ la ++ lb ++ smallC := List.mem_append_right _ (by simp [smallC])
    generalize la ++ lb ++ smallC = M at *
    refine ⟨fun i acc ρ => ρ = [some (.scr ns), some (.int t), some bx, some (.int a), some (.int b), some (.int c), x6, x7, x8, x9, x10, x11, x12] ∧ acc = (((M.map fun x : Nat => (x : Int)).take i).filter fun v => decide (v < 100000)).map D.int, ⟨rfl, rfl⟩, ?_, ?_⟩
    · rintro i d acc ρ2 hi ⟨rfl, rfl⟩
      rw [List.getElem?_map] at hi
      obtain ⟨x, hx, rfl⟩ := Option.map_eq_some_iff.mp hi
      simp only [dC_e, dVar_e, dOwn_e, dOp_e, dUn_e, dNil_e, dCons_e, dTup_e, dLst_e, dCB_e, dCall_e, dCallB_e, dSeq_e, dNext_e, dBreak_e, dCont_e, dDrop_e, dRet_e, dRetN_e, dIfS_e, dSet_e, dSetO_e, dAug_e, dRaise_e, dApp_e, dAsg_e, dPar_e, dPar3_e, dPar_vvo_e, dgName_e, dgTup_e, dgCons_e, dgNil_e, dTest_e, dAnd_e, dOr_e, dNot_e, dYes_e, dIf_e, dAndV_e, dOrV_e, dNotV_e, dIsi_e, dBits_e, dTuple_e, dSeqI_e, dChain_e, i2_e, i2'_e, u1_e, eqP_int, neP_int, addP_int, addP_tup, addP_lst, lenP_lst, lenP_tup, lenP_scr, absP_int, intP_int, isN_P, notN_P, isB2_P, tuple_lst, sel_t, sel_f, ixP_t0, ixP_t1, ixP_l0, ixP_l1, ixP_own0, ixP_own1, startD, List.map_cons, List.map_nil, List.length_cons, List.length_nil, List.cons_append, List.nil_append, List.getElem?_cons_zero, List.getElem?_cons_succ, List.set_cons_zero, List.set_cons_succ, Nat.reduceAdd, Nat.reduceSub, List.replicate_succ, List.replicate_zero, Option.some.injEq, wipeD]
      rw [filter_snoc hx]
      refine sel_of (fun h => ?_) (fun h => ?_)
      · rw [h]
        refine ⟨?_, rfl, by simp⟩
        rw [List.length_map]
        have h1 := List.length_filter_le (fun v : Int => decide (v < 100000)) ((M.map fun x : Nat => (x : Int)).take i)
        have h2 : ((M.map fun x : Nat => (x : Int)).take i).length ≤ M.length := by rw [List.length_take, List.length_map]; omega
        omega
      · rw [h]
        exact ⟨rfl, by simp⟩
    · rintro acc ρ2 ⟨rfl, rfl⟩
      rw [List.length_map, List.take_length]
      refine hC _ ⟨_, ⟨?_, ?_, ?_⟩, bx, x7, x8, x9, x10, x11, x12, hb, rfl⟩
      · have h1 := List.length_filter_le (fun v : Int => decide (v < 100000)) (M.map fun x : Nat => (x : Int))
        rw [List.length_map] at h1
        omega
      · refine List.length_pos_of_mem (a := (2 : Int)) (List.mem_filter.mpr ⟨List.mem_map.mpr ⟨2, L2, rfl⟩, rfl⟩)
      · intro v hv
        obtain ⟨h1, h2⟩ := List.mem_filter.mp hv
        obtain ⟨p, hp, rfl⟩ := List.mem_map.mp h1
        have h2 : (p : Int) < 100000 := of_decide_eq_true h2
        exact ⟨.inr ⟨p, rfl, Lp p hp, by omega⟩, h2⟩
  clear H
  rintro ρ ⟨L, hL, H⟩
  -- places
  refine seq_of (St ns t a b c) ?_ (fun C hC => ?_)
  rotate_left
  · refine for_any (fun d => ∃ v : Int, d = .int v ∧ Plc v ∧ v < 100000) (St ns t a b c) ?_ ?_ hC
    · intro C hC
      obtain ⟨bx, x7, x8, x9, x10, x11, x12, hb, rfl⟩ := H
      simp only [dC_e, dVar_e, dOwn_e, dOp_e, dUn_e, dNil_e, dCons_e, dTup_e, dLst_e, dCB_e, dCall_e, dCallB_e, dSeq_e, dNext_e, dBreak_e, dCont_e, dDrop_e, dRet_e, dRetN_e, dIfS_e, dSet_e, dSetO_e, dAug_e, dRaise_e, dApp_e, dAsg_e, dPar_e, dPar3_e, dPar_vvo_e, dgName_e, dgTup_e, dgCons_e, dgNil_e, dTest_e, dAnd_e, dOr_e, dNot_e, dYes_e, dIf_e, dAndV_e, dOrV_e, dNotV_e, dIsi_e, dBits_e, dTuple_e, dSeqI_e, dChain_e, i2_e, i2'_e, u1_e, eqP_int, neP_int, addP_int, addP_tup, addP_lst, lenP_lst, lenP_tup, lenP_scr, absP_int, intP_int, isN_P, notN_P, isB2_P, tuple_lst, sel_t, sel_f, ixP_t0, ixP_t1, ixP_l0, ixP_l1, ixP_own0, ixP_own1, startD, List.map_cons, List.map_nil, List.length_cons, List.length_nil, List.cons_append, List.nil_append, List.getElem?_cons_zero, List.getElem?_cons_succ, List.set_cons_zero, List.set_cons_succ, Nat.reduceAdd, Nat.reduceSub, List.replicate_succ, List.replicate_zero, Option.some.injEq, u1_e]
      refine pick hL hb fun j v b1 hj hb1 => ?_
      have gj : (L.map D.int)[j]? = some (.int v) := by rw [List.getElem?_map, hj]; rfl
      rw [ixP_lst gj]
      refine pick hL hb1 fun k w b2 hk hb2 => ?_
      have gk : (L.map D.int)[k]? = some (.int w) := by rw [List.getElem?_map, hk]; rfl
      rw [ixP_lst gk]
      refine hC _ _ ?_ ⟨_, _, _, _, _, _, _, _, hb2, rfl⟩
      intro d hd
      simp only [List.mem_cons, List.not_mem_nil, or_false] at hd
      rcases hd with rfl | rfl | rfl | rfl
      · exact ⟨-1, rfl, .inl rfl, by decide⟩
      · exact ⟨2, rfl, .inr ⟨2, rfl, pr2, by decide⟩, by decide⟩
      · exact ⟨v, rfl, hL.2.2 v (List.mem_of_getElem? hj)⟩
      · exact ⟨w, rfl, hL.2.2 w (List.mem_of_getElem? hk)⟩
    · rintro d ρ2 De' ⟨v, rfl, pv, lv⟩ ⟨bx, x6, x7, x8, x9, x10, x11, x12, hb, rfl⟩ hn
      simp only [dC_e, dVar_e, dOwn_e, dOp_e, dUn_e, dNil_e, dCons_e, dTup_e, dLst_e, dCB_e, dCall_e, dCallB_e, dSeq_e, dNext_e, dBreak_e, dCont_e, dDrop_e, dRet_e, dRetN_e, dIfS_e, dSet_e, dSetO_e, dAug_e, dRaise_e, dApp_e, dAsg_e, dPar_e, dPar3_e, dPar_vvo_e, dgName_e, dgTup_e, dgCons_e, dgNil_e, dTest_e, dAnd_e, dOr_e, dNot_e, dYes_e, dIf_e, dAndV_e, dOrV_e, dNotV_e, dIsi_e, dBits_e, dTuple_e, dSeqI_e, dChain_e, i2_e, i2'_e, u1_e, eqP_int, neP_int, addP_int, addP_tup, addP_lst, lenP_lst, lenP_tup, lenP_scr, absP_int, intP_int, isN_P, notN_P, isB2_P, tuple_lst, sel_t, sel_f, ixP_t0, ixP_t1, ixP_l0, ixP_l1, ixP_own0, ixP_own1, startD, List.map_cons, List.map_nil, List.length_cons, List.length_nil, List.cons_append, List.nil_append, List.getElem?_cons_zero, List.getElem?_cons_succ, List.set_cons_zero, List.set_cons_succ, Nat.reduceAdd, Nat.reduceSub, List.replicate_succ, List.replicate_zero, Option.some.injEq]
      refine ⟨bx, a, b, c, v, rfl, T.a, T.b, T.c, pv, lv, ?_⟩
      exact hn _ ⟨_, _, _, _, _, _, _, _, hb, rfl⟩
  clear H hL L
  rintro ρ H
  -- odd places
  refine seq_of (fun ρ => ∃ l, Two a b l ∧ ∃ bx x6 x7 x8 x10 x11 x12, BoxOk bx ∧ ρ = [some (.scr ns), some (.int t), some bx, some (.int a), some (.int b), some (.int c), x6, x7, x8, some (.lst ((oddV a b l).map D.int)), x10, x11, x12]) ?_ (fun C hC => ?_)
  rotate_left
  · obtain ⟨bx, x6, x7, x8, x9, x10, x11, x12, hb, rfl⟩ := H
    simp only [dC_e, dVar_e, dOwn_e, dOp_e, dUn_e, dNil_e, dCons_e, dTup_e, dLst_e, dCB_e, dCall_e, dCallB_e, dSeq_e, dNext_e, dBreak_e, dCont_e, dDrop_e, dRet_e, dRetN_e, dIfS_e, dSet_e, dSetO_e, dAug_e, dRaise_e, dApp_e, dAsg_e, dPar_e, dPar3_e, dPar_vvo_e, dgName_e, dgTup_e, dgCons_e, dgNil_e, dTest_e, dAnd_e, dOr_e, dNot_e, dYes_e, dIf_e, dAndV_e, dOrV_e, dNotV_e, dIsi_e, dBits_e, dTuple_e, dSeqI_e, dChain_e, i2_e, i2'_e, u1_e, eqP_int, neP_int, addP_int, addP_tup, addP_lst, lenP_lst, lenP_tup, lenP_scr, absP_int, intP_int, isN_P, notN_P, isB2_P, tuple_lst, sel_t, sel_f, ixP_t0, ixP_t1, ixP_l0, ixP_l1, ixP_own0, ixP_own1, startD, List.map_cons, List.map_nil, List.length_cons, List.length_nil, List.cons_append, List.nil_append, List.getElem?_cons_zero, List.getElem?_cons_succ, List.set_cons_zero, List.set_cons_succ, Nat.reduceAdd, Nat.reduceSub, List.replicate_succ, List.replicate_zero, Option.some.injEq, dLc, u1_e, dSorts]
    refine ⟨a, rfl, T.a, fun la a1 a2 => ?_⟩
    have fa := few_of T.a a1 a2
    have bs := big_size
    unfold ndl
    simp only [dC_e, dVar_e, dOwn_e, dOp_e, dUn_e, dNil_e, dCons_e, dTup_e, dLst_e, dCB_e, dCall_e, dCallB_e, dSeq_e, dNext_e, dBreak_e, dCont_e, dDrop_e, dRet_e, dRetN_e, dIfS_e, dSet_e, dSetO_e, dAug_e, dRaise_e, dApp_e, dAsg_e, dPar_e, dPar3_e, dPar_vvo_e, dgName_e, dgTup_e, dgCons_e, dgNil_e, dTest_e, dAnd_e, dOr_e, dNot_e, dYes_e, dIf_e, dAndV_e, dOrV_e, dNotV_e, dIsi_e, dBits_e, dTuple_e, dSeqI_e, dChain_e, i2_e, i2'_e, u1_e, eqP_int, neP_int, addP_int, addP_tup, addP_lst, lenP_lst, lenP_tup, lenP_scr, absP_int, intP_int, isN_P, notN_P, isB2_P, tuple_lst, sel_t, sel_f, ixP_t0, ixP_t1, ixP_l0, ixP_l1, ixP_own0, ixP_own1, startD, List.map_cons, List.map_nil, List.length_cons, List.length_nil, List.cons_append, List.nil_append, List.getElem?_cons_zero, List.getElem?_cons_succ, List.set_cons_zero, List.set_cons_succ, Nat.reduceAdd, Nat.reduceSub, List.replicate_succ, List.replicate_zero, Option.some.injEq]
    refine ⟨by rw [List.length_map]; omega, b, rfl, T.b, fun lb b1 b2 => ?_⟩
    have fb := few_of T.b b1 b2
    simp only [dC_e, dVar_e, dOwn_e, dOp_e, dUn_e, dNil_e, dCons_e, dTup_e, dLst_e, dCB_e, dCall_e, dCallB_e, dSeq_e, dNext_e, dBreak_e, dCont_e, dDrop_e, dRet_e, dRetN_e, dIfS_e, dSet_e, dSetO_e, dAug_e, dRaise_e, dApp_e, dAsg_e, dPar_e, dPar3_e, dPar_vvo_e, dgName_e, dgTup_e, dgCons_e, dgNil_e, dTest_e, dAnd_e, dOr_e, dNot_e, dYes_e, dIf_e, dAndV_e, dOrV_e, dNotV_e, dIsi_e, dBits_e, dTuple_e, dSeqI_e, dChain_e, i2_e, i2'_e, u1_e, eqP_int, neP_int, addP_int, addP_tup, addP_lst, lenP_lst, lenP_tup, lenP_scr, absP_int, intP_int, isN_P, notN_P, isB2_P, tuple_lst, sel_t, sel_f, ixP_t0, ixP_t1, ixP_l0, ixP_l1, ixP_own0, ixP_own1, startD, List.map_cons, List.map_nil, List.length_cons, List.length_nil, List.cons_append, List.nil_append, List.getElem?_cons_zero, List.getElem?_cons_succ, List.set_cons_zero, List.set_cons_succ, Nat.reduceAdd, Nat.reduceSub, List.replicate_succ, List.replicate_zero, Option.some.injEq]
    refine ⟨by rw [List.length_cons, List.length_map, List.length_map]; omega, ?_⟩
    refine ⟨(2 : Int) :: ((la.map fun x : Nat => (x : Int)) ++ lb.map fun x : Nat => (x : Int)), by rw [List.map_cons, List.map_append, List.map_map, List.map_map]; rfl, by rw [List.length_cons, List.length_append, List.length_map, List.length_map]; omega, fun ys h1 h2 => ?_⟩
    obtain ⟨l, hT, rfl⟩ := two_of a2 b2 h1 h2
    have few := (two_len T.a T.b hT).1
    have hp := plc_of T.a T.b hT
    refine ⟨by simp only [List.length_map, List.length_cons, List.length_nil]; omega, ?_⟩
    have em : D.int (-1) :: (l.map fun x : Nat => (x : Int)).map D.int = ((-1 : Int) :: l.map fun x : Nat => (x : Int)).map D.int := rfl
    show ∃ W, _
    rw [em]
    have fin : C [some (.scr ns), some (.int t), some bx, some (.int a), some (.int b), some (.int c), x6, x7, x8, some (.lst ((oddV a b l).map D.int)), x10, x11, x12] := hC _ ⟨l, hT, bx, x6, x7, x8, x10, x11, x12, hb, rfl⟩
    unfold oddV at fin
    have ll : ((-1 : Int) :: l.map fun x : Nat => (x : Int)).length ≤ 42 := by rw [List.length_cons, List.length_map]; omega
    have e9 : ((l.map fun x : Nat => (x : Int)).map D.int).length + 1 = ((-1 : Int) :: l.map fun x : Nat => (x : Int)).length := by simp
    generalize hM : ((-1 : Int) :: l.map fun x : Nat => (x : Int)) = M at *
    refine ⟨fun i acc ρ => ρ = [some (.scr ns), some (.int t), some bx, some (.int a), some (.int b), some (.int c), x6, x7, x8, x9, x10, x11, x12] ∧ acc = ((M.take i).filter fun v => syV v a b).map D.int, ⟨rfl, rfl⟩, ?_, ?_⟩
    · rintro i d acc ρ2 hi ⟨rfl, rfl⟩
      rw [List.getElem?_map] at hi
      obtain ⟨x, hx, rfl⟩ := Option.map_eq_some_iff.mp hi
      simp only [dC_e, dVar_e, dOwn_e, dOp_e, dUn_e, dNil_e, dCons_e, dTup_e, dLst_e, dCB_e, dCall_e, dCallB_e, dSeq_e, dNext_e, dBreak_e, dCont_e, dDrop_e, dRet_e, dRetN_e, dIfS_e, dSet_e, dSetO_e, dAug_e, dRaise_e, dApp_e, dAsg_e, dPar_e, dPar3_e, dPar_vvo_e, dgName_e, dgTup_e, dgCons_e, dgNil_e, dTest_e, dAnd_e, dOr_e, dNot_e, dYes_e, dIf_e, dAndV_e, dOrV_e, dNotV_e, dIsi_e, dBits_e, dTuple_e, dSeqI_e, dChain_e, i2_e, i2'_e, u1_e, eqP_int, neP_int, addP_int, addP_tup, addP_lst, lenP_lst, lenP_tup, lenP_scr, absP_int, intP_int, isN_P, notN_P, isB2_P, tuple_lst, sel_t, sel_f, ixP_t0, ixP_t1, ixP_l0, ixP_l1, ixP_own0, ixP_own1, startD, List.map_cons, List.map_nil, List.length_cons, List.length_nil, List.cons_append, List.nil_append, List.getElem?_cons_zero, List.getElem?_cons_succ, List.set_cons_zero, List.set_cons_succ, Nat.reduceAdd, Nat.reduceSub, List.replicate_succ, List.replicate_zero, Option.some.injEq, wipeD]
      refine ⟨a, b, x, rfl, T.a.big, T.b.big, hp x (List.mem_of_getElem? hx), ?_⟩
      simp only [dC_e, dVar_e, dOwn_e, dOp_e, dUn_e, dNil_e, dCons_e, dTup_e, dLst_e, dCB_e, dCall_e, dCallB_e, dSeq_e, dNext_e, dBreak_e, dCont_e, dDrop_e, dRet_e, dRetN_e, dIfS_e, dSet_e, dSetO_e, dAug_e, dRaise_e, dApp_e, dAsg_e, dPar_e, dPar3_e, dPar_vvo_e, dgName_e, dgTup_e, dgCons_e, dgNil_e, dTest_e, dAnd_e, dOr_e, dNot_e, dYes_e, dIf_e, dAndV_e, dOrV_e, dNotV_e, dIsi_e, dBits_e, dTuple_e, dSeqI_e, dChain_e, i2_e, i2'_e, u1_e, eqP_int, neP_int, addP_int, addP_tup, addP_lst, lenP_lst, lenP_tup, lenP_scr, absP_int, intP_int, isN_P, notN_P, isB2_P, tuple_lst, sel_t, sel_f, ixP_t0, ixP_t1, ixP_l0, ixP_l1, ixP_own0, ixP_own1, startD, List.map_cons, List.map_nil, List.length_cons, List.length_nil, List.cons_append, List.nil_append, List.getElem?_cons_zero, List.getElem?_cons_succ, List.set_cons_zero, List.set_cons_succ, Nat.reduceAdd, Nat.reduceSub, List.replicate_succ, List.replicate_zero, Option.some.injEq, u1_e]
      have e : decide (sB (syV x a b) = -1) = syV x a b := by unfold sB; cases syV x a b <;> decide
      rw [e, filter_snoc hx]
      refine sel_of (fun h => ?_) (fun h => ?_)
      · rw [h]
        refine ⟨?_, rfl, by simp⟩
        rw [List.length_map]
        have h1 := List.length_filter_le (fun v => syV v a b) (M.take i)
        have h2 : (M.take i).length ≤ M.length := by rw [List.length_take]; omega
        omega
      · rw [h]
        exact ⟨rfl, by simp⟩
    · rintro acc ρ2 ⟨rfl, rfl⟩
      have e8 : (M.map D.int).length = M.length := List.length_map ..
      first | rw [e9, List.take_length] | rw [e8, List.take_length]
      exact fin
  clear H
  rintro ρ ⟨l, hT, H⟩
  refine seq_of (St ns t a b c) ?_ (fun C hC => ?_)
  rotate_left
  · obtain ⟨bx, x6, x7, x8, x10, x11, x12, hb, rfl⟩ := H
    simp only [dC_e, dVar_e, dOwn_e, dOp_e, dUn_e, dNil_e, dCons_e, dTup_e, dLst_e, dCB_e, dCall_e, dCallB_e, dSeq_e, dNext_e, dBreak_e, dCont_e, dDrop_e, dRet_e, dRetN_e, dIfS_e, dSet_e, dSetO_e, dAug_e, dRaise_e, dApp_e, dAsg_e, dPar_e, dPar3_e, dPar_vvo_e, dgName_e, dgTup_e, dgCons_e, dgNil_e, dTest_e, dAnd_e, dOr_e, dNot_e, dYes_e, dIf_e, dAndV_e, dOrV_e, dNotV_e, dIsi_e, dBits_e, dTuple_e, dSeqI_e, dChain_e, i2_e, i2'_e, u1_e, eqP_int, neP_int, addP_int, addP_tup, addP_lst, lenP_lst, lenP_tup, lenP_scr, absP_int, intP_int, isN_P, notN_P, isB2_P, tuple_lst, sel_t, sel_f, ixP_t0, ixP_t1, ixP_l0, ixP_l1, ixP_own0, ixP_own1, startD, List.map_cons, List.map_nil, List.length_cons, List.length_nil, List.cons_append, List.nil_append, List.getElem?_cons_zero, List.getElem?_cons_succ, List.set_cons_zero, List.set_cons_succ, Nat.reduceAdd, Nat.reduceSub, List.replicate_succ, List.replicate_zero, Option.some.injEq, dTold, wipe13]
    refine ⟨.int a, .int b, rfl, tn_ask T.a, tn_ask T.b, fun a' b' ea eb _ _ l' hT' => ?_, fun n => ?_⟩
    rotate_left
    · rw [ask_of rfl T.a, ask_of rfl T.b] at n; cases n
    cases ea
    cases eb
    rw [hT'.uniq hT]
    have ev := odd_even T.a T.b hT
    have lb : (oddV a b l).length ≤ 100000 := by
      have h1 := List.length_filter_le (fun v => syV v a b) ((-1 : Int) :: l.map fun x : Nat => (x : Int))
      rw [List.length_cons, List.length_map] at h1
      have := (two_len T.a T.b hT).1
      unfold oddV
      omega
    have rds : ∀ (n : Nat) (l : List Int), rdNs n (l.map D.int) = true := fun n l => by
      induction l with
      | nil => rw [List.map_nil, rdNs]
      | cons x l ih => rw [List.map_cons, rdNs, ih, rdN]; rfl
    refine ⟨_, rfl, by rw [rdN, List.length_map, decide_eq_true lb, rds]; rfl, ?_⟩
    refine neP_self (ok_zero (by rw [okN]; exact okNs_ints _)) ?_
    refine ⟨by decide, ?_⟩
    rw [List.length_map]
    have : decide (((oddV a b l).length : Int) % 2 = 1) = false := decide_eq_false (by omega)
    rw [this]
    exact hC _ ⟨_, _, _, _, _, _, _, _, hb, rfl⟩
  clear H
  rintro ρ H
  -- zeros modulo powers
  refine seq_of (fun ρ => ∃ p : Nat, (p = 2 ∨ p = 3 ∨ p = 5) ∧ ∃ bx x6 x8 x9 x10 x11 x12, BoxOk bx ∧ ρ = [some (.scr ns), some (.int t), some bx, some (.int a), some (.int b), some (.int c), x6, some (.int p), x8, x9, x10, x11, x12]) ?_ (fun C hC => ?_)
  rotate_left
  · obtain ⟨bx, x6, x7, x8, x9, x10, x11, x12, hb, rfl⟩ := H
    simp only [dC_e, dVar_e, dOwn_e, dOp_e, dUn_e, dNil_e, dCons_e, dTup_e, dLst_e, dCB_e, dCall_e, dCallB_e, dSeq_e, dNext_e, dBreak_e, dCont_e, dDrop_e, dRet_e, dRetN_e, dIfS_e, dSet_e, dSetO_e, dAug_e, dRaise_e, dApp_e, dAsg_e, dPar_e, dPar3_e, dPar_vvo_e, dgName_e, dgTup_e, dgCons_e, dgNil_e, dTest_e, dAnd_e, dOr_e, dNot_e, dYes_e, dIf_e, dAndV_e, dOrV_e, dNotV_e, dIsi_e, dBits_e, dTuple_e, dSeqI_e, dChain_e, i2_e, i2'_e, u1_e, eqP_int, neP_int, addP_int, addP_tup, addP_lst, lenP_lst, lenP_tup, lenP_scr, absP_int, intP_int, isN_P, notN_P, isB2_P, tuple_lst, sel_t, sel_f, ixP_t0, ixP_t1, ixP_l0, ixP_l1, ixP_own0, ixP_own1, startD, List.map_cons, List.map_nil, List.length_cons, List.length_nil, List.cons_append, List.nil_append, List.getElem?_cons_zero, List.getElem?_cons_succ, List.set_cons_zero, List.set_cons_succ, Nat.reduceAdd, Nat.reduceSub, List.replicate_succ, List.replicate_zero, Option.some.injEq]
    refine ⟨bx, 3, rfl, hb, by decide, by decide, fun j b1 hb1 hj => ?_⟩
    have hz : ∃ m : Nat, ([.int 2, .int 3, .int 5] : List PD.D)[j]? = some (.int m) ∧ (m = 2 ∨ m = 3 ∨ m = 5) := by
      have : j = 0 ∨ j = 1 ∨ j = 2 := by omega
      rcases this with rfl | rfl | rfl
      · exact ⟨2, rfl, .inl rfl⟩
      · exact ⟨3, rfl, .inr (.inl rfl)⟩
      · exact ⟨5, rfl, .inr (.inr rfl)⟩
    obtain ⟨m, hz, hm⟩ := hz
    dsimp only
    rw [ixP_lst hz]
    exact hC _ ⟨m, hm, _, _, _, _, _, _, _, hb1, rfl⟩
  clear H
  rintro ρ ⟨p, hp, H⟩
  have pp : Pr p ∧ p ≤ 1000000 := by
    rcases hp with rfl | rfl | rfl
    · exact ⟨pr2, by decide⟩
    · exact ⟨pr_of (q := 2) (by decide) (by decide) (by decide), by decide⟩
    · exact ⟨pr5, by decide⟩
  refine seq_of (fun ρ => ∃ u v : Int, CoreR a u ∧ CoreR b v ∧ ∃ bx x6 x8 x9 x12, BoxOk bx ∧ ρ = [some (.scr ns), some (.int t), some bx, some (.int a), some (.int b), some (.int c), x6, some (.int p), x8, x9, some (.int u), some (.int v), x12]) ?_ (fun C hC => ?_)
  rotate_left
  · obtain ⟨bx, x6, x8, x9, x10, x11, x12, hb, rfl⟩ := H
    simp only [dC_e, dVar_e, dOwn_e, dOp_e, dUn_e, dNil_e, dCons_e, dTup_e, dLst_e, dCB_e, dCall_e, dCallB_e, dSeq_e, dNext_e, dBreak_e, dCont_e, dDrop_e, dRet_e, dRetN_e, dIfS_e, dSet_e, dSetO_e, dAug_e, dRaise_e, dApp_e, dAsg_e, dPar_e, dPar3_e, dPar_vvo_e, dgName_e, dgTup_e, dgCons_e, dgNil_e, dTest_e, dAnd_e, dOr_e, dNot_e, dYes_e, dIf_e, dAndV_e, dOrV_e, dNotV_e, dIsi_e, dBits_e, dTuple_e, dSeqI_e, dChain_e, i2_e, i2'_e, u1_e, eqP_int, neP_int, addP_int, addP_tup, addP_lst, lenP_lst, lenP_tup, lenP_scr, absP_int, intP_int, isN_P, notN_P, isB2_P, tuple_lst, sel_t, sel_f, ixP_t0, ixP_t1, ixP_l0, ixP_l1, ixP_own0, ixP_own1, startD, List.map_cons, List.map_nil, List.length_cons, List.length_nil, List.cons_append, List.nil_append, List.getElem?_cons_zero, List.getElem?_cons_succ, List.set_cons_zero, List.set_cons_succ, Nat.reduceAdd, Nat.reduceSub, List.replicate_succ, List.replicate_zero, Option.some.injEq]
    exact ⟨a, rfl, T.a, fun u hu => ⟨b, rfl, T.b, fun v hv => hC _ ⟨u, v, hu, hv, _, _, _, _, _, hb, rfl⟩⟩⟩
  clear H
  rintro ρ ⟨u, v, hu, hv, H⟩
  refine seq_of (St ns t a b c) ?_ (fun C hC => ?_)
  rotate_left
  · obtain ⟨bx, x6, x8, x9, x12, hb, rfl⟩ := H
    obtain ⟨au, su⟩ := core_ask T.a hu
    obtain ⟨av, sv⟩ := core_ask T.b hv
    simp only [dC_e, dVar_e, dOwn_e, dOp_e, dUn_e, dNil_e, dCons_e, dTup_e, dLst_e, dCB_e, dCall_e, dCallB_e, dSeq_e, dNext_e, dBreak_e, dCont_e, dDrop_e, dRet_e, dRetN_e, dIfS_e, dSet_e, dSetO_e, dAug_e, dRaise_e, dApp_e, dAsg_e, dPar_e, dPar3_e, dPar_vvo_e, dgName_e, dgTup_e, dgCons_e, dgNil_e, dTest_e, dAnd_e, dOr_e, dNot_e, dYes_e, dIf_e, dAndV_e, dOrV_e, dNotV_e, dIsi_e, dBits_e, dTuple_e, dSeqI_e, dChain_e, i2_e, i2'_e, u1_e, eqP_int, neP_int, addP_int, addP_tup, addP_lst, lenP_lst, lenP_tup, lenP_scr, absP_int, intP_int, isN_P, notN_P, isB2_P, tuple_lst, sel_t, sel_f, ixP_t0, ixP_t1, ixP_l0, ixP_l1, ixP_own0, ixP_own1, startD, List.map_cons, List.map_nil, List.length_cons, List.length_nil, List.cons_append, List.nil_append, List.getElem?_cons_zero, List.getElem?_cons_succ, List.set_cons_zero, List.set_cons_succ, Nat.reduceAdd, Nat.reduceSub, List.replicate_succ, List.replicate_zero, Option.some.injEq]
    refine ⟨u, v, p, rfl, au, av, hp, su p pp.1, sv p pp.1, ?_⟩
    refine ⟨u, v, p, rfl, au.big, av.big, .inr ⟨p, rfl, pp.1, pp.2⟩, ?_⟩
    simp only [dC_e, dVar_e, dOwn_e, dOp_e, dUn_e, dNil_e, dCons_e, dTup_e, dLst_e, dCB_e, dCall_e, dCallB_e, dSeq_e, dNext_e, dBreak_e, dCont_e, dDrop_e, dRet_e, dRetN_e, dIfS_e, dSet_e, dSetO_e, dAug_e, dRaise_e, dApp_e, dAsg_e, dPar_e, dPar3_e, dPar_vvo_e, dgName_e, dgTup_e, dgCons_e, dgNil_e, dTest_e, dAnd_e, dOr_e, dNot_e, dYes_e, dIf_e, dAndV_e, dOrV_e, dNotV_e, dIsi_e, dBits_e, dTuple_e, dSeqI_e, dChain_e, i2_e, i2'_e, u1_e, eqP_int, neP_int, addP_int, addP_tup, addP_lst, lenP_lst, lenP_tup, lenP_scr, absP_int, intP_int, isN_P, notN_P, isB2_P, tuple_lst, sel_t, sel_f, ixP_t0, ixP_t1, ixP_l0, ixP_l1, ixP_own0, ixP_own1, startD, List.map_cons, List.map_nil, List.length_cons, List.length_nil, List.cons_append, List.nil_append, List.getElem?_cons_zero, List.getElem?_cons_succ, List.set_cons_zero, List.set_cons_succ, Nat.reduceAdd, Nat.reduceSub, List.replicate_succ, List.replicate_zero, Option.some.injEq]
    have e : decide (sB (syV (p : Nat) u v) = 1) = !sy p u v := by
      rw [syV_p pp.1]
      unfold sB
      cases sy p u v <;> decide
    rw [e]
    refine neP_bl ?_
    rw [beq_self_eq_true]
    exact hC _ ⟨_, _, _, _, _, _, _, _, hb, rfl⟩
  clear H hu hv u v pp hp p hT l
  rintro ρ H
  refine seq_of (St ns t a b c) ?_ (fun C hC => ?_)
  rotate_left
  · refine for_any BadN (St ns t a b c) ?_ ?_ hC
    · intro C hC
      simp only [dC_e, dVar_e, dOwn_e, dOp_e, dUn_e, dNil_e, dCons_e, dTup_e, dLst_e, dCB_e, dCall_e, dCallB_e, dSeq_e, dNext_e, dBreak_e, dCont_e, dDrop_e, dRet_e, dRetN_e, dIfS_e, dSet_e, dSetO_e, dAug_e, dRaise_e, dApp_e, dAsg_e, dPar_e, dPar3_e, dPar_vvo_e, dgName_e, dgTup_e, dgCons_e, dgNil_e, dTest_e, dAnd_e, dOr_e, dNot_e, dYes_e, dIf_e, dAndV_e, dOrV_e, dNotV_e, dIsi_e, dBits_e, dTuple_e, dSeqI_e, dChain_e, i2_e, i2'_e, u1_e, eqP_int, neP_int, addP_int, addP_tup, addP_lst, lenP_lst, lenP_tup, lenP_scr, absP_int, intP_int, isN_P, notN_P, isB2_P, tuple_lst, sel_t, sel_f, ixP_t0, ixP_t1, ixP_l0, ixP_l1, ixP_own0, ixP_own1, startD, List.map_cons, List.map_nil, List.length_cons, List.length_nil, List.cons_append, List.nil_append, List.getElem?_cons_zero, List.getElem?_cons_succ, List.set_cons_zero, List.set_cons_succ, Nat.reduceAdd, Nat.reduceSub, List.replicate_succ, List.replicate_zero, Option.some.injEq, u1_e]
      exact hC _ _ bads_n H
    · rintro d ρ2 De' hd H hn
      obtain ⟨bx, x6, x7, x8, x9, x10, x11, x12, hb, rfl⟩ := H
      exact bad_one T hd (De := De') (ρ := [some (.scr ns), some (.int t), some bx, some (.int a), some (.int b), some (.int c), x6, x7, x8, x9, x10, x11, some d]) ⟨_, _, _, _, _, _, _, hb, rfl⟩ fun ρ h => hn ρ h.st
  clear H
  rintro ρ H
  refine for_any BadP (St ns t a b c) ?_ ?_ (fun ρ H => ?_)
  · intro C hC
    simp only [dC_e, dVar_e, dOwn_e, dOp_e, dUn_e, dNil_e, dCons_e, dTup_e, dLst_e, dCB_e, dCall_e, dCallB_e, dSeq_e, dNext_e, dBreak_e, dCont_e, dDrop_e, dRet_e, dRetN_e, dIfS_e, dSet_e, dSetO_e, dAug_e, dRaise_e, dApp_e, dAsg_e, dPar_e, dPar3_e, dPar_vvo_e, dgName_e, dgTup_e, dgCons_e, dgNil_e, dTest_e, dAnd_e, dOr_e, dNot_e, dYes_e, dIf_e, dAndV_e, dOrV_e, dNotV_e, dIsi_e, dBits_e, dTuple_e, dSeqI_e, dChain_e, i2_e, i2'_e, u1_e, eqP_int, neP_int, addP_int, addP_tup, addP_lst, lenP_lst, lenP_tup, lenP_scr, absP_int, intP_int, isN_P, notN_P, isB2_P, tuple_lst, sel_t, sel_f, ixP_t0, ixP_t1, ixP_l0, ixP_l1, ixP_own0, ixP_own1, startD, List.map_cons, List.map_nil, List.length_cons, List.length_nil, List.cons_append, List.nil_append, List.getElem?_cons_zero, List.getElem?_cons_succ, List.set_cons_zero, List.set_cons_succ, Nat.reduceAdd, Nat.reduceSub, List.replicate_succ, List.replicate_zero, Option.some.injEq, u1_e]
    exact hC _ _ bads_p H
  · rintro d ρ2 De' hd H hn
    obtain ⟨bx, x6, x7, x8, x9, x10, x11, x12, hb, rfl⟩ := H
    exact bad_two T hd (De := De') (ρ := [some (.scr ns), some (.int t), some bx, some (.int a), some (.int b), some (.int c), x6, x7, x8, x9, x10, x11, some d]) ⟨_, _, _, _, _, _, _, hb, rfl⟩ fun ρ h => hn ρ h.st
  · obtain ⟨bx, x6, x7, x8, x9, x10, x11, x12, hb, rfl⟩ := H
    exact hDe _ ⟨_, _, _, _, _, _, _, _, _, _, _, _, rfl⟩
end K01

end
section
set_option Elab.async false
set_option maxHeartbeats 400000
set_option linter.all false
set_option maxRecDepth 100000
namespace K01
open PySem PySem.Spec PyProof.Rows L2 RZ PD

def topS (i : Nat) : Stmt := PySem.Challenge.pw_allplaces_k01_symbols.main.body.getD i (.Pass ⟨0, 0, 0, 0⟩)
abbrev s_is_number : Stmt := topS 5
abbrev s_primes_of : Stmt := topS 6
abbrev s_is_prime : Stmt := topS 7
abbrev s_core_of : Stmt := topS 8
abbrev s_power : Stmt := topS 9
abbrev s_residue : Stmt := topS 10
abbrev s_check_integer : Stmt := topS 14
abbrev s_check_place : Stmt := topS 15
abbrev s_parted : Stmt := topS 16
abbrev s_symbol_at : Stmt := topS 17
abbrev s_is_square_at : Stmt := topS 18
abbrev s_primes_in : Stmt := topS 19
abbrev s_core : Stmt := topS 20
abbrev s_symbol : Stmt := topS 21
abbrev s_square_at : Stmt := topS 22
abbrev s_odd_places : Stmt := topS 23
abbrev s__law_read : Stmt := topS 25
abbrev s__law_cell : Stmt := topS 26
abbrev s__law_stream : Stmt := topS 27
abbrev s__law_draw : Stmt := topS 28
abbrev s__law_told : Stmt := topS 29
abbrev s__law_primes : Stmt := topS 30
abbrev s__law_core : Stmt := topS 31
abbrev s__law_is_residue : Stmt := topS 32
abbrev s__law_symbol : Stmt := topS 33
abbrev s__law_square_at : Stmt := topS 34
abbrev s__law_number : Stmt := topS 35
abbrev s__law_solvable : Stmt := topS 36
abbrev s__law_right : Stmt := topS 37
abbrev s_law : Stmt := topS 38
theorem sc_is_number : FnScope ["told", "least", "most"] ["told", "least", "most"] (defScope s_is_number) := ⟨rfl, rfl, rfl, by decide +kernel, rfl, by decide +kernel, by decide +kernel⟩
theorem sc_primes_of : FnScope ["number", "rest", "told", "prime", "often"] ["number"] (defScope s_primes_of) := ⟨rfl, rfl, rfl, by decide +kernel, rfl, by decide +kernel, by decide +kernel⟩
theorem sc_is_prime : FnScope ["number"] ["number"] (defScope s_is_prime) := ⟨rfl, rfl, rfl, by decide +kernel, rfl, by decide +kernel, by decide +kernel⟩
theorem sc_core_of : FnScope ["number", "told", "prime", "often"] ["number"] (defScope s_core_of) := ⟨rfl, rfl, rfl, by decide +kernel, rfl, by decide +kernel, by decide +kernel⟩
theorem sc_power : FnScope ["base", "times", "modulus", "told"] ["base", "times", "modulus"] (defScope s_power) := ⟨rfl, rfl, rfl, by decide +kernel, rfl, by decide +kernel, by decide +kernel⟩
theorem sc_residue : FnScope ["number", "prime"] ["number", "prime"] (defScope s_residue) := ⟨rfl, rfl, rfl, by decide +kernel, rfl, by decide +kernel, by decide +kernel⟩
theorem sc_check_integer : FnScope ["number"] ["number"] (defScope s_check_integer) := ⟨rfl, rfl, rfl, by decide +kernel, rfl, by decide +kernel, by decide +kernel⟩
theorem sc_check_place : FnScope ["place"] ["place"] (defScope s_check_place) := ⟨rfl, rfl, rfl, by decide +kernel, rfl, by decide +kernel, by decide +kernel⟩
theorem sc_parted : FnScope ["number", "prime", "often"] ["number", "prime"] (defScope s_parted) := ⟨rfl, rfl, rfl, by decide +kernel, rfl, by decide +kernel, by decide +kernel⟩
theorem sc_symbol_at : FnScope ["a", "b", "place", "i", "s", "j", "t", "odd", "told"] ["a", "b", "place"] (defScope s_symbol_at) := ⟨rfl, rfl, rfl, by decide +kernel, rfl, by decide +kernel, by decide +kernel⟩
theorem sc_is_square_at : FnScope ["a", "place", "often", "rest"] ["a", "place"] (defScope s_is_square_at) := ⟨rfl, rfl, rfl, by decide +kernel, rfl, by decide +kernel, by decide +kernel⟩
theorem sc_primes_in : FnScope ["numbers", "found", "number", "prime", "_"] ["numbers"] (defScope s_primes_in) := ⟨rfl, rfl, rfl, by decide +kernel, rfl, by decide +kernel, by decide +kernel⟩
theorem sc_core : FnScope ["a"] ["a"] (defScope s_core) := ⟨rfl, rfl, rfl, by decide +kernel, rfl, by decide +kernel, by decide +kernel⟩
theorem sc_symbol : FnScope ["a", "b", "place"] ["a", "b", "place"] (defScope s_symbol) := ⟨rfl, rfl, rfl, by decide +kernel, rfl, by decide +kernel, by decide +kernel⟩
theorem sc_square_at : FnScope ["a", "place"] ["a", "place"] (defScope s_square_at) := ⟨rfl, rfl, rfl, by decide +kernel, rfl, by decide +kernel, by decide +kernel⟩
theorem sc_odd_places : FnScope ["a", "b", "place"] ["a", "b"] (defScope s_odd_places) := ⟨rfl, rfl, rfl, by decide +kernel, rfl, by decide +kernel, by decide +kernel⟩
theorem sc__law_read : FnScope ["told", "sign", "part"] ["told"] (defScope s__law_read) := ⟨rfl, rfl, rfl, by decide +kernel, rfl, by decide +kernel, by decide +kernel⟩
theorem sc__law_cell : FnScope ["script", "k"] ["script", "k"] (defScope s__law_cell) := ⟨rfl, rfl, rfl, by decide +kernel, rfl, by decide +kernel, by decide +kernel⟩
theorem sc__law_stream : FnScope ["script", "k"] ["script", "k"] (defScope s__law_stream) := ⟨rfl, rfl, rfl, by decide +kernel, rfl, by decide +kernel, by decide +kernel⟩
theorem sc__law_draw : FnScope ["box", "many", "told"] ["box", "many"] (defScope s__law_draw) := ⟨rfl, rfl, rfl, by decide +kernel, rfl, by decide +kernel, by decide +kernel⟩
theorem sc__law_told : FnScope ["call", "e", "words", "word", "is_so"] ["call"] (defScope s__law_told) := ⟨rfl, rfl, rfl, by decide +kernel, rfl, by decide +kernel, by decide +kernel⟩
theorem sc__law_primes : FnScope ["number", "p", "found"] ["number"] (defScope s__law_primes) := ⟨rfl, rfl, rfl, by decide +kernel, rfl, by decide +kernel, by decide +kernel⟩
theorem sc__law_core : FnScope ["number", "told", "p", "often"] ["number"] (defScope s__law_core) := ⟨rfl, rfl, rfl, by decide +kernel, rfl, by decide +kernel, by decide +kernel⟩
theorem sc__law_is_residue : FnScope ["s", "p", "power_v", "left", "base"] ["s", "p"] (defScope s__law_is_residue) := ⟨rfl, rfl, rfl, by decide +kernel, rfl, by decide +kernel, by decide +kernel⟩
theorem sc__law_symbol : FnScope ["a", "b", "place", "i", "j", "odd"] ["a", "b", "place"] (defScope s__law_symbol) := ⟨rfl, rfl, rfl, by decide +kernel, rfl, by decide +kernel, by decide +kernel⟩
theorem sc__law_square_at : FnScope ["a", "place", "often"] ["a", "place"] (defScope s__law_square_at) := ⟨rfl, rfl, rfl, by decide +kernel, rfl, by decide +kernel, by decide +kernel⟩
theorem sc__law_number : FnScope ["box", "pick", "sign", "told", "turn", "more"] ["box"] (defScope s__law_number) := ⟨rfl, rfl, rfl, by decide +kernel, rfl, by decide +kernel, by decide +kernel⟩
theorem sc__law_solvable : FnScope ["a", "b", "p", "power_v", "squares", "z", "x", "y", "rest"] ["a", "b", "p"] (defScope s__law_solvable) := ⟨rfl, rfl, rfl, by decide +kernel, rfl, by decide +kernel, by decide +kernel⟩
theorem sc__law_right : FnScope ["box", "a", "b", "c", "place", "due"] ["box", "a", "b", "c", "place"] (defScope s__law_right) := ⟨rfl, rfl, rfl, by decide +kernel, rfl, by decide +kernel, by decide +kernel⟩
theorem sc_law : FnScope ["script", "turn", "box", "a", "b", "c", "primes", "p", "place", "odd", "one", "two", "bad"] ["script"] (defScope s_law) := ⟨rfl, rfl, rfl, by decide +kernel, rfl, by decide +kernel, by decide +kernel⟩
structure Txt (K : PySem.W.Frag) (mg : Str → Option Value) (A : Nat → Addr) (FD : Nat → FuncData) (cl : Ex → Addr) (CC PT : Nat → Addr) (TT : List (Addr × Str)) (pe : Addr) : Prop where
  f0 : Fun K "is_number" "is_number" s_is_number (A 0) (FD 0)
  g0 : mg "is_number" = some (.ref (A 0))
  b0 : Binds K (FD 0) ["told", "least", "most"] []
  f1 : Fun K "primes_of" "primes_of" s_primes_of (A 1) (FD 1)
  g1 : mg "primes_of" = some (.ref (A 1))
  b1 : Binds K (FD 1) ["number"] []
  f2 : Fun K "is_prime" "is_prime" s_is_prime (A 2) (FD 2)
  g2 : mg "is_prime" = some (.ref (A 2))
  b2 : Binds K (FD 2) ["number"] []
  f3 : Fun K "core_of" "core_of" s_core_of (A 3) (FD 3)
  g3 : mg "core_of" = some (.ref (A 3))
  b3 : Binds K (FD 3) ["number"] []
  f4 : Fun K "power" "power" s_power (A 4) (FD 4)
  g4 : mg "power" = some (.ref (A 4))
  b4 : Binds K (FD 4) ["base", "times", "modulus"] []
  f5 : Fun K "residue" "residue" s_residue (A 5) (FD 5)
  g5 : mg "residue" = some (.ref (A 5))
  b5 : Binds K (FD 5) ["number", "prime"] []
  f6 : Fun K "check_integer" "check_integer" s_check_integer (A 6) (FD 6)
  g6 : mg "check_integer" = some (.ref (A 6))
  b6 : Binds K (FD 6) ["number"] []
  f7 : Fun K "check_place" "check_place" s_check_place (A 7) (FD 7)
  g7 : mg "check_place" = some (.ref (A 7))
  b7 : Binds K (FD 7) ["place"] []
  f8 : Fun K "parted" "parted" s_parted (A 8) (FD 8)
  g8 : mg "parted" = some (.ref (A 8))
  b8 : Binds K (FD 8) ["number", "prime"] []
  f9 : Fun K "symbol_at" "symbol_at" s_symbol_at (A 9) (FD 9)
  g9 : mg "symbol_at" = some (.ref (A 9))
  b9 : Binds K (FD 9) ["a", "b", "place"] []
  f10 : Fun K "is_square_at" "is_square_at" s_is_square_at (A 10) (FD 10)
  g10 : mg "is_square_at" = some (.ref (A 10))
  b10 : Binds K (FD 10) ["a", "place"] []
  f11 : Fun K "primes_in" "primes_in" s_primes_in (A 11) (FD 11)
  g11 : mg "primes_in" = some (.ref (A 11))
  b11 : Binds K (FD 11) ["numbers"] []
  f12 : Fun K "core" "core" s_core (A 12) (FD 12)
  g12 : mg "core" = some (.ref (A 12))
  b12 : Binds K (FD 12) ["a"] []
  f13 : Fun K "symbol" "symbol" s_symbol (A 13) (FD 13)
  g13 : mg "symbol" = some (.ref (A 13))
  b13 : Binds K (FD 13) ["a", "b", "place"] []
  f14 : Fun K "square_at" "square_at" s_square_at (A 14) (FD 14)
  g14 : mg "square_at" = some (.ref (A 14))
  b14 : Binds K (FD 14) ["a", "place"] []
  f15 : Fun K "odd_places" "odd_places" s_odd_places (A 15) (FD 15)
  g15 : mg "odd_places" = some (.ref (A 15))
  b15 : Binds K (FD 15) ["a", "b"] []
  f16 : Fun K "_law_read" "_law_read" s__law_read (A 16) (FD 16)
  g16 : mg "_law_read" = some (.ref (A 16))
  b16 : Binds K (FD 16) ["told"] []
  f17 : Fun K "_law_cell" "_law_cell" s__law_cell (A 17) (FD 17)
  g17 : mg "_law_cell" = some (.ref (A 17))
  b17 : Binds K (FD 17) ["script", "k"] []
  f18 : Fun K "_law_stream" "_law_stream" s__law_stream (A 18) (FD 18)
  g18 : mg "_law_stream" = some (.ref (A 18))
  b18 : Binds K (FD 18) ["script", "k"] []
  f19 : Fun K "_law_draw" "_law_draw" s__law_draw (A 19) (FD 19)
  g19 : mg "_law_draw" = some (.ref (A 19))
  b19 : Binds K (FD 19) ["box", "many"] []
  f20 : Fun K "_law_told" "_law_told" s__law_told (A 20) (FD 20)
  g20 : mg "_law_told" = some (.ref (A 20))
  b20 : Binds K (FD 20) ["call"] []
  f21 : Fun K "_law_primes" "_law_primes" s__law_primes (A 21) (FD 21)
  g21 : mg "_law_primes" = some (.ref (A 21))
  b21 : Binds K (FD 21) ["number"] []
  f22 : Fun K "_law_core" "_law_core" s__law_core (A 22) (FD 22)
  g22 : mg "_law_core" = some (.ref (A 22))
  b22 : Binds K (FD 22) ["number"] []
  f23 : Fun K "_law_is_residue" "_law_is_residue" s__law_is_residue (A 23) (FD 23)
  g23 : mg "_law_is_residue" = some (.ref (A 23))
  b23 : Binds K (FD 23) ["s", "p"] []
  f24 : Fun K "_law_symbol" "_law_symbol" s__law_symbol (A 24) (FD 24)
  g24 : mg "_law_symbol" = some (.ref (A 24))
  b24 : Binds K (FD 24) ["a", "b", "place"] []
  f25 : Fun K "_law_square_at" "_law_square_at" s__law_square_at (A 25) (FD 25)
  g25 : mg "_law_square_at" = some (.ref (A 25))
  b25 : Binds K (FD 25) ["a", "place"] []
  f26 : Fun K "_law_number" "_law_number" s__law_number (A 26) (FD 26)
  g26 : mg "_law_number" = some (.ref (A 26))
  b26 : Binds K (FD 26) ["box"] []
  f27 : Fun K "_law_solvable" "_law_solvable" s__law_solvable (A 27) (FD 27)
  g27 : mg "_law_solvable" = some (.ref (A 27))
  b27 : Binds K (FD 27) ["a", "b", "p"] []
  f28 : FunC K "_law_right" "_law_right" s__law_right (A 28) (CC 28) (FD 28)
  t28 : (PT 28, ("_law_right.<locals>.<lambda>" : Str)) ∈ TT
  u28 : ∀ p ∈ TT, p.1 = PT 28 → p.2 = "_law_right.<locals>.<lambda>"
  g28 : mg "_law_right" = some (.ref (A 28))
  b28 : Binds K (FD 28) ["box", "a", "b", "c", "place"] []
  f29 : FunC K "law" "law" s_law (A 29) (CC 29) (FD 29)
  t29 : (PT 29, ("law.<locals>.<lambda>" : Str)) ∈ TT
  u29 : ∀ p ∈ TT, p.1 = PT 29 → p.2 = "law.<locals>.<lambda>"
  g29 : mg "law" = some (.ref (A 29))
  b29 : Binds K (FD 29) ["script"] []
  z_abs : mg "abs" = none
  z_all : mg "all" = none
  z_any : mg "any" = none
  z_bool : mg "bool" = none
  z_enumerate : mg "enumerate" = none
  z_int : mg "int" = none
  z_isinstance : mg "isinstance" = none
  z_len : mg "len" = none
  z_list : mg "list" = none
  z_max : mg "max" = none
  z_min : mg "min" = none
  z_range : mg "range" = none
  z_repr : mg "repr" = none
  z_set : mg "set" = none
  z_sorted : mg "sorted" = none
  z_str : mg "str" = none
  z_sum : mg "sum" = none
  z_tuple : mg "tuple" = none
  z_zip : mg "zip" = none
  m_GREATEST : ∃ t, mg "GREATEST" = some (.int (1000000) t)
  m_MOST_PLACE : ∃ t, mg "MOST_PLACE" = some (.int (100000) t)
  x_BadForm : PySem.W.excIn K (cl .form) [.type "ValueError", .type "Exception", .type "BaseException", .type "object"] "ValueError.__new__" = true
  g_BadForm : mg "BadForm" = some (.ref (cl .form))
  k_BadForm : PySem.W.keepIn K (.ref (cl .form)) = true
  e_BadForm : PySem.W.subIn K (.ref (cl .form)) (.type "BaseException") = some true
  t_BadForm : PySem.W.typeIn K (.ref (cl .form)) = some (.type "type")
  x_OutOfRange : PySem.W.excIn K (cl .range) [.type "ValueError", .type "Exception", .type "BaseException", .type "object"] "ValueError.__new__" = true
  g_OutOfRange : mg "OutOfRange" = some (.ref (cl .range))
  k_OutOfRange : PySem.W.keepIn K (.ref (cl .range)) = true
  e_OutOfRange : PySem.W.subIn K (.ref (cl .range)) (.type "BaseException") = some true
  t_OutOfRange : PySem.W.typeIn K (.ref (cl .range)) = some (.type "type")
  g_PlaceError : mg "PlaceError" = some (.ref pe)
  ff : ∀ x, ExF K cl pe x
abbrev TB0 (base : Heap) (mg : Str → Option Value) (CC PT : Nat → Addr) : Prop := LamX.TabB base mg (CC 28) (PT 28) ∧ LamX.TabB base mg (CC 29) (PT 29) ∧ True
section
variable {P : Program} {w : World} {K : PySem.W.Frag} {mg : Str → Option Value} {base : Heap} {A : Nat → Addr} {FD : Nat → FuncData} {cl : Ex → Addr} {CC PT : Nat → Addr} {TT : List (Addr × Str)} {pe : Addr}

theorem ok_is_number (T : Txt K mg A FD cl CC PT TT pe) (TB0 : TB0 base mg CC PT) : FnOk P w K mg base (L2N.CX P w) 1 (A 0) (FD 0) ["told", "least", "most"] (spP K cl TT 3 F_is_number) := by
  have z_int := T.z_int
  have z_isinstance := T.z_isinstance
  have nd := sc_is_number.nd
  refine fn_pure T.f0 sc_is_number (fun _ => false) (by decide) d_is_number (fun cdv A0 outer s H E hr => ?_) sp_is_number
  exact ⟨_, (pss_one (ps_ret (pe_and (pe_callB (call_isi_K (K := K) rfl) (by rfl) z_isinstance bt_isinstance (pa_cons (pv 0) (pa_cons (pe_bltn (v := .ty "int") (by rfl) z_int bt_int rfl) pa_nil))) (pe_one (pe_chain op_le op_le (pv 1) (pv 0) (pv 2)))))),
   fun z h0 W he => (ss_ret (SV.se (sv_andV (sv_isi kit_int (sv_var 0 rfl)) (sv_chain sr_le sr_le (sv_var 1 rfl) (sv_var 0 rfl) (sv_var 2 rfl)))))⟩
theorem ok_primes_of (T : Txt K mg A FD cl CC PT TT pe) (TB0 : TB0 base mg CC PT) : FnOk P w K mg base (L2N.CX P w) 1 (A 1) (FD 1) ["number"] (spP K cl TT 1 F_primes_of) := by
  have z_abs := T.z_abs
  have nd := sc_primes_of.nd
  refine fn_pure T.f1 sc_primes_of (fun i => i == 2) (by decide) d_primes_of (fun cdv A0 outer s H E hr => ?_) sp_primes_of
  exact ⟨_, (pss_cons (ps_set (i := 1) nd rfl (Or.inl rfl) (pe_callB call_abs (by rfl) z_abs bt_abs (pa_cons (pv 0) pa_nil)))
  (pss_cons (ps_set (i := 2) nd rfl (Or.inl rfl) (pe_lst pa_nil))
  (pss_cons (ps_set (i := 3) nd rfl (Or.inl rfl) pe_int)
  (pss_cons (ps_while (passes_of rfl) (pt_cmpR op_le (pe_op op_mulW (pv 3) (pv 3)) (pv 1) (nomark _))
  (pss_cons (ps_set (i := 4) nd rfl (Or.inl rfl) pe_int)
  (pss_cons (ps_while (passes_of rfl) (pt_cmpR (op_eqDK (K := K) rfl hr.units) (pe_op op_mod (pv 1) (pv 3)) pe_int (nomark _))
  (pss_one (ps_par rfl nd rfl rfl (by decide) rfl rfl (pa_cons (pe_op op_fdivW (pv 1) (pv 3)) (pa_cons (pe_op (op_add4K (K := K) rfl) (pv 4) pe_int) pa_nil)) (by rfl))))
  (pss_cons (ps_if (pt_cmpR op_gt (pv 4) pe_int (nomark _))
  (pss_one (ps_expr (pe_appK (K := K) rfl (pv 2) (pe_tup (pa_cons (pv 3) (pa_cons (pv 4) pa_nil))))))
  pss_nil)
  (pss_one (ps_aug (i := 3) nd rfl (Or.inl rfl) (pe_ifExp (pt_cmpR (op_eqDK (K := K) rfl hr.units) (pv 3) pe_int (nomark _)) pe_int pe_int) ip_add))))))
  (pss_one (ps_ret (pe_ifExp (pt_cmpR op_gt (pv 1) pe_int (nomark _)) (pe_op (op_add4K (K := K) rfl) (pv 2) (pe_lst (pa_cons (pe_tup (pa_cons (pv 1) (pa_cons pe_int pa_nil))) pa_nil))) (pv 2)))))))),
   fun z h0 W he => (ss_seq (ss_set 1 rfl (sv_cb sr_abs (sao_cons (SV.se (sv_var 0 rfl)) sao_nil)))
  (ss_seq (ss_setO 2 rfl (.inl rfl) (sf_lst sa_nil))
  (ss_seq (ss_set 3 rfl sv_int)
  (ss_seq (ss_while (st_testO (sv_op sr_le (SV.se (sv_op sr_mul (SV.se (sv_var 3 rfl)) (SV.se (sv_var 3 rfl)))) (SV.se (sv_var 1 rfl))))
  (ss_seq (ss_set 4 rfl sv_int)
  (ss_seq (ss_while (st_testO (sv_op sr_eq (SV.se (sv_op sr_mod (SV.se (sv_var 1 rfl)) (SV.se (sv_var 3 rfl)))) (SV.se sv_int)))
  (ss_par 1 4 rfl rfl (sa_cons (sv_op sr_div (SV.se (sv_var 1 rfl)) (SV.se (sv_var 3 rfl))) (sa_cons (sv_op sr_add (SV.se (sv_var 4 rfl)) (SV.se sv_int)) sa_nil))))
  (ss_seq (ss_if (st_testO (sv_op sr_gt (SV.se (sv_var 4 rfl)) (SV.se sv_int)))
  (ss_app 2 rfl (sv_tup (sa_cons (sv_var 3 rfl) (sa_cons (sv_var 4 rfl) sa_nil))))
  ss_next)
  (ss_aug 3 rfl (sv_if (st_testO (sv_op sr_eq (SV.se (sv_var 3 rfl)) (SV.se sv_int))) sv_int sv_int))))))
  (ss_ret (se_if (st_testO (sv_op sr_gt (SV.se (sv_var 1 rfl)) (SV.se sv_int))) (SV.se (sv_op sr_add (se_own 2 rfl) (SV.se (sv_lst (sa_cons (sv_tup (sa_cons (sv_var 1 rfl) (sa_cons sv_int sa_nil))) sa_nil))))) (se_own 2 rfl)))))))⟩
theorem ok_is_prime (T : Txt K mg A FD cl CC PT TT pe) (TB0 : TB0 base mg CC PT) : FnOk P w K mg base (L2N.CX P w) 2 (A 2) (FD 2) ["number"] (spP K cl TT 1 F_is_prime) := by
  have G_primes_of : FnOk P w K mg base (L2N.CX P w) 1 (A 1) (FD 1) ["number"] (spP K cl TT 1 F_primes_of) := ok_primes_of T TB0
  have nd := sc_is_prime.nd
  refine fn_pure T.f2 sc_is_prime (fun _ => false) (by decide) d_is_prime (fun cdv A0 outer s H E hr => ?_) sp_is_prime
  exact ⟨_, (pss_one (ps_ret (pe_and (pe_cmpR op_gt (pv 0) pe_int (nomark _)) (pe_one (pe_cmpR (op_eqDK (K := K) rfl hr.units) (pe_call G_primes_of (hr.mono (by decide)) (by rfl) T.g1 T.f1.kp T.b1 .nil (L2N.passes_call (L2N.takes_of rfl rfl rfl rfl) (fun _ _ _ _ h => h)) (pa_cons (pv 0) pa_nil)) (pe_lst (pa_cons (pe_tup (pa_cons (pv 0) (pa_cons pe_int pa_nil))) pa_nil)) (nomark _)))))),
   fun z h0 W he => (ss_ret (SV.se (sv_andV (sv_op sr_gt (SV.se (sv_var 0 rfl)) (SV.se sv_int)) (sv_op sr_eq (SV.se (sv_call he (sa_cons (sv_var 0 rfl) sa_nil))) (SV.se (sv_lst (sa_cons (sv_tup (sa_cons (sv_var 0 rfl) (sa_cons sv_int sa_nil))) sa_nil)))))))⟩
theorem ok_core_of (T : Txt K mg A FD cl CC PT TT pe) (TB0 : TB0 base mg CC PT) : FnOk P w K mg base (L2N.CX P w) 2 (A 3) (FD 3) ["number"] (spP K cl TT 1 F_core_of) := by
  have G_primes_of : FnOk P w K mg base (L2N.CX P w) 1 (A 1) (FD 1) ["number"] (spP K cl TT 1 F_primes_of) := ok_primes_of T TB0
  have nd := sc_core_of.nd
  refine fn_pure T.f3 sc_core_of (fun _ => false) (by decide) d_core_of (fun cdv A0 outer s H E hr => ?_) sp_core_of
  exact ⟨_, (pss_cons (ps_set (i := 1) nd rfl (Or.inl rfl) (pe_ifExp (pt_cmpR op_gt (pv 0) pe_int (nomark _)) pe_int (pe_un un_neg pe_int)))
  (pss_cons (ps_for (passes_of rfl) rfl (pi_seqK (K := K) rfl (pe_call G_primes_of (hr.mono (by decide)) (by rfl) T.g1 T.f1.kp T.b1 .nil (L2N.passes_call (L2N.takes_of rfl rfl rfl rfl) (fun _ _ _ _ h => h)) (pa_cons (pv 0) pa_nil))) (pg_tupK (K := K) (n := 2) rfl rfl (pgs_cons (pg_name (i := 2) nd rfl (Or.inl rfl)) (pgs_cons (pg_name (i := 3) nd rfl (Or.inl rfl)) pgs_nil)))
  (pss_one (ps_if (pt_cmpR (op_eqDK (K := K) rfl hr.units) (pe_op op_mod (pv 3) pe_int) pe_int (nomark _))
  (pss_one (ps_set (i := 1) nd rfl (Or.inl rfl) (pe_op op_mulW (pv 1) (pv 2))))
  pss_nil)))
  (pss_one (ps_ret (pv 1))))),
   fun z h0 W he => (ss_seq (ss_set 1 rfl (sv_if (st_testO (sv_op sr_gt (SV.se (sv_var 0 rfl)) (SV.se sv_int))) sv_int (sv_un sr_neg (SV.se sv_int))))
  (ss_seq (ss_for (si_seq (sv_call he (sa_cons (sv_var 0 rfl) sa_nil))) (sg_tup (sgs_cons (sg_name 2 rfl) (sgs_cons (sg_name 3 rfl) sgs_nil)))
  (ss_if (st_testO (sv_op sr_eq (SV.se (sv_op sr_mod (SV.se (sv_var 3 rfl)) (SV.se sv_int))) (SV.se sv_int)))
  (ss_set 1 rfl (sv_op sr_mul (SV.se (sv_var 1 rfl)) (SV.se (sv_var 2 rfl))))
  ss_next))
  (ss_ret (SV.se (sv_var 1 rfl)))))⟩
theorem ok_power (T : Txt K mg A FD cl CC PT TT pe) (TB0 : TB0 base mg CC PT) : FnOk P w K mg base (L2N.CX P w) 1 (A 4) (FD 4) ["base", "times", "modulus"] (spP K cl TT 3 F_power) := by
  have nd := sc_power.nd
  refine fn_pure T.f4 sc_power (fun _ => false) (by decide) d_power (fun cdv A0 outer s H E hr => ?_) sp_power
  exact ⟨_, (pss_cons (ps_set (i := 3) nd rfl (Or.inl rfl) pe_int)
  (pss_cons (ps_set (i := 0) nd rfl (Or.inl rfl) (pe_op op_mod (pv 0) (pv 2)))
  (pss_cons (ps_while (passes_of rfl) (pt_cmpR op_gt (pv 1) pe_int (nomark _))
  (pss_cons (ps_if (pt_cmpR (op_eqDK (K := K) rfl hr.units) (pe_op op_mod (pv 1) pe_int) pe_int (nomark _))
  (pss_one (ps_set (i := 3) nd rfl (Or.inl rfl) (pe_op op_mod (pe_op op_mulW (pv 3) (pv 0)) (pv 2))))
  pss_nil)
  (pss_cons (ps_set (i := 0) nd rfl (Or.inl rfl) (pe_op op_mod (pe_op op_mulW (pv 0) (pv 0)) (pv 2)))
  (pss_one (ps_set (i := 1) nd rfl (Or.inl rfl) (pe_op op_fdivW (pv 1) pe_int))))))
  (pss_one (ps_ret (pv 3)))))),
   fun z h0 W he => (ss_seq (ss_set 3 rfl sv_int)
  (ss_seq (ss_set 0 rfl (sv_op sr_mod (SV.se (sv_var 0 rfl)) (SV.se (sv_var 2 rfl))))
  (ss_seq (ss_while (st_testO (sv_op sr_gt (SV.se (sv_var 1 rfl)) (SV.se sv_int)))
  (ss_seq (ss_if (st_testO (sv_op sr_eq (SV.se (sv_op sr_mod (SV.se (sv_var 1 rfl)) (SV.se sv_int))) (SV.se sv_int)))
  (ss_set 3 rfl (sv_op sr_mod (SV.se (sv_op sr_mul (SV.se (sv_var 3 rfl)) (SV.se (sv_var 0 rfl)))) (SV.se (sv_var 2 rfl))))
  ss_next)
  (ss_seq (ss_set 0 rfl (sv_op sr_mod (SV.se (sv_op sr_mul (SV.se (sv_var 0 rfl)) (SV.se (sv_var 0 rfl)))) (SV.se (sv_var 2 rfl))))
  (ss_set 1 rfl (sv_op sr_div (SV.se (sv_var 1 rfl)) (SV.se sv_int))))))
  (ss_ret (SV.se (sv_var 3 rfl))))))⟩
theorem ok_residue (T : Txt K mg A FD cl CC PT TT pe) (TB0 : TB0 base mg CC PT) : FnOk P w K mg base (L2N.CX P w) 2 (A 5) (FD 5) ["number", "prime"] (spP K cl TT 2 F_residue) := by
  have G_power : FnOk P w K mg base (L2N.CX P w) 1 (A 4) (FD 4) ["base", "times", "modulus"] (spP K cl TT 3 F_power) := ok_power T TB0
  have nd := sc_residue.nd
  refine fn_pure T.f5 sc_residue (fun _ => false) (by decide) d_residue (fun cdv A0 outer s H E hr => ?_) sp_residue
  exact ⟨_, (pss_one (ps_ret (pe_ifExp (pt_cmpR (op_eqDK (K := K) rfl hr.units) (pe_call G_power (hr.mono (by decide)) (by rfl) T.g4 T.f4.kp T.b4 .nil (L2N.passes_call (L2N.takes_of rfl rfl rfl rfl) (fun _ _ _ _ h => h)) (pa_cons (pv 0) (pa_cons (pe_op op_fdivW (pe_op op_sub (pv 1) pe_int) pe_int) (pa_cons (pv 1) pa_nil)))) pe_int (nomark _)) pe_int (pe_un un_neg pe_int)))),
   fun z h0 W he => (ss_ret (SV.se (sv_if (st_testO (sv_op sr_eq (SV.se (sv_call he (sa_cons (sv_var 0 rfl) (sa_cons (sv_op sr_div (SV.se (sv_op sr_sub (SV.se (sv_var 1 rfl)) (SV.se sv_int))) (SV.se sv_int)) (sa_cons (sv_var 1 rfl) sa_nil))))) (SV.se sv_int))) sv_int (sv_un sr_neg (SV.se sv_int)))))⟩
theorem ok_check_integer (T : Txt K mg A FD cl CC PT TT pe) (TB0 : TB0 base mg CC PT) : FnOk P w K mg base (L2N.CX P w) 2 (A 6) (FD 6) ["number"] (spP K cl TT 1 F_check_integer) := by
  obtain ⟨_, m_GREATEST⟩ := T.m_GREATEST
  have G_is_number : FnOk P w K mg base (L2N.CX P w) 1 (A 0) (FD 0) ["told", "least", "most"] (spP K cl TT 3 F_is_number) := ok_is_number T TB0
  have nd := sc_check_integer.nd
  refine fn_pure T.f6 sc_check_integer (fun _ => false) (by decide) d_check_integer (fun cdv A0 outer s H E hr => ?_) sp_check_integer
  exact ⟨_, (pss_one (ps_if (PW.pt (pw_or (pt_not (pt_val (pe_call G_is_number (hr.mono (by decide)) (by rfl) T.g0 T.f0.kp T.b0 .nil (L2N.passes_call (L2N.takes_of rfl rfl rfl rfl) (fun _ _ _ _ h => h)) (pa_cons (pv 0) (pa_cons (pe_un un_neg (pe_glob (v := .int (1000000)) (by rfl) m_GREATEST ⟨_, rfl⟩)) (pa_cons (pe_glob (v := .int (1000000)) (by rfl) m_GREATEST ⟨_, rfl⟩) pa_nil)))))) (pw_or1 (pt_cmpR (op_eqDK (K := K) rfl hr.units) (pv 0) pe_int (nomark _)))))
  (pss_one (L2N.ps_raise rfl (L2N.takes_of rfl rfl rfl rfl) (L2N.pmk_own PySem.F.excBase_ValueError T.x_OutOfRange T.g_OutOfRange T.k_OutOfRange (raises_own T.e_OutOfRange T.t_OutOfRange) rfl)))
  pss_nil)),
   fun z h0 W he => (ss_if (st_or (st_not (st_test (sv_call he (sa_cons (sv_var 0 rfl) (sa_cons (sv_un sr_neg (SV.se sv_int)) (sa_cons sv_int sa_nil)))))) (st_testO (sv_op sr_eq (SV.se (sv_var 0 rfl)) (SV.se sv_int))))
  (ss_raise .range he)
  ss_next)⟩
theorem ok_check_place (T : Txt K mg A FD cl CC PT TT pe) (TB0 : TB0 base mg CC PT) : FnOk P w K mg base (L2N.CX P w) 3 (A 7) (FD 7) ["place"] (spP K cl TT 1 F_check_place) := by
  obtain ⟨_, m_MOST_PLACE⟩ := T.m_MOST_PLACE
  have G_is_number : FnOk P w K mg base (L2N.CX P w) 1 (A 0) (FD 0) ["told", "least", "most"] (spP K cl TT 3 F_is_number) := ok_is_number T TB0
  have G_is_prime : FnOk P w K mg base (L2N.CX P w) 2 (A 2) (FD 2) ["number"] (spP K cl TT 1 F_is_prime) := ok_is_prime T TB0
  have nd := sc_check_place.nd
  refine fn_pure T.f7 sc_check_place (fun _ => false) (by decide) d_check_place (fun cdv A0 outer s H E hr => ?_) sp_check_place
  exact ⟨_, (pss_one (ps_if (PW.pt (pw_or (pt_not (pt_val (pe_call G_is_number (hr.mono (by decide)) (by rfl) T.g0 T.f0.kp T.b0 .nil (L2N.passes_call (L2N.takes_of rfl rfl rfl rfl) (fun _ _ _ _ h => h)) (pa_cons (pv 0) (pa_cons (pe_un un_neg pe_int) (pa_cons (pe_op op_sub (pe_glob (v := .int (100000)) (by rfl) m_MOST_PLACE ⟨_, rfl⟩) pe_int) pa_nil)))))) (pw_or1 (PW.pt (pw_and (pt_cmpR (op_neDK (K := K) rfl hr.units) (pv 0) (pe_un un_neg pe_int) (nomark _)) (pw_and1 (pt_not (pt_val (pe_call G_is_prime (hr.mono (by decide)) (by rfl) T.g2 T.f2.kp T.b2 .nil (L2N.passes_call (L2N.takes_of rfl rfl rfl rfl) (fun _ _ _ _ h => h)) (pa_cons (pv 0) pa_nil))))))))))
  (pss_one (L2N.ps_raise rfl (L2N.takes_of rfl rfl rfl rfl) (L2N.pmk_own PySem.F.excBase_ValueError T.x_OutOfRange T.g_OutOfRange T.k_OutOfRange (raises_own T.e_OutOfRange T.t_OutOfRange) rfl)))
  pss_nil)),
   fun z h0 W he => (ss_if (st_or (st_not (st_test (sv_call he (sa_cons (sv_var 0 rfl) (sa_cons (sv_un sr_neg (SV.se sv_int)) (sa_cons (sv_op sr_sub (SV.se sv_int) (SV.se sv_int)) sa_nil)))))) (st_and (st_testO (sv_op sr_ne (SV.se (sv_var 0 rfl)) (SV.se (sv_un sr_neg (SV.se sv_int))))) (st_not (st_test (sv_call he (sa_cons (sv_var 0 rfl) sa_nil))))))
  (ss_raise .range he)
  ss_next)⟩
theorem ok_parted (T : Txt K mg A FD cl CC PT TT pe) (TB0 : TB0 base mg CC PT) : FnOk P w K mg base (L2N.CX P w) 1 (A 8) (FD 8) ["number", "prime"] (spP K cl TT 2 F_parted) := by
  have nd := sc_parted.nd
  refine fn_pure T.f8 sc_parted (fun _ => false) (by decide) d_parted (fun cdv A0 outer s H E hr => ?_) sp_parted
  exact ⟨_, (pss_cons (ps_set (i := 2) nd rfl (Or.inl rfl) pe_int)
  (pss_cons (ps_while (passes_of rfl) (pt_cmpR (op_eqDK (K := K) rfl hr.units) (pe_op op_mod (pv 0) (pv 1)) pe_int (nomark _))
  (pss_one (ps_par rfl nd rfl rfl (by decide) rfl rfl (pa_cons (pe_op op_fdivW (pv 0) (pv 1)) (pa_cons (pe_op (op_add4K (K := K) rfl) (pv 2) pe_int) pa_nil)) (by rfl))))
  (pss_one (ps_ret (pe_tup (pa_cons (pv 2) (pa_cons (pv 0) pa_nil))))))),
   fun z h0 W he => (ss_seq (ss_set 2 rfl sv_int)
  (ss_seq (ss_while (st_testO (sv_op sr_eq (SV.se (sv_op sr_mod (SV.se (sv_var 0 rfl)) (SV.se (sv_var 1 rfl)))) (SV.se sv_int)))
  (ss_par 0 2 rfl rfl (sa_cons (sv_op sr_div (SV.se (sv_var 0 rfl)) (SV.se (sv_var 1 rfl))) (sa_cons (sv_op sr_add (SV.se (sv_var 2 rfl)) (SV.se sv_int)) sa_nil))))
  (ss_ret (SV.se (sv_tup (sa_cons (sv_var 2 rfl) (sa_cons (sv_var 0 rfl) sa_nil)))))))⟩
theorem ok_symbol_at (T : Txt K mg A FD cl CC PT TT pe) (TB0 : TB0 base mg CC PT) : FnOk P w K mg base (L2N.CX P w) 3 (A 9) (FD 9) ["a", "b", "place"] (spP K cl TT 3 F_symbol_at) := by
  have G_parted : FnOk P w K mg base (L2N.CX P w) 1 (A 8) (FD 8) ["number", "prime"] (spP K cl TT 2 F_parted) := ok_parted T TB0
  have G_residue : FnOk P w K mg base (L2N.CX P w) 2 (A 5) (FD 5) ["number", "prime"] (spP K cl TT 2 F_residue) := ok_residue T TB0
  have nd := sc_symbol_at.nd
  refine fn_pure T.f9 sc_symbol_at (fun _ => false) (by decide) d_symbol_at (fun cdv A0 outer s H E hr => ?_) sp_symbol_at
  exact ⟨_, (pss_cons (ps_if (pt_cmpR (op_eqDK (K := K) rfl hr.units) (pv 2) (pe_un un_neg pe_int) (nomark _))
  (pss_one (ps_ret (pe_ifExp (PW.pt (pw_and (pt_cmpR op_lt (pv 0) pe_int (nomark _)) (pw_and1 (pt_cmpR op_lt (pv 1) pe_int (nomark _))))) (pe_un un_neg pe_int) pe_int)))
  pss_nil)
  (pss_cons (ps_asg (pe_call G_parted (hr.mono (by decide)) (by rfl) T.g8 T.f8.kp T.b8 .nil (L2N.passes_call (L2N.takes_of rfl rfl rfl rfl) (fun _ _ _ _ h => h)) (pa_cons (pv 0) (pa_cons (pv 2) pa_nil))) (pg_tupK (K := K) (n := 2) rfl rfl (pgs_cons (pg_name (i := 3) nd rfl (Or.inl rfl)) (pgs_cons (pg_name (i := 4) nd rfl (Or.inl rfl)) pgs_nil))))
  (pss_cons (ps_asg (pe_call G_parted (hr.mono (by decide)) (by rfl) T.g8 T.f8.kp T.b8 .nil (L2N.passes_call (L2N.takes_of rfl rfl rfl rfl) (fun _ _ _ _ h => h)) (pa_cons (pv 1) (pa_cons (pv 2) pa_nil))) (pg_tupK (K := K) (n := 2) rfl rfl (pgs_cons (pg_name (i := 5) nd rfl (Or.inl rfl)) (pgs_cons (pg_name (i := 6) nd rfl (Or.inl rfl)) pgs_nil))))
  (pss_cons (ps_if (pt_cmpR (op_eqDK (K := K) rfl hr.units) (pv 2) pe_int (nomark _))
  (pss_cons (ps_set (i := 7) nd rfl (Or.inl rfl) (pe_op (op_add4K (K := K) rfl) (pe_op (op_add4K (K := K) rfl) (pe_op op_mulW (pe_op op_fdivW (pe_op op_sub (pv 4) pe_int) pe_int) (pe_op op_fdivW (pe_op op_sub (pv 6) pe_int) pe_int)) (pe_op op_mulW (pv 3) (pe_op op_fdivW (pe_op op_sub (pe_op op_mulW (pv 6) (pv 6)) pe_int) pe_int))) (pe_op op_mulW (pv 5) (pe_op op_fdivW (pe_op op_sub (pe_op op_mulW (pv 4) (pv 4)) pe_int) pe_int))))
  (pss_one (ps_ret (pe_ifExp (pt_cmpR (op_eqDK (K := K) rfl hr.units) (pe_op op_mod (pv 7) pe_int) pe_int (nomark _)) pe_int (pe_un un_neg pe_int)))))
  pss_nil)
  (pss_cons (ps_set (i := 8) nd rfl (Or.inl rfl) (pe_ifExp (pt_cmpR (op_eqDK (K := K) rfl hr.units) (pe_op op_mod (pe_op op_mulW (pe_op op_mulW (pv 3) (pv 5)) (pe_op op_fdivW (pe_op op_sub (pv 2) pe_int) pe_int)) pe_int) pe_int (nomark _)) (pe_un un_neg pe_int) pe_int))
  (pss_cons (ps_if (pt_cmpR (op_eqDK (K := K) rfl hr.units) (pe_op op_mod (pv 5) pe_int) pe_int (nomark _))
  (pss_one (ps_set (i := 8) nd rfl (Or.inl rfl) (pe_op op_mulW (pv 8) (pe_call G_residue (hr.mono (by decide)) (by rfl) T.g5 T.f5.kp T.b5 .nil (L2N.passes_call (L2N.takes_of rfl rfl rfl rfl) (fun _ _ _ _ h => h)) (pa_cons (pv 4) (pa_cons (pv 2) pa_nil))))))
  pss_nil)
  (pss_one (ps_ret (pe_ifExp (pt_cmpR (op_eqDK (K := K) rfl hr.units) (pe_op op_mod (pv 3) pe_int) pe_int (nomark _)) (pe_op op_mulW (pv 8) (pe_call G_residue (hr.mono (by decide)) (by rfl) T.g5 T.f5.kp T.b5 .nil (L2N.passes_call (L2N.takes_of rfl rfl rfl rfl) (fun _ _ _ _ h => h)) (pa_cons (pv 6) (pa_cons (pv 2) pa_nil)))) (pv 8)))))))))),
   fun z h0 W he => (ss_seq (ss_if (st_testO (sv_op sr_eq (SV.se (sv_var 2 rfl)) (SV.se (sv_un sr_neg (SV.se sv_int)))))
  (ss_ret (SV.se (sv_if (st_and (st_testO (sv_op sr_lt (SV.se (sv_var 0 rfl)) (SV.se sv_int))) (st_testO (sv_op sr_lt (SV.se (sv_var 1 rfl)) (SV.se sv_int)))) (sv_un sr_neg (SV.se sv_int)) sv_int)))
  ss_next)
  (ss_seq (ss_asg (sv_call he (sa_cons (sv_var 0 rfl) (sa_cons (sv_var 2 rfl) sa_nil))) (sg_tup (sgs_cons (sg_name 3 rfl) (sgs_cons (sg_name 4 rfl) sgs_nil))))
  (ss_seq (ss_asg (sv_call he (sa_cons (sv_var 1 rfl) (sa_cons (sv_var 2 rfl) sa_nil))) (sg_tup (sgs_cons (sg_name 5 rfl) (sgs_cons (sg_name 6 rfl) sgs_nil))))
  (ss_seq (ss_if (st_testO (sv_op sr_eq (SV.se (sv_var 2 rfl)) (SV.se sv_int)))
  (ss_seq (ss_set 7 rfl (sv_op sr_add (SV.se (sv_op sr_add (SV.se (sv_op sr_mul (SV.se (sv_op sr_div (SV.se (sv_op sr_sub (SV.se (sv_var 4 rfl)) (SV.se sv_int))) (SV.se sv_int))) (SV.se (sv_op sr_div (SV.se (sv_op sr_sub (SV.se (sv_var 6 rfl)) (SV.se sv_int))) (SV.se sv_int))))) (SV.se (sv_op sr_mul (SV.se (sv_var 3 rfl)) (SV.se (sv_op sr_div (SV.se (sv_op sr_sub (SV.se (sv_op sr_mul (SV.se (sv_var 6 rfl)) (SV.se (sv_var 6 rfl)))) (SV.se sv_int))) (SV.se sv_int))))))) (SV.se (sv_op sr_mul (SV.se (sv_var 5 rfl)) (SV.se (sv_op sr_div (SV.se (sv_op sr_sub (SV.se (sv_op sr_mul (SV.se (sv_var 4 rfl)) (SV.se (sv_var 4 rfl)))) (SV.se sv_int))) (SV.se sv_int)))))))
  (ss_ret (SV.se (sv_if (st_testO (sv_op sr_eq (SV.se (sv_op sr_mod (SV.se (sv_var 7 rfl)) (SV.se sv_int))) (SV.se sv_int))) sv_int (sv_un sr_neg (SV.se sv_int))))))
  ss_next)
  (ss_seq (ss_set 8 rfl (sv_if (st_testO (sv_op sr_eq (SV.se (sv_op sr_mod (SV.se (sv_op sr_mul (SV.se (sv_op sr_mul (SV.se (sv_var 3 rfl)) (SV.se (sv_var 5 rfl)))) (SV.se (sv_op sr_div (SV.se (sv_op sr_sub (SV.se (sv_var 2 rfl)) (SV.se sv_int))) (SV.se sv_int))))) (SV.se sv_int))) (SV.se sv_int))) (sv_un sr_neg (SV.se sv_int)) sv_int))
  (ss_seq (ss_if (st_testO (sv_op sr_eq (SV.se (sv_op sr_mod (SV.se (sv_var 5 rfl)) (SV.se sv_int))) (SV.se sv_int)))
  (ss_set 8 rfl (sv_op sr_mul (SV.se (sv_var 8 rfl)) (SV.se (sv_call he (sa_cons (sv_var 4 rfl) (sa_cons (sv_var 2 rfl) sa_nil))))))
  ss_next)
  (ss_ret (SV.se (sv_if (st_testO (sv_op sr_eq (SV.se (sv_op sr_mod (SV.se (sv_var 3 rfl)) (SV.se sv_int))) (SV.se sv_int))) (sv_op sr_mul (SV.se (sv_var 8 rfl)) (SV.se (sv_call he (sa_cons (sv_var 6 rfl) (sa_cons (sv_var 2 rfl) sa_nil))))) (sv_var 8 rfl))))))))))⟩
theorem ok_is_square_at (T : Txt K mg A FD cl CC PT TT pe) (TB0 : TB0 base mg CC PT) : FnOk P w K mg base (L2N.CX P w) 3 (A 10) (FD 10) ["a", "place"] (spP K cl TT 2 F_is_square_at) := by
  have G_parted : FnOk P w K mg base (L2N.CX P w) 1 (A 8) (FD 8) ["number", "prime"] (spP K cl TT 2 F_parted) := ok_parted T TB0
  have G_residue : FnOk P w K mg base (L2N.CX P w) 2 (A 5) (FD 5) ["number", "prime"] (spP K cl TT 2 F_residue) := ok_residue T TB0
  have nd := sc_is_square_at.nd
  refine fn_pure T.f10 sc_is_square_at (fun _ => false) (by decide) d_is_square_at (fun cdv A0 outer s H E hr => ?_) sp_is_square_at
  exact ⟨_, (pss_cons (ps_if (pt_cmpR (op_eqDK (K := K) rfl hr.units) (pv 1) (pe_un un_neg pe_int) (nomark _))
  (pss_one (ps_ret (pe_cmpR op_gt (pv 0) pe_int (nomark _))))
  pss_nil)
  (pss_cons (ps_asg (pe_call G_parted (hr.mono (by decide)) (by rfl) T.g8 T.f8.kp T.b8 .nil (L2N.passes_call (L2N.takes_of rfl rfl rfl rfl) (fun _ _ _ _ h => h)) (pa_cons (pv 0) (pa_cons (pv 1) pa_nil))) (pg_tupK (K := K) (n := 2) rfl rfl (pgs_cons (pg_name (i := 2) nd rfl (Or.inl rfl)) (pgs_cons (pg_name (i := 3) nd rfl (Or.inl rfl)) pgs_nil))))
  (pss_cons (ps_if (pt_cmpR (op_eqDK (K := K) rfl hr.units) (pe_op op_mod (pv 2) pe_int) pe_int (nomark _))
  (pss_one (ps_ret pe_bl))
  pss_nil)
  (pss_one (ps_ret (pe_ifExp (pt_cmpR (op_eqDK (K := K) rfl hr.units) (pv 1) pe_int (nomark _)) (pe_cmpR (op_eqDK (K := K) rfl hr.units) (pe_op op_mod (pv 3) pe_int) pe_int (nomark _)) (pe_cmpR (op_eqDK (K := K) rfl hr.units) (pe_call G_residue (hr.mono (by decide)) (by rfl) T.g5 T.f5.kp T.b5 .nil (L2N.passes_call (L2N.takes_of rfl rfl rfl rfl) (fun _ _ _ _ h => h)) (pa_cons (pv 3) (pa_cons (pv 1) pa_nil))) pe_int (nomark _)))))))),
   fun z h0 W he => (ss_seq (ss_if (st_testO (sv_op sr_eq (SV.se (sv_var 1 rfl)) (SV.se (sv_un sr_neg (SV.se sv_int)))))
  (ss_ret (SV.se (sv_op sr_gt (SV.se (sv_var 0 rfl)) (SV.se sv_int))))
  ss_next)
  (ss_seq (ss_asg (sv_call he (sa_cons (sv_var 0 rfl) (sa_cons (sv_var 1 rfl) sa_nil))) (sg_tup (sgs_cons (sg_name 2 rfl) (sgs_cons (sg_name 3 rfl) sgs_nil))))
  (ss_seq (ss_if (st_testO (sv_op sr_eq (SV.se (sv_op sr_mod (SV.se (sv_var 2 rfl)) (SV.se sv_int))) (SV.se sv_int)))
  (ss_ret (SV.se sv_bl))
  ss_next)
  (ss_ret (SV.se (sv_if (st_testO (sv_op sr_eq (SV.se (sv_var 1 rfl)) (SV.se sv_int))) (sv_op sr_eq (SV.se (sv_op sr_mod (SV.se (sv_var 3 rfl)) (SV.se sv_int))) (SV.se sv_int)) (sv_op sr_eq (SV.se (sv_call he (sa_cons (sv_var 3 rfl) (sa_cons (sv_var 1 rfl) sa_nil)))) (SV.se sv_int))))))))⟩
theorem ok_primes_in (T : Txt K mg A FD cl CC PT TT pe) (TB0 : TB0 base mg CC PT) : FnOk P w K mg base (L2N.CX P w) 2 (A 11) (FD 11) ["numbers"] (spP K cl TT 1 F_primes_in) := by
  have z_sorted := T.z_sorted
  have G_primes_of : FnOk P w K mg base (L2N.CX P w) 1 (A 1) (FD 1) ["number"] (spP K cl TT 1 F_primes_of) := ok_primes_of T TB0
  have nd := sc_primes_in.nd
  refine fn_pure T.f11 sc_primes_in (fun i => i == 1) (by decide) d_primes_in (fun cdv A0 outer s H E hr => ?_) sp_primes_in
  exact ⟨_, (pss_cons (ps_set (i := 1) nd rfl (Or.inl rfl) (pe_disp (pps_cons pe_int pe_bl pps_nil) rfl rfl (by decide) (by decide)))
  (pss_cons (ps_for (passes_of rfl) rfl (pi_seqK (K := K) rfl (pv 0)) (pg_name (i := 2) nd rfl (Or.inl rfl))
  (pss_one (ps_for (passes_of rfl) rfl (pi_seqK (K := K) rfl (pe_call G_primes_of (hr.mono (by decide)) (by rfl) T.g1 T.f1.kp T.b1 .nil (L2N.passes_call (L2N.takes_of rfl rfl rfl rfl) (fun _ _ _ _ h => h)) (pa_cons (pv 2) pa_nil))) (pg_tupK (K := K) (n := 2) rfl rfl (pgs_cons (pg_name (i := 3) nd rfl (Or.inl rfl)) (pgs_cons (pg_name (i := 4) nd rfl (Or.inl rfl)) pgs_nil)))
  (pss_one (ps_dput (hu65 hr) (pv 1) (pv 3) pe_bl rfl)))))
  (pss_one (ps_ret (pe_callB (cr_sortDI rfl) (by rfl) z_sorted bt_sorted (pa_cons (pv 1) pa_nil)))))),
   fun z h0 W he => (ss_seq (ss_setO 1 rfl (.inl rfl) sf_disp1)
  (ss_seq (ss_for (si_seq (sv_var 0 rfl)) (sg_name 2 rfl)
  (ss_for (si_seq (sv_call he (sa_cons (sv_var 2 rfl) sa_nil))) (sg_tup (sgs_cons (sg_name 3 rfl) (sgs_cons (sg_name 4 rfl) sgs_nil)))
  (ss_dput 1 rfl (sv_var 3 rfl) sv_bl)))
  (ss_ret (SV.se (sv_cb sr_sortDI (sao_cons (se_own 1 rfl) sao_nil))))))⟩
theorem ok_core (T : Txt K mg A FD cl CC PT TT pe) (TB0 : TB0 base mg CC PT) : FnOk P w K mg base (L2N.CX P w) 3 (A 12) (FD 12) ["a"] (spP K cl TT 1 F_core) := by
  have G_check_integer : FnOk P w K mg base (L2N.CX P w) 2 (A 6) (FD 6) ["number"] (spP K cl TT 1 F_check_integer) := ok_check_integer T TB0
  have G_core_of : FnOk P w K mg base (L2N.CX P w) 2 (A 3) (FD 3) ["number"] (spP K cl TT 1 F_core_of) := ok_core_of T TB0
  have nd := sc_core.nd
  refine fn_pure T.f12 sc_core (fun _ => false) (by decide) d_core (fun cdv A0 outer s H E hr => ?_) sp_core
  exact ⟨_, (pss_cons (ps_expr (pe_call G_check_integer (hr.mono (by decide)) (by rfl) T.g6 T.f6.kp T.b6 .nil (L2N.passes_call (L2N.takes_of rfl rfl rfl rfl) (fun _ _ _ _ h => h)) (pa_cons (pv 0) pa_nil)))
  (pss_one (ps_ret (pe_call G_core_of (hr.mono (by decide)) (by rfl) T.g3 T.f3.kp T.b3 .nil (L2N.passes_call (L2N.takes_of rfl rfl rfl rfl) (fun _ _ _ _ h => h)) (pa_cons (pv 0) pa_nil))))),
   fun z h0 W he => (ss_seq (ss_drop (SV.se (sv_call he (sa_cons (sv_var 0 rfl) sa_nil))))
  (ss_ret (SV.se (sv_call he (sa_cons (sv_var 0 rfl) sa_nil)))))⟩
theorem ok_symbol (T : Txt K mg A FD cl CC PT TT pe) (TB0 : TB0 base mg CC PT) : FnOk P w K mg base (L2N.CX P w) 4 (A 13) (FD 13) ["a", "b", "place"] (spP K cl TT 3 F_symbol) := by
  have G_check_integer : FnOk P w K mg base (L2N.CX P w) 2 (A 6) (FD 6) ["number"] (spP K cl TT 1 F_check_integer) := ok_check_integer T TB0
  have G_check_place : FnOk P w K mg base (L2N.CX P w) 3 (A 7) (FD 7) ["place"] (spP K cl TT 1 F_check_place) := ok_check_place T TB0
  have G_symbol_at : FnOk P w K mg base (L2N.CX P w) 3 (A 9) (FD 9) ["a", "b", "place"] (spP K cl TT 3 F_symbol_at) := ok_symbol_at T TB0
  have nd := sc_symbol.nd
  refine fn_pure T.f13 sc_symbol (fun _ => false) (by decide) d_symbol (fun cdv A0 outer s H E hr => ?_) sp_symbol
  exact ⟨_, (pss_cons (ps_expr (pe_call G_check_integer (hr.mono (by decide)) (by rfl) T.g6 T.f6.kp T.b6 .nil (L2N.passes_call (L2N.takes_of rfl rfl rfl rfl) (fun _ _ _ _ h => h)) (pa_cons (pv 0) pa_nil)))
  (pss_cons (ps_expr (pe_call G_check_integer (hr.mono (by decide)) (by rfl) T.g6 T.f6.kp T.b6 .nil (L2N.passes_call (L2N.takes_of rfl rfl rfl rfl) (fun _ _ _ _ h => h)) (pa_cons (pv 1) pa_nil)))
  (pss_cons (ps_expr (pe_call G_check_place (hr.mono (by decide)) (by rfl) T.g7 T.f7.kp T.b7 .nil (L2N.passes_call (L2N.takes_of rfl rfl rfl rfl) (fun _ _ _ _ h => h)) (pa_cons (pv 2) pa_nil)))
  (pss_one (ps_ret (pe_call G_symbol_at (hr.mono (by decide)) (by rfl) T.g9 T.f9.kp T.b9 .nil (L2N.passes_call (L2N.takes_of rfl rfl rfl rfl) (fun _ _ _ _ h => h)) (pa_cons (pv 0) (pa_cons (pv 1) (pa_cons (pv 2) pa_nil))))))))),
   fun z h0 W he => (ss_seq (ss_drop (SV.se (sv_call he (sa_cons (sv_var 0 rfl) sa_nil))))
  (ss_seq (ss_drop (SV.se (sv_call he (sa_cons (sv_var 1 rfl) sa_nil))))
  (ss_seq (ss_drop (SV.se (sv_call he (sa_cons (sv_var 2 rfl) sa_nil))))
  (ss_ret (SV.se (sv_call he (sa_cons (sv_var 0 rfl) (sa_cons (sv_var 1 rfl) (sa_cons (sv_var 2 rfl) sa_nil)))))))))⟩
theorem ok_square_at (T : Txt K mg A FD cl CC PT TT pe) (TB0 : TB0 base mg CC PT) : FnOk P w K mg base (L2N.CX P w) 4 (A 14) (FD 14) ["a", "place"] (spP K cl TT 2 F_square_at) := by
  have G_check_integer : FnOk P w K mg base (L2N.CX P w) 2 (A 6) (FD 6) ["number"] (spP K cl TT 1 F_check_integer) := ok_check_integer T TB0
  have G_check_place : FnOk P w K mg base (L2N.CX P w) 3 (A 7) (FD 7) ["place"] (spP K cl TT 1 F_check_place) := ok_check_place T TB0
  have G_is_square_at : FnOk P w K mg base (L2N.CX P w) 3 (A 10) (FD 10) ["a", "place"] (spP K cl TT 2 F_is_square_at) := ok_is_square_at T TB0
  have nd := sc_square_at.nd
  refine fn_pure T.f14 sc_square_at (fun _ => false) (by decide) d_square_at (fun cdv A0 outer s H E hr => ?_) sp_square_at
  exact ⟨_, (pss_cons (ps_expr (pe_call G_check_integer (hr.mono (by decide)) (by rfl) T.g6 T.f6.kp T.b6 .nil (L2N.passes_call (L2N.takes_of rfl rfl rfl rfl) (fun _ _ _ _ h => h)) (pa_cons (pv 0) pa_nil)))
  (pss_cons (ps_expr (pe_call G_check_place (hr.mono (by decide)) (by rfl) T.g7 T.f7.kp T.b7 .nil (L2N.passes_call (L2N.takes_of rfl rfl rfl rfl) (fun _ _ _ _ h => h)) (pa_cons (pv 1) pa_nil)))
  (pss_one (ps_ret (pe_call G_is_square_at (hr.mono (by decide)) (by rfl) T.g10 T.f10.kp T.b10 .nil (L2N.passes_call (L2N.takes_of rfl rfl rfl rfl) (fun _ _ _ _ h => h)) (pa_cons (pv 0) (pa_cons (pv 1) pa_nil))))))),
   fun z h0 W he => (ss_seq (ss_drop (SV.se (sv_call he (sa_cons (sv_var 0 rfl) sa_nil))))
  (ss_seq (ss_drop (SV.se (sv_call he (sa_cons (sv_var 1 rfl) sa_nil))))
  (ss_ret (SV.se (sv_call he (sa_cons (sv_var 0 rfl) (sa_cons (sv_var 1 rfl) sa_nil)))))))⟩
theorem ok_odd_places (T : Txt K mg A FD cl CC PT TT pe) (TB0 : TB0 base mg CC PT) : FnOk P w K mg base (L2N.CX P w) 4 (A 15) (FD 15) ["a", "b"] (spP K cl TT 2 F_odd_places) := by
  have z_tuple := T.z_tuple
  have G_check_integer : FnOk P w K mg base (L2N.CX P w) 2 (A 6) (FD 6) ["number"] (spP K cl TT 1 F_check_integer) := ok_check_integer T TB0
  have G_primes_in : FnOk P w K mg base (L2N.CX P w) 2 (A 11) (FD 11) ["numbers"] (spP K cl TT 1 F_primes_in) := ok_primes_in T TB0
  have G_symbol_at : FnOk P w K mg base (L2N.CX P w) 3 (A 9) (FD 9) ["a", "b", "place"] (spP K cl TT 3 F_symbol_at) := ok_symbol_at T TB0
  have nd := sc_odd_places.nd
  refine fn_pure T.f15 sc_odd_places (fun _ => false) (by decide) d_odd_places (fun cdv A0 outer s H E hr => ?_) sp_odd_places
  exact ⟨_, (pss_cons (ps_expr (pe_call G_check_integer (hr.mono (by decide)) (by rfl) T.g6 T.f6.kp T.b6 .nil (L2N.passes_call (L2N.takes_of rfl rfl rfl rfl) (fun _ _ _ _ h => h)) (pa_cons (pv 0) pa_nil)))
  (pss_cons (ps_expr (pe_call G_check_integer (hr.mono (by decide)) (by rfl) T.g6 T.f6.kp T.b6 .nil (L2N.passes_call (L2N.takes_of rfl rfl rfl rfl) (fun _ _ _ _ h => h)) (pa_cons (pv 1) pa_nil)))
  (pss_one (ps_ret (pe_tupleK (K := K) rfl (by rfl) z_tuple (by exact (pe_lc (own := [("place", 2)]) rfl nd (pi_seqK (K := K) rfl (pe_op (op_add4K (K := K) rfl) (pe_lst (pa_cons (pe_un un_neg pe_int) pa_nil)) (pe_call G_primes_in (hr.mono (by decide)) (by rfl) T.g11 T.f11.kp T.b11 .nil (L2N.passes_call (L2N.takes_of rfl rfl rfl rfl) (fun _ _ _ _ h => h)) (pa_cons (pe_tup (pa_cons (pv 0) (pa_cons (pv 1) pa_nil))) pa_nil)))) (blkOk_by (own := [("place", 2)]) (N := ["a", "b", "place"]) (sc := (defScope s_odd_places)) (by decide +kernel)) (fun _ _ _ _ _ => by exact (pg_name (i := 2) nd rfl (Or.inl rfl))) (fun _ _ _ _ _ => by exact (pts_one (pt_cmpR (op_eqDK (K := K) rfl hr.units) (pe_call G_symbol_at (hr.mono (by decide)) (by rfl) T.g9 T.f9.kp T.b9 .nil passN (pa_cons (pv 0) (pa_cons (pv 1) (pa_cons (pv 2) pa_nil)))) (pe_un un_neg pe_int) (nomark _)))) (fun _ _ _ _ _ => by exact (pv 2))))))))),
   fun z h0 W he => (ss_seq (ss_drop (SV.se (sv_call he (sa_cons (sv_var 0 rfl) sa_nil))))
  (ss_seq (ss_drop (SV.se (sv_call he (sa_cons (sv_var 1 rfl) sa_nil))))
  (ss_ret (SV.se (sv_tuple (SV.se (SFL.v (sfl_lc (vs := [2]) (si_seq (sv_op sr_add (SV.se (sv_lst (sa_cons (sv_un sr_neg (SV.se sv_int)) sa_nil))) (SV.se (sv_call he (sa_cons (sv_tup (sa_cons (sv_var 0 rfl) (sa_cons (sv_var 1 rfl) sa_nil))) sa_nil))))) (sg_name 2 rfl) (st_testO (sv_op sr_eq (SV.se (sv_call takes_noX (sa_cons (sv_var 0 rfl) (sa_cons (sv_var 1 rfl) (sa_cons (sv_var 2 rfl) sa_nil))))) (SV.se (sv_un sr_neg (SV.se sv_int))))) (sv_var 2 rfl) rfl rfl))))))))⟩
theorem step__law_read (T : Txt K mg A FD cl CC PT TT pe) (TB0 : TB0 base mg CC PT) {kk : Nat} {Fi F : FP} (G__law_read : FnOk P w K mg base (L2N.CX P w) kk (A 16) (FD 16) ["told"] (spP K cl TT 1 Fi)) (sp : ∀ args P W, args.length = 1 → F args P W → d__law_read Fi W ⟨fun _ => P .non, fun d ρ => P (retD ρ d), fun _ => False, fun _ => False⟩ (startD 3 args)) : FnOk P w K mg base (L2N.CX P w) (kk + 1) (A 16) (FD 16) ["told"] (spP K cl TT 1 F) := by
  have z_int := T.z_int
  have z_isinstance := T.z_isinstance
  have z_list := T.z_list
  have z_str := T.z_str
  have z_tuple := T.z_tuple
  have nd := sc__law_read.nd
  refine fn_pure T.f16 sc__law_read (fun _ => false) (by decide) (d__law_read Fi) (fun cdv A0 outer s H E hr => ?_) sp
  exact ⟨_, (pss_cons (ps_if (PW.pt (pw_or (pt_cmpR op_isN (pv 0) pe_non (nomark _)) (pw_or (pt_cmpR op_isB2 (pv 0) pe_bl (nomark _)) (pw_or1 (pt_cmpR op_isB2 (pv 0) pe_bl (nomark _))))))
  (pss_one (ps_ret (pv 0)))
  pss_nil)
  (pss_cons (ps_if (pt_val (pe_callB (call_isi_K (K := K) rfl) (by rfl) z_isinstance bt_isinstance (pa_cons (pv 0) (pa_cons (pe_bltn (v := .ty "int") (by rfl) z_int bt_int rfl) pa_nil))))
  (pss_one (ps_ret (pe_callTy call_int1 (by rfl) z_int bt_int (pa_cons (pv 0) pa_nil))))
  pss_nil)
  (pss_cons (ps_if (pt_val (pe_callB (call_isi_K (K := K) rfl) (by rfl) z_isinstance bt_isinstance (pa_cons (pv 0) (pa_cons (pe_bltn (v := .ty "str") (by rfl) z_str bt_str rfl) pa_nil))))
  (pss_one (ps_ret (pe_joinK (K := K) rfl pe_str (by exact (pe_lc (own := [("sign", 1)]) rfl nd (pi_str (pv 0)) (blkOk_by (own := [("sign", 1)]) (N := ["told", "sign", "part"]) (sc := (defScope s__law_read)) (by decide +kernel)) (fun _ _ _ _ _ => by exact (pg_name (i := 1) nd rfl (Or.inl rfl))) (fun _ _ _ _ _ => by exact pts_nil) (fun _ _ _ _ _ => by exact (pv 1)))))))
  pss_nil)
  (pss_cons (ps_if (pt_val (pe_callB (call_isi_K (K := K) rfl) (by rfl) z_isinstance bt_isinstance (pa_cons (pv 0) (pa_cons (pe_bltn (v := .ty "tuple") (by rfl) z_tuple bt_tuple rfl) pa_nil))))
  (pss_one (ps_ret (pe_tupleK (K := K) rfl (by rfl) z_tuple (by exact (pe_lc (own := [("part", 2)]) rfl nd (pi_seqK (K := K) rfl (pv 0)) (blkOk_by (own := [("part", 2)]) (N := ["told", "sign", "part"]) (sc := (defScope s__law_read)) (by decide +kernel)) (fun _ _ _ _ _ => by exact (pg_name (i := 2) nd rfl (Or.inl rfl))) (fun _ _ _ _ _ => by exact pts_nil) (fun _ _ _ _ _ => by exact (pe_call G__law_read hr (by rfl) T.g16 T.f16.kp T.b16 .nil passN (pa_cons (pv 2) pa_nil))))))))
  pss_nil)
  (pss_one (ps_ret (pe_ifExp (pt_val (pe_callB (call_isi_K (K := K) rfl) (by rfl) z_isinstance bt_isinstance (pa_cons (pv 0) (pa_cons (pe_bltn (v := .ty "list") (by rfl) z_list bt_list rfl) pa_nil)))) (by exact (pe_lc (own := [("part", 2)]) rfl nd (pi_seqK (K := K) rfl (pv 0)) (blkOk_by (own := [("part", 2)]) (N := ["told", "sign", "part"]) (sc := (defScope s__law_read)) (by decide +kernel)) (fun _ _ _ _ _ => by exact (pg_name (i := 2) nd rfl (Or.inl rfl))) (fun _ _ _ _ _ => by exact pts_nil) (fun _ _ _ _ _ => by exact (pe_call G__law_read hr (by rfl) T.g16 T.f16.kp T.b16 .nil passN (pa_cons (pv 2) pa_nil))))) pe_str))))))),
   fun z h0 W he => (ss_seq (ss_if (st_or (st_testO (sv_op sr_isN (SV.se (sv_var 0 rfl)) (SV.se sv_non))) (st_or (st_testO (sv_op sr_isB2 (SV.se (sv_var 0 rfl)) (SV.se sv_bl))) (st_testO (sv_op sr_isB2 (SV.se (sv_var 0 rfl)) (SV.se sv_bl)))))
  (ss_ret (SV.se (sv_var 0 rfl)))
  ss_next)
  (ss_seq (ss_if (st_test (sv_isi kit_int (sv_var 0 rfl)))
  (ss_ret (SV.se (sv_cb sr_intC (sao_cons (SV.se (sv_var 0 rfl)) sao_nil))))
  ss_next)
  (ss_seq (ss_if (st_test (sv_isi kit_str (sv_var 0 rfl)))
  (ss_ret (SV.se (sv_join sv_str (SFL.v (sfl_lc (vs := [1]) (si_str (sv_var 0 rfl)) (sg_name 1 rfl) st_yes (sv_var 1 rfl) rfl rfl)))))
  ss_next)
  (ss_seq (ss_if (st_test (sv_isi kit_tup (sv_var 0 rfl)))
  (ss_ret (SV.se (sv_tuple (SV.se (SFL.v (sfl_lc (vs := [2]) (si_seq (sv_var 0 rfl)) (sg_name 2 rfl) st_yes (sv_call takes_noX (sa_cons (sv_var 2 rfl) sa_nil)) rfl rfl))))))
  ss_next)
  (ss_ret (SV.se (sv_if (st_test (sv_isi kit_lst (sv_var 0 rfl))) (SFL.v (sfl_lc (vs := [2]) (si_seq (sv_var 0 rfl)) (sg_name 2 rfl) st_yes (sv_call takes_noX (sa_cons (sv_var 2 rfl) sa_nil)) rfl rfl)) sv_str)))))))⟩
theorem ok__law_read (T : Txt K mg A FD cl CC PT TT pe) (TB0 : TB0 base mg CC PT) : FnOk P w K mg base (L2N.CX P w) 6 (A 16) (FD 16) ["told"] (spP K cl TT 1 F__law_read) := (step__law_read T TB0 (kk := 5) (Fi := readN 3) (F := readN 4) (step__law_read T TB0 (kk := 4) (Fi := readN 2) (F := readN 3) (step__law_read T TB0 (kk := 3) (Fi := readN 1) (F := readN 2) (step__law_read T TB0 (kk := 2) (Fi := readN 0) (F := readN 1) (step__law_read T TB0 (kk := 1) (Fi := fun _ _ _ => False) (F := readN 0) (fn_none (F := fun _ _ _ => False) (fun _ _ _ h => h) rfl) read_zero) read_step) read_step) read_step) read_step)
theorem ok__law_cell (T : Txt K mg A FD cl CC PT TT pe) (TB0 : TB0 base mg CC PT) : FnOk P w K mg base (L2N.CX P w) 1 (A 17) (FD 17) ["script", "k"] (spP K cl TT 2 F__law_cell) := by
  have z_int := T.z_int
  have z_len := T.z_len
  have nd := sc__law_cell.nd
  refine fn_pure T.f17 sc__law_cell (fun _ => false) (by decide) d__law_cell (fun cdv A0 outer s H E hr => ?_) sp__law_cell
  exact ⟨_, (pss_one (ps_ret (pe_ifExp (pt_cmpR op_lt (pv 1) (pe_callB (call_lenK (K := K) rfl) (by rfl) z_len bt_len (pa_cons (pv 0) pa_nil)) (nomark _)) (pe_callTy call_int1 (by rfl) z_int bt_int (pa_cons (pe_ix (ix_seqK (K := K) rfl) (pv 0) (pv 1) (fun _ _ => rfl)) pa_nil)) pe_int))),
   fun z h0 W he => (ss_ret (SV.se (sv_if (st_testO (sv_op sr_lt (SV.se (sv_var 1 rfl)) (SV.se (sv_cb sr_len (sao_cons (SV.se (sv_var 0 rfl)) sao_nil))))) (sv_cb sr_intC (sao_cons (SV.se (sv_op sr_ix (SV.se (sv_var 0 rfl)) (SV.se (sv_var 1 rfl)))) sao_nil)) sv_int)))⟩
theorem ok__law_stream (T : Txt K mg A FD cl CC PT TT pe) (TB0 : TB0 base mg CC PT) : FnOk P w K mg base (L2N.CX P w) 2 (A 18) (FD 18) ["script", "k"] (spN K cl TT 2 F__law_stream) := by
  have z_abs := T.z_abs
  have G__law_cell : FnOk P w K mg base (L2N.CX P w) 1 (A 17) (FD 17) ["script", "k"] (spP K cl TT 2 F__law_cell) := ok__law_cell T TB0
  have nd := sc__law_stream.nd
  refine fn_new (de := d__law_stream) T.f18 sc__law_stream (fun cdv A0 outer s H E hr => ?_) sp__law_stream
  exact ⟨_, pss_one (ps_ret (pe_lst (pa_cons (pe_callB call_abs (by rfl) z_abs bt_abs (pa_cons (pe_call G__law_cell (hr.mono (by decide)) (by rfl) T.g17 T.f17.kp T.b17 .nil passN (pa_cons (pv 0) (pa_cons (pv 1) pa_nil))) pa_nil)) (pa_cons (pe_op (op_add4K (K := K) rfl) (pe_op op_mod (pe_callB call_abs (by rfl) z_abs bt_abs (pa_cons (pe_call G__law_cell (hr.mono (by decide)) (by rfl) T.g17 T.f17.kp T.b17 .nil passN (pa_cons (pv 0) (pa_cons (pv 1) pa_nil))) pa_nil)) pe_int) pe_int) pa_nil)))), fun z h0 => (sf_lst (sa_cons (sv_cb sr_abs (sao_cons (SV.se (sv_call takes_noX (sa_cons (sv_var 0 rfl) (sa_cons (sv_var 1 rfl) sa_nil)))) sao_nil)) (sa_cons (sv_op sr_add (SV.se (sv_op sr_mod (SV.se (sv_cb sr_abs (sao_cons (SV.se (sv_call takes_noX (sa_cons (sv_var 0 rfl) (sa_cons (sv_var 1 rfl) sa_nil)))) sao_nil))) (SV.se sv_int))) (SV.se sv_int)) sa_nil)))⟩
theorem ok__law_draw (T : Txt K mg A FD cl CC PT TT pe) (TB0 : TB0 base mg CC PT) : FnOk P w K mg base (L2N.CX P w) 1 (A 19) (FD 19) ["box", "many"] (spB K cl TT 2 F__law_draw) := by
  have z_int := T.z_int
  have nd := sc__law_draw.nd
  refine fn_box T.f19 sc__law_draw (fun i => i == 0) (by decide) (by decide) d__law_draw (fun cdv A0 outer s H E hr => ?_) sp__law_draw
  exact ⟨_, (pss_cons (ps_if (pt_cmpR op_gt (pe_ix (ix_seqK (K := K) rfl) (pv 0) pe_int (fun _ _ => rfl)) pe_int (nomark _))
  (pss_cons (ps_set (i := 2) nd rfl (Or.inl rfl) (pe_op op_mod (pe_ix (ix_seqK (K := K) rfl) (pv 0) pe_int (fun _ _ => rfl)) (pv 1)))
  (pss_cons (ps_asg (pe_op op_fdivW (pe_ix (ix_seqK (K := K) rfl) (pv 0) pe_int (fun _ _ => rfl)) (pv 1)) (pg_sub (pv 0) pe_int set_list))
  (pss_one (ps_ret (pe_callTy call_int1 (by rfl) z_int bt_int (pa_cons (pv 2) pa_nil))))))
  pss_nil)
  (pss_cons (ps_asg (pe_op op_mod (pe_callTy call_int1 (by rfl) z_int bt_int (pa_cons (pe_op (op_add4K (K := K) rfl) (pe_op op_mulW (pe_ix (ix_seqK (K := K) rfl) (pv 0) pe_int (fun _ _ => rfl)) pe_int) pe_int) pa_nil)) pe_int) (pg_sub (pv 0) pe_int set_list))
  (pss_one (ps_ret (pe_op op_mod (pe_callTy call_int1 (by rfl) z_int bt_int (pa_cons (pe_op op_fdivW (pe_ix (ix_seqK (K := K) rfl) (pv 0) pe_int (fun _ _ => rfl)) pe_int) pa_nil)) (pv 1)))))),
   fun z b h0 W he => (ss_seq (ss_if (st_testO (sv_op sr_gt (SV.se (sv_op sr_ix (se_own 0 rfl) (SV.se sv_int))) (SV.se sv_int)))
  (ss_seq (ss_set 2 rfl (sv_op sr_mod (SV.se (sv_op sr_ix (se_own 0 rfl) (SV.se sv_int))) (SV.se (sv_var 1 rfl))))
  (ss_seq (ss_setIx 0 rfl (sv_op sr_div (SV.se (sv_op sr_ix (se_own 0 rfl) (SV.se sv_int))) (SV.se (sv_var 1 rfl))) sv_int)
  (ss_ret (SV.se (sv_cb sr_intC (sao_cons (SV.se (sv_var 2 rfl)) sao_nil))))))
  ss_next)
  (ss_seq (ss_setIx 0 rfl (sv_op sr_mod (SV.se (sv_cb sr_intC (sao_cons (SV.se (sv_op sr_add (SV.se (sv_op sr_mul (SV.se (sv_op sr_ix (se_own 0 rfl) (SV.se sv_int))) (SV.se sv_int))) (SV.se sv_int))) sao_nil))) (SV.se sv_int)) sv_int)
  (ss_ret (SV.se (sv_op sr_mod (SV.se (sv_cb sr_intC (sao_cons (SV.se (sv_op sr_div (SV.se (sv_op sr_ix (se_own 0 rfl) (SV.se sv_int))) (SV.se sv_int))) sao_nil))) (SV.se (sv_var 1 rfl)))))))⟩
theorem gives_told (T : Txt K mg A FD cl CC PT TT pe) (TB0 : TB0 base mg CC PT) {Ar : Around} {st : List PySem.Env} {cdv : Value} {q : Str} {kk : Nat} (hk : 6 ≤ kk) : GivesToN P w K mg base Ar st ["call", "e", "words", "word", "is_so"] "_law_told" (defScope s__law_told) (A 20) cdv (defBody s__law_told) "call" kk q (TTold K cl TT F__law_read) := by
  have nd := sc__law_told.nd
  have G__law_read : FnOk P w K mg base (L2N.CX P w) 6 (A 16) (FD 16) ["told"] (spP K cl TT 1 F__law_read) := ok__law_read T TB0
  intro f c' s H Q tl hr act hc h
  have hn : Names (cxOf C8.CX0 P w K mg base ["call", "e", "words", "word", "is_so"] "_law_told" (defScope s__law_told) (A 20) cdv Ar st s H C8.E0).nox "PlaceError" (.ref pe) := ⟨rfl, by decide, .inl T.g_PlaceError⟩
  refine ⟨_, pss_one (L2N.ps_try_as (X := (cxOf C8.CX0 P w K mg base ["call", "e", "words", "word", "is_so"] "_law_told" (defScope s__law_told) (A 20) cdv Ar st s H C8.E0).nox) (c := .ref pe) (i := 1) (Wout := fun _ _ _ _ => False) (ts := toldTs K cl) (tb := toldTb K cl TT F__law_read f c' q tl) rfl rfl nd rfl rfl hn (fun u s' x => by obtain ⟨_, _, _, _, _, _, _, _, _, _, _, _, _, _, _, _, z⟩ := x; exact z.elim)
    (fun W pn xe tk po => pss_one (ps_ret (pe_tup (pa_cons pe_int (pa_cons (pe_call G__law_read (hr.mono hk) (by rfl) T.g16 T.f16.kp T.b16 .nil (L2N.passes_call tk (fun _ _ _ _ h => h.elim)) (pa_cons (act W pn xe _ _ tk) pa_nil)) pa_nil))))) (fun a oe cls d pn hz hd => pss_ex fun x hx => ?_)), told_end T.ff hc h⟩
  obtain ⟨rfl, rfl⟩ := hx
  have hot := hot_suite (X := (cxOf C8.CX0 P w K mg base ["call", "e", "words", "word", "is_so"] "_law_told" (defScope s__law_told) (A 20) cdv Ar st s H C8.E0).nox) (a := a) (pn := pn) hz hd
  exact pss_cons (ps_setLcH (i := 2) (own := [("word", 3), ("is_so", 4)]) hot nd rfl rfl (sw_true rfl rfl rfl (by decide +kernel)) (pe_lst (pa_cons (pe_tup (pa_cons pe_str (pa_cons (pe_callB (call_isE (T.ff x).c hz.zc hd) (by rfl) T.z_isinstance bt_isinstance (pa_cons (pv 1) (pa_cons (pe_glob (v := .ref (cl .form)) (by rfl) T.g_BadForm rfl) pa_nil))) pa_nil))) (pa_cons (pe_tup (pa_cons pe_str (pa_cons (pe_callB (call_isE (T.ff x).c hz.zc hd) (by rfl) T.z_isinstance bt_isinstance (pa_cons (pv 1) (pa_cons (pe_glob (v := .ref (cl .range)) (by rfl) T.g_OutOfRange rfl) pa_nil))) pa_nil))) pa_nil))) (blkOk_by (own := [("word", 3), ("is_so", 4)]) (N := ["call", "e", "words", "word", "is_so"]) (sc := defScope s__law_told) (by decide +kernel))
      (fun _ _ _ _ _ hx => by exact (pg_tupH hx (pgs_cons (pg_name (i := 3) nd rfl (Or.inl rfl)) (pgs_cons (pg_name (i := 4) nd rfl (Or.inl rfl)) pgs_nil)))) (fun _ _ _ _ _ => by exact (pts_one (pt_val (pv 4)))) (fun _ _ _ _ _ => by exact (pv 3)))
    (pss_one (ps_ret (pe_tup (pa_cons pe_int (pa_cons (pe_ifExp (pt_cmpR (op_eqDK (K := K) rfl (by exact hr.units)) (pe_callB (call_lenK (K := K) rfl) (by rfl) T.z_len bt_len (pa_cons (pv 2) pa_nil)) pe_int (nomark _)) (pe_ix (ix_seqK (K := K) rfl) (pv 2) pe_int (fun _ _ => rfl)) pe_str) pa_nil)))))
theorem ok__law_primes (T : Txt K mg A FD cl CC PT TT pe) (TB0 : TB0 base mg CC PT) : FnOk P w K mg base (L2N.CX P w) 1 (A 21) (FD 21) ["number"] (spP K cl TT 1 F__law_primes) := by
  have z_abs := T.z_abs
  have nd := sc__law_primes.nd
  refine fn_pure T.f21 sc__law_primes (fun i => i == 2) (by decide) d__law_primes (fun cdv A0 outer s H E hr => ?_) sp__law_primes
  exact ⟨_, (pss_cons (ps_par3 (i := 0) (j := 1) (l := 2) rfl nd rfl rfl rfl (by decide) (by decide) (by decide) rfl rfl rfl (pa_cons (pe_callB call_abs (by rfl) z_abs bt_abs (pa_cons (pv 0) pa_nil)) (pa_cons pe_int (pa_cons (pe_lst pa_nil) pa_nil))) (by rfl))
  (pss_cons (ps_while (passes_of rfl) (pt_cmpR op_le (pe_op op_mulW (pv 1) (pv 1)) (pv 0) (nomark _))
  (pss_cons (ps_if (pt_cmpR (op_eqDK (K := K) rfl hr.units) (pe_op op_mod (pv 0) (pv 1)) pe_int (nomark _))
  (pss_cons (ps_expr (pe_appK (K := K) rfl (pv 2) (pv 1)))
  (pss_one (ps_while (passes_of rfl) (pt_cmpR (op_eqDK (K := K) rfl hr.units) (pe_op op_mod (pv 0) (pv 1)) pe_int (nomark _))
  (pss_one (ps_set (i := 0) nd rfl (Or.inl rfl) (pe_op op_fdivW (pv 0) (pv 1)))))))
  pss_nil)
  (pss_one (ps_set (i := 1) nd rfl (Or.inl rfl) (pe_op (op_add4K (K := K) rfl) (pv 1) pe_int)))))
  (pss_one (ps_ret (pe_ifExp (pt_cmpR op_gt (pv 0) pe_int (nomark _)) (pe_op (op_add4K (K := K) rfl) (pv 2) (pe_lst (pa_cons (pv 0) pa_nil))) (pv 2)))))),
   fun z h0 W he => (ss_seq (ss_par_vvo 0 1 2 rfl rfl rfl (.inl rfl) (sv_cb sr_abs (sao_cons (SV.se (sv_var 0 rfl)) sao_nil)) sv_int)
  (ss_seq (ss_while (st_testO (sv_op sr_le (SV.se (sv_op sr_mul (SV.se (sv_var 1 rfl)) (SV.se (sv_var 1 rfl)))) (SV.se (sv_var 0 rfl))))
  (ss_seq (ss_if (st_testO (sv_op sr_eq (SV.se (sv_op sr_mod (SV.se (sv_var 0 rfl)) (SV.se (sv_var 1 rfl)))) (SV.se sv_int)))
  (ss_seq (ss_app 2 rfl (sv_var 1 rfl))
  (ss_while (st_testO (sv_op sr_eq (SV.se (sv_op sr_mod (SV.se (sv_var 0 rfl)) (SV.se (sv_var 1 rfl)))) (SV.se sv_int)))
  (ss_set 0 rfl (sv_op sr_div (SV.se (sv_var 0 rfl)) (SV.se (sv_var 1 rfl))))))
  ss_next)
  (ss_set 1 rfl (sv_op sr_add (SV.se (sv_var 1 rfl)) (SV.se sv_int)))))
  (ss_ret (se_if (st_testO (sv_op sr_gt (SV.se (sv_var 0 rfl)) (SV.se sv_int))) (SV.se (sv_op sr_add (se_own 2 rfl) (SV.se (sv_lst (sa_cons (sv_var 0 rfl) sa_nil))))) (se_own 2 rfl)))))⟩
theorem ok__law_core (T : Txt K mg A FD cl CC PT TT pe) (TB0 : TB0 base mg CC PT) : FnOk P w K mg base (L2N.CX P w) 2 (A 22) (FD 22) ["number"] (spP K cl TT 1 F__law_core) := by
  have G__law_primes : FnOk P w K mg base (L2N.CX P w) 1 (A 21) (FD 21) ["number"] (spP K cl TT 1 F__law_primes) := ok__law_primes T TB0
  have nd := sc__law_core.nd
  refine fn_pure T.f22 sc__law_core (fun _ => false) (by decide) d__law_core (fun cdv A0 outer s H E hr => ?_) sp__law_core
  exact ⟨_, (pss_cons (ps_set (i := 1) nd rfl (Or.inl rfl) (pe_ifExp (pt_cmpR op_gt (pv 0) pe_int (nomark _)) pe_int (pe_un un_neg pe_int)))
  (pss_cons (ps_for (passes_of rfl) rfl (pi_seqK (K := K) rfl (pe_call G__law_primes (hr.mono (by decide)) (by rfl) T.g21 T.f21.kp T.b21 .nil (L2N.passes_call (L2N.takes_of rfl rfl rfl rfl) (fun _ _ _ _ h => h)) (pa_cons (pv 0) pa_nil))) (pg_name (i := 2) nd rfl (Or.inl rfl))
  (pss_cons (ps_set (i := 3) nd rfl (Or.inl rfl) pe_int)
  (pss_cons (ps_while (passes_of rfl) (pt_cmpR (op_eqDK (K := K) rfl hr.units) (pe_op op_mod (pv 0) (pv 2)) pe_int (nomark _))
  (pss_one (ps_par rfl nd rfl rfl (by decide) rfl rfl (pa_cons (pe_op op_fdivW (pv 0) (pv 2)) (pa_cons (pe_op (op_add4K (K := K) rfl) (pv 3) pe_int) pa_nil)) (by rfl))))
  (pss_one (ps_set (i := 1) nd rfl (Or.inl rfl) (pe_ifExp (pt_cmpR (op_eqDK (K := K) rfl hr.units) (pe_op op_mod (pv 3) pe_int) pe_int (nomark _)) (pe_op op_mulW (pv 1) (pv 2)) (pv 1)))))))
  (pss_one (ps_ret (pv 1))))),
   fun z h0 W he => (ss_seq (ss_set 1 rfl (sv_if (st_testO (sv_op sr_gt (SV.se (sv_var 0 rfl)) (SV.se sv_int))) sv_int (sv_un sr_neg (SV.se sv_int))))
  (ss_seq (ss_for (si_seq (sv_call he (sa_cons (sv_var 0 rfl) sa_nil))) (sg_name 2 rfl)
  (ss_seq (ss_set 3 rfl sv_int)
  (ss_seq (ss_while (st_testO (sv_op sr_eq (SV.se (sv_op sr_mod (SV.se (sv_var 0 rfl)) (SV.se (sv_var 2 rfl)))) (SV.se sv_int)))
  (ss_par 0 3 rfl rfl (sa_cons (sv_op sr_div (SV.se (sv_var 0 rfl)) (SV.se (sv_var 2 rfl))) (sa_cons (sv_op sr_add (SV.se (sv_var 3 rfl)) (SV.se sv_int)) sa_nil))))
  (ss_set 1 rfl (sv_if (st_testO (sv_op sr_eq (SV.se (sv_op sr_mod (SV.se (sv_var 3 rfl)) (SV.se sv_int))) (SV.se sv_int))) (sv_op sr_mul (SV.se (sv_var 1 rfl)) (SV.se (sv_var 2 rfl))) (sv_var 1 rfl))))))
  (ss_ret (SV.se (sv_var 1 rfl)))))⟩
theorem ok__law_is_residue (T : Txt K mg A FD cl CC PT TT pe) (TB0 : TB0 base mg CC PT) : FnOk P w K mg base (L2N.CX P w) 1 (A 23) (FD 23) ["s", "p"] (spP K cl TT 2 F__law_is_residue) := by
  have nd := sc__law_is_residue.nd
  refine fn_pure T.f23 sc__law_is_residue (fun _ => false) (by decide) d__law_is_residue (fun cdv A0 outer s H E hr => ?_) sp__law_is_residue
  exact ⟨_, (pss_cons (ps_par3 rfl nd rfl rfl rfl (by decide) (by decide) (by decide) rfl rfl rfl (pa_cons pe_int (pa_cons (pe_op op_fdivW (pe_op op_sub (pv 1) pe_int) pe_int) (pa_cons (pe_op op_mod (pv 0) (pv 1)) pa_nil))) (by rfl))
  (pss_cons (ps_while (passes_of rfl) (pt_cmpR op_gt (pv 3) pe_int (nomark _))
  (pss_cons (ps_set (i := 2) nd rfl (Or.inl rfl) (pe_ifExp (pt_cmpR (op_eqDK (K := K) rfl hr.units) (pe_op op_mod (pv 3) pe_int) pe_int (nomark _)) (pe_op op_mod (pe_op op_mulW (pv 2) (pv 4)) (pv 1)) (pv 2)))
  (pss_one (ps_par rfl nd rfl rfl (by decide) rfl rfl (pa_cons (pe_op op_mod (pe_op op_mulW (pv 4) (pv 4)) (pv 1)) (pa_cons (pe_op op_fdivW (pv 3) pe_int) pa_nil)) (by rfl)))))
  (pss_one (ps_ret (pe_cmpR (op_eqDK (K := K) rfl hr.units) (pv 2) pe_int (nomark _)))))),
   fun z h0 W he => (ss_seq (ss_par3 2 3 4 rfl rfl rfl (sa_cons sv_int (sa_cons (sv_op sr_div (SV.se (sv_op sr_sub (SV.se (sv_var 1 rfl)) (SV.se sv_int))) (SV.se sv_int)) (sa_cons (sv_op sr_mod (SV.se (sv_var 0 rfl)) (SV.se (sv_var 1 rfl))) sa_nil))))
  (ss_seq (ss_while (st_testO (sv_op sr_gt (SV.se (sv_var 3 rfl)) (SV.se sv_int)))
  (ss_seq (ss_set 2 rfl (sv_if (st_testO (sv_op sr_eq (SV.se (sv_op sr_mod (SV.se (sv_var 3 rfl)) (SV.se sv_int))) (SV.se sv_int))) (sv_op sr_mod (SV.se (sv_op sr_mul (SV.se (sv_var 2 rfl)) (SV.se (sv_var 4 rfl)))) (SV.se (sv_var 1 rfl))) (sv_var 2 rfl)))
  (ss_par 4 3 rfl rfl (sa_cons (sv_op sr_mod (SV.se (sv_op sr_mul (SV.se (sv_var 4 rfl)) (SV.se (sv_var 4 rfl)))) (SV.se (sv_var 1 rfl))) (sa_cons (sv_op sr_div (SV.se (sv_var 3 rfl)) (SV.se sv_int)) sa_nil)))))
  (ss_ret (SV.se (sv_op sr_eq (SV.se (sv_var 2 rfl)) (SV.se sv_int))))))⟩
theorem ok__law_symbol (T : Txt K mg A FD cl CC PT TT pe) (TB0 : TB0 base mg CC PT) : FnOk P w K mg base (L2N.CX P w) 2 (A 24) (FD 24) ["a", "b", "place"] (spP K cl TT 3 F__law_symbol) := by
  have z_int := T.z_int
  have G__law_is_residue : FnOk P w K mg base (L2N.CX P w) 1 (A 23) (FD 23) ["s", "p"] (spP K cl TT 2 F__law_is_residue) := ok__law_is_residue T TB0
  have nd := sc__law_symbol.nd
  refine fn_pure T.f24 sc__law_symbol (fun _ => false) (by decide) d__law_symbol (fun cdv A0 outer s H E hr => ?_) sp__law_symbol
  exact ⟨_, (pss_cons (ps_if (pt_cmpR (op_eqDK (K := K) rfl hr.units) (pv 2) (pe_un un_neg pe_int) (nomark _))
  (pss_one (ps_ret (pe_ifExp (PW.pt (pw_and (pt_cmpR op_lt (pv 0) pe_int (nomark _)) (pw_and1 (pt_cmpR op_lt (pv 1) pe_int (nomark _))))) (pe_un un_neg pe_int) pe_int)))
  pss_nil)
  (pss_cons (ps_asg (pe_tup (pa_cons pe_int (pa_cons pe_int pa_nil))) (pg_tupK (K := K) (n := 2) rfl rfl (pgs_cons (pg_name (i := 3) nd rfl (Or.inl rfl)) (pgs_cons (pg_name (i := 4) nd rfl (Or.inl rfl)) pgs_nil))))
  (pss_cons (ps_while (passes_of rfl) (pt_cmpR (op_eqDK (K := K) rfl hr.units) (pe_op op_mod (pv 0) (pv 2)) pe_int (nomark _))
  (pss_one (ps_par rfl nd rfl rfl (by decide) rfl rfl (pa_cons (pe_op op_fdivW (pv 0) (pv 2)) (pa_cons (pe_op (op_add4K (K := K) rfl) (pv 3) pe_int) pa_nil)) (by rfl))))
  (pss_cons (ps_while (passes_of rfl) (pt_cmpR (op_eqDK (K := K) rfl hr.units) (pe_op op_mod (pv 1) (pv 2)) pe_int (nomark _))
  (pss_one (ps_par rfl nd rfl rfl (by decide) rfl rfl (pa_cons (pe_op op_fdivW (pv 1) (pv 2)) (pa_cons (pe_op (op_add4K (K := K) rfl) (pv 4) pe_int) pa_nil)) (by rfl))))
  (pss_cons (ps_if (pt_cmpR (op_eqDK (K := K) rfl hr.units) (pv 2) pe_int (nomark _))
  (pss_one (ps_set (i := 5) nd rfl (Or.inl rfl) (pe_op (op_add4K (K := K) rfl) (pe_op (op_add4K (K := K) rfl) (pe_op op_mulW (pe_op op_fdivW (pe_op op_mod (pv 0) pe_int) pe_int) (pe_op op_fdivW (pe_op op_mod (pv 1) pe_int) pe_int)) (pe_op op_mulW (pv 3) (pe_callTy call_int1 (by rfl) z_int bt_int (pa_cons (pe_cmpR (op_inTK (K := K) rfl (units65 hr)) (pe_op op_mod (pv 1) pe_int) (pe_tup (pa_cons pe_int (pa_cons pe_int pa_nil))) (by rfl)) pa_nil)))) (pe_op op_mulW (pv 4) (pe_callTy call_int1 (by rfl) z_int bt_int (pa_cons (pe_cmpR (op_inTK (K := K) rfl (units65 hr)) (pe_op op_mod (pv 0) pe_int) (pe_tup (pa_cons pe_int (pa_cons pe_int pa_nil))) (by rfl)) pa_nil))))))
  (pss_one (ps_set (i := 5) nd rfl (Or.inl rfl) (pe_op (op_add4K (K := K) rfl) (pe_op (op_add4K (K := K) rfl) (pe_op op_mulW (pe_op op_mulW (pv 3) (pv 4)) (pe_callTy call_int1 (by rfl) z_int bt_int (pa_cons (pe_cmpR (op_eqDK (K := K) rfl hr.units) (pe_op op_mod (pv 2) pe_int) pe_int (nomark _)) pa_nil))) (pe_op op_mulW (pv 4) (pe_callTy call_int1 (by rfl) z_int bt_int (pa_cons (pe_not (pe_call G__law_is_residue (hr.mono (by decide)) (by rfl) T.g23 T.f23.kp T.b23 .nil (L2N.passes_call (L2N.takes_of rfl rfl rfl rfl) (fun _ _ _ _ h => h)) (pa_cons (pv 0) (pa_cons (pv 2) pa_nil)))) pa_nil)))) (pe_op op_mulW (pv 3) (pe_callTy call_int1 (by rfl) z_int bt_int (pa_cons (pe_not (pe_call G__law_is_residue (hr.mono (by decide)) (by rfl) T.g23 T.f23.kp T.b23 .nil (L2N.passes_call (L2N.takes_of rfl rfl rfl rfl) (fun _ _ _ _ h => h)) (pa_cons (pv 1) (pa_cons (pv 2) pa_nil)))) pa_nil)))))))
  (pss_one (ps_ret (pe_op op_sub pe_int (pe_op op_mulW pe_int (pe_op op_mod (pv 5) pe_int)))))))))),
   fun z h0 W he => (ss_seq (ss_if (st_testO (sv_op sr_eq (SV.se (sv_var 2 rfl)) (SV.se (sv_un sr_neg (SV.se sv_int)))))
  (ss_ret (SV.se (sv_if (st_and (st_testO (sv_op sr_lt (SV.se (sv_var 0 rfl)) (SV.se sv_int))) (st_testO (sv_op sr_lt (SV.se (sv_var 1 rfl)) (SV.se sv_int)))) (sv_un sr_neg (SV.se sv_int)) sv_int)))
  ss_next)
  (ss_seq (ss_asg (sv_tup (sa_cons sv_int (sa_cons sv_int sa_nil))) (sg_tup (sgs_cons (sg_name 3 rfl) (sgs_cons (sg_name 4 rfl) sgs_nil))))
  (ss_seq (ss_while (st_testO (sv_op sr_eq (SV.se (sv_op sr_mod (SV.se (sv_var 0 rfl)) (SV.se (sv_var 2 rfl)))) (SV.se sv_int)))
  (ss_par 0 3 rfl rfl (sa_cons (sv_op sr_div (SV.se (sv_var 0 rfl)) (SV.se (sv_var 2 rfl))) (sa_cons (sv_op sr_add (SV.se (sv_var 3 rfl)) (SV.se sv_int)) sa_nil))))
  (ss_seq (ss_while (st_testO (sv_op sr_eq (SV.se (sv_op sr_mod (SV.se (sv_var 1 rfl)) (SV.se (sv_var 2 rfl)))) (SV.se sv_int)))
  (ss_par 1 4 rfl rfl (sa_cons (sv_op sr_div (SV.se (sv_var 1 rfl)) (SV.se (sv_var 2 rfl))) (sa_cons (sv_op sr_add (SV.se (sv_var 4 rfl)) (SV.se sv_int)) sa_nil))))
  (ss_seq (ss_if (st_testO (sv_op sr_eq (SV.se (sv_var 2 rfl)) (SV.se sv_int)))
  (ss_set 5 rfl (sv_op sr_add (SV.se (sv_op sr_add (SV.se (sv_op sr_mul (SV.se (sv_op sr_div (SV.se (sv_op sr_mod (SV.se (sv_var 0 rfl)) (SV.se sv_int))) (SV.se sv_int))) (SV.se (sv_op sr_div (SV.se (sv_op sr_mod (SV.se (sv_var 1 rfl)) (SV.se sv_int))) (SV.se sv_int))))) (SV.se (sv_op sr_mul (SV.se (sv_var 3 rfl)) (SV.se (sv_cb sr_intC (sao_cons (SV.se (sv_op sr_inT (SV.se (sv_op sr_mod (SV.se (sv_var 1 rfl)) (SV.se sv_int))) (SV.se (sv_tup (sa_cons sv_int (sa_cons sv_int sa_nil)))))) sao_nil))))))) (SV.se (sv_op sr_mul (SV.se (sv_var 4 rfl)) (SV.se (sv_cb sr_intC (sao_cons (SV.se (sv_op sr_inT (SV.se (sv_op sr_mod (SV.se (sv_var 0 rfl)) (SV.se sv_int))) (SV.se (sv_tup (sa_cons sv_int (sa_cons sv_int sa_nil)))))) sao_nil)))))))
  (ss_set 5 rfl (sv_op sr_add (SV.se (sv_op sr_add (SV.se (sv_op sr_mul (SV.se (sv_op sr_mul (SV.se (sv_var 3 rfl)) (SV.se (sv_var 4 rfl)))) (SV.se (sv_cb sr_intC (sao_cons (SV.se (sv_op sr_eq (SV.se (sv_op sr_mod (SV.se (sv_var 2 rfl)) (SV.se sv_int))) (SV.se sv_int))) sao_nil))))) (SV.se (sv_op sr_mul (SV.se (sv_var 4 rfl)) (SV.se (sv_cb sr_intC (sao_cons (SV.se (sv_notV (sv_call he (sa_cons (sv_var 0 rfl) (sa_cons (sv_var 2 rfl) sa_nil))))) sao_nil))))))) (SV.se (sv_op sr_mul (SV.se (sv_var 3 rfl)) (SV.se (sv_cb sr_intC (sao_cons (SV.se (sv_notV (sv_call he (sa_cons (sv_var 1 rfl) (sa_cons (sv_var 2 rfl) sa_nil))))) sao_nil))))))))
  (ss_ret (SV.se (sv_op sr_sub (SV.se sv_int) (SV.se (sv_op sr_mul (SV.se sv_int) (SV.se (sv_op sr_mod (SV.se (sv_var 5 rfl)) (SV.se sv_int)))))))))))))⟩
theorem ok__law_square_at (T : Txt K mg A FD cl CC PT TT pe) (TB0 : TB0 base mg CC PT) : FnOk P w K mg base (L2N.CX P w) 2 (A 25) (FD 25) ["a", "place"] (spP K cl TT 2 F__law_square_at) := by
  have G__law_is_residue : FnOk P w K mg base (L2N.CX P w) 1 (A 23) (FD 23) ["s", "p"] (spP K cl TT 2 F__law_is_residue) := ok__law_is_residue T TB0
  have nd := sc__law_square_at.nd
  refine fn_pure T.f25 sc__law_square_at (fun _ => false) (by decide) d__law_square_at (fun cdv A0 outer s H E hr => ?_) sp__law_square_at
  exact ⟨_, (pss_cons (ps_if (pt_cmpR (op_eqDK (K := K) rfl hr.units) (pv 1) (pe_un un_neg pe_int) (nomark _))
  (pss_one (ps_ret (pe_cmpR op_gt (pv 0) pe_int (nomark _))))
  pss_nil)
  (pss_cons (ps_set (i := 2) nd rfl (Or.inl rfl) pe_int)
  (pss_cons (ps_while (passes_of rfl) (pt_cmpR (op_eqDK (K := K) rfl hr.units) (pe_op op_mod (pv 0) (pv 1)) pe_int (nomark _))
  (pss_one (ps_par rfl nd rfl rfl (by decide) rfl rfl (pa_cons (pe_op op_fdivW (pv 0) (pv 1)) (pa_cons (pe_op (op_add4K (K := K) rfl) (pv 2) pe_int) pa_nil)) (by rfl))))
  (pss_one (ps_ret (pe_and (pe_cmpR (op_eqDK (K := K) rfl hr.units) (pe_op op_mod (pv 2) pe_int) pe_int (nomark _)) (pe_one (pe_ifExp (pt_cmpR (op_eqDK (K := K) rfl hr.units) (pv 1) pe_int (nomark _)) (pe_cmpR (op_eqDK (K := K) rfl hr.units) (pe_op op_mod (pv 0) pe_int) pe_int (nomark _)) (pe_call G__law_is_residue (hr.mono (by decide)) (by rfl) T.g23 T.f23.kp T.b23 .nil (L2N.passes_call (L2N.takes_of rfl rfl rfl rfl) (fun _ _ _ _ h => h)) (pa_cons (pv 0) (pa_cons (pv 1) pa_nil))))))))))),
   fun z h0 W he => (ss_seq (ss_if (st_testO (sv_op sr_eq (SV.se (sv_var 1 rfl)) (SV.se (sv_un sr_neg (SV.se sv_int)))))
  (ss_ret (SV.se (sv_op sr_gt (SV.se (sv_var 0 rfl)) (SV.se sv_int))))
  ss_next)
  (ss_seq (ss_set 2 rfl sv_int)
  (ss_seq (ss_while (st_testO (sv_op sr_eq (SV.se (sv_op sr_mod (SV.se (sv_var 0 rfl)) (SV.se (sv_var 1 rfl)))) (SV.se sv_int)))
  (ss_par 0 2 rfl rfl (sa_cons (sv_op sr_div (SV.se (sv_var 0 rfl)) (SV.se (sv_var 1 rfl))) (sa_cons (sv_op sr_add (SV.se (sv_var 2 rfl)) (SV.se sv_int)) sa_nil))))
  (ss_ret (SV.se (sv_andV (sv_op sr_eq (SV.se (sv_op sr_mod (SV.se (sv_var 2 rfl)) (SV.se sv_int))) (SV.se sv_int)) (sv_if (st_testO (sv_op sr_eq (SV.se (sv_var 1 rfl)) (SV.se sv_int))) (sv_op sr_eq (SV.se (sv_op sr_mod (SV.se (sv_var 0 rfl)) (SV.se sv_int))) (SV.se sv_int)) (sv_call he (sa_cons (sv_var 0 rfl) (sa_cons (sv_var 1 rfl) sa_nil))))))))))⟩
theorem ok__law_number (T : Txt K mg A FD cl CC PT TT pe) (TB0 : TB0 base mg CC PT) : FnOk P w K mg base (L2N.CX P w) 2 (A 26) (FD 26) ["box"] (spB K cl TT 1 F__law_number) := by
  have z_range := T.z_range
  have G__law_draw : FnOk P w K mg base (L2N.CX P w) 1 (A 19) (FD 19) ["box", "many"] (spB K cl TT 2 F__law_draw) := ok__law_draw T TB0
  have nd := sc__law_number.nd
  refine fn_box T.f26 sc__law_number (fun i => i == 0) (by decide) (by decide) d__law_number (fun cdv A0 outer s H E hr => ?_) sp__law_number
  exact ⟨_, (pss_cons (ps_par rfl nd rfl rfl (by decide) rfl rfl (pa_cons (pe_call G__law_draw (hr.mono (by decide)) (by rfl) T.g19 T.f19.kp T.b19 .nil (L2N.passes_call (L2N.takes_of rfl rfl rfl rfl) (fun _ _ _ _ h => h)) (pa_cons (pv 0) (pa_cons pe_int pa_nil))) (pa_cons (pe_ix (ix_seqK (K := K) rfl) (pe_lst (pa_cons pe_int (pa_cons (pe_un un_neg pe_int) pa_nil))) (pe_call G__law_draw (hr.mono (by decide)) (by rfl) T.g19 T.f19.kp T.b19 .nil (L2N.passes_call (L2N.takes_of rfl rfl rfl rfl) (fun _ _ _ _ h => h)) (pa_cons (pv 0) (pa_cons pe_int pa_nil))) (fun _ _ => rfl)) pa_nil)) (by rfl))
  (pss_cons (ps_if (pt_cmpR (op_eqDK (K := K) rfl hr.units) (pv 1) pe_int (nomark _))
  (pss_one (ps_ret (pe_op op_mulW (pv 2) (pe_op (op_add4K (K := K) rfl) pe_int (pe_call G__law_draw (hr.mono (by decide)) (by rfl) T.g19 T.f19.kp T.b19 .nil (L2N.passes_call (L2N.takes_of rfl rfl rfl rfl) (fun _ _ _ _ h => h)) (pa_cons (pv 0) (pa_cons pe_int pa_nil)))))))
  pss_nil)
  (pss_cons (ps_if (pt_cmpR (op_eqDK (K := K) rfl hr.units) (pv 1) pe_int (nomark _))
  (pss_one (ps_ret (pe_op op_mulW (pv 2) (pe_op (op_add4K (K := K) rfl) pe_int (pe_call G__law_draw (hr.mono (by decide)) (by rfl) T.g19 T.f19.kp T.b19 .nil (L2N.passes_call (L2N.takes_of rfl rfl rfl rfl) (fun _ _ _ _ h => h)) (pa_cons (pv 0) (pa_cons pe_int pa_nil)))))))
  pss_nil)
  (pss_cons (ps_set (i := 3) nd rfl (Or.inl rfl) pe_int)
  (pss_cons (ps_for (passes_of rfl) rfl (pi_range1 rfl z_range (pa_cons pe_int pa_nil)) (pg_name (i := 4) nd rfl (Or.inl rfl))
  (pss_cons (ps_set (i := 5) nd rfl (Or.inl rfl) (pe_ix (ix_seqK (K := K) rfl) (pe_lst (pa_cons pe_int (pa_cons pe_int (pa_cons pe_int (pa_cons pe_int (pa_cons pe_int (pa_cons pe_int (pa_cons pe_int (pa_cons pe_int (pa_cons pe_int (pa_cons pe_int pa_nil))))))))))) (pe_call G__law_draw (hr.mono (by decide)) (by rfl) T.g19 T.f19.kp T.b19 .nil (L2N.passes_call (L2N.takes_of rfl rfl rfl rfl) (fun _ _ _ _ h => h)) (pa_cons (pv 0) (pa_cons pe_int pa_nil))) (fun _ _ => rfl)))
  (pss_one (ps_set (i := 3) nd rfl (Or.inl rfl) (pe_ifExp (pt_cmpR op_le (pe_op op_mulW (pv 3) (pv 5)) pe_int (nomark _)) (pe_op op_mulW (pv 3) (pv 5)) (pv 3))))))
  (pss_one (ps_ret (pe_op op_mulW (pv 2) (pv 3))))))))),
   fun z b h0 W he => (ss_seq (ss_par 1 2 rfl rfl (sa_cons (sv_callB 0 rfl he (sa_cons sv_int sa_nil)) (sa_cons (sv_op sr_ix (SV.se (sv_lst (sa_cons sv_int (sa_cons (sv_un sr_neg (SV.se sv_int)) sa_nil)))) (SV.se (sv_callB 0 rfl he (sa_cons sv_int sa_nil)))) sa_nil)))
  (ss_seq (ss_if (st_testO (sv_op sr_eq (SV.se (sv_var 1 rfl)) (SV.se sv_int)))
  (ss_ret (SV.se (sv_op sr_mul (SV.se (sv_var 2 rfl)) (SV.se (sv_op sr_add (SV.se sv_int) (SV.se (sv_callB 0 rfl he (sa_cons sv_int sa_nil))))))))
  ss_next)
  (ss_seq (ss_if (st_testO (sv_op sr_eq (SV.se (sv_var 1 rfl)) (SV.se sv_int)))
  (ss_ret (SV.se (sv_op sr_mul (SV.se (sv_var 2 rfl)) (SV.se (sv_op sr_add (SV.se sv_int) (SV.se (sv_callB 0 rfl he (sa_cons sv_int sa_nil))))))))
  ss_next)
  (ss_seq (ss_set 3 rfl sv_int)
  (ss_seq (ss_for (si_range1 sv_int) (sg_name 4 rfl)
  (ss_seq (ss_set 5 rfl (sv_op sr_ix (SV.se (sv_lst (sa_cons sv_int (sa_cons sv_int (sa_cons sv_int (sa_cons sv_int (sa_cons sv_int (sa_cons sv_int (sa_cons sv_int (sa_cons sv_int (sa_cons sv_int (sa_cons sv_int sa_nil)))))))))))) (SV.se (sv_callB 0 rfl he (sa_cons sv_int sa_nil)))))
  (ss_set 3 rfl (sv_if (st_testO (sv_op sr_le (SV.se (sv_op sr_mul (SV.se (sv_var 3 rfl)) (SV.se (sv_var 5 rfl)))) (SV.se sv_int))) (sv_op sr_mul (SV.se (sv_var 3 rfl)) (SV.se (sv_var 5 rfl))) (sv_var 3 rfl)))))
  (ss_ret (SV.se (sv_op sr_mul (SV.se (sv_var 2 rfl)) (SV.se (sv_var 3 rfl))))))))))⟩
theorem ok__law_solvable (T : Txt K mg A FD cl CC PT TT pe) (TB0 : TB0 base mg CC PT) : FnOk P w K mg base (L2N.CX P w) 1 (A 27) (FD 27) ["a", "b", "p"] (spP K cl TT 3 F__law_solvable) := by
  have z_range := T.z_range
  have nd := sc__law_solvable.nd
  refine fn_pure T.f27 sc__law_solvable (fun i => i == 4) (by decide) d__law_solvable (fun cdv A0 outer s H E hr => ?_) sp__law_solvable
  exact ⟨_, (pss_cons (ps_set (i := 3) nd rfl (Or.inl rfl) (pe_ix (ix_seqK (K := K) rfl) (pe_lst (pa_cons pe_int (pa_cons pe_int (pa_cons pe_int pa_nil)))) (pe_idxK (K := K) rfl (pe_lst (pa_cons pe_int (pa_cons pe_int (pa_cons pe_int pa_nil)))) (pv 2)) (fun _ _ => rfl)))
  (pss_cons (ps_set (i := 4) nd rfl (Or.inl rfl) pe_dnewK)
  (pss_cons (ps_for (passes_of rfl) rfl (pi_range1 rfl z_range (pa_cons (pv 3) pa_nil)) (pg_name (i := 5) nd rfl (Or.inl rfl))
  (pss_one (ps_dput (hu65 hr) (pv 4) (pe_op op_mod (pe_op op_mulW (pv 5) (pv 5)) (pv 3)) (pe_or (pe_dget2 (hu65 hr) (pv 4) (pe_op op_mod (pe_op op_mulW (pv 5) (pv 5)) (pv 3)) pe_bl ⟨rfl, rfl, rfl, rfl⟩) (pe_one (pe_cmpR (op_neDK (K := K) rfl hr.units) (pe_op op_mod (pv 5) (pv 2)) pe_int (nomark _)))) rfl)))
  (pss_cons (ps_for (passes_of rfl) rfl (pi_range1 rfl z_range (pa_cons (pv 3) pa_nil)) (pg_name (i := 6) nd rfl (Or.inl rfl))
  (pss_one (ps_for (passes_of rfl) rfl (pi_range1 rfl z_range (pa_cons (pv 3) pa_nil)) (pg_name (i := 7) nd rfl (Or.inl rfl))
  (pss_cons (ps_set (i := 8) nd rfl (Or.inl rfl) (pe_op op_mod (pe_op (op_add4K (K := K) rfl) (pe_op op_mulW (pe_op op_mulW (pv 0) (pv 6)) (pv 6)) (pe_op op_mulW (pe_op op_mulW (pv 1) (pv 7)) (pv 7))) (pv 3)))
  (pss_one (ps_if (PW.pt (pw_and (pt_cmp (pc_din (hu65 hr) (pv 8) (pv 4))) (pw_and1 (PW.pt (pw_or (pt_cmpR (op_neDK (K := K) rfl hr.units) (pe_op op_mod (pv 6) (pv 2)) pe_int (nomark _)) (pw_or (pt_cmpR (op_neDK (K := K) rfl hr.units) (pe_op op_mod (pv 7) (pv 2)) pe_int (nomark _)) (pw_or1 (pt_val (pe_dget (hu65 hr) (pv 4) (pv 8) (fun _ _ => rfl))))))))))
  (pss_one (ps_ret pe_bl))
  pss_nil))))))
  (pss_one (ps_ret pe_bl)))))),
   fun z h0 W he => (ss_seq (ss_set 3 rfl (sv_op sr_ix (SV.se (sv_lst (sa_cons sv_int (sa_cons sv_int (sa_cons sv_int sa_nil))))) (SV.se (sv_idx (sv_lst (sa_cons sv_int (sa_cons sv_int (sa_cons sv_int sa_nil)))) (sv_var 2 rfl)))))
  (ss_seq (ss_setO 4 rfl (.inl rfl) sf_dnew)
  (ss_seq (ss_for (si_range1 (sv_var 3 rfl)) (sg_name 5 rfl)
  (ss_dput 4 rfl (sv_op sr_mod (SV.se (sv_op sr_mul (SV.se (sv_var 5 rfl)) (SV.se (sv_var 5 rfl)))) (SV.se (sv_var 3 rfl))) (sv_orV (sv_dget2 4 rfl (sv_op sr_mod (SV.se (sv_op sr_mul (SV.se (sv_var 5 rfl)) (SV.se (sv_var 5 rfl)))) (SV.se (sv_var 3 rfl))) sv_bl) (sv_op sr_ne (SV.se (sv_op sr_mod (SV.se (sv_var 5 rfl)) (SV.se (sv_var 2 rfl)))) (SV.se sv_int)))))
  (ss_seq (ss_for (si_range1 (sv_var 3 rfl)) (sg_name 6 rfl)
  (ss_for (si_range1 (sv_var 3 rfl)) (sg_name 7 rfl)
  (ss_seq (ss_set 8 rfl (sv_op sr_mod (SV.se (sv_op sr_add (SV.se (sv_op sr_mul (SV.se (sv_op sr_mul (SV.se (sv_var 0 rfl)) (SV.se (sv_var 6 rfl)))) (SV.se (sv_var 6 rfl)))) (SV.se (sv_op sr_mul (SV.se (sv_op sr_mul (SV.se (sv_var 1 rfl)) (SV.se (sv_var 7 rfl)))) (SV.se (sv_var 7 rfl)))))) (SV.se (sv_var 3 rfl))))
  (ss_if (st_and (st_test (sv_din 4 rfl (sv_var 8 rfl))) (st_or (st_testO (sv_op sr_ne (SV.se (sv_op sr_mod (SV.se (sv_var 6 rfl)) (SV.se (sv_var 2 rfl)))) (SV.se sv_int))) (st_or (st_testO (sv_op sr_ne (SV.se (sv_op sr_mod (SV.se (sv_var 7 rfl)) (SV.se (sv_var 2 rfl)))) (SV.se sv_int))) (st_test (sv_dget 4 rfl (sv_var 8 rfl))))))
  (ss_ret (SV.se sv_bl))
  ss_next))))
  (ss_ret (SV.se sv_bl))))))⟩
theorem ok__law_right (T : Txt K mg A FD cl CC PT TT pe) (TB0 : TB0 base mg CC PT) : FnOk P w K mg base (L2N.CX P w) 9 (A 28) (FD 28) ["box", "a", "b", "c", "place"] (spB K cl TT 5 F__law_right) := by
  have G__law_square_at : FnOk P w K mg base (L2N.CX P w) 2 (A 25) (FD 25) ["a", "place"] (spP K cl TT 2 F__law_square_at) := ok__law_square_at T TB0
  have G__law_symbol : FnOk P w K mg base (L2N.CX P w) 2 (A 24) (FD 24) ["a", "b", "place"] (spP K cl TT 3 F__law_symbol) := ok__law_symbol T TB0
  have G_square_at : FnOk P w K mg base (L2N.CX P w) 4 (A 14) (FD 14) ["a", "place"] (spP K cl TT 2 F_square_at) := ok_square_at T TB0
  have G_symbol : FnOk P w K mg base (L2N.CX P w) 4 (A 13) (FD 13) ["a", "b", "place"] (spP K cl TT 3 F_symbol) := ok_symbol T TB0
  have nd := sc__law_right.nd
  have TB := TB0.1
  refine fn_boxC T.f28 sc__law_right (fun i => i == 0) (by decide) (by decide) d__law_right (fun A0 outer s H E hr => ?_) sp__law_right
  exact ⟨_, (pss_cons (ps_set (i := 5) nd rfl (Or.inl rfl) (pe_call G__law_symbol (hr.mono (by decide)) (by rfl) T.g24 T.f24.kp T.b24 .nil (L2N.passes_call (L2N.takes_of rfl rfl rfl rfl) (fun _ _ _ _ h => h)) (pa_cons (pv 1) (pa_cons (pv 2) (pa_cons (pv 4) pa_nil)))))
  (pss_cons (ps_if (PW.pt (pw_or (pt_cmpR (op_neDK (K := K) rfl hr.units) (pe_told (T := TT) (TT := TTold K cl TT F__law_read) T.f20 T.b20 sc__law_told (fun cdv => gives_told T TB0 (by decide)) (fun A outer s H E f c' hr => by exact (pe_call G_symbol (hr.mono (by decide)) (by rfl) T.g13 T.f13.kp T.b13 .nil (L2N.passes_call takes_lam (fun _ _ _ _ h => h)) (pa_cons (pv 1) (pa_cons (pv 2) (pa_cons (pv 4) pa_nil))))) rfl T.g20 hr TB rfl T.t28 T.u28 rfl (by first | exact Or.inl rfl | exact Or.inr (Or.inl rfl)) (by exact LamX.lamS_by (sc := defScope s__law_right) (by decide +kernel)) rfl (fun _ _ _ _ _ => rfl)) (pe_tup (pa_cons pe_int (pa_cons (pv 5) pa_nil))) (nomark _)) (pw_or (pt_cmpR (op_neDK (K := K) rfl hr.units) (pv 5) (pe_call G__law_symbol (hr.mono (by decide)) (by rfl) T.g24 T.f24.kp T.b24 .nil (L2N.passes_call (L2N.takes_of rfl rfl rfl rfl) (fun _ _ _ _ h => h)) (pa_cons (pv 2) (pa_cons (pv 1) (pa_cons (pv 4) pa_nil)))) (nomark _)) (pw_or1 (pt_cmpR (op_neDK (K := K) rfl hr.units) (pe_call G__law_symbol (hr.mono (by decide)) (by rfl) T.g24 T.f24.kp T.b24 .nil (L2N.passes_call (L2N.takes_of rfl rfl rfl rfl) (fun _ _ _ _ h => h)) (pa_cons (pv 1) (pa_cons (pe_un un_neg (pv 1)) (pa_cons (pv 4) pa_nil)))) pe_int (nomark _))))))
  (pss_one (ps_ret pe_bl))
  pss_nil)
  (pss_cons (ps_if (PW.pt (pw_or (pt_cmpR (op_neDK (K := K) rfl hr.units) (pe_op op_mulW (pv 5) (pe_call G__law_symbol (hr.mono (by decide)) (by rfl) T.g24 T.f24.kp T.b24 .nil (L2N.passes_call (L2N.takes_of rfl rfl rfl rfl) (fun _ _ _ _ h => h)) (pa_cons (pv 3) (pa_cons (pv 2) (pa_cons (pv 4) pa_nil))))) (pe_call G__law_symbol (hr.mono (by decide)) (by rfl) T.g24 T.f24.kp T.b24 .nil (L2N.passes_call (L2N.takes_of rfl rfl rfl rfl) (fun _ _ _ _ h => h)) (pa_cons (pe_op op_mulW (pv 1) (pv 3)) (pa_cons (pv 2) (pa_cons (pv 4) pa_nil)))) (nomark _)) (pw_or1 (pt_cmpR (op_neDK (K := K) rfl hr.units) (pe_call G__law_symbol (hr.mono (by decide)) (by rfl) T.g24 T.f24.kp T.b24 .nil (L2N.passes_call (L2N.takes_of rfl rfl rfl rfl) (fun _ _ _ _ h => h)) (pa_cons (pe_op op_mulW (pe_op op_mulW (pv 1) (pv 3)) (pv 3)) (pa_cons (pv 2) (pa_cons (pv 4) pa_nil)))) (pv 5) (nomark _)))))
  (pss_one (ps_ret pe_bl))
  pss_nil)
  (pss_one (ps_ret (pe_cmpR (op_eqDK (K := K) rfl hr.units) (pe_told (T := TT) (TT := TTold K cl TT F__law_read) T.f20 T.b20 sc__law_told (fun cdv => gives_told T TB0 (by decide)) (fun A outer s H E f c' hr => by exact (pe_call G_square_at (hr.mono (by decide)) (by rfl) T.g14 T.f14.kp T.b14 .nil (L2N.passes_call takes_lam (fun _ _ _ _ h => h)) (pa_cons (pv 1) (pa_cons (pv 4) pa_nil)))) rfl T.g20 hr TB rfl T.t28 T.u28 rfl (by first | exact Or.inl rfl | exact Or.inr (Or.inl rfl)) (by exact LamX.lamS_by (sc := defScope s__law_right) (by decide +kernel)) rfl (fun _ _ _ _ _ => rfl)) (pe_tup (pa_cons pe_int (pa_cons (pe_call G__law_square_at (hr.mono (by decide)) (by rfl) T.g25 T.f25.kp T.b25 .nil (L2N.passes_call (L2N.takes_of rfl rfl rfl rfl) (fun _ _ _ _ h => h)) (pa_cons (pv 1) (pa_cons (pv 4) pa_nil))) pa_nil))) (nomark _))))))),
   fun z b h0 W he => (ss_seq (ss_set 5 rfl (sv_call he (sa_cons (sv_var 1 rfl) (sa_cons (sv_var 2 rfl) (sa_cons (sv_var 4 rfl) sa_nil)))))
  (ss_seq (ss_if (st_or (st_testO (sv_op sr_ne (SV.se (sv_told (fun z h0 E W he => by exact (sv_call he (sa_cons (sv_var 1 rfl) (sa_cons (sv_var 2 rfl) (sa_cons (sv_var 4 rfl) sa_nil))))))) (SV.se (sv_tup (sa_cons sv_int (sa_cons (sv_var 5 rfl) sa_nil)))))) (st_or (st_testO (sv_op sr_ne (SV.se (sv_var 5 rfl)) (SV.se (sv_call he (sa_cons (sv_var 2 rfl) (sa_cons (sv_var 1 rfl) (sa_cons (sv_var 4 rfl) sa_nil))))))) (st_testO (sv_op sr_ne (SV.se (sv_call he (sa_cons (sv_var 1 rfl) (sa_cons (sv_un sr_neg (SV.se (sv_var 1 rfl))) (sa_cons (sv_var 4 rfl) sa_nil))))) (SV.se sv_int)))))
  (ss_ret (SV.se sv_bl))
  ss_next)
  (ss_seq (ss_if (st_or (st_testO (sv_op sr_ne (SV.se (sv_op sr_mul (SV.se (sv_var 5 rfl)) (SV.se (sv_call he (sa_cons (sv_var 3 rfl) (sa_cons (sv_var 2 rfl) (sa_cons (sv_var 4 rfl) sa_nil))))))) (SV.se (sv_call he (sa_cons (sv_op sr_mul (SV.se (sv_var 1 rfl)) (SV.se (sv_var 3 rfl))) (sa_cons (sv_var 2 rfl) (sa_cons (sv_var 4 rfl) sa_nil))))))) (st_testO (sv_op sr_ne (SV.se (sv_call he (sa_cons (sv_op sr_mul (SV.se (sv_op sr_mul (SV.se (sv_var 1 rfl)) (SV.se (sv_var 3 rfl)))) (SV.se (sv_var 3 rfl))) (sa_cons (sv_var 2 rfl) (sa_cons (sv_var 4 rfl) sa_nil))))) (SV.se (sv_var 5 rfl)))))
  (ss_ret (SV.se sv_bl))
  ss_next)
  (ss_ret (SV.se (sv_op sr_eq (SV.se (sv_told (fun z h0 E W he => by exact (sv_call he (sa_cons (sv_var 1 rfl) (sa_cons (sv_var 4 rfl) sa_nil)))))) (SV.se (sv_tup (sa_cons sv_int (sa_cons (sv_call he (sa_cons (sv_var 1 rfl) (sa_cons (sv_var 4 rfl) sa_nil))) sa_nil))))))))))⟩
theorem ok_law (T : Txt K mg A FD cl CC PT TT pe) (TB0 : TB0 base mg CC PT) : FnOk P w K mg base (L2N.CX P w) 10 (A 29) (FD 29) ["script"] (spP K cl TT 1 F_law) := by
  have z_len := T.z_len
  have z_range := T.z_range
  have z_set := T.z_set
  have z_sorted := T.z_sorted
  have z_tuple := T.z_tuple
  have G__law_core : FnOk P w K mg base (L2N.CX P w) 2 (A 22) (FD 22) ["number"] (spP K cl TT 1 F__law_core) := ok__law_core T TB0
  have G__law_draw : FnOk P w K mg base (L2N.CX P w) 1 (A 19) (FD 19) ["box", "many"] (spB K cl TT 2 F__law_draw) := ok__law_draw T TB0
  have G__law_number : FnOk P w K mg base (L2N.CX P w) 2 (A 26) (FD 26) ["box"] (spB K cl TT 1 F__law_number) := ok__law_number T TB0
  have G__law_primes : FnOk P w K mg base (L2N.CX P w) 1 (A 21) (FD 21) ["number"] (spP K cl TT 1 F__law_primes) := ok__law_primes T TB0
  have G__law_right : FnOk P w K mg base (L2N.CX P w) 9 (A 28) (FD 28) ["box", "a", "b", "c", "place"] (spB K cl TT 5 F__law_right) := ok__law_right T TB0
  have G__law_solvable : FnOk P w K mg base (L2N.CX P w) 1 (A 27) (FD 27) ["a", "b", "p"] (spP K cl TT 3 F__law_solvable) := ok__law_solvable T TB0
  have G__law_stream : FnOk P w K mg base (L2N.CX P w) 2 (A 18) (FD 18) ["script", "k"] (spN K cl TT 2 F__law_stream) := ok__law_stream T TB0
  have G__law_symbol : FnOk P w K mg base (L2N.CX P w) 2 (A 24) (FD 24) ["a", "b", "place"] (spP K cl TT 3 F__law_symbol) := ok__law_symbol T TB0
  have G_core : FnOk P w K mg base (L2N.CX P w) 3 (A 12) (FD 12) ["a"] (spP K cl TT 1 F_core) := ok_core T TB0
  have G_odd_places : FnOk P w K mg base (L2N.CX P w) 4 (A 15) (FD 15) ["a", "b"] (spP K cl TT 2 F_odd_places) := ok_odd_places T TB0
  have G_square_at : FnOk P w K mg base (L2N.CX P w) 4 (A 14) (FD 14) ["a", "place"] (spP K cl TT 2 F_square_at) := ok_square_at T TB0
  have G_symbol : FnOk P w K mg base (L2N.CX P w) 4 (A 13) (FD 13) ["a", "b", "place"] (spP K cl TT 3 F_symbol) := ok_symbol T TB0
  have nd := sc_law.nd
  have TB := TB0.2.1
  refine fn_pureC T.f29 sc_law (fun i => i == 2) (by decide) d_law (fun A0 outer s H E hr => ?_) sp_law
  exact ⟨_, (pss_cons (ps_for (passes_of rfl) rfl (pi_range1 rfl z_range (pa_cons pe_int pa_nil)) (pg_name (i := 1) nd rfl (Or.inl rfl))
  (pss_cons (ps_set (i := 2) nd rfl (Or.inl rfl) (pe_call G__law_stream (hr.mono (by decide)) (by rfl) T.g18 T.f18.kp T.b18 .nil (L2N.passes_call (L2N.takes_of rfl rfl rfl rfl) (fun _ _ _ _ h => h)) (pa_cons (pv 0) (pa_cons (pv 1) pa_nil))))
  (pss_cons (ps_asg (pe_tup (pa_cons (pe_call G__law_number (hr.mono (by decide)) (by rfl) T.g26 T.f26.kp T.b26 .nil (L2N.passes_call (L2N.takes_of rfl rfl rfl rfl) (fun _ _ _ _ h => h)) (pa_cons (pv 2) pa_nil)) (pa_cons (pe_call G__law_number (hr.mono (by decide)) (by rfl) T.g26 T.f26.kp T.b26 .nil (L2N.passes_call (L2N.takes_of rfl rfl rfl rfl) (fun _ _ _ _ h => h)) (pa_cons (pv 2) pa_nil)) (pa_cons (pe_call G__law_number (hr.mono (by decide)) (by rfl) T.g26 T.f26.kp T.b26 .nil (L2N.passes_call (L2N.takes_of rfl rfl rfl rfl) (fun _ _ _ _ h => h)) (pa_cons (pv 2) pa_nil)) pa_nil)))) (pg_tupK (K := K) (n := 3) rfl rfl (pgs_cons (pg_name (i := 3) nd rfl (Or.inr rfl)) (pgs_cons (pg_name (i := 4) nd rfl (Or.inr rfl)) (pgs_cons (pg_name (i := 5) nd rfl (Or.inl rfl)) pgs_nil)))))
  (pss_cons (ps_if (pt_cmpR (op_neDK (K := K) rfl hr.units) (pe_told (T := TT) (TT := TTold K cl TT F__law_read) T.f20 T.b20 sc__law_told (fun cdv => gives_told T TB0 (by decide)) (fun A outer s H E f c' hr => by exact (pe_call G_core (hr.mono (by decide)) (by rfl) T.g12 T.f12.kp T.b12 .nil (L2N.passes_call takes_lam (fun _ _ _ _ h => h)) (pa_cons (pv 3) pa_nil))) rfl T.g20 hr TB rfl T.t29 T.u29 rfl (by first | exact Or.inl rfl | exact Or.inr (Or.inl rfl)) (by exact LamX.lamS_by (sc := defScope s_law) (by decide +kernel)) rfl (fun _ _ _ _ _ => rfl)) (pe_tup (pa_cons pe_int (pa_cons (pe_call G__law_core (hr.mono (by decide)) (by rfl) T.g22 T.f22.kp T.b22 .nil (L2N.passes_call (L2N.takes_of rfl rfl rfl rfl) (fun _ _ _ _ h => h)) (pa_cons (pv 3) pa_nil)) pa_nil))) (nomark _))
  (pss_one (ps_ret pe_bl))
  pss_nil)
  (pss_cons (ps_setLc (i := 6) (own := [("p", 7)]) rfl nd rfl rfl (sw_true rfl rfl rfl (by decide +kernel)) (pi_seqK (K := K) rfl (pe_op (op_add4K (K := K) rfl) (pe_op (op_add4K (K := K) rfl) (pe_call G__law_primes (hr.mono (by decide)) (by rfl) T.g21 T.f21.kp T.b21 .nil (L2N.passes_call (L2N.takes_of rfl rfl rfl rfl) (fun _ _ _ _ h => h)) (pa_cons (pv 3) pa_nil)) (pe_call G__law_primes (hr.mono (by decide)) (by rfl) T.g21 T.f21.kp T.b21 .nil (L2N.passes_call (L2N.takes_of rfl rfl rfl rfl) (fun _ _ _ _ h => h)) (pa_cons (pv 4) pa_nil))) (pe_lst (pa_cons pe_int (pa_cons pe_int (pa_cons pe_int (pa_cons pe_int (pa_cons pe_int (pa_cons pe_int pa_nil))))))))) (blkOk_by (own := [("p", 7)]) (N := ["script", "turn", "box", "a", "b", "c", "primes", "p", "place", "odd", "one", "two", "bad"]) (sc := (defScope s_law)) (by decide +kernel)) (fun _ _ _ _ _ => by exact (pg_name (i := 7) nd rfl (Or.inl rfl))) (fun _ _ _ _ _ => by exact (pts_one (pt_cmpR op_lt (pv 7) pe_int (nomark _)))) (fun _ _ _ _ _ => by exact (pv 7)))
  (pss_cons (ps_for (passes_of rfl) rfl (pi_seqK (K := K) rfl (pe_lst (pa_cons (pe_un un_neg pe_int) (pa_cons pe_int (pa_cons (pe_ix (ix_seqK (K := K) rfl) (pv 6) (pe_call G__law_draw (hr.mono (by decide)) (by rfl) T.g19 T.f19.kp T.b19 .nil (L2N.passes_call (L2N.takes_of rfl rfl rfl rfl) (fun _ _ _ _ h => h)) (pa_cons (pv 2) (pa_cons (pe_callB (call_lenK (K := K) rfl) (by rfl) z_len bt_len (pa_cons (pv 6) pa_nil)) pa_nil))) (fun _ _ => rfl)) (pa_cons (pe_ix (ix_seqK (K := K) rfl) (pv 6) (pe_call G__law_draw (hr.mono (by decide)) (by rfl) T.g19 T.f19.kp T.b19 .nil (L2N.passes_call (L2N.takes_of rfl rfl rfl rfl) (fun _ _ _ _ h => h)) (pa_cons (pv 2) (pa_cons (pe_callB (call_lenK (K := K) rfl) (by rfl) z_len bt_len (pa_cons (pv 6) pa_nil)) pa_nil))) (fun _ _ => rfl)) pa_nil)))))) (pg_name (i := 8) nd rfl (Or.inl rfl))
  (pss_one (ps_if (pt_not (pt_val (pe_call G__law_right (hr.mono (by decide)) (by rfl) T.g28 T.f28.kp T.b28 .nil (L2N.passes_call (L2N.takes_of rfl rfl rfl rfl) (fun _ _ _ _ h => h)) (pa_cons (pv 2) (pa_cons (pv 3) (pa_cons (pv 4) (pa_cons (pv 5) (pa_cons (pv 8) pa_nil))))))))
  (pss_one (ps_ret pe_bl))
  pss_nil)))
  (pss_cons (ps_setLc (i := 9) (own := [("p", 7)]) rfl nd rfl rfl (sw_true rfl rfl rfl (by decide +kernel)) (pi_seqK (K := K) rfl (pe_op (op_add4K (K := K) rfl) (pe_lst (pa_cons (pe_un un_neg pe_int) pa_nil)) (pe_sorts rfl (by rfl) z_sorted (by rfl) z_set (pe_op (op_add4K (K := K) rfl) (pe_op (op_add4K (K := K) rfl) (pe_lst (pa_cons pe_int pa_nil)) (pe_call G__law_primes (hr.mono (by decide)) (by rfl) T.g21 T.f21.kp T.b21 .nil (L2N.passes_call (L2N.takes_of rfl rfl rfl rfl) (fun _ _ _ _ h => h)) (pa_cons (pv 3) pa_nil))) (pe_call G__law_primes (hr.mono (by decide)) (by rfl) T.g21 T.f21.kp T.b21 .nil (L2N.passes_call (L2N.takes_of rfl rfl rfl rfl) (fun _ _ _ _ h => h)) (pa_cons (pv 4) pa_nil)))))) (blkOk_by (own := [("p", 7)]) (N := ["script", "turn", "box", "a", "b", "c", "primes", "p", "place", "odd", "one", "two", "bad"]) (sc := (defScope s_law)) (by decide +kernel)) (fun _ _ _ _ _ => by exact (pg_name (i := 7) nd rfl (Or.inl rfl))) (fun _ _ _ _ _ => by exact (pts_one (pt_cmpR (op_eqDK (K := K) rfl hr.units) (pe_call G__law_symbol (hr.mono (by decide)) (by rfl) T.g24 T.f24.kp T.b24 .nil passN (pa_cons (pv 3) (pa_cons (pv 4) (pa_cons (pv 7) pa_nil)))) (pe_un un_neg pe_int) (nomark _)))) (fun _ _ _ _ _ => by exact (pv 7)))
  (pss_cons (ps_if (PW.pt (pw_or (pt_cmpR (op_neDK (K := K) rfl hr.units) (pe_told (T := TT) (TT := TTold K cl TT F__law_read) T.f20 T.b20 sc__law_told (fun cdv => gives_told T TB0 (by decide)) (fun A outer s H E f c' hr => by exact (pe_call G_odd_places (hr.mono (by decide)) (by rfl) T.g15 T.f15.kp T.b15 .nil (L2N.passes_call takes_lam (fun _ _ _ _ h => h)) (pa_cons (pv 3) (pa_cons (pv 4) pa_nil)))) rfl T.g20 hr TB rfl T.t29 T.u29 rfl (by first | exact Or.inl rfl | exact Or.inr (Or.inl rfl)) (by exact LamX.lamS_by (sc := defScope s_law) (by decide +kernel)) rfl (fun _ _ _ _ _ => rfl)) (pe_tup (pa_cons pe_int (pa_cons (pe_tupleK (K := K) rfl (by rfl) z_tuple (pv 9)) pa_nil))) (nomark _)) (pw_or1 (pt_cmpR (op_eqDK (K := K) rfl hr.units) (pe_op op_mod (pe_callB (call_lenK (K := K) rfl) (by rfl) z_len bt_len (pa_cons (pv 9) pa_nil)) pe_int) pe_int (nomark _)))))
  (pss_one (ps_ret pe_bl))
  pss_nil)
  (pss_cons (ps_set (i := 7) nd rfl (Or.inl rfl) (pe_ix (ix_seqK (K := K) rfl) (pe_lst (pa_cons pe_int (pa_cons pe_int (pa_cons pe_int pa_nil)))) (pe_call G__law_draw (hr.mono (by decide)) (by rfl) T.g19 T.f19.kp T.b19 .nil (L2N.passes_call (L2N.takes_of rfl rfl rfl rfl) (fun _ _ _ _ h => h)) (pa_cons (pv 2) (pa_cons pe_int pa_nil))) (fun _ _ => rfl)))
  (pss_cons (ps_par rfl nd rfl rfl (by decide) rfl rfl (pa_cons (pe_call G__law_core (hr.mono (by decide)) (by rfl) T.g22 T.f22.kp T.b22 .nil (L2N.passes_call (L2N.takes_of rfl rfl rfl rfl) (fun _ _ _ _ h => h)) (pa_cons (pv 3) pa_nil)) (pa_cons (pe_call G__law_core (hr.mono (by decide)) (by rfl) T.g22 T.f22.kp T.b22 .nil (L2N.passes_call (L2N.takes_of rfl rfl rfl rfl) (fun _ _ _ _ h => h)) (pa_cons (pv 4) pa_nil)) pa_nil)) (by rfl))
  (pss_cons (ps_if (pt_cmpR (op_neDK (K := K) rfl hr.units) (pe_call G__law_solvable (hr.mono (by decide)) (by rfl) T.g27 T.f27.kp T.b27 .nil (L2N.passes_call (L2N.takes_of rfl rfl rfl rfl) (fun _ _ _ _ h => h)) (pa_cons (pv 10) (pa_cons (pv 11) (pa_cons (pv 7) pa_nil)))) (pe_cmpR (op_eqDK (K := K) rfl hr.units) (pe_call G__law_symbol (hr.mono (by decide)) (by rfl) T.g24 T.f24.kp T.b24 .nil (L2N.passes_call (L2N.takes_of rfl rfl rfl rfl) (fun _ _ _ _ h => h)) (pa_cons (pv 10) (pa_cons (pv 11) (pa_cons (pv 7) pa_nil)))) pe_int (nomark _)) (nomark _))
  (pss_one (ps_ret pe_bl))
  pss_nil)
  (pss_cons (ps_for (passes_of rfl) rfl (pi_seqK (K := K) rfl (pe_lst (pa_cons pe_int (pa_cons pe_int (pa_cons (pe_un un_neg pe_int) (pa_cons pe_str (pa_cons (pe_tup (pa_cons pe_int pa_nil)) pa_nil))))))) (pg_name (i := 12) nd rfl (Or.inr rfl))
  (pss_cons (ps_if (pt_cmpR (op_neDK (K := K) rfl hr.units) (pe_told (T := TT) (TT := TTold K cl TT F__law_read) T.f20 T.b20 sc__law_told (fun cdv => gives_told T TB0 (by decide)) (fun A outer s H E f c' hr => by exact (pe_call G_core (hr.mono (by decide)) (by rfl) T.g12 T.f12.kp T.b12 .nil (L2N.passes_call takes_lam (fun _ _ _ _ h => h)) (pa_cons (pv 12) pa_nil))) rfl T.g20 hr TB rfl T.t29 T.u29 rfl (by first | exact Or.inl rfl | exact Or.inr (Or.inl rfl)) (by exact LamX.lamS_by (sc := defScope s_law) (by decide +kernel)) rfl (fun _ _ _ _ _ => rfl)) (pe_tup (pa_cons pe_int (pa_cons pe_str pa_nil))) (nomark _))
  (pss_one (ps_ret pe_bl))
  pss_nil)
  (pss_cons (ps_if (pt_cmpR (op_neDK (K := K) rfl hr.units) (pe_told (T := TT) (TT := TTold K cl TT F__law_read) T.f20 T.b20 sc__law_told (fun cdv => gives_told T TB0 (by decide)) (fun A outer s H E f c' hr => by exact (pe_call G_symbol (hr.mono (by decide)) (by rfl) T.g13 T.f13.kp T.b13 .nil (L2N.passes_call takes_lam (fun _ _ _ _ h => h)) (pa_cons (pv 3) (pa_cons (pv 12) (pa_cons pe_int pa_nil))))) rfl T.g20 hr TB rfl T.t29 T.u29 rfl (by first | exact Or.inl rfl | exact Or.inr (Or.inl rfl)) (by exact LamX.lamS_by (sc := defScope s_law) (by decide +kernel)) rfl (fun _ _ _ _ _ => rfl)) (pe_tup (pa_cons pe_int (pa_cons pe_str pa_nil))) (nomark _))
  (pss_one (ps_ret pe_bl))
  pss_nil)
  (pss_cons (ps_if (pt_cmpR (op_neDK (K := K) rfl hr.units) (pe_told (T := TT) (TT := TTold K cl TT F__law_read) T.f20 T.b20 sc__law_told (fun cdv => gives_told T TB0 (by decide)) (fun A outer s H E f c' hr => by exact (pe_call G_symbol (hr.mono (by decide)) (by rfl) T.g13 T.f13.kp T.b13 .nil (L2N.passes_call takes_lam (fun _ _ _ _ h => h)) (pa_cons (pv 12) (pa_cons (pv 4) (pa_cons pe_int pa_nil))))) rfl T.g20 hr TB rfl T.t29 T.u29 rfl (by first | exact Or.inl rfl | exact Or.inr (Or.inl rfl)) (by exact LamX.lamS_by (sc := defScope s_law) (by decide +kernel)) rfl (fun _ _ _ _ _ => rfl)) (pe_tup (pa_cons pe_int (pa_cons pe_str pa_nil))) (nomark _))
  (pss_one (ps_ret pe_bl))
  pss_nil)
  (pss_cons (ps_if (pt_cmpR (op_neDK (K := K) rfl hr.units) (pe_told (T := TT) (TT := TTold K cl TT F__law_read) T.f20 T.b20 sc__law_told (fun cdv => gives_told T TB0 (by decide)) (fun A outer s H E f c' hr => by exact (pe_call G_square_at (hr.mono (by decide)) (by rfl) T.g14 T.f14.kp T.b14 .nil (L2N.passes_call takes_lam (fun _ _ _ _ h => h)) (pa_cons (pv 12) (pa_cons pe_int pa_nil)))) rfl T.g20 hr TB rfl T.t29 T.u29 rfl (by first | exact Or.inl rfl | exact Or.inr (Or.inl rfl)) (by exact LamX.lamS_by (sc := defScope s_law) (by decide +kernel)) rfl (fun _ _ _ _ _ => rfl)) (pe_tup (pa_cons pe_int (pa_cons pe_str pa_nil))) (nomark _))
  (pss_one (ps_ret pe_bl))
  pss_nil)
  (pss_one (ps_if (pt_cmpR (op_neDK (K := K) rfl hr.units) (pe_told (T := TT) (TT := TTold K cl TT F__law_read) T.f20 T.b20 sc__law_told (fun cdv => gives_told T TB0 (by decide)) (fun A outer s H E f c' hr => by exact (pe_call G_odd_places (hr.mono (by decide)) (by rfl) T.g15 T.f15.kp T.b15 .nil (L2N.passes_call takes_lam (fun _ _ _ _ h => h)) (pa_cons (pv 3) (pa_cons (pv 12) pa_nil)))) rfl T.g20 hr TB rfl T.t29 T.u29 rfl (by first | exact Or.inl rfl | exact Or.inr (Or.inl rfl)) (by exact LamX.lamS_by (sc := defScope s_law) (by decide +kernel)) rfl (fun _ _ _ _ _ => rfl)) (pe_tup (pa_cons pe_int (pa_cons pe_str pa_nil))) (nomark _))
  (pss_one (ps_ret pe_bl))
  pss_nil)))))))
  (pss_one (ps_for (passes_of rfl) rfl (pi_seqK (K := K) rfl (pe_lst (pa_cons pe_int (pa_cons pe_int (pa_cons (pe_un un_neg pe_int) (pa_cons pe_int (pa_cons pe_int (pa_cons pe_int (pa_cons pe_int (pa_cons pe_str (pa_cons (pe_tup (pa_cons pe_int pa_nil)) pa_nil))))))))))) (pg_name (i := 12) nd rfl (Or.inr rfl))
  (pss_cons (ps_if (pt_cmpR (op_neDK (K := K) rfl hr.units) (pe_told (T := TT) (TT := TTold K cl TT F__law_read) T.f20 T.b20 sc__law_told (fun cdv => gives_told T TB0 (by decide)) (fun A outer s H E f c' hr => by exact (pe_call G_symbol (hr.mono (by decide)) (by rfl) T.g13 T.f13.kp T.b13 .nil (L2N.passes_call takes_lam (fun _ _ _ _ h => h)) (pa_cons (pv 3) (pa_cons (pv 4) (pa_cons (pv 12) pa_nil))))) rfl T.g20 hr TB rfl T.t29 T.u29 rfl (by first | exact Or.inl rfl | exact Or.inr (Or.inl rfl)) (by exact LamX.lamS_by (sc := defScope s_law) (by decide +kernel)) rfl (fun _ _ _ _ _ => rfl)) (pe_tup (pa_cons pe_int (pa_cons pe_str pa_nil))) (nomark _))
  (pss_one (ps_ret pe_bl))
  pss_nil)
  (pss_one (ps_if (pt_cmpR (op_neDK (K := K) rfl hr.units) (pe_told (T := TT) (TT := TTold K cl TT F__law_read) T.f20 T.b20 sc__law_told (fun cdv => gives_told T TB0 (by decide)) (fun A outer s H E f c' hr => by exact (pe_call G_square_at (hr.mono (by decide)) (by rfl) T.g14 T.f14.kp T.b14 .nil (L2N.passes_call takes_lam (fun _ _ _ _ h => h)) (pa_cons (pv 3) (pa_cons (pv 12) pa_nil)))) rfl T.g20 hr TB rfl T.t29 T.u29 rfl (by first | exact Or.inl rfl | exact Or.inr (Or.inl rfl)) (by exact LamX.lamS_by (sc := defScope s_law) (by decide +kernel)) rfl (fun _ _ _ _ _ => rfl)) (pe_tup (pa_cons pe_int (pa_cons pe_str pa_nil))) (nomark _))
  (pss_one (ps_ret pe_bl))
  pss_nil)))))))))))))))))
  (pss_one (ps_ret pe_bl))),
   fun z h0 W he => (ss_seq (ss_for (si_range1 sv_int) (sg_name 1 rfl)
  (ss_seq (ss_setO 2 rfl (.inl rfl) (sf_callN (sa_cons (sv_var 0 rfl) (sa_cons (sv_var 1 rfl) sa_nil))))
  (ss_seq (ss_asg (sv_tup (sa_cons (sv_callB 2 rfl he sa_nil) (sa_cons (sv_callB 2 rfl he sa_nil) (sa_cons (sv_callB 2 rfl he sa_nil) sa_nil)))) (sg_tup (sgs_cons (sg_name 3 rfl) (sgs_cons (sg_name 4 rfl) (sgs_cons (sg_name 5 rfl) sgs_nil)))))
  (ss_seq (ss_if (st_testO (sv_op sr_ne (SV.se (sv_told (fun z h0 E W he => by exact (sv_call he (sa_cons (sv_var 3 rfl) sa_nil))))) (SV.se (sv_tup (sa_cons sv_int (sa_cons (sv_call he (sa_cons (sv_var 3 rfl) sa_nil)) sa_nil))))))
  (ss_ret (SV.se sv_bl))
  ss_next)
  (ss_seq (ss_set 6 rfl (SFL.v (sfl_lc (vs := [7]) (si_seq (sv_op sr_add (SV.se (sv_op sr_add (SV.se (sv_call he (sa_cons (sv_var 3 rfl) sa_nil))) (SV.se (sv_call he (sa_cons (sv_var 4 rfl) sa_nil))))) (SV.se (sv_lst (sa_cons sv_int (sa_cons sv_int (sa_cons sv_int (sa_cons sv_int (sa_cons sv_int (sa_cons sv_int sa_nil)))))))))) (sg_name 7 rfl) (st_testO (sv_op sr_lt (SV.se (sv_var 7 rfl)) (SV.se sv_int))) (sv_var 7 rfl) rfl rfl)))
  (ss_seq (ss_for (si_seq (sv_lst (sa_cons (sv_un sr_neg (SV.se sv_int)) (sa_cons sv_int (sa_cons (sv_op sr_ix (SV.se (sv_var 6 rfl)) (SV.se (sv_callB 2 rfl he (sa_cons (sv_cb sr_len (sao_cons (SV.se (sv_var 6 rfl)) sao_nil)) sa_nil)))) (sa_cons (sv_op sr_ix (SV.se (sv_var 6 rfl)) (SV.se (sv_callB 2 rfl he (sa_cons (sv_cb sr_len (sao_cons (SV.se (sv_var 6 rfl)) sao_nil)) sa_nil)))) sa_nil)))))) (sg_name 8 rfl)
  (ss_if (st_not (st_test (sv_callB 2 rfl he (sa_cons (sv_var 3 rfl) (sa_cons (sv_var 4 rfl) (sa_cons (sv_var 5 rfl) (sa_cons (sv_var 8 rfl) sa_nil)))))))
  (ss_ret (SV.se sv_bl))
  ss_next))
  (ss_seq (ss_set 9 rfl (SFL.v (sfl_lc (vs := [7]) (si_seq (sv_op sr_add (SV.se (sv_lst (sa_cons (sv_un sr_neg (SV.se sv_int)) sa_nil))) (SV.se (sv_sorts (sv_op sr_add (SV.se (sv_op sr_add (SV.se (sv_lst (sa_cons sv_int sa_nil))) (SV.se (sv_call he (sa_cons (sv_var 3 rfl) sa_nil))))) (SV.se (sv_call he (sa_cons (sv_var 4 rfl) sa_nil)))))))) (sg_name 7 rfl) (st_testO (sv_op sr_eq (SV.se (sv_call takes_noX (sa_cons (sv_var 3 rfl) (sa_cons (sv_var 4 rfl) (sa_cons (sv_var 7 rfl) sa_nil))))) (SV.se (sv_un sr_neg (SV.se sv_int))))) (sv_var 7 rfl) rfl rfl)))
  (ss_seq (ss_if (st_or (st_testO (sv_op sr_ne (SV.se (sv_told (fun z h0 E W he => by exact (sv_call he (sa_cons (sv_var 3 rfl) (sa_cons (sv_var 4 rfl) sa_nil)))))) (SV.se (sv_tup (sa_cons sv_int (sa_cons (sv_tuple (SV.se (sv_var 9 rfl))) sa_nil)))))) (st_testO (sv_op sr_eq (SV.se (sv_op sr_mod (SV.se (sv_cb sr_len (sao_cons (SV.se (sv_var 9 rfl)) sao_nil))) (SV.se sv_int))) (SV.se sv_int))))
  (ss_ret (SV.se sv_bl))
  ss_next)
  (ss_seq (ss_set 7 rfl (sv_op sr_ix (SV.se (sv_lst (sa_cons sv_int (sa_cons sv_int (sa_cons sv_int sa_nil))))) (SV.se (sv_callB 2 rfl he (sa_cons sv_int sa_nil)))))
  (ss_seq (ss_par 10 11 rfl rfl (sa_cons (sv_call he (sa_cons (sv_var 3 rfl) sa_nil)) (sa_cons (sv_call he (sa_cons (sv_var 4 rfl) sa_nil)) sa_nil)))
  (ss_seq (ss_if (st_testO (sv_op sr_ne (SV.se (sv_call he (sa_cons (sv_var 10 rfl) (sa_cons (sv_var 11 rfl) (sa_cons (sv_var 7 rfl) sa_nil))))) (SV.se (sv_op sr_eq (SV.se (sv_call he (sa_cons (sv_var 10 rfl) (sa_cons (sv_var 11 rfl) (sa_cons (sv_var 7 rfl) sa_nil))))) (SV.se sv_int)))))
  (ss_ret (SV.se sv_bl))
  ss_next)
  (ss_seq (ss_for (si_seq (sv_lst (sa_cons sv_int (sa_cons sv_int (sa_cons (sv_un sr_neg (SV.se sv_int)) (sa_cons sv_str (sa_cons (sv_tup (sa_cons sv_int sa_nil)) sa_nil))))))) (sg_name 12 rfl)
  (ss_seq (ss_if (st_testO (sv_op sr_ne (SV.se (sv_told (fun z h0 E W he => by exact (sv_call he (sa_cons (sv_var 12 rfl) sa_nil))))) (SV.se (sv_tup (sa_cons sv_int (sa_cons sv_str sa_nil))))))
  (ss_ret (SV.se sv_bl))
  ss_next)
  (ss_seq (ss_if (st_testO (sv_op sr_ne (SV.se (sv_told (fun z h0 E W he => by exact (sv_call he (sa_cons (sv_var 3 rfl) (sa_cons (sv_var 12 rfl) (sa_cons sv_int sa_nil))))))) (SV.se (sv_tup (sa_cons sv_int (sa_cons sv_str sa_nil))))))
  (ss_ret (SV.se sv_bl))
  ss_next)
  (ss_seq (ss_if (st_testO (sv_op sr_ne (SV.se (sv_told (fun z h0 E W he => by exact (sv_call he (sa_cons (sv_var 12 rfl) (sa_cons (sv_var 4 rfl) (sa_cons sv_int sa_nil))))))) (SV.se (sv_tup (sa_cons sv_int (sa_cons sv_str sa_nil))))))
  (ss_ret (SV.se sv_bl))
  ss_next)
  (ss_seq (ss_if (st_testO (sv_op sr_ne (SV.se (sv_told (fun z h0 E W he => by exact (sv_call he (sa_cons (sv_var 12 rfl) (sa_cons sv_int sa_nil)))))) (SV.se (sv_tup (sa_cons sv_int (sa_cons sv_str sa_nil))))))
  (ss_ret (SV.se sv_bl))
  ss_next)
  (ss_if (st_testO (sv_op sr_ne (SV.se (sv_told (fun z h0 E W he => by exact (sv_call he (sa_cons (sv_var 3 rfl) (sa_cons (sv_var 12 rfl) sa_nil)))))) (SV.se (sv_tup (sa_cons sv_int (sa_cons sv_str sa_nil))))))
  (ss_ret (SV.se sv_bl))
  ss_next))))))
  (ss_for (si_seq (sv_lst (sa_cons sv_int (sa_cons sv_int (sa_cons (sv_un sr_neg (SV.se sv_int)) (sa_cons sv_int (sa_cons sv_int (sa_cons sv_int (sa_cons sv_int (sa_cons sv_str (sa_cons (sv_tup (sa_cons sv_int sa_nil)) sa_nil))))))))))) (sg_name 12 rfl)
  (ss_seq (ss_if (st_testO (sv_op sr_ne (SV.se (sv_told (fun z h0 E W he => by exact (sv_call he (sa_cons (sv_var 3 rfl) (sa_cons (sv_var 4 rfl) (sa_cons (sv_var 12 rfl) sa_nil))))))) (SV.se (sv_tup (sa_cons sv_int (sa_cons sv_str sa_nil))))))
  (ss_ret (SV.se sv_bl))
  ss_next)
  (ss_if (st_testO (sv_op sr_ne (SV.se (sv_told (fun z h0 E W he => by exact (sv_call he (sa_cons (sv_var 3 rfl) (sa_cons (sv_var 12 rfl) sa_nil)))))) (SV.se (sv_tup (sa_cons sv_int (sa_cons sv_str sa_nil))))))
  (ss_ret (SV.se sv_bl))
  ss_next)))))))))))))))
  (ss_ret (SV.se sv_bl)))⟩
end
theorem end_mk {K : PySem.W.Frag} {w : World} {h : Heap} {mg : Str → Option Value} {fa : Addr} (X : K.In h) (G : h.Ns mainGlobals mg) (hfa : mg "law" = some (.ref fa)) {a0 a1 a2 a3 a4 a5 a6 a7 a8 a9 a10 a11 a12 a13 a14 a15 a16 a17 a18 a19 a20 a21 a22 a23 a24 a25 a26 a27 a28 a29 c28 p28 c29 p29 cF cR cP : Addr}
    (n0 : PySem.W.nsIn K mainGlobals "is_number" = some (some (.ref a0)))
    (d0 : ∃ fd, Fun K "is_number" "is_number" s_is_number a0 fd)
    (n1 : PySem.W.nsIn K mainGlobals "primes_of" = some (some (.ref a1)))
    (d1 : ∃ fd, Fun K "primes_of" "primes_of" s_primes_of a1 fd)
    (n2 : PySem.W.nsIn K mainGlobals "is_prime" = some (some (.ref a2)))
    (d2 : ∃ fd, Fun K "is_prime" "is_prime" s_is_prime a2 fd)
    (n3 : PySem.W.nsIn K mainGlobals "core_of" = some (some (.ref a3)))
    (d3 : ∃ fd, Fun K "core_of" "core_of" s_core_of a3 fd)
    (n4 : PySem.W.nsIn K mainGlobals "power" = some (some (.ref a4)))
    (d4 : ∃ fd, Fun K "power" "power" s_power a4 fd)
    (n5 : PySem.W.nsIn K mainGlobals "residue" = some (some (.ref a5)))
    (d5 : ∃ fd, Fun K "residue" "residue" s_residue a5 fd)
    (n6 : PySem.W.nsIn K mainGlobals "check_integer" = some (some (.ref a6)))
    (d6 : ∃ fd, Fun K "check_integer" "check_integer" s_check_integer a6 fd)
    (n7 : PySem.W.nsIn K mainGlobals "check_place" = some (some (.ref a7)))
    (d7 : ∃ fd, Fun K "check_place" "check_place" s_check_place a7 fd)
    (n8 : PySem.W.nsIn K mainGlobals "parted" = some (some (.ref a8)))
    (d8 : ∃ fd, Fun K "parted" "parted" s_parted a8 fd)
    (n9 : PySem.W.nsIn K mainGlobals "symbol_at" = some (some (.ref a9)))
    (d9 : ∃ fd, Fun K "symbol_at" "symbol_at" s_symbol_at a9 fd)
    (n10 : PySem.W.nsIn K mainGlobals "is_square_at" = some (some (.ref a10)))
    (d10 : ∃ fd, Fun K "is_square_at" "is_square_at" s_is_square_at a10 fd)
    (n11 : PySem.W.nsIn K mainGlobals "primes_in" = some (some (.ref a11)))
    (d11 : ∃ fd, Fun K "primes_in" "primes_in" s_primes_in a11 fd)
    (n12 : PySem.W.nsIn K mainGlobals "core" = some (some (.ref a12)))
    (d12 : ∃ fd, Fun K "core" "core" s_core a12 fd)
    (n13 : PySem.W.nsIn K mainGlobals "symbol" = some (some (.ref a13)))
    (d13 : ∃ fd, Fun K "symbol" "symbol" s_symbol a13 fd)
    (n14 : PySem.W.nsIn K mainGlobals "square_at" = some (some (.ref a14)))
    (d14 : ∃ fd, Fun K "square_at" "square_at" s_square_at a14 fd)
    (n15 : PySem.W.nsIn K mainGlobals "odd_places" = some (some (.ref a15)))
    (d15 : ∃ fd, Fun K "odd_places" "odd_places" s_odd_places a15 fd)
    (n16 : PySem.W.nsIn K mainGlobals "_law_read" = some (some (.ref a16)))
    (d16 : ∃ fd, Fun K "_law_read" "_law_read" s__law_read a16 fd)
    (n17 : PySem.W.nsIn K mainGlobals "_law_cell" = some (some (.ref a17)))
    (d17 : ∃ fd, Fun K "_law_cell" "_law_cell" s__law_cell a17 fd)
    (n18 : PySem.W.nsIn K mainGlobals "_law_stream" = some (some (.ref a18)))
    (d18 : ∃ fd, Fun K "_law_stream" "_law_stream" s__law_stream a18 fd)
    (n19 : PySem.W.nsIn K mainGlobals "_law_draw" = some (some (.ref a19)))
    (d19 : ∃ fd, Fun K "_law_draw" "_law_draw" s__law_draw a19 fd)
    (n20 : PySem.W.nsIn K mainGlobals "_law_told" = some (some (.ref a20)))
    (d20 : ∃ fd, Fun K "_law_told" "_law_told" s__law_told a20 fd)
    (n21 : PySem.W.nsIn K mainGlobals "_law_primes" = some (some (.ref a21)))
    (d21 : ∃ fd, Fun K "_law_primes" "_law_primes" s__law_primes a21 fd)
    (n22 : PySem.W.nsIn K mainGlobals "_law_core" = some (some (.ref a22)))
    (d22 : ∃ fd, Fun K "_law_core" "_law_core" s__law_core a22 fd)
    (n23 : PySem.W.nsIn K mainGlobals "_law_is_residue" = some (some (.ref a23)))
    (d23 : ∃ fd, Fun K "_law_is_residue" "_law_is_residue" s__law_is_residue a23 fd)
    (n24 : PySem.W.nsIn K mainGlobals "_law_symbol" = some (some (.ref a24)))
    (d24 : ∃ fd, Fun K "_law_symbol" "_law_symbol" s__law_symbol a24 fd)
    (n25 : PySem.W.nsIn K mainGlobals "_law_square_at" = some (some (.ref a25)))
    (d25 : ∃ fd, Fun K "_law_square_at" "_law_square_at" s__law_square_at a25 fd)
    (n26 : PySem.W.nsIn K mainGlobals "_law_number" = some (some (.ref a26)))
    (d26 : ∃ fd, Fun K "_law_number" "_law_number" s__law_number a26 fd)
    (n27 : PySem.W.nsIn K mainGlobals "_law_solvable" = some (some (.ref a27)))
    (d27 : ∃ fd, Fun K "_law_solvable" "_law_solvable" s__law_solvable a27 fd)
    (n28 : PySem.W.nsIn K mainGlobals "_law_right" = some (some (.ref a28)))
    (d28 : ∃ fd, FunC K "_law_right" "_law_right" s__law_right a28 c28 fd)
    (n29 : PySem.W.nsIn K mainGlobals "law" = some (some (.ref a29)))
    (d29 : ∃ fd, FunC K "law" "law" s_law a29 c29 fd)
    (z_abs : PySem.W.nsIn K mainGlobals "abs" = some none)
    (z_all : PySem.W.nsIn K mainGlobals "all" = some none)
    (z_any : PySem.W.nsIn K mainGlobals "any" = some none)
    (z_bool : PySem.W.nsIn K mainGlobals "bool" = some none)
    (z_enumerate : PySem.W.nsIn K mainGlobals "enumerate" = some none)
    (z_int : PySem.W.nsIn K mainGlobals "int" = some none)
    (z_isinstance : PySem.W.nsIn K mainGlobals "isinstance" = some none)
    (z_len : PySem.W.nsIn K mainGlobals "len" = some none)
    (z_list : PySem.W.nsIn K mainGlobals "list" = some none)
    (z_max : PySem.W.nsIn K mainGlobals "max" = some none)
    (z_min : PySem.W.nsIn K mainGlobals "min" = some none)
    (z_range : PySem.W.nsIn K mainGlobals "range" = some none)
    (z_repr : PySem.W.nsIn K mainGlobals "repr" = some none)
    (z_set : PySem.W.nsIn K mainGlobals "set" = some none)
    (z_sorted : PySem.W.nsIn K mainGlobals "sorted" = some none)
    (z_str : PySem.W.nsIn K mainGlobals "str" = some none)
    (z_sum : PySem.W.nsIn K mainGlobals "sum" = some none)
    (z_tuple : PySem.W.nsIn K mainGlobals "tuple" = some none)
    (z_zip : PySem.W.nsIn K mainGlobals "zip" = some none)
    (m_GREATEST : ∃ t, PySem.W.nsIn K mainGlobals "GREATEST" = some (some (.int (1000000) t)))
    (m_MOST_PLACE : ∃ t, PySem.W.nsIn K mainGlobals "MOST_PLACE" = some (some (.int (100000) t)))
    (q28 : h.get? p28 = some { cls := .none, data := .fields #[] })
    (h28 : PySem.W.codeHdIn K c28 p28 = true)
    (l28 : K.lookup p28 = none)
    (q29 : h.get? p29 = some { cls := .none, data := .fields #[] })
    (h29 : PySem.W.codeHdIn K c29 p29 = true)
    (l29 : K.lookup p29 = none)
    (n_PlaceError : PySem.W.nsIn K mainGlobals "PlaceError" = some (some (.ref cP)))
    (n_BadForm : PySem.W.nsIn K mainGlobals "BadForm" = some (some (.ref cF)))
    (x_BadForm : PySem.W.excIn K cF [.type "ValueError", .type "Exception", .type "BaseException", .type "object"] "ValueError.__new__" = true)
    (k_BadForm : PySem.W.keepIn K (.ref cF) = true)
    (e_BadForm : PySem.W.subIn K (.ref cF) (.type "BaseException") = some true)
    (t_BadForm : PySem.W.typeIn K (.ref cF) = some (.type "type"))
    (y0_BadForm : PySem.W.findIn K (.ref cF) "__getattribute__" = some (some (.builtin "BaseException.__getattribute__")))
    (y1_BadForm : PySem.W.findIn K (.ref cF) "__getattr__" = some none)
    (y2_BadForm : PySem.W.hasDictIn K cF = true)
    (y3_BadForm : PySem.W.findIn K (.ref cF) "__class__" = some (some (.builtin "object.__class__")))
    (y4_BadForm : PySem.W.mroIn K cF (.type "object") = some true)
    (y5_BadForm : PySem.W.exmOne K (.ref cF) (.ref cP) = some true)
    (y6_BadForm : PySem.W.kitOne K (.ref cF) (.ref cF) = some true)
    (y7_BadForm : PySem.W.kitOne K (.ref cF) (.ref cR) = some false)
    (n_OutOfRange : PySem.W.nsIn K mainGlobals "OutOfRange" = some (some (.ref cR)))
    (x_OutOfRange : PySem.W.excIn K cR [.type "ValueError", .type "Exception", .type "BaseException", .type "object"] "ValueError.__new__" = true)
    (k_OutOfRange : PySem.W.keepIn K (.ref cR) = true)
    (e_OutOfRange : PySem.W.subIn K (.ref cR) (.type "BaseException") = some true)
    (t_OutOfRange : PySem.W.typeIn K (.ref cR) = some (.type "type"))
    (y0_OutOfRange : PySem.W.findIn K (.ref cR) "__getattribute__" = some (some (.builtin "BaseException.__getattribute__")))
    (y1_OutOfRange : PySem.W.findIn K (.ref cR) "__getattr__" = some none)
    (y2_OutOfRange : PySem.W.hasDictIn K cR = true)
    (y3_OutOfRange : PySem.W.findIn K (.ref cR) "__class__" = some (some (.builtin "object.__class__")))
    (y4_OutOfRange : PySem.W.mroIn K cR (.type "object") = some true)
    (y5_OutOfRange : PySem.W.exmOne K (.ref cR) (.ref cP) = some true)
    (y6_OutOfRange : PySem.W.kitOne K (.ref cR) (.ref cF) = some false)
    (y7_OutOfRange : PySem.W.kitOne K (.ref cR) (.ref cR) = some true)
    (y8 : PySem.W.specialIn K (.builtin "object.__class__") "__get__" = some (some (.builtin "getset_descriptor.__get__")))
    (y9 : PySem.W.takesIn K (.builtin "object.__class__") = some true)
    (hpp : p28 ≠ p29)
    : LamX.LawAtS PySem.Challenge.rw_allplaces_k01_symbols w K (L2N.CX PySem.Challenge.rw_allplaces_k01_symbols.prog w) 10 63 "script" mg fa h := by
  obtain ⟨fd0, F0⟩ := d0
  obtain ⟨fd1, F1⟩ := d1
  obtain ⟨fd2, F2⟩ := d2
  obtain ⟨fd3, F3⟩ := d3
  obtain ⟨fd4, F4⟩ := d4
  obtain ⟨fd5, F5⟩ := d5
  obtain ⟨fd6, F6⟩ := d6
  obtain ⟨fd7, F7⟩ := d7
  obtain ⟨fd8, F8⟩ := d8
  obtain ⟨fd9, F9⟩ := d9
  obtain ⟨fd10, F10⟩ := d10
  obtain ⟨fd11, F11⟩ := d11
  obtain ⟨fd12, F12⟩ := d12
  obtain ⟨fd13, F13⟩ := d13
  obtain ⟨fd14, F14⟩ := d14
  obtain ⟨fd15, F15⟩ := d15
  obtain ⟨fd16, F16⟩ := d16
  obtain ⟨fd17, F17⟩ := d17
  obtain ⟨fd18, F18⟩ := d18
  obtain ⟨fd19, F19⟩ := d19
  obtain ⟨fd20, F20⟩ := d20
  obtain ⟨fd21, F21⟩ := d21
  obtain ⟨fd22, F22⟩ := d22
  obtain ⟨fd23, F23⟩ := d23
  obtain ⟨fd24, F24⟩ := d24
  obtain ⟨fd25, F25⟩ := d25
  obtain ⟨fd26, F26⟩ := d26
  obtain ⟨fd27, F27⟩ := d27
  obtain ⟨fd28, F28⟩ := d28
  obtain ⟨fd29, F29⟩ := d29
  have tabs_one_28 : p28 ≠ p29 → ∀ q ∈ ([(p28, "_law_right.<locals>.<lambda>"), (p29, "law.<locals>.<lambda>")] : List (Addr × Str)), q.1 = p28 → q.2 = "_law_right.<locals>.<lambda>" := fun hp q hq e => by
    rcases List.mem_cons.mp hq with z | z
    · rw [z]
    · rcases List.mem_cons.mp z with z | z
      · rw [z] at e; exact (hp e.symm).elim
      · cases z
  have tabs_one_29 : p28 ≠ p29 → ∀ q ∈ ([(p28, "_law_right.<locals>.<lambda>"), (p29, "law.<locals>.<lambda>")] : List (Addr × Str)), q.1 = p29 → q.2 = "law.<locals>.<lambda>" := fun hp q hq e => by
    rcases List.mem_cons.mp hq with z | z
    · rw [z] at e; exact (hp e).elim
    · rcases List.mem_cons.mp z with z | z
      · rw [z]
      · cases z
  have T : Txt K mg (fun k => [a0, a1, a2, a3, a4, a5, a6, a7, a8, a9, a10, a11, a12, a13, a14, a15, a16, a17, a18, a19, a20, a21, a22, a23, a24, a25, a26, a27, a28, a29].getD k 0) (fun k => [fd0, fd1, fd2, fd3, fd4, fd5, fd6, fd7, fd8, fd9, fd10, fd11, fd12, fd13, fd14, fd15, fd16, fd17, fd18, fd19, fd20, fd21, fd22, fd23, fd24, fd25, fd26, fd27, fd28, fd29].getD k fd0) (fun e => match e with | .form => cF | .range => cR) (fun k => [0, 0, 0, 0, 0, 0, 0, 0, 0, 0, 0, 0, 0, 0, 0, 0, 0, 0, 0, 0, 0, 0, 0, 0, 0, 0, 0, 0, c28, c29].getD k 0) (fun k => [0, 0, 0, 0, 0, 0, 0, 0, 0, 0, 0, 0, 0, 0, 0, 0, 0, 0, 0, 0, 0, 0, 0, 0, 0, 0, 0, 0, p28, p29].getD k 0) [(p28, "_law_right.<locals>.<lambda>"), (p29, "law.<locals>.<lambda>")] cP := {
    f0 := F0
    g0 := PySem.W.mg_of X G n0
    b0 := F0.binds (ps := ["told", "least", "most"]) fun _ _ _ _ _ _ us hl => match us, hl with | [_, _, _], _ => rfl
    f1 := F1
    g1 := PySem.W.mg_of X G n1
    b1 := F1.binds (ps := ["number"]) fun _ _ _ _ _ _ us hl => match us, hl with | [_], _ => rfl
    f2 := F2
    g2 := PySem.W.mg_of X G n2
    b2 := F2.binds (ps := ["number"]) fun _ _ _ _ _ _ us hl => match us, hl with | [_], _ => rfl
    f3 := F3
    g3 := PySem.W.mg_of X G n3
    b3 := F3.binds (ps := ["number"]) fun _ _ _ _ _ _ us hl => match us, hl with | [_], _ => rfl
    f4 := F4
    g4 := PySem.W.mg_of X G n4
    b4 := F4.binds (ps := ["base", "times", "modulus"]) fun _ _ _ _ _ _ us hl => match us, hl with | [_, _, _], _ => rfl
    f5 := F5
    g5 := PySem.W.mg_of X G n5
    b5 := F5.binds (ps := ["number", "prime"]) fun _ _ _ _ _ _ us hl => match us, hl with | [_, _], _ => rfl
    f6 := F6
    g6 := PySem.W.mg_of X G n6
    b6 := F6.binds (ps := ["number"]) fun _ _ _ _ _ _ us hl => match us, hl with | [_], _ => rfl
    f7 := F7
    g7 := PySem.W.mg_of X G n7
    b7 := F7.binds (ps := ["place"]) fun _ _ _ _ _ _ us hl => match us, hl with | [_], _ => rfl
    f8 := F8
    g8 := PySem.W.mg_of X G n8
    b8 := F8.binds (ps := ["number", "prime"]) fun _ _ _ _ _ _ us hl => match us, hl with | [_, _], _ => rfl
    f9 := F9
    g9 := PySem.W.mg_of X G n9
    b9 := F9.binds (ps := ["a", "b", "place"]) fun _ _ _ _ _ _ us hl => match us, hl with | [_, _, _], _ => rfl
    f10 := F10
    g10 := PySem.W.mg_of X G n10
    b10 := F10.binds (ps := ["a", "place"]) fun _ _ _ _ _ _ us hl => match us, hl with | [_, _], _ => rfl
    f11 := F11
    g11 := PySem.W.mg_of X G n11
    b11 := F11.binds (ps := ["numbers"]) fun _ _ _ _ _ _ us hl => match us, hl with | [_], _ => rfl
    f12 := F12
    g12 := PySem.W.mg_of X G n12
    b12 := F12.binds (ps := ["a"]) fun _ _ _ _ _ _ us hl => match us, hl with | [_], _ => rfl
    f13 := F13
    g13 := PySem.W.mg_of X G n13
    b13 := F13.binds (ps := ["a", "b", "place"]) fun _ _ _ _ _ _ us hl => match us, hl with | [_, _, _], _ => rfl
    f14 := F14
    g14 := PySem.W.mg_of X G n14
    b14 := F14.binds (ps := ["a", "place"]) fun _ _ _ _ _ _ us hl => match us, hl with | [_, _], _ => rfl
    f15 := F15
    g15 := PySem.W.mg_of X G n15
    b15 := F15.binds (ps := ["a", "b"]) fun _ _ _ _ _ _ us hl => match us, hl with | [_, _], _ => rfl
    f16 := F16
    g16 := PySem.W.mg_of X G n16
    b16 := F16.binds (ps := ["told"]) fun _ _ _ _ _ _ us hl => match us, hl with | [_], _ => rfl
    f17 := F17
    g17 := PySem.W.mg_of X G n17
    b17 := F17.binds (ps := ["script", "k"]) fun _ _ _ _ _ _ us hl => match us, hl with | [_, _], _ => rfl
    f18 := F18
    g18 := PySem.W.mg_of X G n18
    b18 := F18.binds (ps := ["script", "k"]) fun _ _ _ _ _ _ us hl => match us, hl with | [_, _], _ => rfl
    f19 := F19
    g19 := PySem.W.mg_of X G n19
    b19 := F19.binds (ps := ["box", "many"]) fun _ _ _ _ _ _ us hl => match us, hl with | [_, _], _ => rfl
    f20 := F20
    g20 := PySem.W.mg_of X G n20
    b20 := F20.binds (ps := ["call"]) fun _ _ _ _ _ _ us hl => match us, hl with | [_], _ => rfl
    f21 := F21
    g21 := PySem.W.mg_of X G n21
    b21 := F21.binds (ps := ["number"]) fun _ _ _ _ _ _ us hl => match us, hl with | [_], _ => rfl
    f22 := F22
    g22 := PySem.W.mg_of X G n22
    b22 := F22.binds (ps := ["number"]) fun _ _ _ _ _ _ us hl => match us, hl with | [_], _ => rfl
    f23 := F23
    g23 := PySem.W.mg_of X G n23
    b23 := F23.binds (ps := ["s", "p"]) fun _ _ _ _ _ _ us hl => match us, hl with | [_, _], _ => rfl
    f24 := F24
    g24 := PySem.W.mg_of X G n24
    b24 := F24.binds (ps := ["a", "b", "place"]) fun _ _ _ _ _ _ us hl => match us, hl with | [_, _, _], _ => rfl
    f25 := F25
    g25 := PySem.W.mg_of X G n25
    b25 := F25.binds (ps := ["a", "place"]) fun _ _ _ _ _ _ us hl => match us, hl with | [_, _], _ => rfl
    f26 := F26
    g26 := PySem.W.mg_of X G n26
    b26 := F26.binds (ps := ["box"]) fun _ _ _ _ _ _ us hl => match us, hl with | [_], _ => rfl
    f27 := F27
    g27 := PySem.W.mg_of X G n27
    b27 := F27.binds (ps := ["a", "b", "p"]) fun _ _ _ _ _ _ us hl => match us, hl with | [_, _, _], _ => rfl
    f28 := F28
    g28 := PySem.W.mg_of X G n28
    b28 := F28.fn.binds (ps := ["box", "a", "b", "c", "place"]) fun _ _ _ _ _ _ us hl => match us, hl with | [_, _, _, _, _], _ => rfl
    t28 := by first | exact List.mem_cons_self | exact List.mem_cons_of_mem _ List.mem_cons_self
    u28 := tabs_one_28 hpp
    f29 := F29
    g29 := PySem.W.mg_of X G n29
    b29 := F29.fn.binds (ps := ["script"]) fun _ _ _ _ _ _ us hl => match us, hl with | [_], _ => rfl
    t29 := by first | exact List.mem_cons_self | exact List.mem_cons_of_mem _ List.mem_cons_self
    u29 := tabs_one_29 hpp
    z_abs := PySem.W.mg_none_of X G z_abs
    z_all := PySem.W.mg_none_of X G z_all
    z_any := PySem.W.mg_none_of X G z_any
    z_bool := PySem.W.mg_none_of X G z_bool
    z_enumerate := PySem.W.mg_none_of X G z_enumerate
    z_int := PySem.W.mg_none_of X G z_int
    z_isinstance := PySem.W.mg_none_of X G z_isinstance
    z_len := PySem.W.mg_none_of X G z_len
    z_list := PySem.W.mg_none_of X G z_list
    z_max := PySem.W.mg_none_of X G z_max
    z_min := PySem.W.mg_none_of X G z_min
    z_range := PySem.W.mg_none_of X G z_range
    z_repr := PySem.W.mg_none_of X G z_repr
    z_set := PySem.W.mg_none_of X G z_set
    z_sorted := PySem.W.mg_none_of X G z_sorted
    z_str := PySem.W.mg_none_of X G z_str
    z_sum := PySem.W.mg_none_of X G z_sum
    z_tuple := PySem.W.mg_none_of X G z_tuple
    z_zip := PySem.W.mg_none_of X G z_zip
    m_GREATEST := m_GREATEST.elim fun t e => ⟨t, PySem.W.mg_of X G e⟩
    m_MOST_PLACE := m_MOST_PLACE.elim fun t e => ⟨t, PySem.W.mg_of X G e⟩
    g_PlaceError := PySem.W.mg_of X G n_PlaceError
    x_BadForm := x_BadForm
    g_BadForm := PySem.W.mg_of X G n_BadForm
    k_BadForm := k_BadForm
    e_BadForm := e_BadForm
    t_BadForm := t_BadForm
    x_OutOfRange := x_OutOfRange
    g_OutOfRange := PySem.W.mg_of X G n_OutOfRange
    k_OutOfRange := k_OutOfRange
    e_OutOfRange := e_OutOfRange
    t_OutOfRange := t_OutOfRange
    ff := fun x => match x with | .form => ⟨⟨y0_BadForm, y1_BadForm, e_BadForm, y2_BadForm, y3_BadForm, y8, y9, y4_BadForm⟩, y5_BadForm, fun y => match y with | .form => y6_BadForm | .range => y7_BadForm⟩ | .range => ⟨⟨y0_OutOfRange, y1_OutOfRange, e_OutOfRange, y2_OutOfRange, y3_OutOfRange, y8, y9, y4_OutOfRange⟩, y5_OutOfRange, fun y => match y with | .form => y6_OutOfRange | .range => y7_OutOfRange⟩ }
  have e := hfa.symm.trans T.g29
  cases e
  refine ⟨fd29, [(c28, p28), (c29, p29)], spP K (fun e => match e with | .form => cF | .range => cR) [(p28, "_law_right.<locals>.<lambda>"), (p29, "law.<locals>.<lambda>")] 1 F_law, (fun p hp => by
    rcases List.mem_cons.mp hp with z | hp
    · rw [z]; exact q28
    rcases List.mem_cons.mp hp with z | hp
    · rw [z]; exact q29
    · cases hp), (fun p hp => by
    rcases List.mem_cons.mp hp with z | hp
    · rw [z]; exact l28
    rcases List.mem_cons.mp hp with z | hp
    · rw [z]; exact l29
    · cases hp), (fun p hp => by
    rcases List.mem_cons.mp hp with z | hp
    · rw [z]; exact PySem.W.codeHd_of_K X h28
    rcases List.mem_cons.mp hp with z | hp
    · rw [z]; exact PySem.W.codeHd_of_K X h29
    · cases hp), fun s u => ?_, fun H a ns hl hb hT hS => law_asked ?_ hS fun P W hP => ⟨ns, rfl, hl, hb, hP⟩, fun base hK hN hTB => ?_⟩
  · obtain ⟨oc, od, kV, doc, pm, an, ct, osl, rfl, _⟩ := F29.ex
    exact .of_eq rfl
  · intro p hp
    rcases List.mem_cons.mp hp with z | hp
    · rw [z]; exact LamX.TabS.nil (hT (c28, p28) (by first | exact List.mem_cons_self | exact List.mem_cons_of_mem _ List.mem_cons_self))
    rcases List.mem_cons.mp hp with z | hp
    · rw [z]; exact LamX.TabS.nil (hT (c29, p29) (by first | exact List.mem_cons_self | exact List.mem_cons_of_mem _ List.mem_cons_self))
    · cases hp
  · exact ok_law T ⟨hTB (c28, p28) (by first | exact List.mem_cons_self | exact List.mem_cons_of_mem _ List.mem_cons_self), hTB (c29, p29) (by first | exact List.mem_cons_self | exact List.mem_cons_of_mem _ List.mem_cons_self), trivial⟩
end K01
open PySem PySem.W PyProof.Rows PD
set_option maxHeartbeats 0 in
theorem PySem.Challenge.cw_allplaces_k01_symbols_holds : PySem.Challenge.rw_allplaces_k01_symbols.Holds := by
  w_on; o_law; k_head; (case hw => w_witness2)
  k_fill
  refine LamX.walk_ofTs (l := PySem.Challenge.rw_allplaces_k01_symbols) (n := 63) (k := 10) (x := "script") (CX := fun w => L2N.CX PySem.Challenge.rw_allplaces_k01_symbols.prog w) rfl (by decide) rfl ⟨rfl, by decide, by decide⟩ (fun w h Y => PySem.W.km_in_of Y) ?F (fun _ H s e s' c => PD.no_errorN c)
  case F =>
    intro w mg fa h Y KX G hmg
    refine' K01.end_mk KX G hmg ?n0 ?d0 ?n1 ?d1 ?n2 ?d2 ?n3 ?d3 ?n4 ?d4 ?n5 ?d5 ?n6 ?d6 ?n7 ?d7 ?n8 ?d8 ?n9 ?d9 ?n10 ?d10 ?n11 ?d11 ?n12 ?d12 ?n13 ?d13 ?n14 ?d14 ?n15 ?d15 ?n16 ?d16 ?n17 ?d17 ?n18 ?d18 ?n19 ?d19 ?n20 ?d20 ?n21 ?d21 ?n22 ?d22 ?n23 ?d23 ?n24 ?d24 ?n25 ?d25 ?n26 ?d26 ?n27 ?d27 ?n28 ?d28 ?n29 ?d29 ?z_abs ?z_all ?z_any ?z_bool ?z_enumerate ?z_int ?z_isinstance ?z_len ?z_list ?z_max ?z_min ?z_range ?z_repr ?z_set ?z_sorted ?z_str ?z_sum ?z_tuple ?z_zip ?m_GREATEST ?m_MOST_PLACE ?q28 ?h28 ?l28 ?q29 ?h29 ?l29 ?n_PlaceError ?n_BadForm ?x_BadForm ?k_BadForm ?e_BadForm ?t_BadForm ?y0_BadForm ?y1_BadForm ?y2_BadForm ?y3_BadForm ?y4_BadForm ?y5_BadForm ?y6_BadForm ?y7_BadForm ?n_OutOfRange ?x_OutOfRange ?k_OutOfRange ?e_OutOfRange ?t_OutOfRange ?y0_OutOfRange ?y1_OutOfRange ?y2_OutOfRange ?y3_OutOfRange ?y4_OutOfRange ?y5_OutOfRange ?y6_OutOfRange ?y7_OutOfRange ?y8 ?y9 ?hpp
    (case n0 => k_is)
    (case d0 => (refine' ⟨_, L2.fun_mk ?l ?c ?k⟩; (case l => k_is); (case c => k_is); (case k => k_is)))
    (case n1 => k_is)
    (case d1 => (refine' ⟨_, L2.fun_mk ?l ?c ?k⟩; (case l => k_is); (case c => k_is); (case k => k_is)))
    (case n2 => k_is)
    (case d2 => (refine' ⟨_, L2.fun_mk ?l ?c ?k⟩; (case l => k_is); (case c => k_is); (case k => k_is)))
    (case n3 => k_is)
    (case d3 => (refine' ⟨_, L2.fun_mk ?l ?c ?k⟩; (case l => k_is); (case c => k_is); (case k => k_is)))
    (case n4 => k_is)
    (case d4 => (refine' ⟨_, L2.fun_mk ?l ?c ?k⟩; (case l => k_is); (case c => k_is); (case k => k_is)))
    (case n5 => k_is)
    (case d5 => (refine' ⟨_, L2.fun_mk ?l ?c ?k⟩; (case l => k_is); (case c => k_is); (case k => k_is)))
    (case n6 => k_is)
    (case d6 => (refine' ⟨_, L2.fun_mk ?l ?c ?k⟩; (case l => k_is); (case c => k_is); (case k => k_is)))
    (case n7 => k_is)
    (case d7 => (refine' ⟨_, L2.fun_mk ?l ?c ?k⟩; (case l => k_is); (case c => k_is); (case k => k_is)))
    (case n8 => k_is)
    (case d8 => (refine' ⟨_, L2.fun_mk ?l ?c ?k⟩; (case l => k_is); (case c => k_is); (case k => k_is)))
    (case n9 => k_is)
    (case d9 => (refine' ⟨_, L2.fun_mk ?l ?c ?k⟩; (case l => k_is); (case c => k_is); (case k => k_is)))
    (case n10 => k_is)
    (case d10 => (refine' ⟨_, L2.fun_mk ?l ?c ?k⟩; (case l => k_is); (case c => k_is); (case k => k_is)))
    (case n11 => k_is)
    (case d11 => (refine' ⟨_, L2.fun_mk ?l ?c ?k⟩; (case l => k_is); (case c => k_is); (case k => k_is)))
    (case n12 => k_is)
    (case d12 => (refine' ⟨_, L2.fun_mk ?l ?c ?k⟩; (case l => k_is); (case c => k_is); (case k => k_is)))
    (case n13 => k_is)
    (case d13 => (refine' ⟨_, L2.fun_mk ?l ?c ?k⟩; (case l => k_is); (case c => k_is); (case k => k_is)))
    (case n14 => k_is)
    (case d14 => (refine' ⟨_, L2.fun_mk ?l ?c ?k⟩; (case l => k_is); (case c => k_is); (case k => k_is)))
    (case n15 => k_is)
    (case d15 => (refine' ⟨_, L2.fun_mk ?l ?c ?k⟩; (case l => k_is); (case c => k_is); (case k => k_is)))
    (case n16 => k_is)
    (case d16 => (refine' ⟨_, L2.fun_mk ?l ?c ?k⟩; (case l => k_is); (case c => k_is); (case k => k_is)))
    (case n17 => k_is)
    (case d17 => (refine' ⟨_, L2.fun_mk ?l ?c ?k⟩; (case l => k_is); (case c => k_is); (case k => k_is)))
    (case n18 => k_is)
    (case d18 => (refine' ⟨_, L2.fun_mk ?l ?c ?k⟩; (case l => k_is); (case c => k_is); (case k => k_is)))
    (case n19 => k_is)
    (case d19 => (refine' ⟨_, L2.fun_mk ?l ?c ?k⟩; (case l => k_is); (case c => k_is); (case k => k_is)))
    (case n20 => k_is)
    (case d20 => (refine' ⟨_, L2.fun_mk ?l ?c ?k⟩; (case l => k_is); (case c => k_is); (case k => k_is)))
    (case n21 => k_is)
    (case d21 => (refine' ⟨_, L2.fun_mk ?l ?c ?k⟩; (case l => k_is); (case c => k_is); (case k => k_is)))
    (case n22 => k_is)
    (case d22 => (refine' ⟨_, L2.fun_mk ?l ?c ?k⟩; (case l => k_is); (case c => k_is); (case k => k_is)))
    (case n23 => k_is)
    (case d23 => (refine' ⟨_, L2.fun_mk ?l ?c ?k⟩; (case l => k_is); (case c => k_is); (case k => k_is)))
    (case n24 => k_is)
    (case d24 => (refine' ⟨_, L2.fun_mk ?l ?c ?k⟩; (case l => k_is); (case c => k_is); (case k => k_is)))
    (case n25 => k_is)
    (case d25 => (refine' ⟨_, L2.fun_mk ?l ?c ?k⟩; (case l => k_is); (case c => k_is); (case k => k_is)))
    (case n26 => k_is)
    (case d26 => (refine' ⟨_, L2.fun_mk ?l ?c ?k⟩; (case l => k_is); (case c => k_is); (case k => k_is)))
    (case n27 => k_is)
    (case d27 => (refine' ⟨_, L2.fun_mk ?l ?c ?k⟩; (case l => k_is); (case c => k_is); (case k => k_is)))
    (case n28 => k_is)
    (case d28 => (refine' FunC.mk1 ?l ?c ?k; (case l => k_is); (case c => k_is); (case k => k_is)))
    (case n29 => k_is)
    (case d29 => (refine' FunC.mk1 ?l ?c ?k; (case l => k_is); (case c => k_is); (case k => k_is)))
    (case z_abs => k_is)
    (case z_all => k_is)
    (case z_any => k_is)
    (case z_bool => k_is)
    (case z_enumerate => k_is)
    (case z_int => k_is)
    (case z_isinstance => k_is)
    (case z_len => k_is)
    (case z_list => k_is)
    (case z_max => k_is)
    (case z_min => k_is)
    (case z_range => k_is)
    (case z_repr => k_is)
    (case z_set => k_is)
    (case z_sorted => k_is)
    (case z_str => k_is)
    (case z_sum => k_is)
    (case z_tuple => k_is)
    (case z_zip => k_is)
    (case m_GREATEST => first | exact ⟨_, by k_is⟩ | exact ⟨0, by kernel_rfl⟩ | exact ⟨_, rfl⟩ | (constructor; k_is))
    (case m_MOST_PLACE => first | exact ⟨_, by k_is⟩ | exact ⟨0, by kernel_rfl⟩ | exact ⟨_, rfl⟩ | (constructor; k_is))
    ((case q28 => exact PySem.W.km_tabs_of Y _ List.mem_cons_self); (case h28 => kernel_rfl))
    (case l28 => first | k_is | kernel_rfl)
    ((case q29 => exact PySem.W.km_tabs_of Y _ (List.mem_cons_of_mem _ List.mem_cons_self)); (case h29 => kernel_rfl))
    (case l29 => first | k_is | kernel_rfl)
    (case n_PlaceError => k_is)
    (case n_BadForm => first | k_is | kernel_rfl)
    (case x_BadForm => first | k_is | kernel_rfl)
    (case k_BadForm => first | k_is | kernel_rfl)
    (case e_BadForm => first | k_is | kernel_rfl)
    (case t_BadForm => first | k_is | kernel_rfl)
    (case y0_BadForm => first | k_is | kernel_rfl)
    (case y1_BadForm => first | k_is | kernel_rfl)
    (case y2_BadForm => first | k_is | kernel_rfl)
    (case y3_BadForm => first | k_is | kernel_rfl)
    (case y4_BadForm => first | k_is | kernel_rfl)
    (case y5_BadForm => first | k_is | kernel_rfl)
    (case y6_BadForm => first | k_is | kernel_rfl)
    (case y7_BadForm => first | k_is | kernel_rfl)
    (case n_OutOfRange => first | k_is | kernel_rfl)
    (case x_OutOfRange => first | k_is | kernel_rfl)
    (case k_OutOfRange => first | k_is | kernel_rfl)
    (case e_OutOfRange => first | k_is | kernel_rfl)
    (case t_OutOfRange => first | k_is | kernel_rfl)
    (case y0_OutOfRange => first | k_is | kernel_rfl)
    (case y1_OutOfRange => first | k_is | kernel_rfl)
    (case y2_OutOfRange => first | k_is | kernel_rfl)
    (case y3_OutOfRange => first | k_is | kernel_rfl)
    (case y4_OutOfRange => first | k_is | kernel_rfl)
    (case y5_OutOfRange => first | k_is | kernel_rfl)
    (case y6_OutOfRange => first | k_is | kernel_rfl)
    (case y7_OutOfRange => first | k_is | kernel_rfl)
    (case y8 => k_is)
    (case y9 => k_is)
    (case hpp => decide)
end

import PyProof.Rows.All
import Wide.All
import OpenK.AllK
import Wide.FinOn
import HandS.ForMost
import HandS.Exc
import HandS.WordsExc
import HandS.ExcInit
import HandS.IsInst
import HandS.DictComp
import HandS.Evl
import HandS.CallSlots
import HandS.Sort
import HandS.Small
import HandS.SetKeys
import HandS.Defaults
import HandS.Head0
import HandS.Head1
import HandS.Head2
import HandS.HeadEnd
import HandS.HeadHook1
import HandS.HeadHook2
import HandS.Style
import HandS.Spec
import HandS.ExcField
import HandS.ExcIs
import HandS.ClsMeth
import HandS.Head3
import HandS.HeadHook4
import HandS.HeadWalk
import PySem.Challenge.RW_cupcap_k46_diagrams_counted
set_option Elab.async false
set_option linter.all false
set_option maxRecDepth 1000000
set_option maxHeartbeats 0
/-! PL: a pure layer over HandS. Data, slots, results. -/
namespace PL
open PySem L2

inductive D where
  | non | bl (b : Bool) | int (i : Int) | str (s : Str)
  | lst (xs : List D) | tup (xs : List D)
  | obj (c : Nat) (ns : List Str) (xs : List D)
  | dk (ks : List Key) (xs : List D)
  | dt (ks : List (List Key)) (xs : List D)
  | scr (ns : List Int)
  | exc (c : Nat) (ns : List Str) (xs : List D)

/-- what the walk knows of the written part -/
structure G where
  K : PySem.W.Frag
  cls : Nat → Addr
  ex : Addr → Option (Nat × Addr) := fun _ => none

mutual
def Rep (g : G) (F : Hp) : D → V → Prop
  | .non, v => v = .non
  | .bl b, v => v = .bl b
  | .int i, v => v = .int i
  | .str s, v => v = .str s
  | .lst ds, v => ∃ a vs, v = .ref a ∧ F a = some (.lst vs) ∧ Reps g F ds vs
  | .tup ds, v => ∃ a vs, v = .ref a ∧ F a = some (.tup vs) ∧ Reps g F ds vs
  | .obj c ns ds, v => ∃ a dx fs, v = .ref a ∧ F a = some (.ins (g.cls c) dx fs) ∧ fs.map (·.1) = ns ∧ Reps g F ds (fs.map (·.2))
  | .dk ks ds, v => ∃ a kvs, v = .ref a ∧ Rd F a (.dK kvs) ∧ kvs.map (·.1) = ks ∧ Reps g F ds (kvs.map (·.2))
  | .dt ks ds, v => ∃ a kvs, v = .ref a ∧ Rd F a (.dT kvs) ∧ kvs.map (·.1) = ks ∧ Reps g F ds (kvs.map (·.2))
  | .scr ns, v => ∃ a, v = .ref a ∧ SqL g.K F a (ns.map V.int)
  | .exc c ns ds, v => ∃ a d fs, v = .ref a ∧ g.ex a = some (c, d) ∧ F d = some (.xd fs) ∧ fs.map (·.1) = ns ∧ Reps g F ds (fs.map (·.2))
def Reps (g : G) (F : Hp) : List D → List V → Prop
  | [], vs => vs = []
  | d :: ds, vs => ∃ v vr, vs = v :: vr ∧ Rep g F d v ∧ Reps g F ds vr
end

/-- the heap grows -/
abbrev Ex (H H' : Hp) : Prop := ∀ a o, H a = some o → H' a = some o
theorem Ex.refl (H : Hp) : Ex H H := fun _ _ h => h
theorem Ex.trans {H H1 H2 : Hp} (a : Ex H H1) (b : Ex H1 H2) : Ex H H2 := fun x o h => b x o (a x o h)
theorem Ex.new {H : Hp} {p : Addr} {o : HO} (h : H p = none) : Ex H (upd H p o) := fun a u e => by
  rw [upd_ne (ne_of_none e h)]; exact e
theorem ex_rd {H H' : Hp} {a : Addr} {u : HO} (e : Ex H H') (h : Rd H a u) : Rd H' a u := by
  rcases h with h | ⟨o, h⟩
  · exact .inl (e a _ h)
  · exact .inr ⟨o, e a _ h⟩
theorem ex_l {K : PySem.W.Frag} {H H' : Hp} {a : Addr} {xs : List V} (e : Ex H H') (h : SqL K H a xs) : SqL K H' a xs := by
  rcases h with h | h
  · exact .inl (ex_rd e h)
  · exact .inr h
theorem ex_t {K : PySem.W.Frag} {H H' : Hp} {a : Addr} {xs : List V} (e : Ex H H') (h : SqT K H a xs) : SqT K H' a xs := by
  rcases h with h | h
  · exact .inl (ex_rd e h)
  · exact .inr h

mutual
theorem Rep.mono {g : G} {F F' : Hp} (e : Ex F F') : ∀ (d : D) {v : V}, Rep g F d v → Rep g F' d v
  | .non, _, h => h
  | .bl _, _, h => h
  | .int _, _, h => h
  | .str _, _, h => h
  | .lst ds, _, h => by
    obtain ⟨a, vs, r, s, q⟩ := h
    exact ⟨a, vs, r, e _ _ s, Reps.mono e ds q⟩
  | .tup ds, _, h => by
    obtain ⟨a, vs, r, s, q⟩ := h
    exact ⟨a, vs, r, e _ _ s, Reps.mono e ds q⟩
  | .obj c ns ds, _, h => by
    obtain ⟨a, dx, fs, r, s, t, q⟩ := h
    exact ⟨a, dx, fs, r, e _ _ s, t, Reps.mono e ds q⟩
  | .dk ks ds, _, h => by
    obtain ⟨a, kvs, r, s, t, q⟩ := h
    exact ⟨a, kvs, r, ex_rd e s, t, Reps.mono e ds q⟩
  | .dt ks ds, _, h => by
    obtain ⟨a, kvs, r, s, t, q⟩ := h
    exact ⟨a, kvs, r, ex_rd e s, t, Reps.mono e ds q⟩
  | .scr ns, _, h => by
    obtain ⟨a, r, s⟩ := h
    exact ⟨a, r, ex_l e s⟩
  | .exc c ns ds, _, h => by
    obtain ⟨a, d, fs, r, s, t, u, q⟩ := h
    exact ⟨a, d, fs, r, s, e _ _ t, u, Reps.mono e ds q⟩
theorem Reps.mono {g : G} {F F' : Hp} (e : Ex F F') : ∀ (ds : List D) {vs : List V}, Reps g F ds vs → Reps g F' ds vs
  | [], _, h => h
  | d :: ds, _, h => by
    obtain ⟨v, vr, r, s, q⟩ := h
    exact ⟨v, vr, r, Rep.mono e d s, Reps.mono e ds q⟩
end

theorem Reps.length {g : G} {F : Hp} : ∀ {ds : List D} {vs : List V}, Reps g F ds vs → ds.length = vs.length
  | [], _, h => by rw [show _ = [] from h] <;> rfl
  | d :: ds, _, h => by
    obtain ⟨v, vr, r, _, q⟩ := h
    rw [r, List.length_cons, List.length_cons, Reps.length q]
theorem Reps.get {g : G} {F : Hp} : ∀ {ds : List D} {vs : List V} {i : Nat} {d : D}, Reps g F ds vs → ds[i]? = some d → ∃ v, vs[i]? = some v ∧ Rep g F d v
  | [], _, _, _, _, e => by simp at e
  | d :: ds, _, 0, _, h, e => by
    obtain ⟨v, vr, r, s, _⟩ := h
    simp at e; subst e; subst r
    exact ⟨v, rfl, s⟩
  | d :: ds, _, i + 1, _, h, e => by
    obtain ⟨v, vr, r, _, q⟩ := h
    subst r
    obtain ⟨w, h1, h2⟩ := Reps.get (i := i) q (by simpa using e)
    exact ⟨w, by simpa using h1, h2⟩
theorem Reps.getV {g : G} {F : Hp} {ds : List D} {vs : List V} {i : Nat} {v : V} (h : Reps g F ds vs) (e : vs[i]? = some v) : ∃ d, ds[i]? = some d ∧ Rep g F d v := by
  have hl := h.length
  have hi : i < vs.length := (List.getElem?_eq_some_iff.mp e).1
  have hd : ds[i]? = some (ds[i]'(by omega)) := by simp [hl, hi]
  obtain ⟨w, h1, h2⟩ := h.get hd
  rw [e] at h1; cases h1
  exact ⟨_, hd, h2⟩
theorem Reps.append {g : G} {F : Hp} : ∀ {ds : List D} {vs : List V} {es : List D} {ws : List V}, Reps g F ds vs → Reps g F es ws → Reps g F (ds ++ es) (vs ++ ws)
  | [], _, _, _, h, k => by rw [show _ = [] from h]; exact k
  | d :: ds, _, _, _, h, k => by
    obtain ⟨v, vr, r, s, q⟩ := h
    subst r
    exact ⟨v, _, rfl, s, Reps.append q k⟩
theorem Reps.one {g : G} {F : Hp} {d : D} {v : V} (h : Rep g F d v) : Reps g F [d] [v] := ⟨v, [], rfl, h, rfl⟩
theorem Reps.take {g : G} {F : Hp} : ∀ {ds : List D} {vs : List V} (n : Nat), Reps g F ds vs → Reps g F (ds.take n) (vs.take n)
  | [], _, n, h => by rw [show _ = [] from h, List.take_nil, List.take_nil]; rfl
  | d :: ds, _, 0, h => by rw [List.take_zero, List.take_zero]; rfl
  | d :: ds, _, n + 1, h => by
    obtain ⟨v, vr, r, s, q⟩ := h
    subst r
    exact ⟨v, _, rfl, s, Reps.take n q⟩
theorem Reps.drop {g : G} {F : Hp} : ∀ {ds : List D} {vs : List V} (n : Nat), Reps g F ds vs → Reps g F (ds.drop n) (vs.drop n)
  | [], _, n, h => by rw [show _ = [] from h, List.drop_nil, List.drop_nil]; rfl
  | d :: ds, _, 0, h => h
  | d :: ds, _, n + 1, h => by
    obtain ⟨v, vr, r, s, q⟩ := h
    subst r
    exact Reps.drop n q
theorem Reps.set {g : G} {F : Hp} {d : D} {v : V} (hr : Rep g F d v) : ∀ {ds : List D} {vs : List V} (n : Nat), Reps g F ds vs → Reps g F (ds.set n d) (vs.set n v)
  | [], _, n, h => by rw [show _ = [] from h]; rfl
  | _ :: ds, _, 0, h => by
    obtain ⟨w, vr, r, s, q⟩ := h
    subst r
    exact ⟨v, _, rfl, hr, q⟩
  | _ :: ds, _, n + 1, h => by
    obtain ⟨w, vr, r, s, q⟩ := h
    subst r
    exact ⟨w, _, rfl, s, Reps.set hr n q⟩

/-- a thing that may be changed: a list, a dict -/
inductive Ow where
  | L (xs : List D) | K (kvs : List (Key × D)) | T (kvs : List (List Key × D))
def Ow.toD : Ow → D
  | .L xs => .lst xs
  | .K kvs => .dk (kvs.map (·.1)) (kvs.map (·.2))
  | .T kvs => .dt (kvs.map (·.1)) (kvs.map (·.2))
def Cont (g : G) (F : Hp) : HO → Ow → Prop
  | .lst vs, .L ds => Reps g F ds vs
  | .dK ks, .K es => ks.map (·.1) = es.map (·.1) ∧ Reps g F (es.map (·.2)) (ks.map (·.2))
  | .dT ks, .T es => ks.map (·.1) = es.map (·.1) ∧ Reps g F (es.map (·.2)) (ks.map (·.2))
  | _, _ => False
theorem Cont.mono {g : G} {F F' : Hp} (e : Ex F F') {o : HO} {w : Ow} (h : Cont g F o w) : Cont g F' o w := by
  cases o <;> cases w <;> first | exact False.elim h | exact Reps.mono e _ h | exact ⟨h.1, Reps.mono e _ h.2⟩
theorem Cont.rep {g : G} {F : Hp} {p : Addr} {o : HO} {w : Ow} (h : Cont g F o w) (hp : F p = none) : Rep g (upd F p o) w.toD (.ref p) := by
  have h' := h.mono (Ex.new (o := o) hp)
  cases o <;> cases w <;> first
    | exact False.elim h
    | exact ⟨p, _, rfl, upd_same, h'⟩
    | exact ⟨p, _, rfl, .inl upd_same, h'.1, h'.2⟩

/-- a slot: empty, data, a thing of one's own, a thing that was handed in to be changed -/
inductive Sl where
  | non | d (d : D) | o (w : Ow) | r (w : Ow)
def Sl.own : Sl → Bool
  | .o _ => true
  | .r _ => true
  | _ => false
abbrev En := List Sl
def owns (env : En) (i : Nat) : Prop := ∃ s, env[i]? = some s ∧ s.own = true
def At (σ : St) (i : Nat) (p : Addr) : Prop := σ[i]? = some (some (.ref p))

/-- where a def runs: what may be changed (the slots' addresses P, as a predicate B), the heap and the frozen part at its entry -/
structure Cb where
  B : Addr → Prop
  P : Nat → Addr
  H0 : Hp
  F0 : Hp
/-- the heaps of a run -/
structure Lv (c : Cb) (F H : Hp) : Prop where
  fh : Ex F H
  f0 : Ex c.F0 F
  h0 : ∀ a o, c.H0 a = some o → ¬ c.B a → H a = some o
  dm : ∀ a o, c.H0 a = some o → ∃ o', H a = some o'
  nw : ∀ a o, F a = some o → c.F0 a = some o ∨ c.H0 a = none
structure Rel (g : G) (c : Cb) (σ : St) (env : En) (F H : Hp) : Prop extends Lv c F H where
  len : σ.length = env.length
  dat : ∀ (i : Nat) d, env[i]? = some (.d d) → ∃ v, σ[i]? = some (some v) ∧ Rep g F d v
  own : ∀ (i : Nat) w, env[i]? = some (.o w) → ∃ p o, At σ i p ∧ F p = none ∧ c.H0 p = none ∧ H p = some o ∧ Cont g F o w
  brf : ∀ (i : Nat) w, env[i]? = some (.r w) → ∃ p o, At σ i p ∧ F p = none ∧ (p = c.P i ∧ c.B p) ∧ H p = some o ∧ Cont g F o w
  inj : ∀ (i j : Nat) p, owns env i → owns env j → At σ i p → At σ j p → i = j
theorem Rel.owned {g : G} {c : Cb} {σ : St} {env : En} {F H : Hp} (R : Rel g c σ env F H) {i : Nat} (h : owns env i) : ∃ p o w, At σ i p ∧ F p = none ∧ H p = some o ∧ Cont g F o w ∧ (env[i]? = some (.o w) ∨ env[i]? = some (.r w)) := by
  obtain ⟨s, e, hs⟩ := h
  cases s with
  | non => cases hs
  | d _ => cases hs
  | o w => obtain ⟨p, o, h1, h2, _, h3, h4⟩ := R.own i w e; exact ⟨p, o, w, h1, h2, h3, h4, .inl e⟩
  | r w => obtain ⟨p, o, h1, h2, _, h3, h4⟩ := R.brf i w e; exact ⟨p, o, w, h1, h2, h3, h4, .inr e⟩

/-- a value on its way: data, a new thing, the thing in a slot -/
inductive Tv where
  | v (d : D) | t (w : Ow) | b (i : Nat)
def free (σ : St) (env : En) (p : Addr) : Prop := ∀ i, owns env i → ¬ At σ i p
def Tok (g : G) (c : Cb) (σ : St) (env : En) (F H : Hp) (v : V) : Tv → Prop
  | .v d => Rep g F d v
  | .t w => ∃ p o, v = .ref p ∧ F p = none ∧ c.H0 p = none ∧ free σ env p ∧ H p = some o ∧ Cont g F o w
  | .b i => σ[i]? = some (some v)
/-- one step of evaluation -/
structure Stp (σ : St) (env : En) (F H : Hp) (env' : En) (F' H' : Hp) : Prop where
  ex : Ex F F'
  keep : ∀ a o, H a = some o → free σ env a → H' a = some o
  tmp : ∀ a o, H a = some o → free σ env a → F a = none → F' a = none
  ow : ∀ i, owns env' i → owns env i
  dm : ∀ a o, H a = some o → ∃ o', H' a = some o'
theorem Stp.refl (σ : St) (env : En) (F H : Hp) : Stp σ env F H env F H := ⟨Ex.refl F, fun _ _ h _ => h, fun _ _ _ _ h => h, fun _ h => h, fun _ o h => ⟨o, h⟩⟩
theorem free.mono {σ : St} {env env' : En} {p : Addr} (h : free σ env p) (k : ∀ i, owns env' i → owns env i) : free σ env' p := fun i o => h i (k i o)
theorem Stp.trans {σ : St} {env env1 env2 : En} {F H F1 H1 F2 H2 : Hp} (a : Stp σ env F H env1 F1 H1) (b : Stp σ env1 F1 H1 env2 F2 H2) : Stp σ env F H env2 F2 H2 :=
  ⟨a.ex.trans b.ex, fun x o h f => b.keep x o (a.keep x o h f) (f.mono a.ow), fun x o h f n => b.tmp x o (a.keep x o h f) (f.mono a.ow) (a.tmp x o h f n), fun i h => a.ow i (b.ow i h),
    fun x o h => let ⟨o', h'⟩ := a.dm x o h; b.dm x o' h'⟩
theorem Tok.step {g : G} {c : Cb} {σ : St} {env env' : En} {F H F' H' : Hp} {v : V} {t : Tv} (h : Tok g c σ env F H v t) (s : Stp σ env F H env' F' H') : Tok g c σ env' F' H' v t := by
  cases t with
  | v d => exact Rep.mono s.ex d h
  | t w =>
    obtain ⟨p, o, e, h1, h2, h3, h4, h5⟩ := h
    exact ⟨p, o, e, s.tmp p o h4 h3 h1, h2, h3.mono s.ow, s.keep p o h4 h3, h5.mono s.ex⟩
  | b i => exact h
/-- a new thing is not of the heap ahead -/
def Nw (H : Hp) (v : V) : Tv → Prop
  | .t _ => ∀ p, v = .ref p → H p = none
  | _ => True
/-- what can be read at once -/
def Vw (g : G) (F H : Hp) (d : D) (v : V) : Prop := Rep g F d v ∨ ∃ p o w, v = .ref p ∧ H p = some o ∧ Cont g F o w ∧ d = w.toD
def view (env : En) : Tv → Option D
  | .v d => some d
  | .t w => some w.toD
  | .b i => match env[i]? with
    | some (.d d) => some d
    | some (.o w) => some w.toD
    | some (.r w) => some w.toD
    | _ => none
theorem Rel.view {g : G} {c : Cb} {σ : St} {env : En} {F H : Hp} {v : V} {t : Tv} {d : D} (R : Rel g c σ env F H) (h : Tok g c σ env F H v t) (e : view env t = some d) : Vw g F H d v := by
  cases t with
  | v d' =>
    have e' : some d' = some d := e
    cases e'
    exact .inl h
  | t w =>
    cases e
    obtain ⟨p, o, e1, _, _, _, h4, h5⟩ := h
    exact .inr ⟨p, o, w, e1, h4, h5, rfl⟩
  | b i =>
    have h' : σ[i]? = some (some v) := h
    have e' : (match env[i]? with | some (.d d) => some d | some (.o w) => some w.toD | some (.r w) => some w.toD | _ => none) = some d := e
    cases q : env[i]? with
    | none => rw [q] at e'; cases e'
    | some s =>
      rw [q] at e'
      cases s with
      | non => cases e'
      | d d' =>
        cases e'
        obtain ⟨u, h1, h2⟩ := R.dat i _ q
        rw [h'] at h1; cases h1
        exact .inl h2
      | o w =>
        cases e'
        obtain ⟨p, o, h1, _, _, h2, h3⟩ := R.own i w q
        have h1' : σ[i]? = some (some (.ref p)) := h1
        rw [h'] at h1'; cases h1'
        exact .inr ⟨p, o, w, rfl, h2, h3, rfl⟩
      | r w =>
        cases e'
        obtain ⟨p, o, h1, _, _, h2, h3⟩ := R.brf i w q
        have h1' : σ[i]? = some (some (.ref p)) := h1
        rw [h'] at h1'; cases h1'
        exact .inr ⟨p, o, w, rfl, h2, h3, rfl⟩

/-! ### results -/
/-- of an expression: a value, an exception (class, fields), or no answer is told -/
inductive Rs (α : Type) where
  | ok (a : α) (env : En) | ex (c : Nat) (fs : List (Str × D)) (env : En) | st
abbrev EM := En → Rs Tv
/-- the exception's own dict -/
def XF (g : G) (H0 F H : Hp) (d : Addr) (fs : List (Str × D)) : Prop := H0 d = none ∧ ∃ vs, H d = some (.xd vs) ∧ vs.map (·.1) = fs.map (·.1) ∧ Reps g F (fs.map (·.2)) (vs.map (·.2))
/-- a wish of exceptions, in the layer's words: class, dict, slots, heap -/
def PostX (g : G) (c : Cb) (W : WX) (σ : St) (cl : Nat) (fs : List (Str × D)) (env : En) : Prop := ∀ d F H, Rel g c σ env F H → XF g c.H0 F H d fs → W (.ref (g.cls cl)) (some d) σ H
def Post (g : G) (c : Cb) (W : WX) (σ : St) (env : En) (F H : Hp) (Q : VK) : Rs Tv → Prop
  | .ok t env' => ∀ v F' H', Rel g c σ env' F' H' → Stp σ env F H env' F' H' → Tok g c σ env' F' H' v t → Nw H v t → Q v H'
  | .ex cl fs env' => PostX g c W σ cl fs env'
  | .st => False
def SE (g : G) (W : WX) (te : TE) (m : EM) : Prop := ∀ (c : Cb) (σ : St) (env : En) (F H : Hp) (Q : VK), Rel g c σ env F H → Post g c W σ env F H Q (m env) → te σ H Q

def Rs.bind {α β : Type} (x : Rs α) (f : α → En → Rs β) : Rs β := match x with
  | .ok a env => f a env
  | .ex c fs env => .ex c fs env
  | .st => .st
end PL
namespace PL
open PySem L2
/-! ### the heap grows by a primitive -/
structure Gr (F H F' H' : Hp) : Prop where
  ff : Ex F F'
  hh : Ex H H'
  fh : Ex F' H'
  nw : ∀ a o, F' a = some o → F a = some o ∨ H a = none
theorem Gr.refl {F H : Hp} (e : Ex F H) : Gr F H F H := ⟨Ex.refl F, Ex.refl H, e, fun _ _ h => .inl h⟩
theorem Gr.tmp {F H : Hp} (e : Ex F H) {p : Addr} {o : HO} (hp : H p = none) : Gr F H F (upd H p o) := ⟨Ex.refl F, Ex.new hp, e.trans (Ex.new hp), fun _ _ h => .inl h⟩
theorem Gr.frz {F H : Hp} (e : Ex F H) {p : Addr} {o : HO} (hp : H p = none) : Gr F H (upd F p o) (upd H p o) := by
  have fp : F p = none := by
    cases q : F p with
    | none => rfl
    | some u => rw [e _ _ q] at hp; cases hp
  refine ⟨Ex.new fp, Ex.new hp, fun a u h => ?_, fun a u h => ?_⟩
  · by_cases ha : a = p
    · subst ha; rw [upd_same] at h ⊢; exact h
    · rw [upd_ne ha] at h ⊢; exact e _ _ h
  · by_cases ha : a = p
    · subst ha; exact .inr hp
    · rw [upd_ne ha] at h; exact .inl h
def NTok (g : G) (H F' H' : Hp) (v : V) : Tv → Prop
  | .v d => Rep g F' d v
  | .t w => ∃ p o, v = .ref p ∧ H p = none ∧ F' p = none ∧ H' p = some o ∧ Cont g F' o w
  | .b _ => False
section
variable {g : G} {c : Cb} {σ : St} {env env' env0 : En} {F H F' H' F0 H0 : Hp} {v : V} {t : Tv} {W : WX}
theorem Lv.hnone (R : Lv c F H) {a : Addr} (h : H a = none) : c.H0 a = none := by
  cases q : c.H0 a with
  | none => rfl
  | some o =>
    obtain ⟨o', e⟩ := R.dm a o q
    rw [h] at e; cases e
theorem Lv.grow (R : Lv c F H) (k : Gr F H F' H') : Lv c F' H' where
  fh := k.fh
  f0 := R.f0.trans k.ff
  h0 := fun a o h b => k.hh a o (R.h0 a o h b)
  dm := fun a o h => let ⟨o', e⟩ := R.dm a o h; ⟨o', k.hh a o' e⟩
  nw := fun a o h => (k.nw a o h).elim (fun z => R.nw a o z) fun z => .inr (R.hnone z)
theorem Rel.grow (R : Rel g c σ env F H) (k : Gr F H F' H') : Rel g c σ env F' H' where
  toLv := R.toLv.grow k
  len := R.len
  dat := fun i d e => let ⟨u, h1, h2⟩ := R.dat i d e; ⟨u, h1, Rep.mono k.ff d h2⟩
  own := fun i w e => by
    obtain ⟨p, o, h1, h2, h3, h4, h5⟩ := R.own i w e
    refine ⟨p, o, h1, ?_, h3, k.hh _ _ h4, h5.mono k.ff⟩
    cases q : F' p with
    | none => rfl
    | some u => rcases k.nw p u q with z | z
                · rw [h2] at z; cases z
                · rw [h4] at z; cases z
  brf := fun i w e => by
    obtain ⟨p, o, h1, h2, h3, h4, h5⟩ := R.brf i w e
    refine ⟨p, o, h1, ?_, h3, k.hh _ _ h4, h5.mono k.ff⟩
    cases q : F' p with
    | none => rfl
    | some u => rcases k.nw p u q with z | z
                · rw [h2] at z; cases z
                · rw [h4] at z; cases z
  inj := R.inj
theorem Gr.stp (k : Gr F H F' H') : Stp σ env F H env F' H' where
  ex := k.ff
  keep := fun a o h _ => k.hh a o h
  tmp := fun a o h _ n => by
    cases q : F' a with
    | none => rfl
    | some u =>
      rcases k.nw a u q with z | z
      · rw [n] at z; cases z
      · rw [h] at z; cases z
  ow := fun _ h => h
  dm := fun a o h => ⟨o, k.hh a o h⟩
theorem Rel.freeN (R : Rel g c σ env F H) {p : Addr} (h : H p = none) : free σ env p := fun i o ha => by
  obtain ⟨q, u, w, h1, _, h2, _⟩ := R.owned o
  have : (some (some (V.ref p)) : Option (Option V)) = some (some (V.ref q)) := ha.symm.trans h1
  cases this
  rw [h] at h2; cases h2
theorem Rel.ntok (R : Rel g c σ env F H) (k : Gr F H F' H') (h : NTok g H F' H' v t) : Tok g c σ env F' H' v t ∧ Nw H v t := by
  cases t with
  | v d => exact ⟨h, trivial⟩
  | t w =>
    obtain ⟨p, o, e, h1, h2, h3, h4⟩ := h
    refine ⟨⟨p, o, e, h2, R.toLv.hnone h1, R.freeN h1, h3, h4⟩, fun q e' => ?_⟩
    rw [e] at e'; cases e'; exact h1
  | b i => exact False.elim h
/-- the end of an evaluation, from an inner one -/
theorem Post.prim {Q : VK} {t : Tv} (R : Rel g c σ env F H) (P : Post g c W σ env F H Q (.ok t env)) : ∀ v F' H', Gr F H F' H' → NTok g H F' H' v t → Q v H' := fun v F' H' k n =>
  P v F' H' (R.grow k) k.stp (R.ntok k n).1 (R.ntok k n).2
theorem Nw.step {t : Tv} (h : Nw H v t) (s : Stp σ env F0 H0 env' F H) : Nw H0 v t := by
  cases t with
  | v d => trivial
  | t w =>
    intro p e
    cases q : H0 p with
    | none => rfl
    | some o =>
      obtain ⟨o', z⟩ := s.dm p o q
      rw [h p e] at z; cases z
  | b i => trivial
/-- a result reached from further back -/
theorem Post.from {Q : VK} {r : Rs Tv} (s : Stp σ env0 F0 H0 env F H) (P : Post g c W σ env0 F0 H0 Q r) : Post g c W σ env F H Q r := by
  cases r with
  | ok t e' => exact fun v F' H' R' s' k n => P v F' H' R' (s.trans s') k (n.step s)
  | ex cl fs e' => exact P
  | st => exact P

/-! ### freezing -/
def frz : Tv → En → Rs D
  | .v d, env => .ok d env
  | .t w, env => .ok w.toD env
  | .b i, env => match env[i]? with
    | some (.d d) => .ok d env
    | some (.o w) => .ok w.toD (env.set i (.d w.toD))
    | _ => .st
theorem owns_set_d {env : En} {i j : Nat} {d : D} (h : owns (env.set i (.d d)) j) : owns env j ∧ j ≠ i := by
  obtain ⟨s, e, hs⟩ := h
  by_cases hj : i = j
  · subst hj
    by_cases hl : i < env.length
    · rw [List.getElem?_set_self hl] at e; cases e; cases hs
    · rw [List.getElem?_eq_none (by simpa using hl)] at e; cases e
  · rw [List.getElem?_set_ne hj] at e
    exact ⟨⟨s, e, hs⟩, Ne.symm hj⟩
theorem Rel.frz {d : D} (R : Rel g c σ env F H) (h : Tok g c σ env F H v t) (e : frz t env = .ok d env') :
    ∃ F', Rel g c σ env' F' H ∧ Rep g F' d v ∧ Ex F F' ∧ (∀ i, owns env' i → owns env i) ∧
      ∀ a, F a = none → F' a ≠ none → (∃ w, t = .t w ∧ v = .ref a) ∨ ∃ i, owns env i ∧ At σ i a := by
  cases t with
  | v d' => cases e; exact ⟨F, R, h, Ex.refl F, fun _ h => h, fun a h1 h2 => absurd h1 h2⟩
  | t w =>
    cases e
    obtain ⟨p, o, e1, fp, hp0, fr, hp, ct⟩ := h
    subst e1
    refine ⟨upd F p o, ⟨⟨fun a u q => ?_, R.f0.trans (Ex.new fp), R.h0, R.dm, fun a u q => ?_⟩, R.len, fun i d' q => ?_, fun i w' q => ?_, fun i w' q => ?_, R.inj⟩, ct.rep fp, Ex.new fp, fun _ h => h, fun a h1 h2 => ?_⟩
    · by_cases ha : a = p
      · subst ha; rw [upd_same] at q; cases q; exact hp
      · rw [upd_ne ha] at q; exact R.fh _ _ q
    · by_cases ha : a = p
      · subst ha; exact .inr hp0
      · rw [upd_ne ha] at q; exact R.nw _ _ q
    · obtain ⟨u, h1, h2⟩ := R.dat i d' q
      exact ⟨u, h1, Rep.mono (Ex.new fp) _ h2⟩
    · obtain ⟨p', o', h1, h2, h3, h4, h5⟩ := R.own i w' q
      have ne : p' ≠ p := fun z => fr i ⟨_, q, rfl⟩ (z ▸ h1)
      exact ⟨p', o', h1, by rw [upd_ne ne]; exact h2, h3, h4, h5.mono (Ex.new fp)⟩
    · obtain ⟨p', o', h1, h2, h3, h4, h5⟩ := R.brf i w' q
      have ne : p' ≠ p := fun z => fr i ⟨_, q, rfl⟩ (z ▸ h1)
      exact ⟨p', o', h1, by rw [upd_ne ne]; exact h2, h3, h4, h5.mono (Ex.new fp)⟩
    · by_cases ha : a = p
      · subst ha; exact .inl ⟨w, rfl, rfl⟩
      · rw [upd_ne ha] at h2; exact absurd h1 h2
  | b i =>
    have h' : σ[i]? = some (some v) := h
    have e' : (match env[i]? with | some (.d d) => Rs.ok d env | some (.o w) => Rs.ok w.toD (env.set i (.d w.toD)) | _ => Rs.st) = Rs.ok d env' := e
    cases q : env[i]? with
    | none => rw [q] at e'; cases e'
    | some s =>
      rw [q] at e'
      cases s with
      | non => cases e'
      | r w => cases e'
      | d d' =>
        cases e'
        obtain ⟨u, h1, h2⟩ := R.dat i _ q
        rw [h'] at h1; cases h1
        exact ⟨F, R, h2, Ex.refl F, fun _ h => h, fun a h1 h2 => absurd h1 h2⟩
      | o w =>
        cases e'
        obtain ⟨p, o, h1, fp, hp0, hp, ct⟩ := R.own i w q
        have h1' : σ[i]? = some (some (.ref p)) := h1
        rw [h'] at h1'; cases h1'
        have oi : owns env i := ⟨_, q, rfl⟩
        have il : i < env.length := (List.getElem?_eq_some_iff.mp q).1
        refine ⟨upd F p o, ⟨⟨fun a u q => ?_, R.f0.trans (Ex.new fp), R.h0, R.dm, fun a u q => ?_⟩, by rw [List.length_set]; exact R.len, fun j d' q' => ?_, fun j w' q' => ?_, fun j w' q' => ?_, fun j k r h1 h2 => R.inj j k r (owns_set_d h1).1 (owns_set_d h2).1⟩, ct.rep fp, Ex.new fp, fun j h => (owns_set_d h).1, fun a h1 h2 => ?_⟩
        · by_cases ha : a = p
          · subst ha; rw [upd_same] at q; cases q; exact hp
          · rw [upd_ne ha] at q; exact R.fh _ _ q
        · by_cases ha : a = p
          · subst ha; exact .inr hp0
          · rw [upd_ne ha] at q; exact R.nw _ _ q
        · by_cases hj : i = j
          · subst hj
            rw [List.getElem?_set_self il] at q'; cases q'
            exact ⟨_, h1, ct.rep fp⟩
          · rw [List.getElem?_set_ne hj] at q'
            obtain ⟨u, h1, h2⟩ := R.dat j d' q'
            exact ⟨u, h1, Rep.mono (Ex.new fp) _ h2⟩
        · have oj : owns (env.set i (.d w.toD)) j := ⟨_, q', rfl⟩
          obtain ⟨oj1, nj⟩ := owns_set_d oj
          rw [List.getElem?_set_ne (Ne.symm nj)] at q'
          obtain ⟨p', o', k1, k2, k3, k4, k5⟩ := R.own j w' q'
          have ne : p' ≠ p := fun z => nj (R.inj j i p oj1 oi (z ▸ k1) h1)
          exact ⟨p', o', k1, by rw [upd_ne ne]; exact k2, k3, k4, k5.mono (Ex.new fp)⟩
        · have oj : owns (env.set i (.d w.toD)) j := ⟨_, q', rfl⟩
          obtain ⟨oj1, nj⟩ := owns_set_d oj
          rw [List.getElem?_set_ne (Ne.symm nj)] at q'
          obtain ⟨p', o', k1, k2, k3, k4, k5⟩ := R.brf j w' q'
          have ne : p' ≠ p := fun z => nj (R.inj j i p oj1 oi (z ▸ k1) h1)
          exact ⟨p', o', k1, by rw [upd_ne ne]; exact k2, k3, k4, k5.mono (Ex.new fp)⟩
        · by_cases ha : a = p
          · subst ha; exact .inr ⟨i, oi, h1⟩
          · rw [upd_ne ha] at h2; exact absurd h1 h2
theorem Stp.frz {F1 H1 F2 : Hp} {env1 env2 : En} (s : Stp σ env F H env1 F1 H1) (n : Nw H v t) (ex : Ex F1 F2) (ow : ∀ i, owns env2 i → owns env1 i)
    (k : ∀ a, F1 a = none → F2 a ≠ none → (∃ w, t = .t w ∧ v = .ref a) ∨ ∃ i, owns env1 i ∧ At σ i a) : Stp σ env F H env2 F2 H1 where
  ex := s.ex.trans ex
  keep := s.keep
  tmp := fun a o h f e => by
    have e1 := s.tmp a o h f e
    cases q : F2 a with
    | none => rfl
    | some u =>
      rcases k a e1 (by rw [q]; exact fun z => by cases z) with ⟨w, rfl, rfl⟩ | ⟨i, oi, ai⟩
      · have z : H a = none := n a rfl
        rw [z] at h; cases h
      · exact absurd ai (f i (s.ow i oi))
  ow := fun i h => s.ow i (ow i h)
  dm := s.dm
end

/-! ### expressions -/
def varM (i : Nat) : EM := fun env => match env[i]? with
  | some (.d d) => .ok (.v d) env
  | some (.o _) => .ok (.b i) env
  | some (.r _) => .ok (.b i) env
  | _ => .st
theorem Post.same {g : G} {c : Cb} {σ : St} {env : En} {F H : Hp} {W : WX} {Q : VK} {t : Tv} {v : V} (R : Rel g c σ env F H) (P : Post g c W σ env F H Q (.ok t env)) (h : Tok g c σ env F H v t) (n : Nw H v t) : Q v H :=
  P v F H R (Stp.refl σ env F H) h n
theorem se_var {g : G} {W : WX} {i : Nat} : SE g W (tVar i) (varM i) := fun c σ env F H Q R P => by
  unfold varM at P
  cases q : env[i]? with
  | none => rw [q] at P; exact P.elim
  | some s =>
    rw [q] at P
    cases s with
    | non => exact P.elim
    | d d =>
      obtain ⟨v, h1, h2⟩ := R.dat i d q
      exact ⟨v, h1, P.same R h2 trivial⟩
    | o w =>
      obtain ⟨p, o, h1, _⟩ := R.own i w q
      exact ⟨.ref p, h1, P.same R h1 trivial⟩
    | r w =>
      obtain ⟨p, o, h1, _⟩ := R.brf i w q
      exact ⟨.ref p, h1, P.same R h1 trivial⟩
def cM (d : D) : EM := fun env => .ok (.v d) env
/-- a constant's data and value -/
def Flat : D → V → Prop
  | .non, .non => True
  | .bl b, .bl c => b = c
  | .int b, .int c => b = c
  | .str b, .str c => b = c
  | _, _ => False
theorem Flat.rep {g : G} {F : Hp} {d : D} {v : V} (h : Flat d v) : Rep g F d v := by
  cases d <;> cases v <;> first
    | exact False.elim h
    | rfl
    | (have h' := show _ = _ from h; subst h'; rfl)
theorem se_c {g : G} {W : WX} {d : D} {v : V} (h : Flat d v) : SE g W (tC v) (cM d) := fun c σ env F H Q R P => P.same R h.rep trivial

/-- two in a row, then what is made of both -/
def two (m1 m2 : EM) (k : Tv → Tv → EM) : EM := fun env => (m1 env).bind fun t1 e1 => (m2 e1).bind fun t2 e2 => k t1 t2 e2
theorem se_two {g : G} {W : WX} {ta tb : TE} {m1 m2 : EM} (h1 : SE g W ta m1) (h2 : SE g W tb m2) {k : Tv → Tv → EM} {c : Cb} {σ : St} {env : En} {F H : Hp} {Q : VK} {R0 : V → V → Hp → Prop}
    (R : Rel g c σ env F H) (P : Post g c W σ env F H Q (two m1 m2 k env))
    (fin : ∀ x y t1 t2 e2 F2 H2, Rel g c σ e2 F2 H2 → Stp σ env F H e2 F2 H2 → Tok g c σ e2 F2 H2 x t1 → Tok g c σ e2 F2 H2 y t2 → Nw H x t1 → Nw H y t2 → (∀ w u p, t1 = .t w → t2 = .t u → x = .ref p → y = .ref p → False) →
      Post g c W σ e2 F2 H2 Q (k t1 t2 e2) → R0 x y H2) : ta σ H fun x H1 => tb σ H1 fun y H2 => R0 x y H2 := by
  refine h1 c σ env F H _ R ?_
  unfold two at P
  cases q1 : m1 env with
  | st => rw [q1] at P; exact P
  | ex cl fs e1 => rw [q1] at P; exact P
  | ok t1 e1 =>
    rw [q1] at P
    intro x F1 H1 R1 s1 k1 n1
    refine h2 c σ e1 F1 H1 _ R1 ?_
    have P1 : Post g c W σ env F H Q ((m2 e1).bind fun t2 e2 => k t1 t2 e2) := P
    cases q2 : m2 e1 with
    | st => rw [q2] at P1; exact P1
    | ex cl fs e2 => rw [q2] at P1; exact P1
    | ok t2 e2 =>
      rw [q2] at P1
      intro y F2 H2 R2 s2 k2 n2
      refine fin x y t1 t2 e2 F2 H2 R2 (s1.trans s2) (k1.step s2) k2 n1 (n2.step s1) (fun w u p et1 et2 ex ey => ?_) (Post.from (s1.trans s2) P1)
      subst et1 et2
      obtain ⟨p1, o1, e1', _, _, _, hp1, _⟩ := k1
      rw [ex] at e1'; cases e1'
      rw [n2 p ey] at hp1; cases hp1

/-- a primitive of two values -/
def P2 (g : G) (r : R2) (fn : D → D → Option Tv) : Prop := ∀ (F H : Hp) (d e : D) (x y : V) (t : Tv) (Q : VK), Ex F H → Vw g F H d x → Vw g F H e y → fn d e = some t →
  (∀ v F' H', Gr F H F' H' → NTok g H F' H' v t → Q v H') → r x y H Q
def P1 (g : G) (r : V → Hp → VK → Prop) (fn : D → Option Tv) : Prop := ∀ (F H : Hp) (d : D) (x : V) (t : Tv) (Q : VK), Ex F H → Vw g F H d x → fn d = some t →
  (∀ v F' H', Gr F H F' H' → NTok g H F' H' v t → Q v H') → r x H Q
def app2 (fn : D → D → Option Tv) : Tv → Tv → EM := fun t1 t2 env => match view env t1, view env t2 with
  | some d, some e => match fn d e with
    | some t => .ok t env
    | none => .st
  | _, _ => .st
def app1 (fn : D → Option Tv) : Tv → EM := fun t1 env => match view env t1 with
  | some d => match fn d with
    | some t => .ok t env
    | none => .st
  | _ => .st
def opM (fn : D → D → Option Tv) (m1 m2 : EM) : EM := two m1 m2 (app2 fn)
theorem se_app2 {g : G} {W : WX} {r : R2} {fn : D → D → Option Tv} (p : P2 g r fn) {c : Cb} {σ : St} {env : En} {F H : Hp} {Q : VK} {x y : V} {t1 t2 : Tv} (R : Rel g c σ env F H) (k1 : Tok g c σ env F H x t1) (k2 : Tok g c σ env F H y t2)
    (P : Post g c W σ env F H Q (app2 fn t1 t2 env)) : r x y H Q := by
  unfold app2 at P
  cases q1 : view env t1 with
  | none => rw [q1] at P; exact P.elim
  | some d =>
    cases q2 : view env t2 with
    | none => rw [q1, q2] at P; exact P.elim
    | some e =>
      rw [q1, q2] at P
      cases q3 : fn d e with
      | none => simp only [q3] at P; exact P.elim
      | some t =>
        simp only [q3] at P
        exact p F H d e x y t Q R.fh (R.view k1 q1) (R.view k2 q2) q3 (Post.prim R P)
theorem se_op {g : G} {W : WX} {r : R2} {fn : D → D → Option Tv} {ta tb : TE} {m1 m2 : EM} (p : P2 g r fn) (h1 : SE g W ta m1) (h2 : SE g W tb m2) : SE g W (tOp r ta tb) (opM fn m1 m2) := fun c σ env F H Q R P =>
  se_two h1 h2 R P fun x y t1 t2 e2 F2 H2 R2 s k1 k2 _ _ _ P2 => se_app2 p R2 k1 k2 P2
def one (m1 : EM) (k : Tv → EM) : EM := fun env => (m1 env).bind k
theorem se_one {g : G} {W : WX} {ta : TE} {m1 : EM} (h1 : SE g W ta m1) {k : Tv → EM} {c : Cb} {σ : St} {env : En} {F H : Hp} {Q : VK} {R0 : V → Hp → Prop}
    (R : Rel g c σ env F H) (P : Post g c W σ env F H Q (one m1 k env))
    (fin : ∀ x t1 e1 F1 H1, Rel g c σ e1 F1 H1 → Stp σ env F H e1 F1 H1 → Tok g c σ e1 F1 H1 x t1 → Nw H x t1 → Post g c W σ e1 F1 H1 Q (k t1 e1) → R0 x H1) : ta σ H R0 := by
  refine h1 c σ env F H _ R ?_
  unfold one at P
  cases q1 : m1 env with
  | st => rw [q1] at P; exact P
  | ex cl fs e1 => rw [q1] at P; exact P
  | ok t1 e1 =>
    rw [q1] at P
    intro x F1 H1 R1 s1 k1 n1
    exact fin x t1 e1 F1 H1 R1 s1 k1 n1 (Post.from s1 P)
theorem se_app1 {g : G} {W : WX} {r : V → Hp → VK → Prop} {fn : D → Option Tv} (p : P1 g r fn) {c : Cb} {σ : St} {env : En} {F H : Hp} {Q : VK} {x : V} {t1 : Tv} (R : Rel g c σ env F H) (k1 : Tok g c σ env F H x t1)
    (P : Post g c W σ env F H Q (app1 fn t1 env)) : r x H Q := by
  unfold app1 at P
  cases q1 : view env t1 with
  | none => rw [q1] at P; exact P.elim
  | some d =>
    rw [q1] at P
    cases q3 : fn d with
    | none => simp only [q3] at P; exact P.elim
    | some t =>
      simp only [q3] at P
      exact p F H d x t Q R.fh (R.view k1 q1) q3 (Post.prim R P)
def unM (fn : D → Option Tv) (m : EM) : EM := one m (app1 fn)
theorem se_un {g : G} {W : WX} {r : V → Hp → VK → Prop} {fn : D → Option Tv} {ta : TE} {m1 : EM} (p : P1 g r fn) (h1 : SE g W ta m1) : SE g W (tUn r ta) (unM fn m1) := fun c σ env F H Q R P =>
  se_one h1 R P fun x t1 e1 F1 H1 R1 s k1 _ P1 => se_app1 p R1 k1 P1

/-! ### tests -/
def PostT (g : G) (c : Cb) (W : WX) (σ : St) (env : En) (F H : Hp) (Q : Bool → Hp → Prop) : Rs Bool → Prop
  | .ok b env' => ∀ F' H', Rel g c σ env' F' H' → Stp σ env F H env' F' H' → Q b H'
  | .ex cl fs env' => PostX g c W σ cl fs env'
  | .st => False
abbrev TM := En → Rs Bool
def STt (g : G) (W : WX) (tt : TT) (m : TM) : Prop := ∀ (c : Cb) (σ : St) (env : En) (F H : Hp) (Q : Bool → Hp → Prop), Rel g c σ env F H → PostT g c W σ env F H Q (m env) → tt σ H Q
theorem PostT.from {g : G} {c : Cb} {W : WX} {σ : St} {env env0 : En} {F H F0 H0 : Hp} {Q : Bool → Hp → Prop} {r : Rs Bool} (s : Stp σ env0 F0 H0 env F H) (P : PostT g c W σ env0 F0 H0 Q r) : PostT g c W σ env F H Q r := by
  cases r with
  | ok t e' => exact fun F' H' R' s' => P F' H' R' (s.trans s')
  | ex cl fs e' => exact P
  | st => exact P
/-- a value that is a bool, as a test -/
def testM (m : EM) : TM := fun env => (m env).bind fun t e => match t with
  | .v (.bl b) => .ok b e
  | _ => .st
theorem st_val {g : G} {W : WX} {te : TE} {m : EM} (h : SE g W te m) : STt g W (tTest te) (testM m) := fun c σ env F H Q R P => by
  refine h c σ env F H _ R ?_
  unfold testM at P
  cases q : m env with
  | st => rw [q] at P; exact P
  | ex cl fs e1 => rw [q] at P; exact P
  | ok t e1 =>
    rw [q] at P
    intro v F' H' R' s' k n
    cases t with
    | v d =>
      cases d with
      | bl b => exact ⟨b, k, P F' H' R' s'⟩
      | _ => exact (show False from P).elim
    | _ => exact (show False from P).elim
theorem st_B {g : G} {W : WX} {te : TE} {m : EM} (h : SE g W te m) : STt g W (tB te) (testM m) := st_val h
/-- what is truth -/
def truth : D → Option Bool
  | .non => some false
  | .bl b => some b
  | .int i => some (i != 0)
  | .str s => if s.length ≤ 100000 then some (s.length != 0) else none
  | .lst xs => some (!xs.isEmpty)
  | .tup xs => some (!xs.isEmpty)
  | _ => none
def andT (m1 m2 : TM) : TM := fun env => (m1 env).bind fun b e => if b = true then m2 e else .ok false e
def orT (m1 m2 : TM) : TM := fun env => (m1 env).bind fun b e => if b = true then .ok true e else m2 e
def notT (m : TM) : TM := fun env => (m env).bind fun b e => .ok (!b) e
def bindT {α : Type} (m : TM) (f : Bool → En → Rs α) : En → Rs α := fun env => (m env).bind f
theorem st_bind {g : G} {W : WX} {tt : TT} {m1 : TM} (h : STt g W tt m1) {c : Cb} {σ : St} {env : En} {F H : Hp} {k : Bool → TM} {Q : Bool → Hp → Prop} {R0 : Bool → Hp → Prop} (R : Rel g c σ env F H) (P : PostT g c W σ env F H Q (bindT m1 k env))
    (fin : ∀ b e1 F1 H1, Rel g c σ e1 F1 H1 → Stp σ env F H e1 F1 H1 → PostT g c W σ e1 F1 H1 Q (k b e1) → R0 b H1) : tt σ H R0 := by
  refine h c σ env F H _ R ?_
  unfold bindT at P
  cases q : m1 env with
  | st => rw [q] at P; exact P
  | ex cl fs e1 => rw [q] at P; exact P
  | ok b e1 =>
    rw [q] at P
    intro F1 H1 R1 s1
    exact fin b e1 F1 H1 R1 s1 (PostT.from s1 P)
theorem st_and {g : G} {W : WX} {t u : TT} {m1 m2 : TM} (h1 : STt g W t m1) (h2 : STt g W u m2) : STt g W (tAnd t u) (andT m1 m2) := fun c σ env F H Q R P =>
  st_bind h1 (k := fun b e => if b = true then m2 e else .ok false e) R P fun b e1 F1 H1 R1 s1 P1 => by
    cases b with
    | true => exact h2 c σ e1 F1 H1 Q R1 P1
    | false => exact P1 F1 H1 R1 (Stp.refl ..)
theorem st_or {g : G} {W : WX} {t u : TT} {m1 m2 : TM} (h1 : STt g W t m1) (h2 : STt g W u m2) : STt g W (tOr t u) (orT m1 m2) := fun c σ env F H Q R P =>
  st_bind h1 (k := fun b e => if b = true then .ok true e else m2 e) R P fun b e1 F1 H1 R1 s1 P1 => by
    cases b with
    | false => exact h2 c σ e1 F1 H1 Q R1 P1
    | true => exact P1 F1 H1 R1 (Stp.refl ..)
theorem st_not {g : G} {W : WX} {t : TT} {m1 : TM} (h1 : STt g W t m1) : STt g W (tNot t) (notT m1) := fun c σ env F H Q R P =>
  st_bind h1 (k := fun b e => .ok (!b) e) R P fun b e1 F1 H1 R1 s1 P1 => P1 F1 H1 R1 (Stp.refl ..)
/-- a if t else b -/
def ifM (t : TM) (m1 m2 : EM) : EM := bindT t fun b => if b = true then m1 else m2
theorem st_bindE {g : G} {W : WX} {tt : TT} {m1 : TM} (h : STt g W tt m1) {c : Cb} {σ : St} {env : En} {F H : Hp} {k : Bool → EM} {Q : VK} {R0 : Bool → Hp → Prop} (R : Rel g c σ env F H) (P : Post g c W σ env F H Q (bindT m1 k env))
    (fin : ∀ b e1 F1 H1, Rel g c σ e1 F1 H1 → Stp σ env F H e1 F1 H1 → Post g c W σ e1 F1 H1 Q (k b e1) → R0 b H1) : tt σ H R0 := by
  refine h c σ env F H _ R ?_
  unfold bindT at P
  cases q : m1 env with
  | st => rw [q] at P; exact P
  | ex cl fs e1 => rw [q] at P; exact P
  | ok b e1 =>
    rw [q] at P
    intro F1 H1 R1 s1
    exact fin b e1 F1 H1 R1 s1 (Post.from s1 P)
theorem se_if {g : G} {W : WX} {t : TT} {ta tb : TE} {m : TM} {m1 m2 : EM} (h : STt g W t m) (h1 : SE g W ta m1) (h2 : SE g W tb m2) : SE g W (tIf t ta tb) (ifM m m1 m2) := fun c σ env F H Q R P =>
  st_bindE h (k := fun b => if b = true then m1 else m2) R P fun b e1 F1 H1 R1 s1 P1 => by
    cases b with
    | true => exact h1 c σ e1 F1 H1 Q R1 P1
    | false => exact h2 c σ e1 F1 H1 Q R1 P1
/-- and, or, not as values -/
def andV (m1 m2 : EM) : EM := bindT (testM m1) fun b => if b = true then m2 else cM (.bl false)
def orV (m1 m2 : EM) : EM := bindT (testM m1) fun b => if b = true then cM (.bl true) else m2
def notV (m : EM) : EM := bindT (testM m) fun b => cM (.bl (!b))
theorem se_andV {g : G} {W : WX} {ta tb : TE} {m1 m2 : EM} (h1 : SE g W ta m1) (h2 : SE g W tb m2) : SE g W (tAndV ta tb) (andV m1 m2) := fun c σ env F H Q R P =>
  st_bindE (st_val h1) (k := fun b => if b = true then m2 else cM (.bl false)) R P fun b e1 F1 H1 R1 s1 P1 => by
    cases b with
    | true => exact h2 c σ e1 F1 H1 Q R1 P1
    | false => exact Post.same R1 P1 (v := .bl false) (rfl : V.bl false = .bl false) trivial
theorem se_orV {g : G} {W : WX} {ta tb : TE} {m1 m2 : EM} (h1 : SE g W ta m1) (h2 : SE g W tb m2) : SE g W (tOrV ta tb) (orV m1 m2) := fun c σ env F H Q R P =>
  st_bindE (st_val h1) (k := fun b => if b = true then cM (.bl true) else m2) R P fun b e1 F1 H1 R1 s1 P1 => by
    cases b with
    | false => exact h2 c σ e1 F1 H1 Q R1 P1
    | true => exact Post.same R1 P1 (v := .bl true) (rfl : V.bl true = .bl true) trivial
theorem se_notV {g : G} {W : WX} {ta : TE} {m1 : EM} (h1 : SE g W ta m1) : SE g W (tNotV ta) (notV m1) := fun c σ env F H Q R P =>
  st_bindE (st_val h1) (k := fun b => cM (.bl (!b))) R P fun b e1 F1 H1 R1 s1 P1 => Post.same R1 P1 (v := .bl (!b)) (rfl : V.bl (!b) = .bl (!b)) trivial
end PL
namespace PL
open PySem L2
/-! ### argument lists: values on their way -/
def Toks (g : G) (c : Cb) (σ : St) (env : En) (F H : Hp) : List V → List Tv → Prop
  | [], [] => True
  | v :: vs, t :: ts => Tok g c σ env F H v t ∧ Toks g c σ env F H vs ts
  | _, _ => False
theorem Toks.step {g : G} {c : Cb} {σ : St} {env env' : En} {F H F' H' : Hp} (s : Stp σ env F H env' F' H') : ∀ {vs : List V} {ts : List Tv}, Toks g c σ env F H vs ts → Toks g c σ env' F' H' vs ts
  | [], [], _ => trivial
  | v :: vs, t :: ts, h => ⟨h.1.step s, Toks.step s h.2⟩
  | [], _ :: _, h => h.elim
  | _ :: _, [], h => h.elim
abbrev AM := En → Rs (List Tv)
def PostA (g : G) (c : Cb) (W : WX) (σ : St) (env : En) (F H : Hp) (Q : List V → Hp → Prop) : Rs (List Tv) → Prop
  | .ok ts env' => ∀ vs F' H', Rel g c σ env' F' H' → Stp σ env F H env' F' H' → Toks g c σ env' F' H' vs ts → Q vs H'
  | .ex cl fs env' => PostX g c W σ cl fs env'
  | .st => False
def SA (g : G) (W : WX) (ta : TA) (m : AM) : Prop := ∀ (c : Cb) (σ : St) (env : En) (F H : Hp) (Q : List V → Hp → Prop), Rel g c σ env F H → PostA g c W σ env F H Q (m env) → ta σ H Q
theorem PostA.from {g : G} {c : Cb} {W : WX} {σ : St} {env env0 : En} {F H F0 H0 : Hp} {Q : List V → Hp → Prop} {r : Rs (List Tv)} (s : Stp σ env0 F0 H0 env F H) (P : PostA g c W σ env0 F0 H0 Q r) : PostA g c W σ env F H Q r := by
  cases r with
  | ok t e' => exact fun vs F' H' R' s' k => P vs F' H' R' (s.trans s') k
  | ex cl fs e' => exact P
  | st => exact P
def nilA : AM := fun env => .ok [] env
def consA (m : EM) (ma : AM) : AM := fun env => (m env).bind fun t e => (ma e).bind fun ts e2 => .ok (t :: ts) e2
theorem sa_nil {g : G} {W : WX} : SA g W tNil nilA := fun c σ env F H Q R P => P [] F H R (Stp.refl ..) trivial
theorem sa_cons {g : G} {W : WX} {te : TE} {ta : TA} {m : EM} {ma : AM} (h1 : SE g W te m) (h2 : SA g W ta ma) : SA g W (tCons te ta) (consA m ma) := fun c σ env F H Q R P => by
  refine h1 c σ env F H _ R ?_
  unfold consA at P
  cases q1 : m env with
  | st => rw [q1] at P; exact P
  | ex cl fs e1 => rw [q1] at P; exact P
  | ok t e1 =>
    rw [q1] at P
    have P' : PostA g c W σ env F H Q ((ma e1).bind fun ts e2 => .ok (t :: ts) e2) := P
    intro v F1 H1 R1 s1 k1 n1
    refine h2 c σ e1 F1 H1 _ R1 ?_
    cases q2 : ma e1 with
    | st => rw [q2] at P'; exact P'
    | ex cl fs e2 => rw [q2] at P'; exact P'
    | ok ts e2 =>
      rw [q2] at P'
      have P2 : PostA g c W σ env F H Q (.ok (t :: ts) e2) := P'
      intro vs F2 H2 R2 s2 k2
      exact P2 (v :: vs) F2 H2 R2 (s1.trans s2) ⟨k1.step s2, k2⟩
/-! ### argument lists: frozen -/
abbrev FM := En → Rs (List D)
def PostF (g : G) (c : Cb) (W : WX) (σ : St) (env : En) (F H : Hp) (Q : List V → Hp → Prop) : Rs (List D) → Prop
  | .ok ds env' => ∀ vs F' H', Rel g c σ env' F' H' → Stp σ env F H env' F' H' → Reps g F' ds vs → Q vs H'
  | .ex cl fs env' => PostX g c W σ cl fs env'
  | .st => False
def SF (g : G) (W : WX) (ta : TA) (m : FM) : Prop := ∀ (c : Cb) (σ : St) (env : En) (F H : Hp) (Q : List V → Hp → Prop), Rel g c σ env F H → PostF g c W σ env F H Q (m env) → ta σ H Q
theorem PostF.from {g : G} {c : Cb} {W : WX} {σ : St} {env env0 : En} {F H F0 H0 : Hp} {Q : List V → Hp → Prop} {r : Rs (List D)} (s : Stp σ env0 F0 H0 env F H) (P : PostF g c W σ env0 F0 H0 Q r) : PostF g c W σ env F H Q r := by
  cases r with
  | ok t e' => exact fun vs F' H' R' s' k => P vs F' H' R' (s.trans s') k
  | ex cl fs e' => exact P
  | st => exact P
def nilF : FM := fun env => .ok [] env
def consF (m : EM) (ma : FM) : FM := fun env => (m env).bind fun t e => (frz t e).bind fun d e1 => (ma e1).bind fun ds e2 => .ok (d :: ds) e2
theorem sf_nil {g : G} {W : WX} : SF g W tNil nilF := fun c σ env F H Q R P => P [] F H R (Stp.refl ..) rfl
/-- an expression, its value frozen -/
def PostD (g : G) (c : Cb) (W : WX) (σ : St) (env : En) (F H : Hp) (Q : VK) : Rs D → Prop
  | .ok d env' => ∀ v F' H', Rel g c σ env' F' H' → Stp σ env F H env' F' H' → Rep g F' d v → Q v H'
  | .ex cl fs env' => PostX g c W σ cl fs env'
  | .st => False
abbrev DM := En → Rs D
def SD (g : G) (W : WX) (te : TE) (m : DM) : Prop := ∀ (c : Cb) (σ : St) (env : En) (F H : Hp) (Q : VK), Rel g c σ env F H → PostD g c W σ env F H Q (m env) → te σ H Q
theorem frz_ex {t : Tv} {e e2 : En} {cl : Nat} {fs : List (Str × D)} (h : frz t e = .ex cl fs e2) : False := by
  unfold frz at h
  split at h
  · cases h
  · cases h
  · split at h <;> cases h
def fzM (m : EM) : DM := fun env => (m env).bind frz
theorem sd_fz {g : G} {W : WX} {te : TE} {m : EM} (h : SE g W te m) : SD g W te (fzM m) := fun c σ env F H Q R P => by
  refine h c σ env F H _ R ?_
  unfold fzM at P
  cases q1 : m env with
  | st => rw [q1] at P; exact P
  | ex cl fs e1 => rw [q1] at P; exact P
  | ok t e1 =>
    rw [q1] at P
    have P' : PostD g c W σ env F H Q (frz t e1) := P
    intro v F1 H1 R1 s1 k1 n1
    cases q2 : frz t e1 with
    | st => rw [q2] at P'; exact P'.elim
    | ex cl fs e2 =>
      exact (frz_ex q2).elim
    | ok d e2 =>
      rw [q2] at P'
      obtain ⟨F2, R2, r2, x2, o2, n2⟩ := R1.frz k1 q2
      exact P' v F2 H1 R2 (s1.frz n1 x2 o2 n2) r2
theorem PostD.from {g : G} {c : Cb} {W : WX} {σ : St} {env env0 : En} {F H F0 H0 : Hp} {Q : VK} {r : Rs D} (s : Stp σ env0 F0 H0 env F H) (P : PostD g c W σ env0 F0 H0 Q r) : PostD g c W σ env F H Q r := by
  cases r with
  | ok t e' => exact fun vs F' H' R' s' k => P vs F' H' R' (s.trans s') k
  | ex cl fs e' => exact P
  | st => exact P
def consD (m : DM) (ma : FM) : FM := fun env => (m env).bind fun d e1 => (ma e1).bind fun ds e2 => .ok (d :: ds) e2
theorem consF_eq (m : EM) (ma : FM) : consF m ma = consD (fzM m) ma := by
  funext env
  unfold consF consD fzM
  cases m env <;> rfl
theorem sf_consD {g : G} {W : WX} {te : TE} {ta : TA} {m : DM} {ma : FM} (h1 : SD g W te m) (h2 : SF g W ta ma) : SF g W (tCons te ta) (consD m ma) := fun c σ env F H Q R P => by
  refine h1 c σ env F H _ R ?_
  unfold consD at P
  cases q1 : m env with
  | st => rw [q1] at P; exact P
  | ex cl fs e1 => rw [q1] at P; exact P
  | ok t e1 =>
    rw [q1] at P
    have P' : PostF g c W σ env F H Q ((ma e1).bind fun ts e2 => .ok (t :: ts) e2) := P
    intro v F1 H1 R1 s1 k1
    refine h2 c σ e1 F1 H1 _ R1 ?_
    cases q2 : ma e1 with
    | st => rw [q2] at P'; exact P'
    | ex cl fs e2 => rw [q2] at P'; exact P'
    | ok ts e2 =>
      rw [q2] at P'
      have P2 : PostF g c W σ env F H Q (.ok (t :: ts) e2) := P'
      intro vs F2 H2 R2 s2 k2
      exact P2 (v :: vs) F2 H2 R2 (s1.trans s2) ⟨v, vs, rfl, Rep.mono s2.ex t k1, k2⟩
theorem sf_cons {g : G} {W : WX} {te : TE} {ta : TA} {m : EM} {ma : FM} (h1 : SE g W te m) (h2 : SF g W ta ma) : SF g W (tCons te ta) (consF m ma) := by
  rw [consF_eq]
  exact sf_consD (sd_fz h1) h2

/-! ### new lists, new tuples -/
def lstM (mf : FM) : EM := fun env => (mf env).bind fun ds e => if ds.length ≤ 100000 then .ok (.t (.L ds)) e else .st
def tupM (mf : FM) : EM := fun env => (mf env).bind fun ds e => if ds.length ≤ 100000 then .ok (.v (.tup ds)) e else .st
theorem sz_of {n : Nat} (h : n ≤ 100000) : n ≤ sizeLine := Nat.le_trans h (by decide)
theorem se_lst {g : G} {W : WX} {ta : TA} {m : FM} (h : SF g W ta m) : SE g W (tLst ta) (lstM m) := fun c σ env F H Q R P => by
  refine h c σ env F H _ R ?_
  unfold lstM at P
  cases q1 : m env with
  | st => rw [q1] at P; exact P
  | ex cl fs e1 => rw [q1] at P; exact P
  | ok ds e1 =>
    rw [q1] at P
    intro vs F1 H1 R1 s1 k1
    have P' : Post g c W σ env F H Q (if ds.length ≤ 100000 then .ok (.t (.L ds)) e1 else .st) := P
    by_cases hl : ds.length ≤ 100000
    · rw [if_pos hl] at P'
      refine ⟨sz_of (k1.length ▸ hl), fun p hp => ?_⟩
      refine Post.prim R1 (Post.from s1 P') (.ref p) F1 _ (Gr.tmp R1.fh hp) ⟨p, _, rfl, hp, ?_, upd_same, k1⟩
      cases z : F1 p with
      | none => rfl
      | some u => rw [R1.fh _ _ z] at hp; cases hp
    · rw [if_neg hl] at P'; exact P'.elim
theorem se_tup {g : G} {W : WX} {ta : TA} {m : FM} (h : SF g W ta m) : SE g W (tTup ta) (tupM m) := fun c σ env F H Q R P => by
  refine h c σ env F H _ R ?_
  unfold tupM at P
  cases q1 : m env with
  | st => rw [q1] at P; exact P
  | ex cl fs e1 => rw [q1] at P; exact P
  | ok ds e1 =>
    rw [q1] at P
    intro vs F1 H1 R1 s1 k1
    have P' : Post g c W σ env F H Q (if ds.length ≤ 100000 then .ok (.v (.tup ds)) e1 else .st) := P
    by_cases hl : ds.length ≤ 100000
    · rw [if_pos hl] at P'
      refine ⟨sz_of (k1.length ▸ hl), fun p hp => ?_⟩
      have k := Gr.frz (o := .tup vs) R1.fh hp
      exact Post.prim R1 (Post.from s1 P') (.ref p) _ _ k ⟨p, vs, rfl, upd_same, Reps.mono k.ff _ k1⟩
    · rw [if_neg hl] at P'; exact P'.elim

/-! ### calls of built-ins -/
def Vws (g : G) (F H : Hp) : List D → List V → Prop
  | [], [] => True
  | d :: ds, v :: vs => Vw g F H d v ∧ Vws g F H ds vs
  | _, _ => False
def views (env : En) : List Tv → Option (List D)
  | [] => some []
  | t :: ts => match view env t, views env ts with
    | some d, some ds => some (d :: ds)
    | _, _ => none
theorem Rel.views {g : G} {c : Cb} {σ : St} {env : En} {F H : Hp} (R : Rel g c σ env F H) : ∀ {vs : List V} {ts : List Tv} {ds : List D}, Toks g c σ env F H vs ts → views env ts = some ds → Vws g F H ds vs
  | [], [], _, _, e => by cases e; trivial
  | v :: vs, t :: ts, ds, h, e => by
    have e' : (match PL.view env t, PL.views env ts with | some d, some ds => some (d :: ds) | _, _ => none) = some ds := e
    cases q1 : PL.view env t with
    | none => rw [q1] at e'; cases e'
    | some d =>
      cases q2 : PL.views env ts with
      | none => rw [q1, q2] at e'; cases e'
      | some dr =>
        rw [q1, q2] at e'; cases e'
        exact ⟨R.view h.1 q1, R.views h.2 q2⟩
  | [], _ :: _, _, h, _ => h.elim
  | _ :: _, [], _, h, _ => h.elim
def PN (g : G) (r : List V → Hp → VK → Prop) (fn : List D → Option Tv) : Prop := ∀ (F H : Hp) (ds : List D) (xs : List V) (t : Tv) (Q : VK), Ex F H → Vws g F H ds xs → fn ds = some t →
  (∀ v F' H', Gr F H F' H' → NTok g H F' H' v t → Q v H') → r xs H Q
def appN (fn : List D → Option Tv) : List Tv → EM := fun ts env => match views env ts with
  | some ds => match fn ds with
    | some t => .ok t env
    | none => .st
  | none => .st
theorem se_appN {g : G} {W : WX} {r : List V → Hp → VK → Prop} {fn : List D → Option Tv} (p : PN g r fn) {c : Cb} {σ : St} {env : En} {F H : Hp} {Q : VK} {xs : List V} {ts : List Tv} (R : Rel g c σ env F H) (k1 : Toks g c σ env F H xs ts)
    (P : Post g c W σ env F H Q (appN fn ts env)) : r xs H Q := by
  unfold appN at P
  cases q1 : views env ts with
  | none => rw [q1] at P; exact P.elim
  | some ds =>
    rw [q1] at P
    cases q3 : fn ds with
    | none => simp only [q3] at P; exact P.elim
    | some t =>
      simp only [q3] at P
      exact p F H ds xs t Q R.fh (R.views k1 q1) q3 (Post.prim R P)
def cbM (fn : List D → Option Tv) (ma : AM) : EM := fun env => (ma env).bind (appN fn)
theorem se_cb {g : G} {W : WX} {r : List V → Hp → VK → Prop} {fn : List D → Option Tv} {ta : TA} {m : AM} (p : PN g r fn) (h : SA g W ta m) : SE g W (tCB r ta) (cbM fn m) := fun c σ env F H Q R P => by
  refine h c σ env F H _ R ?_
  unfold cbM at P
  cases q1 : m env with
  | st => rw [q1] at P; exact P
  | ex cl fs e1 => rw [q1] at P; exact P
  | ok ts e1 =>
    rw [q1] at P
    intro vs F1 H1 R1 s1 k1
    exact se_appN p R1 k1 (Post.from s1 P)
/-! ### methods of built-in types that change nothing -/
/-- the receiver's type, as data tell it -/
def isT (T : String) : D → Bool
  | .str _ => T == "str"
  | .lst _ => T == "list"
  | .int _ => T == "int"
  | _ => false
def PM (g : G) (T : String) (r : V → List V → Hp → VK → Prop) (fn : D → List D → Option Tv) : Prop := ∀ (F H : Hp) (d : D) (ds : List D) (x : V) (xs : List V) (t : Tv) (Q : VK), Ex F H → Vw g F H d x → Vws g F H ds xs → isT T d = true → fn d ds = some t →
  (∀ v F' H', Gr F H F' H' → NTok g H F' H' v t → Q v H') → r x xs H Q
theorem ty_of {g : G} {F H : Hp} {T : String} {d : D} {x : V} (e : Ex F H) (h : Vw g F H d x) (t : isT T d = true) : tyV g.K T x H := by
  cases d with
  | str s =>
    rcases h with h | ⟨p, o, w, _, _, _, z⟩
    · obtain rfl : x = V.str s := h
      exact beq_iff_eq.mp t
    · cases w <;> cases z
  | int s =>
    rcases h with h | ⟨p, o, w, _, _, _, z⟩
    · obtain rfl : x = V.int s := h
      exact beq_iff_eq.mp t
    · cases w <;> cases z
  | lst ds =>
    have t' : T = "list" := beq_iff_eq.mp t
    subst t'
    rcases h with ⟨a, vs, rfl, s, _⟩ | ⟨p, o, w, rfl, hp, k, z⟩
    · exact .inl ⟨rfl, vs, SqL.of (e _ _ s)⟩
    · cases w with
      | L xs =>
        cases o with
        | lst vs => exact .inl ⟨rfl, vs, SqL.of hp⟩
        | _ => exact k.elim
      | K _ => cases z
      | T _ => cases z
  | _ => cases t
def appM (T : String) (fn : D → List D → Option Tv) : Tv → List Tv → EM := fun t ts env => match view env t, views env ts with
  | some d, some ds => if isT T d = true then match fn d ds with
    | some t => .ok t env
    | none => .st
    else .st
  | _, _ => .st
/-- a receiver whose type is known ahead of the arguments' evaluation -/
def bmM (T : String) (fn : D → List D → Option Tv) (m : EM) (ma : AM) : EM := fun env => (m env).bind fun t e => match view e t with
  | some d0 => if isT T d0 = true then (ma e).bind fun ts e2 => appM T fn t ts e2 else .st
  | none => .st
theorem se_bm {g : G} {W : WX} {T : String} {r : V → List V → Hp → VK → Prop} {fn : D → List D → Option Tv} {te : TE} {ta : TA} {m : EM} {ma : AM} (p : PM g T r fn) (h1 : SE g W te m) (h2 : SA g W ta ma) : SE g W (tBM g.K T r te ta) (bmM T fn m ma) := fun c σ env F H Q R P => by
  refine h1 c σ env F H _ R ?_
  unfold bmM at P
  cases q1 : m env with
  | st => rw [q1] at P; exact P
  | ex cl fs e1 => rw [q1] at P; exact P
  | ok t e1 =>
    rw [q1] at P
    have P' : Post g c W σ env F H Q (match view e1 t with | some d0 => if isT T d0 = true then (ma e1).bind fun ts e2 => appM T fn t ts e2 else .st | none => .st) := P
    intro x F1 H1 R1 s1 k1 n1
    cases q0 : view e1 t with
    | none => rw [q0] at P'; exact P'.elim
    | some d0 =>
      rw [q0] at P'
      have P'' : Post g c W σ env F H Q (if isT T d0 = true then (ma e1).bind fun ts e2 => appM T fn t ts e2 else .st) := P'
      by_cases ht0 : isT T d0 = true
      · rw [if_pos ht0] at P''
        refine ⟨ty_of R1.fh (R1.view k1 q0) ht0, ?_⟩
        refine h2 c σ e1 F1 H1 _ R1 ?_
        cases q2 : ma e1 with
        | st => rw [q2] at P''; exact P''
        | ex cl fs e2 => rw [q2] at P''; exact P''
        | ok ts e2 =>
          rw [q2] at P''
          have P3 : Post g c W σ env F H Q (appM T fn t ts e2) := P''
          intro xs F2 H2 R2 s2 k2
          have P4 := Post.from (s1.trans s2) P3
          unfold appM at P4
          cases q3 : view e2 t with
          | none => rw [q3] at P4; exact P4.elim
          | some d =>
            cases q4 : views e2 ts with
            | none => rw [q3, q4] at P4; exact P4.elim
            | some ds =>
              rw [q3, q4] at P4
              have P5 : Post g c W σ e2 F2 H2 Q (if isT T d = true then match fn d ds with | some t => .ok t e2 | none => .st else .st) := P4
              by_cases ht : isT T d = true
              · rw [if_pos ht] at P5
                cases q5 : fn d ds with
                | none => simp only [q5] at P5; exact P5.elim
                | some t' =>
                  simp only [q5] at P5
                  exact p F2 H2 d ds x xs t' Q R2.fh (R2.view (k1.step s2) q3) (R2.views k2 q4) ht q5 (Post.prim R2 P5)
              · rw [if_neg ht] at P5; exact P5.elim
      · rw [if_neg ht0] at P''; exact P''.elim
def bm0M (T : String) (fn : D → Option Tv) (m : EM) : EM := fun env => (m env).bind fun t e => match view e t with
  | some d => if isT T d = true then match fn d with
    | some t => .ok t e
    | none => .st
    else .st
  | none => .st
def PM0 (g : G) (T : String) (r : V → List V → Hp → VK → Prop) (fn : D → Option Tv) : Prop := ∀ (F H : Hp) (d : D) (x : V) (t : Tv) (Q : VK), Ex F H → Vw g F H d x → isT T d = true → fn d = some t →
  (∀ v F' H', Gr F H F' H' → NTok g H F' H' v t → Q v H') → r x [] H Q
theorem se_bm0 {g : G} {W : WX} {T : String} {r : V → List V → Hp → VK → Prop} {fn : D → Option Tv} {te : TE} {m : EM} (p : PM0 g T r fn) (h1 : SE g W te m) : SE g W (tBM0 g.K T r te) (bm0M T fn m) := fun c σ env F H Q R P => by
  refine h1 c σ env F H _ R ?_
  unfold bm0M at P
  cases q1 : m env with
  | st => rw [q1] at P; exact P
  | ex cl fs e1 => rw [q1] at P; exact P
  | ok t e1 =>
    rw [q1] at P
    intro x F1 H1 R1 s1 k1 n1
    have P4 : Post g c W σ e1 F1 H1 Q (match view e1 t with | some d => if isT T d = true then match fn d with | some t => .ok t e1 | none => .st else .st | none => .st) := Post.from s1 P
    cases q3 : view e1 t with
    | none => simp only [q3] at P4; exact P4.elim
    | some d =>
      simp only [q3] at P4
      by_cases ht : isT T d = true
      · rw [if_pos ht] at P4
        cases q5 : fn d with
        | none => simp only [q5] at P4; exact P4.elim
        | some t' =>
          simp only [q5] at P4
          exact ⟨ty_of R1.fh (R1.view k1 q3) ht, p F1 H1 d x t' Q R1.fh (R1.view k1 q3) ht q5 (Post.prim R1 P4)⟩
      · rw [if_neg ht] at P4; exact P4.elim

/-! ### what a def promises -/
inductive Rv where
  | v (d : D) | n (w : Ow)
inductive Dr where
  | ok (v : Rv) (args : List Sl) | ex (c : Nat) (fs : List (Str × D)) (args : List Sl) | st
abbrev DFun := List Sl → Dr
/-- the arguments, as they stand -/
def ArgAt (g : G) (P : Nat → Addr) (F H : Hp) (i : Nat) (v : V) : Sl → Prop
  | .d d => Rep g F d v
  | .r w => v = .ref (P i) ∧ F (P i) = none ∧ ∃ o, H (P i) = some o ∧ Cont g F o w
  | _ => False
def ArgsAt (g : G) (P : Nat → Addr) (F H : Hp) : Nat → List V → List Sl → Prop
  | _, [], [] => True
  | i, v :: vs, s :: ss => ArgAt g P F H i v s ∧ ArgsAt g P F H (i + 1) vs ss
  | _, _, _ => False
def isR : Sl → Bool
  | .r _ => true
  | _ => false
def Bof (P : Nat → Addr) (args : List Sl) : Addr → Prop := fun a => ∃ i s, args[i]? = some s ∧ isR s = true ∧ a = P i
def RvOk (g : G) (H F' H' : Hp) (v : V) : Rv → Prop
  | .v d => Rep g F' d v
  | .n w => ∃ p o, v = .ref p ∧ H p = none ∧ F' p = none ∧ H' p = some o ∧ Cont g F' o w
def spD (g : G) (f : DFun) : Sp := fun vs H Q E => ∃ (F : Hp) (P : Nat → Addr) (args : List Sl), Ex F H ∧ ArgsAt g P F H 0 vs args ∧
  (∀ (i j : Nat) s t, args[i]? = some s → args[j]? = some t → isR s = true → isR t = true → P i = P j → i = j) ∧
  match f args with
  | .ok rv args' => ∀ v F' H', Lv ⟨Bof P args, P, H, F⟩ F' H' → ArgsAt g P F' H' 0 vs args' → RvOk g H F' H' v rv → Q v H'
  | .ex cl fs args' => ∀ d F' H', Lv ⟨Bof P args, P, H, F⟩ F' H' → ArgsAt g P F' H' 0 vs args' → XF g H F' H' d fs → E (.ref (g.cls cl)) (some d) H'
  | .st => False
end PL
namespace PL
open PySem L2
inductive Sr where
  | nx (env : En) | bk (env : En) | ct (env : En) | rt (t : Tv) (env : En) | ex (c : Nat) (fs : List (Str × D)) (env : En) | st
abbrev SM := En → Sr
def PostS (g : G) (c : Cb) (W : WX) (F : Hp) (D : Ends) : Sr → Prop
  | .nx env' => ∀ σ' F' H', Rel g c σ' env' F' H' → Ex F F' → D.nx σ' H'
  | .bk env' => ∀ σ' F' H', Rel g c σ' env' F' H' → Ex F F' → D.bk σ' H'
  | .ct env' => ∀ σ' F' H', Rel g c σ' env' F' H' → Ex F F' → D.ct σ' H'
  | .rt t env' => ∀ v σ' F' H', Rel g c σ' env' F' H' → Tok g c σ' env' F' H' v t → D.rt v H'
  | .ex cl fs env' => ∀ σ', PostX g c W σ' cl fs env'
  | .st => False
def SS (g : G) (W : WX) (ts : TS) (m : SM) : Prop := ∀ (c : Cb) (σ : St) (env : En) (F H : Hp) (D : Ends), Rel g c σ env F H → PostS g c W F D (m env) → ts D σ H
theorem PostS.from {g : G} {c : Cb} {W : WX} {F F0 : Hp} {D : Ends} {r : Sr} (e : Ex F0 F) (P : PostS g c W F0 D r) : PostS g c W F D r := by
  cases r with
  | nx _ => exact fun σ' F' H' R k => P σ' F' H' R (e.trans k)
  | bk _ => exact fun σ' F' H' R k => P σ' F' H' R (e.trans k)
  | ct _ => exact fun σ' F' H' R k => P σ' F' H' R (e.trans k)
  | rt _ _ => exact P
  | ex _ _ _ => exact P
  | st => exact P
def Sr.seq (x : Sr) (f : SM) : Sr := match x with
  | .nx env => f env
  | r => r
def seqM (m1 m2 : SM) : SM := fun env => (m1 env).seq m2
def skipM : SM := fun env => .nx env
theorem ss_skip {g : G} {W : WX} : SS g W tNext skipM := fun c σ env F H D R P => P σ F H R (Ex.refl F)
theorem ss_seq {g : G} {W : WX} {t u : TS} {m1 m2 : SM} (h1 : SS g W t m1) (h2 : SS g W u m2) : SS g W (tSeq t u) (seqM m1 m2) := fun c σ env F H D R P => by
  refine h1 c σ env F H { D with nx := u D } R ?_
  unfold seqM at P
  cases q : m1 env with
  | nx e1 =>
    rw [q] at P
    exact fun σ' F' H' R' k => h2 c σ' e1 F' H' D R' (PostS.from k P)
  | bk e1 => rw [q] at P; exact P
  | ct e1 => rw [q] at P; exact P
  | rt t e1 => rw [q] at P; exact P
  | ex cl fs e1 => rw [q] at P; exact P
  | st => rw [q] at P; exact P
def bkM : SM := fun env => .bk env
def ctM : SM := fun env => .ct env
theorem ss_bk {g : G} {W : WX} : SS g W tBreak bkM := fun c σ env F H D R P => P σ F H R (Ex.refl F)
theorem ss_ct {g : G} {W : WX} : SS g W tCont ctM := fun c σ env F H D R P => P σ F H R (Ex.refl F)
def Rs.toS {α : Type} (x : Rs α) (f : α → SM) : Sr := match x with
  | .ok a env => f a env
  | .ex c fs env => .ex c fs env
  | .st => .st
/-- from an expression to a statement. An exception's wish is told of the slots as they stand: they are the same. -/
def PostSx (g : G) (c : Cb) (W : WX) (σ : St) (F : Hp) (D : Ends) : Sr → Prop
  | .ex cl fs env' => PostX g c W σ cl fs env'
  | r => PostS g c W F D r
def retM (m : EM) : SM := fun env => (m env).toS fun t e => .rt t e
theorem ss_ret {g : G} {W : WX} {te : TE} {m : EM} (h : SE g W te m) : SS g W (tRet te) (retM m) := fun c σ env F H D R P => by
  refine h c σ env F H _ R ?_
  unfold retM at P
  cases q : m env with
  | st => rw [q] at P; exact P
  | ex cl fs e1 => rw [q] at P; exact P σ
  | ok t e1 =>
    rw [q] at P
    exact fun v F' H' R' s k n => P v σ F' H' R' k
def retNM : SM := fun env => .rt (.v .non) env
theorem ss_retN {g : G} {W : WX} : SS g W tRetN retNM := fun c σ env F H D R P => P .non σ F H R (rfl : V.non = .non)
def dropM (m : EM) : SM := fun env => (m env).toS fun _ e => .nx e
theorem ss_drop {g : G} {W : WX} {te : TE} {m : EM} (h : SE g W te m) : SS g W (tDrop te) (dropM m) := fun c σ env F H D R P => by
  refine h c σ env F H _ R ?_
  unfold dropM at P
  cases q : m env with
  | st => rw [q] at P; exact P
  | ex cl fs e1 => rw [q] at P; exact P σ
  | ok t e1 =>
    rw [q] at P
    exact fun v F' H' R' s k n => P σ F' H' R' s.ex
def ifS (t : TM) (m1 m2 : SM) : SM := fun env => (t env).toS fun b => if b = true then m1 else m2
theorem ss_if {g : G} {W : WX} {tt : TT} {t u : TS} {m : TM} {m1 m2 : SM} (h : STt g W tt m) (h1 : SS g W t m1) (h2 : SS g W u m2) : SS g W (tIfS tt t u) (ifS m m1 m2) := fun c σ env F H D R P => by
  refine h c σ env F H _ R ?_
  unfold ifS at P
  cases q : m env with
  | st => rw [q] at P; exact P
  | ex cl fs e1 => rw [q] at P; exact P σ
  | ok b e1 =>
    rw [q] at P
    intro F' H' R' s
    cases b with
    | true => exact h1 c σ e1 F' H' D R' (PostS.from s.ex P)
    | false => exact h2 c σ e1 F' H' D R' (PostS.from s.ex P)

/-! ### storing in a slot -/
def canSet (env : En) (i : Nat) : Bool := match env[i]? with
  | some (.r _) => false
  | some _ => true
  | none => false
section
variable {g : G} {c : Cb} {σ : St} {env env' : En} {F H : Hp} {v : V} {i : Nat}
theorem canSet_lt (h : canSet env i = true) : i < env.length := by
  unfold canSet at h
  cases q : env[i]? with
  | none => rw [q] at h; cases h
  | some s => exact (List.getElem?_eq_some_iff.mp q).1
theorem owns_set {s : Sl} {j : Nat} (h : owns (env.set i s) j) : (j = i ∧ s.own = true) ∨ (j ≠ i ∧ owns env j) := by
  obtain ⟨t, e, hs⟩ := h
  by_cases hj : i = j
  · subst hj
    by_cases hl : i < env.length
    · rw [List.getElem?_set_self hl] at e; cases e; exact .inl ⟨rfl, hs⟩
    · rw [List.getElem?_eq_none (by simpa using hl)] at e; cases e
  · rw [List.getElem?_set_ne hj] at e
    exact .inr ⟨Ne.symm hj, ⟨t, e, hs⟩⟩
theorem at_set {σ : St} {x : Option V} {i j : Nat} {p : Addr} (hj : j ≠ i) : At (σ.set i x) j p ↔ At σ j p := by
  unfold At; rw [List.getElem?_set_ne (Ne.symm hj)]
theorem Rel.setD {d : D} (R : Rel g c σ env F H) (hi : i < env.length) (h : Rep g F d v) : Rel g c (σ.set i (some v)) (env.set i (.d d)) F H where
  toLv := R.toLv
  len := by rw [List.length_set, List.length_set]; exact R.len
  dat := fun j d' q => by
    by_cases hj : i = j
    · subst hj
      rw [List.getElem?_set_self hi] at q; cases q
      exact ⟨v, List.getElem?_set_self (by rw [R.len]; exact hi), h⟩
    · rw [List.getElem?_set_ne hj] at q
      obtain ⟨u, h1, h2⟩ := R.dat j d' q
      exact ⟨u, by rw [List.getElem?_set_ne hj]; exact h1, h2⟩
  own := fun j w q => by
    obtain ⟨z, _⟩ | ⟨nj, _⟩ := owns_set (⟨_, q, rfl⟩ : owns (env.set i (.d d)) j)
    · subst z; rw [List.getElem?_set_self hi] at q; cases q
    · rw [List.getElem?_set_ne (Ne.symm nj)] at q
      obtain ⟨p, o, h1, h2⟩ := R.own j w q
      exact ⟨p, o, (at_set nj).mpr h1, h2⟩
  brf := fun j w q => by
    obtain ⟨z, _⟩ | ⟨nj, _⟩ := owns_set (⟨_, q, rfl⟩ : owns (env.set i (.d d)) j)
    · subst z; rw [List.getElem?_set_self hi] at q; cases q
    · rw [List.getElem?_set_ne (Ne.symm nj)] at q
      obtain ⟨p, o, h1, h2⟩ := R.brf j w q
      exact ⟨p, o, (at_set nj).mpr h1, h2⟩
  inj := fun j k p h1 h2 a1 a2 => by
    obtain ⟨z, y⟩ | ⟨nj, o1⟩ := owns_set h1
    · cases y
    · obtain ⟨z, y⟩ | ⟨nk, o2⟩ := owns_set h2
      · cases y
      · exact R.inj j k p o1 o2 ((at_set nj).mp a1) ((at_set nk).mp a2)
theorem Rel.setO {w : Ow} (R : Rel g c σ env F H) (hi : i < env.length) (h : Tok g c σ env F H v (.t w)) : Rel g c (σ.set i (some v)) (env.set i (.o w)) F H where
  toLv := R.toLv
  len := by rw [List.length_set, List.length_set]; exact R.len
  dat := fun j d' q => by
    by_cases hj : i = j
    · subst hj
      rw [List.getElem?_set_self hi] at q; cases q
    · rw [List.getElem?_set_ne hj] at q
      obtain ⟨u, h1, h2⟩ := R.dat j d' q
      exact ⟨u, by rw [List.getElem?_set_ne hj]; exact h1, h2⟩
  own := fun j w' q => by
    by_cases hj : i = j
    · subst hj
      rw [List.getElem?_set_self hi] at q; cases q
      obtain ⟨p, o, e, h1, h2, h3, h4, h5⟩ := h
      subst e
      exact ⟨p, o, List.getElem?_set_self (by rw [R.len]; exact hi), h1, h2, h4, h5⟩
    · rw [List.getElem?_set_ne hj] at q
      obtain ⟨p, o, h1, h2⟩ := R.own j w' q
      exact ⟨p, o, (at_set (Ne.symm hj)).mpr h1, h2⟩
  brf := fun j w' q => by
    by_cases hj : i = j
    · subst hj
      rw [List.getElem?_set_self hi] at q; cases q
    · rw [List.getElem?_set_ne hj] at q
      obtain ⟨p, o, h1, h2⟩ := R.brf j w' q
      exact ⟨p, o, (at_set (Ne.symm hj)).mpr h1, h2⟩
  inj := fun j k p h1 h2 a1 a2 => by
    obtain ⟨p0, o, e, _, _, h3, _⟩ := h
    subst e
    have ai : ∀ q, At (σ.set i (some (.ref p0))) i q → q = p0 := fun q a => by
      have : (σ.set i (some (.ref p0)))[i]? = some (some (.ref q)) := a
      rw [List.getElem?_set_self (by rw [R.len]; exact hi)] at this
      cases this; rfl
    obtain ⟨z, _⟩ | ⟨nj, o1⟩ := owns_set h1
    · subst z
      obtain ⟨z, _⟩ | ⟨nk, o2⟩ := owns_set h2
      · exact z.symm
      · rw [ai p a1] at a2
        exact absurd ((at_set nk).mp a2) (h3 k o2)
    · obtain ⟨z, _⟩ | ⟨nk, o2⟩ := owns_set h2
      · subst z
        rw [ai p a2] at a1
        exact absurd ((at_set nj).mp a1) (h3 j o1)
      · exact R.inj j k p o1 o2 ((at_set nj).mp a1) ((at_set nk).mp a2)
/-- a thing of a slot is changed -/
theorem Rel.put {w w' : Ow} {p : Addr} {o' : HO} (R : Rel g c σ env F H) (h : env[i]? = some (.o w) ∨ env[i]? = some (.r w)) (ha : At σ i p) (k : Cont g F o' w') :
    Rel g c σ (env.set i (match env[i]? with | some (.r _) => .r w' | _ => .o w')) F (upd H p o') ∧ Stp σ env F H (env.set i (match env[i]? with | some (.r _) => .r w' | _ => .o w')) F (upd H p o') := by
  have oi : owns env i := by rcases h with h | h <;> exact ⟨_, h, rfl⟩
  have il : i < env.length := by rcases h with h | h <;> exact (List.getElem?_eq_some_iff.mp h).1
  have pn : F p = none ∧ (∃ o, H p = some o) ∧ ((env[i]? = some (.o w) ∧ c.H0 p = none) ∨ (env[i]? = some (.r w) ∧ p = c.P i ∧ c.B p)) := by
    rcases h with h | h
    · obtain ⟨q, o, h1, h2, h3, h4, _⟩ := R.own i w h
      have : (some (some (V.ref p)) : Option (Option V)) = some (some (V.ref q)) := ha.symm.trans h1
      cases this
      exact ⟨h2, ⟨o, h4⟩, .inl ⟨h, h3⟩⟩
    · obtain ⟨q, o, h1, h2, h3, h4, _⟩ := R.brf i w h
      have : (some (some (V.ref p)) : Option (Option V)) = some (some (V.ref q)) := ha.symm.trans h1
      cases this
      exact ⟨h2, ⟨o, h4⟩, .inr ⟨h, h3⟩⟩
  obtain ⟨fp, ⟨o, hp⟩, hk⟩ := pn
  generalize hs : (match env[i]? with | some (.r _) => Sl.r w' | _ => Sl.o w') = s
  have so : s.own = true := by
    rw [← hs]
    rcases hk with ⟨e, _⟩ | ⟨e, _⟩ <;> rw [e] <;> rfl
  have other : ∀ j q, owns env j → At σ j q → j ≠ i → q ≠ p := fun j q oj aj nj z => nj (R.inj j i p oj oi (z ▸ aj) ha)
  refine ⟨⟨⟨fun a u q => ?_, R.f0, fun a u q b => ?_, fun a u q => ?_, R.nw⟩, by rw [List.length_set]; exact R.len, fun j d q => ?_, fun j w2 q => ?_, fun j w2 q => ?_, fun j k q o1 o2 a1 a2 => ?_⟩, ⟨Ex.refl F, fun a u q f => ?_, fun a u q f n => n, fun j oj => ?_, fun a u q => ?_⟩⟩
  · have : a ≠ p := fun z => by rw [z, fp] at q; cases q
    rw [upd_ne this]; exact R.fh _ _ q
  · have : a ≠ p := fun z => by
      rcases hk with ⟨_, e⟩ | ⟨_, e, e2⟩
      · rw [z, e] at q; cases q
      · exact b (z ▸ e2)
    rw [upd_ne this]; exact R.h0 _ _ q b
  · by_cases z : a = p
    · exact ⟨o', by rw [z]; exact upd_same⟩
    · rw [upd_ne z]; exact R.dm _ _ q
  · by_cases hj : i = j
    · subst hj
      rw [List.getElem?_set_self il] at q
      have : s = .d d := Option.some.inj q
      rw [this] at so; cases so
    · rw [List.getElem?_set_ne hj] at q
      exact R.dat j d q
  · by_cases hj : i = j
    · subst hj
      rw [List.getElem?_set_self il] at q
      have e : s = .o w2 := Option.some.inj q
      rcases hk with ⟨e1, e2⟩ | ⟨e1, _⟩
      · rw [e1] at hs
        have : Sl.o w' = .o w2 := hs.trans e
        cases this
        exact ⟨p, o', ha, fp, e2, upd_same, k⟩
      · rw [e1] at hs
        have : Sl.r w' = .o w2 := hs.trans e
        cases this
    · rw [List.getElem?_set_ne hj] at q
      obtain ⟨p2, o2, h1, h2, h3, h4, h5⟩ := R.own j w2 q
      exact ⟨p2, o2, h1, h2, h3, by rw [upd_ne (other j p2 ⟨_, q, rfl⟩ h1 (Ne.symm hj))]; exact h4, h5⟩
  · by_cases hj : i = j
    · subst hj
      rw [List.getElem?_set_self il] at q
      have e : s = .r w2 := Option.some.inj q
      rcases hk with ⟨e1, e2⟩ | ⟨e1, e2⟩
      · rw [e1] at hs
        have : Sl.o w' = .r w2 := hs.trans e
        cases this
      · rw [e1] at hs
        have : Sl.r w' = .r w2 := hs.trans e
        cases this
        exact ⟨p, o', ha, fp, e2, upd_same, k⟩
    · rw [List.getElem?_set_ne hj] at q
      obtain ⟨p2, o2, h1, h2, h3, h4, h5⟩ := R.brf j w2 q
      exact ⟨p2, o2, h1, h2, h3, by rw [upd_ne (other j p2 ⟨_, q, rfl⟩ h1 (Ne.symm hj))]; exact h4, h5⟩
  · have z : ∀ j, owns (env.set i s) j → owns env j := fun j oj => (owns_set oj).elim (fun ⟨z, _⟩ => z ▸ oi) fun ⟨_, z⟩ => z
    exact R.inj j k q (z j o1) (z k o2) a1 a2
  · have : a ≠ p := fun z => f i oi (z ▸ ha)
    rw [upd_ne this]; exact q
  · exact (owns_set oj).elim (fun ⟨z, _⟩ => z ▸ oi) fun ⟨_, z⟩ => z
  · by_cases z : a = p
    · exact ⟨o', by rw [z]; exact upd_same⟩
    · exact ⟨u, by rw [upd_ne z]; exact q⟩
end
/-- name = e, the value frozen -/
def asgF (i : Nat) (m : EM) : SM := fun env => (fzM m env).toS fun d e => if canSet e i = true then .nx (e.set i (.d d)) else .st
theorem ss_asgF {g : G} {W : WX} {te : TE} {m : EM} {i : Nat} (h : SE g W te m) : SS g W (tAsg te (gName i)) (asgF i m) := fun c σ env F H D R P => by
  refine sd_fz h c σ env F H _ R ?_
  unfold asgF at P
  cases q : fzM m env with
  | st => rw [q] at P; exact P
  | ex cl fs e1 => rw [q] at P; exact P σ
  | ok d e1 =>
    rw [q] at P
    have P' : PostS g c W F D (if canSet e1 i = true then .nx (e1.set i (.d d)) else .st) := P
    by_cases hc : canSet e1 i = true
    · rw [if_pos hc] at P'
      exact fun v F' H' R' s k => P' _ F' H' (R'.setD (canSet_lt hc) k) s.ex
    · rw [if_neg hc] at P'; exact P'.elim
/-- name = e, a new thing becomes the slot's own -/
def stT (i : Nat) : Tv → SM
  | .t w, e => .nx (e.set i (.o w))
  | .v d, e => .nx (e.set i (.d d))
  | .b _, _ => .st
def asgO (i : Nat) (m : EM) : SM := fun env => (m env).toS fun t e => if canSet e i = true then stT i t e else .st
theorem ss_asgO {g : G} {W : WX} {te : TE} {m : EM} {i : Nat} (h : SE g W te m) : SS g W (tAsg te (gName i)) (asgO i m) := fun c σ env F H D R P => by
  refine h c σ env F H _ R ?_
  unfold asgO at P
  cases q : m env with
  | st => rw [q] at P; exact P
  | ex cl fs e1 => rw [q] at P; exact P σ
  | ok t e1 =>
    rw [q] at P
    have P' : PostS g c W F D (if canSet e1 i = true then stT i t e1 else .st) := P
    by_cases hc : canSet e1 i = true
    · rw [if_pos hc] at P'
      cases t with
      | v d => exact fun v F' H' R' s k n => P' _ F' H' (R'.setD (canSet_lt hc) k) s.ex
      | t w => exact fun v F' H' R' s k n => P' _ F' H' (R'.setO (canSet_lt hc) k) s.ex
      | b j => exact P'.elim
    · rw [if_neg hc] at P'; exact P'.elim
/-- name op= e (rgl) -/
def augM (i : Nat) (f : Int → Int → Int) (m : EM) : SM := fun env => match env[i]? with
  | some (.d (.int a)) => (m env).toS fun t e => match t with
    | .v (.int b) => if canSet e i = true then .nx (e.set i (.d (.int (f a b)))) else .st
    | _ => .st
  | _ => .st
theorem ss_aug {g : G} {W : WX} {te : TE} {m : EM} {i : Nat} {f : Int → Int → Int} (h : SE g W te m) : SS g W (tAug i te (ipI f)) (augM i f m) := fun c σ env F H D R P => by
  unfold augM at P
  split at P
  · rename_i a q0
    obtain ⟨v0, h1, h2⟩ := R.dat i _ q0
    obtain rfl : v0 = V.int a := h2
    refine ⟨_, h1, h c σ env F H _ R ?_⟩
    cases q : m env with
    | st => rw [q] at P; exact P
    | ex cl fs e1 => rw [q] at P; exact P σ
    | ok t e1 =>
      rw [q] at P
      have P' : PostS g c W F D (match (generalizing := false) t with | .v (.int b) => if canSet e1 i = true then .nx (e1.set i (.d (.int (f a b)))) else .st | _ => .st) := P
      intro v F' H' R' s k n
      split at P'
      · rename_i b
        obtain rfl : v = V.int b := k
        by_cases hc : canSet e1 i = true
        · rw [if_pos hc] at P'
          exact ⟨a, b, rfl, rfl, P' _ F' H' (R'.setD (canSet_lt hc) (rfl : V.int (f a b) = .int (f a b))) s.ex⟩
        · rw [if_neg hc] at P'; exact P'.elim
      · exact P'.elim
  · exact P.elim

/-! ### targets -/
abbrev GM := D → En → Option En
def SG (g : G) (tg : TG) (gm : GM) : Prop := ∀ (c : Cb) (σ : St) (env : En) (F H : Hp) (v : V) (d : D) (env' : En) (Q : St → Hp → Prop), Rel g c σ env F H → Rep g F d v → gm d env = some env' →
  (∀ σ' F' H', Rel g c σ' env' F' H' → Ex F F' → Q σ' H') → tg v σ H Q
abbrev GMs := List D → En → Option En
def SGs (g : G) (tg : TGs) (gm : GMs) : Prop := ∀ (c : Cb) (σ : St) (env : En) (F H : Hp) (vs : List V) (ds : List D) (env' : En) (Q : St → Hp → Prop), Rel g c σ env F H → Reps g F ds vs → gm ds env = some env' →
  (∀ σ' F' H', Rel g c σ' env' F' H' → Ex F F' → Q σ' H') → tg vs σ H Q
def gN (i : Nat) : GM := fun d env => if canSet env i = true then some (env.set i (.d d)) else none
theorem sg_name {g : G} {i : Nat} : SG g (gName i) (gN i) := fun c σ env F H v d env' Q R k e q => by
  unfold gN at e
  by_cases hc : canSet env i = true
  · rw [if_pos hc] at e; cases e
    exact q _ F H (R.setD (canSet_lt hc) k) (Ex.refl F)
  · rw [if_neg hc] at e; cases e
def gsNil : GMs := fun ds env => match ds with
  | [] => some env
  | _ => none
def gsCons (m : GM) (ms : GMs) : GMs := fun ds env => match ds with
  | d :: dr => (m d env).bind fun e => ms dr e
  | _ => none
theorem sgs_nil {g : G} : SGs g gNil gsNil := fun c σ env F H vs ds env' Q R k e q => by
  cases ds with
  | nil => cases e; exact ⟨k, q σ F H R (Ex.refl F)⟩
  | cons d dr => cases e
theorem sgs_cons {g : G} {t : TG} {u : TGs} {m : GM} {ms : GMs} (h1 : SG g t m) (h2 : SGs g u ms) : SGs g (gCons t u) (gsCons m ms) := fun c σ env F H vs ds env' Q R k e q => by
  cases ds with
  | nil => cases e
  | cons d dr =>
    obtain ⟨v, vr, r, k1, k2⟩ := k
    have e' : (m d env).bind (fun e => ms dr e) = some env' := e
    cases q1 : m d env with
    | none => rw [q1] at e'; cases e'
    | some e1 =>
      rw [q1] at e'
      refine ⟨v, vr, r, h1 c σ env F H v d e1 _ R k1 q1 fun σ1 F1 H1 R1 x1 => ?_⟩
      exact h2 c σ1 e1 F1 H1 vr dr env' Q R1 (Reps.mono x1 _ k2) e' fun σ2 F2 H2 R2 x2 => q σ2 F2 H2 R2 (x1.trans x2)
def gT (n : Nat) (ms : GMs) : GM := fun d env => match d with
  | .tup ds => if ds.length = n then ms ds env else none
  | _ => none
theorem sg_tup {g : G} {n : Nat} {t : TGs} {ms : GMs} (h : SGs g t ms) : SG g (gTup g.K n t) (gT n ms) := fun c σ env F H v d env' Q R k e q => by
  unfold gT at e
  split at e
  · rename_i ds
    by_cases hn : ds.length = n
    · rw [if_pos hn] at e
      obtain ⟨a, vs, r, s, k'⟩ := k
      exact ⟨a, vs, r, SqT.of (R.fh _ _ s), k'.length.symm.trans hn, h c σ env F H vs ds env' Q R k' e q⟩
    · rw [if_neg hn] at e; cases e
  · cases e
/-- target = e, the value frozen -/
def asgG (gm : GM) (m : EM) : SM := fun env => (fzM m env).toS fun d e => match gm d e with
  | some e2 => .nx e2
  | none => .st
theorem ss_asgG {g : G} {W : WX} {te : TE} {m : EM} {tg : TG} {gm : GM} (h : SE g W te m) (hg : SG g tg gm) : SS g W (tAsg te tg) (asgG gm m) := fun c σ env F H D R P => by
  refine sd_fz h c σ env F H _ R ?_
  unfold asgG at P
  cases q : fzM m env with
  | st => rw [q] at P; exact P
  | ex cl fs e1 => rw [q] at P; exact P σ
  | ok d e1 =>
    rw [q] at P
    have P' : PostS g c W F D (match gm d e1 with | some e2 => .nx e2 | none => .st) := P
    intro v F' H' R' s k
    cases q2 : gm d e1 with
    | none => rw [q2] at P'; exact P'.elim
    | some e2 =>
      rw [q2] at P'
      exact hg c σ e1 F' H' v d e2 _ R' k q2 fun σ2 F2 H2 R2 x2 => P' σ2 F2 H2 R2 (s.ex.trans x2)
/-! ### loops -/
/-- an iterator that gives the data ds -/
def Iter (g : G) (F : Hp) (J : It) (ds : List D) : Prop := ∀ (i : Nat) (F2 H2 : Hp), Ex F F2 → Ex F2 H2 →
  (∀ d, ds[i]? = some d → J.go i H2 ∧ ∀ x H3, J.yld i H2 x H3 → ∃ F3, Gr F2 H2 F3 H3 ∧ Rep g F3 d x) ∧ (i = ds.length → J.stop i H2)
def PostI (g : G) (c : Cb) (W : WX) (σ : St) (env : En) (F H : Hp) (Q : It → Hp → Prop) : Rs (List D) → Prop
  | .ok ds env' => ∀ J F' H', Rel g c σ env' F' H' → Stp σ env F H env' F' H' → Iter g F' J ds → Q J H'
  | .ex cl fs env' => PostX g c W σ cl fs env'
  | .st => False
def SI (g : G) (W : WX) (ti : TI) (m : FM) : Prop := ∀ (c : Cb) (σ : St) (env : En) (F H : Hp) (Q : It → Hp → Prop), Rel g c σ env F H → PostI g c W σ env F H Q (m env) → ti σ H Q
/-- over a list -/
def lsI (m : EM) : FM := fun env => (fzM m env).bind fun d e => match d with
  | .lst ds => .ok ds e
  | _ => .st
theorem si_list {g : G} {W : WX} {te : TE} {m : EM} (h : SE g W te m) : SI g W (iList g.K te) (lsI m) := fun c σ env F H Q R P => by
  refine sd_fz h c σ env F H _ R ?_
  unfold lsI at P
  cases q : fzM m env with
  | st => rw [q] at P; exact P
  | ex cl fs e1 => rw [q] at P; exact P
  | ok d e1 =>
    rw [q] at P
    have P' : PostI g c W σ env F H Q (match (generalizing := false) d with | .lst ds => .ok ds e1 | _ => .st) := P
    intro v F' H' R' s k
    split at P'
    · rename_i ds
      obtain ⟨a, vs, r, sq, k'⟩ := k
      refine ⟨a, r, ⟨vs, SqL.of (R'.fh _ _ sq)⟩, P' _ F' H' R' s ?_⟩
      intro i F2 H2 x1 x2
      have sq2 : SqL g.K H2 a vs := SqL.of (x1.trans x2 _ _ sq)
      refine ⟨fun d e => ?_, fun e => ⟨vs, sq2, by rw [e, k'.length]; exact Nat.le_refl _⟩⟩
      obtain ⟨v, h1, h2⟩ := k'.get e
      refine ⟨⟨vs, v, sq2, h1⟩, fun x H3 y => ?_⟩
      obtain ⟨rfl, y2⟩ := y
      have := y2 vs sq2
      rw [h1] at this; cases this
      exact ⟨F2, Gr.refl x2, Rep.mono x1 _ h2⟩
    · exact P'.elim
def tpI (m : EM) : FM := fun env => (fzM m env).bind fun d e => match d with
  | .tup ds => .ok ds e
  | _ => .st
theorem si_tup {g : G} {W : WX} {te : TE} {m : EM} (h : SE g W te m) : SI g W (iTup g.K te) (tpI m) := fun c σ env F H Q R P => by
  refine sd_fz h c σ env F H _ R ?_
  unfold tpI at P
  cases q : fzM m env with
  | st => rw [q] at P; exact P
  | ex cl fs e1 => rw [q] at P; exact P
  | ok d e1 =>
    rw [q] at P
    have P' : PostI g c W σ env F H Q (match (generalizing := false) d with | .tup ds => .ok ds e1 | _ => .st) := P
    intro v F' H' R' s k
    split at P'
    · rename_i ds
      obtain ⟨a, vs, r, sq, k'⟩ := k
      refine ⟨a, r, ⟨vs, SqT.of (R'.fh _ _ sq)⟩, P' _ F' H' R' s ?_⟩
      intro i F2 H2 x1 x2
      have sq2 : SqT g.K H2 a vs := SqT.of (x1.trans x2 _ _ sq)
      refine ⟨fun d e => ?_, fun e => ⟨vs, sq2, by rw [e, k'.length]; exact Nat.le_refl _⟩⟩
      obtain ⟨v, h1, h2⟩ := k'.get e
      refine ⟨⟨vs, v, sq2, h1⟩, fun x H3 y => ?_⟩
      obtain ⟨rfl, y2⟩ := y
      have := y2 vs sq2
      rw [h1] at this; cases this
      exact ⟨F2, Gr.refl x2, Rep.mono x1 _ h2⟩
    · exact P'.elim
/-- over range(n), range(a, b) -/
def rgl (lo : Int) (n : Nat) : List D := (List.range n).map fun i => .int (lo + (i : Nat))
theorem rgl_len (lo : Int) (n : Nat) : (rgl lo n).length = n := by unfold rgl; simp
theorem rgl_get {lo : Int} {n i : Nat} {d : D} (h : (rgl lo n)[i]? = some d) : i < n ∧ d = .int (lo + (i : Nat)) := by
  unfold rgl at h
  rw [List.getElem?_map] at h
  by_cases hi : i < n
  · rw [List.getElem?_range hi] at h
    have := Option.some.inj h
    exact ⟨hi, this.symm⟩
  · rw [List.getElem?_eq_none (by simpa using hi)] at h; cases h
theorem iter_range {g : G} {F : Hp} (lo : Int) (n : Nat) : Iter g F (Itr lo n) (rgl lo n) := fun i F2 H2 x1 x2 => by
  refine ⟨fun d e => ?_, fun e => ?_⟩
  · obtain ⟨hi, rfl⟩ := rgl_get e
    exact ⟨hi, fun x H3 y => by obtain ⟨rfl, rfl⟩ := y; exact ⟨F2, Gr.refl x2, rfl⟩⟩
  · rw [rgl_len] at e
    show n ≤ i
    omega
def okR (i : Int) : Bool := decide (-1000000 ≤ i) && decide (i ≤ 1000000)
theorem okR_of {i : Int} (h : okR i = true) : -(2 ^ 62) ≤ i ∧ i < 2 ^ 62 := by
  unfold okR at h
  rw [Bool.and_eq_true, decide_eq_true_eq, decide_eq_true_eq] at h
  omega
def rg1 (ma : AM) : FM := fun env => (ma env).bind fun ts e => match ts with
  | [.v (.int j)] => if okR j = true then .ok (rgl 0 j.toNat) e else .st
  | _ => .st
theorem si_rng1 {g : G} {W : WX} {ta : TA} {m : AM} (h : SA g W ta m) : SI g W (iRng1 ta) (rg1 m) := fun c σ env F H Q R P => by
  refine h c σ env F H _ R ?_
  unfold rg1 at P
  cases q : m env with
  | st => rw [q] at P; exact P
  | ex cl fs e1 => rw [q] at P; exact P
  | ok ts e1 =>
    rw [q] at P
    have P' : PostI g c W σ env F H Q (match (generalizing := false) ts with | [.v (.int j)] => if okR j = true then .ok (rgl 0 j.toNat) e1 else .st | _ => .st) := P
    intro vs F' H' R' s k
    split at P'
    · rename_i j
      by_cases hj : okR j = true
      · rw [if_pos hj] at P'
        match vs, k with
        | [v], ⟨k1, _⟩ =>
          obtain rfl : v = V.int j := k1
          exact ⟨j, rfl, (okR_of hj).1, (okR_of hj).2, P' _ F' H' R' s (iter_range 0 _)⟩
      · rw [if_neg hj] at P'; exact P'.elim
    · exact P'.elim
def rg2 (ma : AM) : FM := fun env => (ma env).bind fun ts e => match ts with
  | [.v (.int i), .v (.int j)] => if okR i = true ∧ okR j = true then .ok (rgl i (j - i).toNat) e else .st
  | _ => .st
theorem si_rng2 {g : G} {W : WX} {ta : TA} {m : AM} (h : SA g W ta m) : SI g W (iRng2 ta) (rg2 m) := fun c σ env F H Q R P => by
  refine h c σ env F H _ R ?_
  unfold rg2 at P
  cases q : m env with
  | st => rw [q] at P; exact P
  | ex cl fs e1 => rw [q] at P; exact P
  | ok ts e1 =>
    rw [q] at P
    have P' : PostI g c W σ env F H Q (match (generalizing := false) ts with | [.v (.int i), .v (.int j)] => if okR i = true ∧ okR j = true then .ok (rgl i (j - i).toNat) e1 else .st | _ => .st) := P
    intro vs F' H' R' s k
    split at P'
    · rename_i i j
      by_cases hj : okR i = true ∧ okR j = true
      · rw [if_pos hj] at P'
        match vs, k with
        | [v, u], ⟨k1, k2, _⟩ =>
          obtain rfl : v = V.int i := k1
          obtain rfl : u = V.int j := k2
          exact ⟨i, j, rfl, ⟨(okR_of hj.1).1, (okR_of hj.1).2, (okR_of hj.2).1, (okR_of hj.2).2⟩, P' _ F' H' R' s (iter_range i _)⟩
      · rw [if_neg hj] at P'; exact P'.elim
    · exact P'.elim
/-- the turns -/
def loopM (gm : GM) (body : SM) : List D → SM
  | [], env => .nx env
  | d :: ds, env => match gm d env with
    | none => .st
    | some e1 => match body e1 with
      | .nx e2 => loopM gm body ds e2
      | .ct e2 => loopM gm body ds e2
      | .bk e2 => .nx e2
      | r => r
def forM (mi : FM) (gm : GM) (body : SM) : SM := fun env => (mi env).toS (loopM gm body)
theorem ss_for {g : G} {W : WX} {ti : TI} {tg : TG} {tb : TS} {mi : FM} {gm : GM} {mb : SM} (hi : SI g W ti mi) (hg : SG g tg gm) (hb : SS g W tb mb) : SS g W (tFor ti tg tb) (forM mi gm mb) := fun c σ env F H D R P => by
  refine hi c σ env F H _ R ?_
  unfold forM at P
  cases q : mi env with
  | st => rw [q] at P; exact P
  | ex cl fs e1 => rw [q] at P; exact P σ
  | ok ds e1 =>
    rw [q] at P
    have P' : PostS g c W F D (loopM gm mb ds e1) := P
    intro J F1 H1 R1 s1 IT
    refine ⟨fun i m σ H => m = ds.length - i ∧ i ≤ ds.length ∧ ∃ e F2, Ex F1 F2 ∧ Rel g c σ e F2 H ∧ PostS g c W F2 D (loopM gm mb (ds.drop i) e), ⟨_, rfl, Nat.zero_le _, e1, F1, Ex.refl _, R1, PostS.from s1.ex P'⟩, ?_⟩
    rintro i m σ2 H2 ⟨rfl, hi, e, F2, x2, R2, P2⟩
    obtain ⟨T1, T2⟩ := IT i F2 H2 x2 R2.fh
    by_cases hlt : i < ds.length
    · refine .inr ?_
      have hd : ds[i]? = some ds[i] := by simp [hlt]
      rw [List.drop_eq_getElem_cons hlt] at P2
      obtain ⟨go, yl⟩ := T1 _ hd
      refine ⟨go, fun σ H => ∃ e F2, Ex F1 F2 ∧ Rel g c σ e F2 H ∧ PostS g c W F2 D (loopM gm mb (ds.drop (i + 1)) e), fun σ' H' ⟨e', F', x', R', P'⟩ => ⟨ds.length - (i + 1), by omega, rfl, hlt, e', F', x', R', P'⟩, fun x H3 y => ?_⟩
      obtain ⟨F3, gr, rp⟩ := yl x H3 y
      unfold loopM at P2
      cases q1 : gm ds[i] e with
      | none => rw [q1] at P2; exact P2.elim
      | some e3 =>
        rw [q1] at P2
        refine hg c σ2 e F3 H3 x ds[i] e3 _ (R2.grow gr) rp q1 fun σ4 F4 H4 R4 x4 => ?_
        refine hb c σ4 e3 F4 H4 _ R4 ?_
        have x24 := gr.ff.trans x4
        have P3 : PostS g c W F2 D (match mb e3 with | .nx e2 => loopM gm mb (ds.drop (i + 1)) e2 | .ct e2 => loopM gm mb (ds.drop (i + 1)) e2 | .bk e2 => .nx e2 | r => r) := P2
        cases q2 : mb e3 with
        | nx e4 =>
          rw [q2] at P3
          exact fun σ' F' H' R' x' => ⟨e4, F', x2.trans (x24.trans x'), R', PostS.from (x24.trans x') P3⟩
        | ct e4 =>
          rw [q2] at P3
          exact fun σ' F' H' R' x' => ⟨e4, F', x2.trans (x24.trans x'), R', PostS.from (x24.trans x') P3⟩
        | bk e4 =>
          rw [q2] at P3
          exact fun σ' F' H' R' x' => P3 σ' F' H' R' (x24.trans x')
        | rt t e4 => rw [q2] at P3; exact P3
        | ex cl fs e4 => rw [q2] at P3; exact P3
        | st => rw [q2] at P3; exact P3
    · have e0 : i = ds.length := by omega
      refine .inl ⟨T2 e0, ?_⟩
      rw [e0, List.drop_length] at P2
      exact P2 σ2 F2 H2 R2 (Ex.refl _)
/-- while -/
def whileF (t : TM) (body : SM) : Nat → SM
  | 0, _ => .st
  | n + 1, env => (t env).toS fun b e => if b = true then match body e with
      | .nx e2 => whileF t body n e2
      | .ct e2 => whileF t body n e2
      | .bk e2 => .nx e2
      | r => r
    else .nx e
def whileM (n : Nat) (t : TM) (body : SM) : SM := whileF t body n
theorem ss_while {g : G} {W : WX} {tt : TT} {tb : TS} {m : TM} {mb : SM} (n : Nat) (h : STt g W tt m) (hb : SS g W tb mb) : SS g W (tWhile tt tb) (whileM n m mb) := fun c σ env F H D R P => by
  refine ⟨fun k σ H => ∃ e F2, Rel g c σ e F2 H ∧ PostS g c W F2 D (whileF m mb k e), ⟨n, env, F, R, P⟩, ?_⟩
  rintro k σ2 H2 ⟨e, F2, R2, P2⟩
  cases k with
  | zero => exact P2.elim
  | succ k =>
    refine h c σ2 e F2 H2 _ R2 ?_
    unfold whileF at P2
    cases q : m e with
    | st => rw [q] at P2; exact P2
    | ex cl fs e1 => rw [q] at P2; exact P2 σ2
    | ok b e1 =>
      rw [q] at P2
      intro F3 H3 R3 s3
      cases b with
      | false => exact P2 σ2 F3 H3 R3 s3.ex
      | true =>
        refine ⟨fun σ H => ∃ e F2, Rel g c σ e F2 H ∧ PostS g c W F2 D (whileF m mb k e), fun σ' H' ⟨e', F', R', P'⟩ => ⟨k, Nat.lt_succ_self k, e', F', R', P'⟩, ?_⟩
        refine hb c σ2 e1 F3 H3 _ R3 ?_
        have P3 : PostS g c W F2 D (match mb e1 with | .nx e2 => whileF m mb k e2 | .ct e2 => whileF m mb k e2 | .bk e2 => .nx e2 | r => r) := P2
        cases q2 : mb e1 with
        | nx e4 => rw [q2] at P3; exact fun σ' F' H' R' x' => ⟨e4, F', R', PostS.from (s3.ex.trans x') P3⟩
        | ct e4 => rw [q2] at P3; exact fun σ' F' H' R' x' => ⟨e4, F', R', PostS.from (s3.ex.trans x') P3⟩
        | bk e4 => rw [q2] at P3; exact fun σ' F' H' R' x' => P3 σ' F' H' R' (s3.ex.trans x')
        | rt t e4 => rw [q2] at P3; exact P3
        | ex cl fs e4 => rw [q2] at P3; exact P3
        | st => rw [q2] at P3; exact P3
end PL
namespace PL
open PySem L2
theorem ArgsAt.get {g : G} {P : Nat → Addr} {F H : Hp} : ∀ {vs : List V} {ss : List Sl} {k i : Nat} {s : Sl}, ArgsAt g P F H k vs ss → ss[i]? = some s → ∃ v, vs[i]? = some v ∧ ArgAt g P F H (k + i) v s
  | [], [], _, _, _, _, e => by cases e
  | v :: vs, s :: ss, k, 0, _, h, e => by
    cases e
    exact ⟨v, rfl, h.1⟩
  | v :: vs, s :: ss, k, i + 1, _, h, e => by
    obtain ⟨u, h1, h2⟩ := ArgsAt.get (i := i) h.2 (by simpa using e)
    have : k + (i + 1) = k + 1 + i := by omega
    rw [this]
    exact ⟨u, by simpa using h1, h2⟩
  | [], _ :: _, _, _, _, h, _ => h.elim
  | _ :: _, [], _, _, _, h, _ => h.elim
theorem ArgsAt.length {g : G} {P : Nat → Addr} {F H : Hp} : ∀ {vs : List V} {ss : List Sl} {k : Nat}, ArgsAt g P F H k vs ss → vs.length = ss.length
  | [], [], _, _ => rfl
  | v :: vs, s :: ss, k, h => by rw [List.length_cons, List.length_cons, ArgsAt.length h.2]
  | [], _ :: _, _, h => h.elim
  | _ :: _, [], _, h => h.elim
/-! ### a def's body -/
def outA : List Sl → En → Option (List Sl)
  | [], _ => some []
  | .r _ :: as, .r w :: es => (outA as es).map (.r w :: ·)
  | .d d :: as, _ :: es => (outA as es).map (.d d :: ·)
  | _, _ => none
def rvOf : Tv → En → Option Rv
  | .v d, _ => some (.v d)
  | .t w, _ => some (.n w)
  | .b i, env => match env[i]? with
    | some (.d d) => some (.v d)
    | some (.o w) => some (.n w)
    | _ => none
def fin (args : List Sl) : Sr → Dr
  | .rt t env => match rvOf t env, outA args env with
    | some rv, some as => .ok rv as
    | _, _ => .st
  | .nx env => match outA args env with
    | some as => .ok (.v .non) as
    | none => .st
  | .ex c fs env => match outA args env with
    | some as => .ex c fs as
    | none => .st
  | _ => .st
def defM (np n : Nat) (body : SM) : DFun := fun args => if args.length = np then fin args (body (args ++ List.replicate (n - np) .non)) else .st
theorem out_args {g : G} {c : Cb} {F H F' H' : Hp} : ∀ {vs : List V} {as as' : List Sl} {env : En} {k : Nat}, ArgsAt g c.P F H k vs as → outA as env = some as' → Ex F F' →
    (∀ i w, env[i]? = some (.r w) → F' (c.P (k + i)) = none ∧ ∃ o, H' (c.P (k + i)) = some o ∧ Cont g F' o w) → ArgsAt g c.P F' H' k vs as'
  | [], [], _, _, _, _, e, _, _ => by cases e; trivial
  | v :: vs, .d d :: as, as', [], k, _, e, _, _ => by cases e
  | v :: vs, .d d :: as, as', s :: es, k, h, e, x, b => by
    have e' : (outA as es).map (Sl.d d :: ·) = some as' := e
    cases q : outA as es with
    | none => rw [q] at e'; cases e'
    | some r =>
      rw [q] at e'; cases e'
      exact ⟨Rep.mono x _ h.1, out_args h.2 q x fun i w z => by have := b (i + 1) w (by simpa using z); rwa [show k + (i + 1) = k + 1 + i by omega] at this⟩
  | v :: vs, .r w0 :: as, as', [], k, _, e, _, _ => by cases e
  | v :: vs, .r w0 :: as, as', .r w :: es, k, h, e, x, b => by
    have e' : (outA as es).map (Sl.r w :: ·) = some as' := e
    cases q : outA as es with
    | none => rw [q] at e'; cases e'
    | some r =>
      rw [q] at e'; cases e'
      refine ⟨⟨h.1.1, b 0 w rfl⟩, out_args h.2 q x fun i w z => by have := b (i + 1) w (by simpa using z); rwa [show k + (i + 1) = k + 1 + i by omega] at this⟩
  | v :: vs, .r w0 :: as, as', .non :: es, k, _, e, _, _ => by cases e
  | v :: vs, .r w0 :: as, as', .d _ :: es, k, _, e, _, _ => by cases e
  | v :: vs, .r w0 :: as, as', .o _ :: es, k, _, e, _, _ => by cases e
  | v :: vs, .non :: as, as', es, k, h, e, _, _ => h.1.elim
  | v :: vs, .o _ :: as, as', es, k, h, e, _, _ => h.1.elim
  | [], _ :: _, _, _, _, h, _, _, _ => h.elim
  | _ :: _, [], _, _, _, h, _, _, _ => h.elim
theorem start_get {N : List Str} {vs : List V} {i : Nat} (h : i < vs.length) : (L2.start N vs)[i]? = some vs[i]? := by
  unfold L2.start
  rw [List.getElem?_append_left (by simpa using h), List.getElem?_map]
  simp [h]
theorem body_ok {g : G} {ts : TS} {body : SM} {np n : Nat} {N : List Str} {vs : List V} {H : Hp} {Q : VK} {E : XK} (hN : N.length = n) (hv : vs.length = np) (hle : np ≤ n) (hs : SS g (fun cls d _ H => E cls d H) ts body) (h : spD g (defM np n body) vs H Q E) :
    ts { nx := fun _ H' => Q .non H', rt := Q } (L2.start N vs) H := by
  obtain ⟨F, P, args, fh, aa, dj, post⟩ := h
  have la := aa.length
  unfold defM at post
  rw [if_pos (by omega)] at post
  have get : ∀ {i : Nat} {s : Sl}, (args ++ List.replicate (n - np) Sl.non)[i]? = some s → (i < args.length ∧ args[i]? = some s) ∨ s = .non := fun {i s} e => by
    by_cases hi : i < args.length
    · rw [List.getElem?_append_left hi] at e; exact .inl ⟨hi, e⟩
    · rw [List.getElem?_append_right (by omega)] at e
      exact .inr (List.eq_of_mem_replicate (List.mem_of_getElem? e))
  have R : Rel g ⟨Bof P args, P, H, F⟩ (L2.start N vs) (args ++ List.replicate (n - np) .non) F H := by
    refine ⟨⟨fh, Ex.refl F, fun _ _ h _ => h, fun _ o h => ⟨o, h⟩, fun _ _ h => .inl h⟩, ?_, fun i d q => ?_, fun i w q => ?_, fun i w q => ?_, fun i j p o1 o2 a1 a2 => ?_⟩
    · unfold L2.start; simp; omega
    · rcases get q with ⟨hi, e⟩ | e
      · obtain ⟨v, h1, h2⟩ := aa.get e
        exact ⟨v, by rw [start_get (by omega), h1], h2⟩
      · cases e
    · rcases get q with ⟨hi, e⟩ | e
      · obtain ⟨v, h1, h2⟩ := aa.get e; exact h2.elim
      · cases e
    · rcases get q with ⟨hi, e⟩ | e
      · obtain ⟨v, h1, h2, h3, o, h4, h5⟩ := aa.get e
        rw [Nat.zero_add] at h2 h3 h4
        subst h2
        refine ⟨P i, o, ?_, h3, ⟨rfl, i, _, e, rfl, rfl⟩, h4, h5⟩
        show (L2.start N vs)[i]? = _
        rw [start_get (by omega), h1]
      · cases e
    · have side : ∀ {i}, owns (args ++ List.replicate (n - np) Sl.non) i → ∃ w, args[i]? = some (.r w) ∧ vs[i]? = some (.ref (P i)) ∧ i < vs.length := fun {i} o => by
        obtain ⟨s, e, hs⟩ := o
        rcases get e with ⟨hi, e'⟩ | e'
        · obtain ⟨v, h1, h2⟩ := aa.get e'
          cases s with
          | non => cases hs
          | d _ => cases hs
          | o _ => exact h2.elim
          | r w =>
            obtain ⟨h2, _⟩ := h2
            rw [Nat.zero_add] at h2
            exact ⟨w, e', by rw [h1, h2], by omega⟩
        · subst e'; cases hs
      obtain ⟨w1, e1, v1, l1⟩ := side o1
      obtain ⟨w2, e2, v2, l2⟩ := side o2
      have b1 : (L2.start N vs)[i]? = some (some (.ref p)) := a1
      have b2 : (L2.start N vs)[j]? = some (some (.ref p)) := a2
      rw [start_get l1, v1] at b1
      rw [start_get l2, v2] at b2
      have c1 : P i = p := by injection b1 with z; injection z with z; injection z
      have c2 : P j = p := by injection b2 with z; injection z with z; injection z
      exact dj i j _ _ e1 e2 rfl rfl (c1.trans c2.symm)
  refine hs _ _ _ F H _ R ?_
  have ext : ∀ {σ' : St} {env' : En} {F' H' : Hp} {as' : List Sl}, Rel g ⟨Bof P args, P, H, F⟩ σ' env' F' H' → outA args env' = some as' → ArgsAt g P F' H' 0 vs as' := fun {σ' env' F' H' as'} R' e =>
    out_args (c := ⟨Bof P args, P, H, F⟩) aa e R'.f0 fun i w q => by
      obtain ⟨p, o, h1, h2, ⟨h3, _⟩, h4, h5⟩ := R'.brf i w q
      subst h3
      rw [Nat.zero_add]
      exact ⟨h2, o, h4, h5⟩
  cases q : body (args ++ List.replicate (n - np) .non) with
  | nx env' =>
    rw [q] at post
    have post' : (match (match outA args env' with | some as => Dr.ok (.v .non) as | none => .st) with
      | .ok rv args' => ∀ v F' H', Lv ⟨Bof P args, P, H, F⟩ F' H' → ArgsAt g P F' H' 0 vs args' → RvOk g H F' H' v rv → Q v H'
      | .ex cl fs args' => ∀ d F' H', Lv ⟨Bof P args, P, H, F⟩ F' H' → ArgsAt g P F' H' 0 vs args' → XF g H F' H' d fs → E (.ref (g.cls cl)) (some d) H'
      | .st => False) := post
    intro σ' F' H' R' x'
    cases q2 : outA args env' with
    | none => simp only [q2] at post'
    | some as =>
      simp only [q2] at post'
      exact post' .non F' H' R'.toLv (ext R' q2) (rfl : V.non = .non)
  | bk env' => rw [q] at post; exact post.elim
  | ct env' => rw [q] at post; exact post.elim
  | st => rw [q] at post; exact post.elim
  | ex cl fs env' =>
    rw [q] at post
    have post' : (match (match outA args env' with | some as => Dr.ex cl fs as | none => .st) with
      | .ok rv args' => ∀ v F' H', Lv ⟨Bof P args, P, H, F⟩ F' H' → ArgsAt g P F' H' 0 vs args' → RvOk g H F' H' v rv → Q v H'
      | .ex cl fs args' => ∀ d F' H', Lv ⟨Bof P args, P, H, F⟩ F' H' → ArgsAt g P F' H' 0 vs args' → XF g H F' H' d fs → E (.ref (g.cls cl)) (some d) H'
      | .st => False) := post
    intro σ' d F' H' R' xf
    cases q2 : outA args env' with
    | none => simp only [q2] at post'
    | some as =>
      simp only [q2] at post'
      exact post' d F' H' R'.toLv (ext R' q2) xf
  | rt t env' =>
    rw [q] at post
    have post' : (match (match rvOf t env', outA args env' with | some rv, some as => Dr.ok rv as | _, _ => .st) with
      | .ok rv args' => ∀ v F' H', Lv ⟨Bof P args, P, H, F⟩ F' H' → ArgsAt g P F' H' 0 vs args' → RvOk g H F' H' v rv → Q v H'
      | .ex cl fs args' => ∀ d F' H', Lv ⟨Bof P args, P, H, F⟩ F' H' → ArgsAt g P F' H' 0 vs args' → XF g H F' H' d fs → E (.ref (g.cls cl)) (some d) H'
      | .st => False) := post
    intro v σ' F' H' R' tk
    cases q1 : rvOf t env' with
    | none => simp only [q1] at post'
    | some rv =>
      cases q2 : outA args env' with
      | none => simp only [q1, q2] at post'
      | some as =>
        simp only [q1, q2] at post'
        refine post' v F' H' R'.toLv (ext R' q2) ?_
        cases t with
        | v d => cases q1; exact tk
        | t w =>
          cases q1
          obtain ⟨p, o, e, h1, h2, h3, h4, h5⟩ := tk
          exact ⟨p, o, e, h2, h1, h4, h5⟩
        | b i =>
          have q1' : (match env'[i]? with | some (.d d) => some (Rv.v d) | some (.o w) => some (Rv.n w) | _ => none) = some rv := q1
          have tk' : σ'[i]? = some (some v) := tk
          cases q3 : env'[i]? with
          | none => rw [q3] at q1'; cases q1'
          | some s =>
            rw [q3] at q1'
            cases s with
            | non => cases q1'
            | r _ => cases q1'
            | d d =>
              cases q1'
              obtain ⟨u, h1, h2⟩ := R'.dat i d q3
              rw [tk'] at h1; cases h1
              exact h2
            | o w =>
              cases q1'
              obtain ⟨p, o, h1, h2, h3, h4, h5⟩ := R'.own i w q3
              have h1' : σ'[i]? = some (some (.ref p)) := h1
              rw [tk'] at h1'; cases h1'
              exact ⟨p, o, rfl, h3, h2, h4, h5⟩

/-! ### calls of one's own defs -/
inductive Ar where
  | d (d : D) | r (i : Nat)
def ArAt (g : G) (σ : St) (F : Hp) (v : V) : Ar → Prop
  | .d d => Rep g F d v
  | .r i => σ[i]? = some (some v)
def ArsAt (g : G) (σ : St) (F : Hp) : List V → List Ar → Prop
  | [], [] => True
  | v :: vs, a :: as => ArAt g σ F v a ∧ ArsAt g σ F vs as
  | _, _ => False
theorem ArsAt.mono {g : G} {σ : St} {F F' : Hp} (x : Ex F F') : ∀ {vs : List V} {as : List Ar}, ArsAt g σ F vs as → ArsAt g σ F' vs as
  | [], [], _ => trivial
  | v :: vs, .d d :: as, h => ⟨Rep.mono x d h.1, h.2.mono x⟩
  | v :: vs, .r i :: as, h => ⟨h.1, h.2.mono x⟩
  | [], _ :: _, h => h.elim
  | _ :: _, [], h => h.elim
abbrev RM := En → Rs (List Ar)
def PostR (g : G) (c : Cb) (W : WX) (σ : St) (env : En) (F H : Hp) (Q : List V → Hp → Prop) : Rs (List Ar) → Prop
  | .ok as env' => ∀ vs F' H', Rel g c σ env' F' H' → Stp σ env F H env' F' H' → ArsAt g σ F' vs as → Q vs H'
  | .ex cl fs env' => PostX g c W σ cl fs env'
  | .st => False
def SR (g : G) (W : WX) (ta : TA) (m : RM) : Prop := ∀ (c : Cb) (σ : St) (env : En) (F H : Hp) (Q : List V → Hp → Prop), Rel g c σ env F H → PostR g c W σ env F H Q (m env) → ta σ H Q
theorem PostR.from {g : G} {c : Cb} {W : WX} {σ : St} {env env0 : En} {F H F0 H0 : Hp} {Q : List V → Hp → Prop} {r : Rs (List Ar)} (s : Stp σ env0 F0 H0 env F H) (P : PostR g c W σ env0 F0 H0 Q r) : PostR g c W σ env F H Q r := by
  cases r with
  | ok t e' => exact fun vs F' H' R' s' k => P vs F' H' R' (s.trans s') k
  | ex cl fs e' => exact P
  | st => exact P
def nilR : RM := fun env => .ok [] env
theorem sr_nil {g : G} {W : WX} : SR g W tNil nilR := fun c σ env F H Q R P => P [] F H R (Stp.refl ..) trivial
/-- an argument as data -/
def dR (m : EM) (mr : RM) : RM := fun env => (fzM m env).bind fun d e => (mr e).bind fun as e2 => .ok (.d d :: as) e2
theorem sr_d {g : G} {W : WX} {te : TE} {ta : TA} {m : EM} {mr : RM} (h1 : SE g W te m) (h2 : SR g W ta mr) : SR g W (tCons te ta) (dR m mr) := fun c σ env F H Q R P => by
  refine sd_fz h1 c σ env F H _ R ?_
  unfold dR at P
  cases q1 : fzM m env with
  | st => rw [q1] at P; exact P
  | ex cl fs e1 => rw [q1] at P; exact P
  | ok d e1 =>
    rw [q1] at P
    have P' : PostR g c W σ env F H Q ((mr e1).bind fun ts e2 => .ok (.d d :: ts) e2) := P
    intro v F1 H1 R1 s1 k1
    refine h2 c σ e1 F1 H1 _ R1 ?_
    cases q2 : mr e1 with
    | st => rw [q2] at P'; exact P'
    | ex cl fs e2 => rw [q2] at P'; exact P'
    | ok ts e2 =>
      rw [q2] at P'
      have P2 : PostR g c W σ env F H Q (.ok (.d d :: ts) e2) := P'
      intro vs F2 H2 R2 s2 k2
      exact P2 (v :: vs) F2 H2 R2 (s1.trans s2) ⟨Rep.mono s2.ex _ k1, k2⟩
/-- the thing in slot i, handed on to be changed -/
def rR (i : Nat) (mr : RM) : RM := fun env => match env[i]? with
  | some (.o _) => (mr env).bind fun as e2 => .ok (.r i :: as) e2
  | some (.r _) => (mr env).bind fun as e2 => .ok (.r i :: as) e2
  | _ => .st
theorem sr_r {g : G} {W : WX} {ta : TA} {i : Nat} {mr : RM} (h2 : SR g W ta mr) : SR g W (tCons (tVar i) ta) (rR i mr) := fun c σ env F H Q R P => by
  have main : ∀ v, σ[i]? = some (some v) → PostR g c W σ env F H Q ((mr env).bind fun as e2 => .ok (.r i :: as) e2) → tCons (tVar i) ta σ H Q := fun v hv P' => by
    refine ⟨v, hv, h2 c σ env F H _ R ?_⟩
    cases q2 : mr env with
    | st => rw [q2] at P'; exact P'
    | ex cl fs e2 => rw [q2] at P'; exact P'
    | ok ts e2 =>
      rw [q2] at P'
      have P2 : PostR g c W σ env F H Q (.ok (.r i :: ts) e2) := P'
      intro vs F2 H2 R2 s2 k2
      exact P2 (v :: vs) F2 H2 R2 s2 ⟨hv, k2⟩
  unfold rR at P
  cases q : env[i]? with
  | none => rw [q] at P; exact P.elim
  | some s =>
    rw [q] at P
    cases s with
    | non => exact P.elim
    | d _ => exact P.elim
    | o w => obtain ⟨p, o, h1, _⟩ := R.own i w q; exact main _ h1 P
    | r w => obtain ⟨p, o, h1, _⟩ := R.brf i w q; exact main _ h1 P
def slOf (env : En) : Ar → Option Sl
  | .d d => some (.d d)
  | .r i => match env[i]? with
    | some (.o w) => some (.r w)
    | some (.r w) => some (.r w)
    | _ => none
def slsOf (env : En) : List Ar → Option (List Sl)
  | [] => some []
  | a :: as => match slOf env a, slsOf env as with
    | some s, some ss => some (s :: ss)
    | _, _ => none
def refsOf : List Ar → List Nat
  | [] => []
  | .d _ :: as => refsOf as
  | .r i :: as => i :: refsOf as
def updsOf : List Ar → List Sl → Option (List (Nat × Ow))
  | [], [] => some []
  | .d _ :: as, _ :: ss => updsOf as ss
  | .r i :: as, .r w :: ss => (updsOf as ss).map ((i, w) :: ·)
  | _, _ => none
def kindW (env : En) (i : Nat) (w : Ow) : Sl := match env[i]? with
  | some (.r _) => .r w
  | _ => .o w
def backs : En → List (Nat × Ow) → En
  | env, [] => env
  | env, (i, w) :: us => backs (env.set i (kindW env i w)) us
def tvOf : Rv → Tv
  | .v d => .v d
  | .n w => .t w
def nodupB : List Nat → Bool
  | [] => true
  | i :: is => !is.contains i && nodupB is
theorem nodup_of : ∀ {l : List Nat}, nodupB l = true → l.Nodup
  | [], _ => List.nodup_nil
  | i :: is, h => by
    have h' : (!is.contains i && nodupB is) = true := h
    rw [Bool.and_eq_true] at h'
    refine List.nodup_cons.mpr ⟨fun hm => ?_, nodup_of h'.2⟩
    have : is.contains i = true := by simpa using hm
    rw [this] at h'
    exact absurd h'.1 (by decide)
def callM (f : DFun) (mr : RM) : EM := fun env => (mr env).bind fun as e => if nodupB (refsOf as) = true then match slsOf e as with
  | some args => match f args with
    | .ok rv args' => match updsOf as args' with
      | some us => .ok (tvOf rv) (backs e us)
      | none => .st
    | .ex cl fs args' => match updsOf as args' with
      | some us => .ex cl fs (backs e us)
      | none => .st
    | .st => .st
  | none => .st
  else .st
theorem backs_out : ∀ (us : List (Nat × Ow)) (env : En) (i : Nat), i ∉ us.map (·.1) → (backs env us)[i]? = env[i]?
  | [], _, _, _ => rfl
  | (j, w) :: us, env, i, h => by
    have hn : i ≠ j ∧ i ∉ us.map (·.1) := by simpa using h
    show (backs (env.set j (kindW env j w)) us)[i]? = _
    rw [backs_out us _ i hn.2, List.getElem?_set_ne (Ne.symm hn.1)]
theorem backs_in : ∀ (us : List (Nat × Ow)) (env : En) (i : Nat) (w : Ow), (us.map (·.1)).Nodup → (i, w) ∈ us → i < env.length → (backs env us)[i]? = some (kindW env i w)
  | [], _, _, _, _, h, _ => by cases h
  | (j, u) :: us, env, i, w, hn, h, hi => by
    have hn' : j ∉ us.map (·.1) ∧ (us.map (·.1)).Nodup := by simpa using hn
    show (backs (env.set j (kindW env j u)) us)[i]? = _
    rcases List.mem_cons.mp h with e | h
    · cases e
      rw [backs_out us _ _ hn'.1, List.getElem?_set_self hi]
    · have ne : j ≠ i := fun z => hn'.1 (z ▸ List.mem_map_of_mem (f := (·.1)) h)
      rw [backs_in us _ i w hn'.2 h (by simpa using hi)]
      unfold kindW
      rw [List.getElem?_set_ne ne]
theorem backs_len : ∀ (us : List (Nat × Ow)) (env : En), (backs env us).length = env.length
  | [], _ => rfl
  | (j, w) :: us, env => by
    show (backs (env.set j (kindW env j w)) us).length = _
    rw [backs_len us _, List.length_set]

theorem sls_at {g : G} {c : Cb} {σ : St} {env : En} {F H : Hp} {P : Nat → Addr} (R : Rel g c σ env F H) : ∀ {vs : List V} {as : List Ar} {ss : List Sl} {k : Nat}, ArsAt g σ F vs as → slsOf env as = some ss →
    (∀ (j i : Nat), as[j]? = some (.r i) → ∀ p, At σ i p → P (k + j) = p) → ArgsAt g P F H k vs ss
  | [], [], _, _, _, e, _ => by cases e; trivial
  | v :: vs, a :: as, ss, k, h, e, hP => by
    have e' : (match slOf env a, slsOf env as with | some s, some ss => some (s :: ss) | _, _ => none) = some ss := e
    cases q1 : slOf env a with
    | none => rw [q1] at e'; cases e'
    | some s =>
      cases q2 : slsOf env as with
      | none => rw [q1, q2] at e'; cases e'
      | some sr =>
        rw [q1, q2] at e'; cases e'
        refine ⟨?_, sls_at R h.2 q2 fun j i ej p hp => by have := hP (j + 1) i (by simpa using ej) p hp; rwa [show k + (j + 1) = k + 1 + j by omega] at this⟩
        cases a with
        | d d => cases q1; exact h.1
        | r i =>
          have hv : σ[i]? = some (some v) := h.1
          have q1' : (match env[i]? with | some (.o w) => some (Sl.r w) | some (.r w) => some (.r w) | _ => none) = some s := q1
          have go : ∀ w, (env[i]? = some (.o w) ∨ env[i]? = some (.r w)) → ArgAt g P F H k v (.r w) := fun w hw => by
            have : ∃ p o, At σ i p ∧ F p = none ∧ H p = some o ∧ Cont g F o w := by
              rcases hw with hw | hw
              · obtain ⟨p, o, h1, h2, _, h3, h4⟩ := R.own i w hw; exact ⟨p, o, h1, h2, h3, h4⟩
              · obtain ⟨p, o, h1, h2, _, h3, h4⟩ := R.brf i w hw; exact ⟨p, o, h1, h2, h3, h4⟩
            obtain ⟨p, o, h1, h2, h3, h4⟩ := this
            have ep : P (k + 0) = p := hP 0 i rfl p h1
            rw [Nat.add_zero] at ep
            have h1' : σ[i]? = some (some (.ref p)) := h1
            rw [hv] at h1'; cases h1'
            subst ep
            exact ⟨rfl, h2, o, h3, h4⟩
          cases q : env[i]? with
          | none => rw [q] at q1'; cases q1'
          | some t =>
            rw [q] at q1'
            cases t with
            | non => cases q1'
            | d _ => cases q1'
            | o w => cases q1'; exact go w (.inl q)
            | r w => cases q1'; exact go w (.inr q)
  | [], _ :: _, _, _, h, _, _ => h.elim
  | _ :: _, [], _, _, h, _, _ => h.elim
theorem sls_ref {env : En} : ∀ {as : List Ar} {ss : List Sl} {j : Nat} {s : Sl}, slsOf env as = some ss → ss[j]? = some s → isR s = true → ∃ i, as[j]? = some (.r i) ∧ owns env i
  | [], _, _, _, e, h, _ => by cases e; cases h
  | a :: as, ss, j, s, e, h, hr => by
    have e' : (match slOf env a, slsOf env as with | some s, some ss => some (s :: ss) | _, _ => none) = some ss := e
    cases q1 : slOf env a with
    | none => rw [q1] at e'; cases e'
    | some s0 =>
      cases q2 : slsOf env as with
      | none => rw [q1, q2] at e'; cases e'
      | some sr =>
        rw [q1, q2] at e'; cases e'
        cases j with
        | zero =>
          cases h
          cases a with
          | d d => cases q1; cases hr
          | r i =>
            refine ⟨i, rfl, ?_⟩
            have q1' : (match env[i]? with | some (.o w) => some (Sl.r w) | some (.r w) => some (.r w) | _ => none) = some s := q1
            cases q : env[i]? with
            | none => rw [q] at q1'; cases q1'
            | some t =>
              rw [q] at q1'
              cases t with
              | non => cases q1'
              | d _ => cases q1'
              | o w => exact ⟨_, q, rfl⟩
              | r w => exact ⟨_, q, rfl⟩
        | succ j =>
          obtain ⟨i, h1, h2⟩ := sls_ref q2 (by simpa using h) hr
          exact ⟨i, by simpa using h1, h2⟩
theorem refs_get : ∀ {as : List Ar} {j i : Nat}, as[j]? = some (.r i) → i ∈ refsOf as
  | [], _, _, h => by cases h
  | .d _ :: as, 0, _, h => by cases h
  | .r i :: as, 0, _, h => by cases h; exact List.mem_cons_self
  | .d _ :: as, j + 1, _, h => refs_get (as := as) (by simpa using h)
  | .r i :: as, j + 1, _, h => List.mem_cons_of_mem _ (refs_get (as := as) (by simpa using h))
theorem refs_inj : ∀ {as : List Ar} {j k i : Nat}, (refsOf as).Nodup → as[j]? = some (.r i) → as[k]? = some (.r i) → j = k
  | [], _, _, _, _, h, _ => by cases h
  | .d _ :: as, j, k, i, n, h1, h2 => by
    cases j with
    | zero => cases h1
    | succ j =>
      cases k with
      | zero => cases h2
      | succ k => exact congrArg (· + 1) (refs_inj (as := as) (i := i) n (by simpa using h1) (by simpa using h2))
  | .r a :: as, j, k, i, n, h1, h2 => by
    have n' : a ∉ refsOf as ∧ (refsOf as).Nodup := List.nodup_cons.mp n
    cases j with
    | zero =>
      cases k with
      | zero => rfl
      | succ k =>
        cases h1
        exact absurd (refs_get (as := as) (by simpa using h2)) n'.1
    | succ j =>
      cases k with
      | zero =>
        cases h2
        exact absurd (refs_get (as := as) (by simpa using h1)) n'.1
      | succ k => exact congrArg (· + 1) (refs_inj (as := as) (i := i) n'.2 (by simpa using h1) (by simpa using h2))
theorem upds_keys : ∀ {as : List Ar} {ss : List Sl} {us : List (Nat × Ow)}, updsOf as ss = some us → us.map (·.1) = refsOf as
  | [], [], _, h => by cases h; rfl
  | .d _ :: as, _ :: ss, us, h => upds_keys (as := as) (ss := ss) h
  | .r i :: as, .r w :: ss, us, h => by
    have h' : (updsOf as ss).map ((i, w) :: ·) = some us := h
    cases q : updsOf as ss with
    | none => rw [q] at h'; cases h'
    | some ur =>
      rw [q] at h'; cases h'
      show i :: ur.map (·.1) = i :: refsOf as
      rw [upds_keys q]
  | .r i :: as, .non :: ss, us, h => by cases h
  | .r i :: as, .d _ :: ss, us, h => by cases h
  | .r i :: as, .o _ :: ss, us, h => by cases h
  | [], _ :: _, _, h => by cases h
  | .d _ :: _, [], _, h => by cases h
  | .r _ :: _, [], _, h => by cases h
theorem upds_get {g : G} {σ : St} {F F' H' : Hp} {P : Nat → Addr} : ∀ {vs : List V} {as : List Ar} {ss : List Sl} {us : List (Nat × Ow)} {k : Nat} {i : Nat} {w : Ow}, ArsAt g σ F vs as → ArgsAt g P F' H' k vs ss → updsOf as ss = some us → (i, w) ∈ us →
    ∃ j o, as[j]? = some (.r i) ∧ At σ i (P (k + j)) ∧ F' (P (k + j)) = none ∧ H' (P (k + j)) = some o ∧ Cont g F' o w
  | [], [], [], _, _, _, _, _, _, h, hm => by cases h; cases hm
  | v :: vs, .d _ :: as, s :: ss, us, k, i, w, ha, hs, h, hm => by
    obtain ⟨j, o, h1, h2⟩ := upds_get (k := k + 1) ha.2 hs.2 (show updsOf as ss = some us from h) hm
    refine ⟨j + 1, o, by simpa using h1, ?_⟩
    rwa [show k + 1 + j = k + (j + 1) by omega] at h2
  | v :: vs, .r i0 :: as, .r w0 :: ss, us, k, i, w, ha, hs, h, hm => by
    have h' : (updsOf as ss).map ((i0, w0) :: ·) = some us := h
    cases q : updsOf as ss with
    | none => rw [q] at h'; cases h'
    | some ur =>
      rw [q] at h'; cases h'
      rcases List.mem_cons.mp hm with e | hm
      · cases e
        obtain ⟨e1, e2, o, e3, e4⟩ := hs.1
        refine ⟨0, o, rfl, ?_, by rw [Nat.add_zero]; exact e2, by rw [Nat.add_zero]; exact e3, e4⟩
        have hv := ha.1
        rw [Nat.add_zero]
        subst e1
        exact hv
      · obtain ⟨j, o, h1, h2⟩ := upds_get (k := k + 1) ha.2 hs.2 q hm
        refine ⟨j + 1, o, by simpa using h1, ?_⟩
        rwa [show k + 1 + j = k + (j + 1) by omega] at h2
  | v :: vs, .r i0 :: as, .non :: ss, us, k, i, w, ha, hs, h, hm => by cases h
  | v :: vs, .r i0 :: as, .d _ :: ss, us, k, i, w, ha, hs, h, hm => by cases h
  | v :: vs, .r i0 :: as, .o _ :: ss, us, k, i, w, ha, hs, h, hm => by cases h
  | [], [], _ :: _, _, _, _, _, _, hs, _, _ => hs.elim
  | _ :: _, _, [], _, _, _, _, _, hs, _, _ => hs.elim
  | [], _ :: _, _, _, _, _, _, ha, _, _, _ => ha.elim
  | _ :: _, [], _, _, _, _, _, ha, _, _, _ => ha.elim
/-- behind a call: the caller's slots -/
theorem Rel.after {g : G} {c : Cb} {σ : St} {env : En} {F H F' H' : Hp} {P : Nat → Addr} {vs : List V} {as : List Ar} {ss ss' : List Sl} {us : List (Nat × Ow)} (R : Rel g c σ env F H) (ha : ArsAt g σ F vs as) (hs : slsOf env as = some ss) (hn : (refsOf as).Nodup)
    (aa : ArgsAt g P F H 0 vs ss) (L : Lv ⟨Bof P ss, P, H, F⟩ F' H') (aa' : ArgsAt g P F' H' 0 vs ss') (hu : updsOf as ss' = some us) : Rel g c σ (backs env us) F' H' ∧ Stp σ env F H (backs env us) F' H' := by
  have keys := upds_keys hu
  have un : (us.map (·.1)).Nodup := by rw [keys]; exact hn
  -- an address that was handed on is a slot's
  have bof : ∀ a, Bof P ss a → ∃ i, owns env i ∧ At σ i a ∧ i ∈ refsOf as := fun a ⟨j, s, e, hr, ea⟩ => by
    obtain ⟨i, h1, h2⟩ := sls_ref hs e hr
    obtain ⟨v, h3, h4⟩ := aa.get e
    cases s with
    | r w =>
      obtain ⟨e1, _⟩ := h4
      rw [Nat.zero_add] at e1
      have : ∀ {vs : List V} {as : List Ar} {j : Nat} {v : V} {i : Nat}, ArsAt g σ F vs as → vs[j]? = some v → as[j]? = some (.r i) → σ[i]? = some (some v) := by
        intro vs
        induction vs with
        | nil => intro as j v i _ h _; cases h
        | cons u us ih =>
          intro as j v i h1 h2 h3
          cases as with
          | nil => exact h1.elim
          | cons b bs =>
            cases j with
            | zero => cases h2; cases h3; exact h1.1
            | succ j => exact ih h1.2 (by simpa using h2) (by simpa using h3)
      have hv := this ha h3 h1
      subst e1
      exact ⟨i, h2, by rw [ea]; exact hv, refs_get h1⟩
    | non => cases hr
    | d _ => cases hr
    | o _ => cases hr
  have ow : ∀ i, owns (backs env us) i → owns env i := fun i ⟨s, e, hso⟩ => by
    by_cases hi : i ∈ us.map (·.1)
    · obtain ⟨⟨i', w⟩, hm, rfl⟩ := List.mem_map.mp hi
      obtain ⟨j, o, h1, _⟩ := upds_get ha aa' hu hm
      obtain ⟨s', hs', hr'⟩ : ∃ s', ss[j]? = some s' ∧ isR s' = true := by
        have : ∀ {as : List Ar} {ss : List Sl} {j i : Nat}, slsOf env as = some ss → as[j]? = some (.r i) → ∃ s', ss[j]? = some s' ∧ isR s' = true := by
          intro as
          induction as with
          | nil => intro ss j i _ h; cases h
          | cons a as ih =>
            intro ss j i e h
            have e' : (match slOf env a, slsOf env as with | some s, some ss => some (s :: ss) | _, _ => none) = some ss := e
            cases q1 : slOf env a with
            | none => rw [q1] at e'; cases e'
            | some s0 =>
              cases q2 : slsOf env as with
              | none => rw [q1, q2] at e'; cases e'
              | some sr =>
                rw [q1, q2] at e'; cases e'
                cases j with
                | succ j =>
                  obtain ⟨s', h1, h2⟩ := ih q2 (by simpa using h)
                  exact ⟨s', by simpa using h1, h2⟩
                | zero =>
                  cases h
                  have q1' : (match env[i]? with | some (.o w) => some (Sl.r w) | some (.r w) => some (.r w) | _ => none) = some s0 := q1
                  cases q : env[i]? with
                  | none => rw [q] at q1'; cases q1'
                  | some t =>
                    rw [q] at q1'
                    cases t with
                    | non => cases q1'
                    | d _ => cases q1'
                    | o w => cases q1'; exact ⟨_, rfl, rfl⟩
                    | r w => cases q1'; exact ⟨_, rfl, rfl⟩
        exact this hs h1
      obtain ⟨i2, h2, h3⟩ := sls_ref hs hs' hr'
      rw [h1] at h2; cases h2
      exact h3
    · rw [backs_out us env i hi] at e
      exact ⟨s, e, hso⟩
  have keep : ∀ a o, H a = some o → free σ env a → H' a = some o := fun a o h f => L.h0 a o h fun b => by
    obtain ⟨i, h1, h2, _⟩ := bof a b
    exact f i h1 h2
  have tmp : ∀ a o, H a = some o → F a = none → F' a = none := fun a o h n => by
    cases q : F' a with
    | none => rfl
    | some u =>
      rcases L.nw a u q with z | z
      · have z' : F a = some u := z
        rw [n] at z'; cases z'
      · have z' : H a = none := z
        rw [h] at z'; cases z'
  have f0 : Ex F F' := L.f0
  have hk : ∀ a o, H a = some o → ¬ Bof P ss a → H' a = some o := L.h0
  have dm : ∀ a o, H a = some o → ∃ o', H' a = some o' := L.dm
  refine ⟨⟨⟨L.fh, R.f0.trans f0, fun a o h b => ?_, fun a o h => ?_, fun a o h => ?_⟩, by rw [backs_len]; exact R.len, fun i d q => ?_, fun i w q => ?_, fun i w q => ?_, fun i j p o1 o2 a1 a2 => R.inj i j p (ow i o1) (ow j o2) a1 a2⟩, ⟨f0, keep, fun a o h _ n => tmp a o h n, ow, dm⟩⟩
  · have h1 := R.h0 a o h b
    refine hk a o h1 fun bo => ?_
    obtain ⟨i, o1, a1, _⟩ := bof a bo
    obtain ⟨s, e, hso⟩ := o1
    cases s with
    | non => cases hso
    | d _ => cases hso
    | o w =>
      obtain ⟨p, o', h2, _, h3, _⟩ := R.own i w e
      have : (some (some (V.ref a)) : Option (Option V)) = some (some (V.ref p)) := Eq.trans (Eq.symm a1) h2
      cases this
      rw [h] at h3; cases h3
    | r w =>
      obtain ⟨p, o', h2, _, ⟨_, h3⟩, _⟩ := R.brf i w e
      have : (some (some (V.ref a)) : Option (Option V)) = some (some (V.ref p)) := Eq.trans (Eq.symm a1) h2
      cases this
      exact b h3
  · obtain ⟨o', h1⟩ := R.dm a o h
    exact dm a o' h1
  · rcases L.nw a o h with z | z
    · exact R.nw a o z
    · exact .inr (R.toLv.hnone z)
  · by_cases hi : i ∈ us.map (·.1)
    · obtain ⟨⟨i', w⟩, hm, rfl⟩ := List.mem_map.mp hi
      by_cases hl : i' < env.length
      · rw [backs_in us env i' w un hm hl] at q
        unfold kindW at q
        split at q <;> cases q
      · rw [List.getElem?_eq_none (by rw [backs_len]; omega)] at q; cases q
    · rw [backs_out us env i hi] at q
      obtain ⟨u, h1, h2⟩ := R.dat i d q
      exact ⟨u, h1, Rep.mono f0 d h2⟩
  · by_cases hi : i ∈ us.map (·.1)
    · obtain ⟨⟨i', w'⟩, hm, rfl⟩ := List.mem_map.mp hi
      have hl : i' < env.length := by
        have := (List.getElem?_eq_some_iff.mp q).1
        rw [backs_len] at this; exact this
      obtain ⟨j, o, h1, h2, h3, h4, h5⟩ := upds_get ha aa' hu hm
      rw [backs_in us env i' w' un hm hl] at q
      unfold kindW at q
      obtain ⟨s, e, hso⟩ : owns env i' := ow i' ⟨_, backs_in us env i' w' un hm hl, by unfold kindW; split <;> rfl⟩
      rw [e] at q
      cases s with
      | non => cases hso
      | d _ => cases hso
      | r _ => cases q
      | o w0 =>
        cases q
        obtain ⟨p, o', k1, k2, k3, _⟩ := R.own i' w0 e
        have : (some (some (V.ref p)) : Option (Option V)) = some (some (V.ref (P (0 + j)))) := Eq.trans (Eq.symm k1) h2
        cases this
        exact ⟨_, o, k1, h3, k3, h4, h5⟩
    · rw [backs_out us env i hi] at q
      obtain ⟨p, o, h1, h2, h3, h4, h5⟩ := R.own i w q
      refine ⟨p, o, h1, tmp p o h4 h2, h3, hk p o h4 fun bo => ?_, h5.mono f0⟩
      obtain ⟨i2, o2, a2, m2⟩ := bof p bo
      have : i2 = i := R.inj i2 i p o2 ⟨_, q, rfl⟩ a2 h1
      subst this
      rw [keys] at hi
      exact hi m2
  · by_cases hi : i ∈ us.map (·.1)
    · obtain ⟨⟨i', w'⟩, hm, rfl⟩ := List.mem_map.mp hi
      have hl : i' < env.length := by
        have := (List.getElem?_eq_some_iff.mp q).1
        rw [backs_len] at this; exact this
      obtain ⟨j, o, h1, h2, h3, h4, h5⟩ := upds_get ha aa' hu hm
      rw [backs_in us env i' w' un hm hl] at q
      unfold kindW at q
      obtain ⟨s, e, hso⟩ : owns env i' := ow i' ⟨_, backs_in us env i' w' un hm hl, by unfold kindW; split <;> rfl⟩
      rw [e] at q
      cases s with
      | non => cases hso
      | d _ => cases hso
      | o _ => cases q
      | r w0 =>
        cases q
        obtain ⟨p, o', k1, k2, k3, _⟩ := R.brf i' w0 e
        have : (some (some (V.ref p)) : Option (Option V)) = some (some (V.ref (P (0 + j)))) := Eq.trans (Eq.symm k1) h2
        cases this
        exact ⟨_, o, k1, h3, k3, h4, h5⟩
    · rw [backs_out us env i hi] at q
      obtain ⟨p, o, h1, h2, h3, h4, h5⟩ := R.brf i w q
      refine ⟨p, o, h1, tmp p o h4 h2, h3, hk p o h4 fun bo => ?_, h5.mono f0⟩
      obtain ⟨i2, o2, a2, m2⟩ := bof p bo
      have : i2 = i := R.inj i2 i p o2 ⟨_, q, rfl⟩ a2 h1
      subst this
      rw [keys] at hi
      exact hi m2
theorem rv_tok {g : G} {c : Cb} {σ : St} {env env' : En} {F H F' H' : Hp} {v : V} {rv : Rv} (R : Rel g c σ env F H) (R' : Rel g c σ env' F' H') (s : Stp σ env F H env' F' H') (h : RvOk g H F' H' v rv) : Tok g c σ env' F' H' v (tvOf rv) ∧ Nw H v (tvOf rv) := by
  cases rv with
  | v d => exact ⟨h, trivial⟩
  | n w =>
    obtain ⟨p, o, e, h1, h2, h3, h4⟩ := h
    refine ⟨⟨p, o, e, h2, R.toLv.hnone h1, (R.freeN h1).mono s.ow, h3, h4⟩, fun q e' => ?_⟩
    rw [e] at e'; cases e'; exact h1
theorem sp_call {g : G} {W : WX} {f : DFun} {mr : RM} {c : Cb} {σ : St} {e1 : En} {F1 H1 : Hp} {Q : VK} {vs : List V} {as : List Ar} (R1 : Rel g c σ e1 F1 H1) (ha : ArsAt g σ F1 vs as)
    (P : Post g c W σ e1 F1 H1 Q (if nodupB (refsOf as) = true then match slsOf e1 as with
      | some args => match f args with
        | .ok rv args' => match updsOf as args' with
          | some us => .ok (tvOf rv) (backs e1 us)
          | none => .st
        | .ex cl fs args' => match updsOf as args' with
          | some us => .ex cl fs (backs e1 us)
          | none => .st
        | .st => .st
      | none => .st
      else .st)) : spD g f vs H1 Q (fun cls d H => W cls d σ H) := by
  by_cases hnb : nodupB (refsOf as) = true
  · rw [if_pos hnb] at P
    have hn := nodup_of hnb
    cases q1 : slsOf e1 as with
    | none => simp only [q1] at P; exact P.elim
    | some args =>
      simp only [q1] at P
      let PP : Nat → Addr := fun k => match as[k]? with
        | some (.r i) => match σ[i]? with
          | some (some (.ref p)) => p
          | _ => 0
        | _ => 0
      have hPP : ∀ (j i : Nat), as[j]? = some (.r i) → ∀ p, At σ i p → PP j = p := fun j i ej p hp => by
        have hp' : σ[i]? = some (some (.ref p)) := hp
        show (match as[j]? with | some (.r i) => (match σ[i]? with | some (some (.ref p)) => p | _ => 0) | _ => 0) = p
        rw [ej]
        show (match σ[i]? with | some (some (.ref p)) => p | _ => 0) = p
        rw [hp']
      have aa : ArgsAt g PP F1 H1 0 vs args := sls_at R1 ha q1 fun j i ej p hp => by rw [Nat.zero_add]; exact hPP j i ej p hp
      refine ⟨F1, PP, args, R1.fh, aa, fun i j s t ei ej hs ht hp => ?_, ?_⟩
      · obtain ⟨i', h1, o1⟩ := sls_ref q1 ei hs
        obtain ⟨j', h2, o2⟩ := sls_ref q1 ej ht
        obtain ⟨p1, _, _, a1, _⟩ := R1.owned o1
        obtain ⟨p2, _, _, a2, _⟩ := R1.owned o2
        have e1' := hPP i i' h1 p1 a1
        have e2' := hPP j j' h2 p2 a2
        rw [e1', e2'] at hp
        subst hp
        have : i' = j' := R1.inj i' j' p1 o1 o2 a1 a2
        subst this
        exact refs_inj hn h1 h2
      · cases q2 : f args with
        | st => simp only [q2] at P; exact P
        | ok rv args' =>
          simp only [q2] at P
          intro v F' H' L aa' rk
          cases q3 : updsOf as args' with
          | none => simp only [q3] at P; exact P.elim
          | some us =>
            simp only [q3] at P
            obtain ⟨R2, s2⟩ := R1.after ha q1 hn aa L aa' q3
            obtain ⟨t1, t2⟩ := rv_tok R1 R2 s2 rk
            exact P v F' H' R2 s2 t1 t2
        | ex cl fs args' =>
          simp only [q2] at P
          intro d F' H' L aa' xf
          cases q3 : updsOf as args' with
          | none => simp only [q3] at P; exact P.elim
          | some us =>
            simp only [q3] at P
            obtain ⟨R2, s2⟩ := R1.after ha q1 hn aa L aa' q3
            exact P d F' H' R2 ⟨R1.toLv.hnone xf.1, xf.2⟩
  · rw [if_neg hnb] at P; exact P.elim
theorem se_call {g : G} {W : WX} {f : DFun} {ta : TA} {mr : RM} (h : SR g W ta mr) : SE g W (tCallSD (spD g f) [] (fun σ cls d H => W cls d σ H) ta) (callM f mr) := fun c σ env F H Q R P => by
  refine h c σ env F H _ R ?_
  unfold callM at P
  cases q1 : mr env with
  | st => rw [q1] at P; exact P
  | ex cl fs e1 => rw [q1] at P; exact P
  | ok as e1 =>
    rw [q1] at P
    intro vs F1 H1 R1 s1 k1
    rw [List.append_nil]
    exact sp_call (mr := mr) R1 k1 (Post.from s1 P)
end PL
namespace PL
open PySem L2
section
variable {g : G} {F H : Hp} {x : V}
theorem vw_non (h : Vw g F H .non x) : x = .non := by
  rcases h with h | ⟨p, o, w, _, _, _, z⟩
  · exact h
  · cases w <;> cases z
theorem vw_bl {b : Bool} (h : Vw g F H (.bl b) x) : x = .bl b := by
  rcases h with h | ⟨p, o, w, _, _, _, z⟩
  · exact h
  · cases w <;> cases z
theorem vw_int {i : Int} (h : Vw g F H (.int i) x) : x = .int i := by
  rcases h with h | ⟨p, o, w, _, _, _, z⟩
  · exact h
  · cases w <;> cases z
theorem vw_str {s : Str} (h : Vw g F H (.str s) x) : x = .str s := by
  rcases h with h | ⟨p, o, w, _, _, _, z⟩
  · exact h
  · cases w <;> cases z
theorem vw_lst {ds : List D} (e : Ex F H) (h : Vw g F H (.lst ds) x) : ∃ a vs, x = .ref a ∧ H a = some (.lst vs) ∧ Reps g F ds vs := by
  rcases h with ⟨a, vs, r, s, q⟩ | ⟨p, o, w, r, hp, k, z⟩
  · exact ⟨a, vs, r, e _ _ s, q⟩
  · cases w with
    | L xs =>
      cases z
      cases o with
      | lst vs => exact ⟨p, vs, r, hp, k⟩
      | _ => exact k.elim
    | K _ => cases z
    | T _ => cases z
theorem vw_tup {ds : List D} (e : Ex F H) (h : Vw g F H (.tup ds) x) : ∃ a vs, x = .ref a ∧ H a = some (.tup vs) ∧ Reps g F ds vs := by
  rcases h with ⟨a, vs, r, s, q⟩ | ⟨p, o, w, r, hp, k, z⟩
  · exact ⟨a, vs, r, e _ _ s, q⟩
  · cases w <;> cases z
theorem vw_scr {ns : List Int} (e : Ex F H) (h : Vw g F H (.scr ns) x) : ∃ a, x = .ref a ∧ SqL g.K H a (ns.map V.int) := by
  rcases h with ⟨a, r, s⟩ | ⟨p, o, w, r, hp, k, z⟩
  · exact ⟨a, r, ex_l e s⟩
  · cases w <;> cases z
theorem reps_of_map {α : Type} {f : α → V} {gg : α → D} (hr : ∀ a, Rep g F (gg a) (f a)) : ∀ (l : List α), Reps g F (l.map gg) (l.map f)
  | [] => rfl
  | a :: l => ⟨f a, _, rfl, hr a, reps_of_map hr l⟩
/-- a list of ints -/
def intsOf : List D → Option (List Int)
  | [] => some []
  | .int i :: ds => (intsOf ds).map (i :: ·)
  | _ :: _ => none
theorem ints_reps : ∀ {ds : List D} {vs : List V} {ns : List Int}, Reps g F ds vs → intsOf ds = some ns → vs = ns.map V.int
  | [], _, _, h, e => by cases e; exact h
  | .int i :: ds, _, ns, h, e => by
    obtain ⟨v, vr, r, s, q⟩ := h
    have e' : (intsOf ds).map (i :: ·) = some ns := e
    cases q1 : intsOf ds with
    | none => rw [q1] at e'; cases e'
    | some m =>
      rw [q1] at e'; cases e'
      have s' : v = .int i := s
      rw [r, s', ints_reps q q1] <;> rfl
  | .non :: _, _, _, _, e => by cases e
  | .bl _ :: _, _, _, _, e => by cases e
  | .str _ :: _, _, _, _, e => by cases e
  | .lst _ :: _, _, _, _, e => by cases e
  | .tup _ :: _, _, _, _, e => by cases e
  | .obj _ _ _ :: _, _, _, _, e => by cases e
  | .dk _ _ :: _, _, _, _, e => by cases e
  | .dt _ _ :: _, _, _, _, e => by cases e
  | .scr _ :: _, _, _, _, e => by cases e
  | .exc _ _ _ :: _, _, _, _, e => by cases e
def blsOf : List D → Option (List Bool)
  | [] => some []
  | .bl i :: ds => (blsOf ds).map (i :: ·)
  | _ :: _ => none
theorem bls_reps : ∀ {ds : List D} {vs : List V} {ns : List Bool}, Reps g F ds vs → blsOf ds = some ns → vs = ns.map V.bl
  | [], _, _, h, e => by cases e; exact h
  | .bl i :: ds, _, ns, h, e => by
    obtain ⟨v, vr, r, s, q⟩ := h
    have e' : (blsOf ds).map (i :: ·) = some ns := e
    cases q1 : blsOf ds with
    | none => rw [q1] at e'; cases e'
    | some m =>
      rw [q1] at e'; cases e'
      have s' : v = .bl i := s
      rw [r, s', bls_reps q q1] <;> rfl
  | .non :: _, _, _, _, e => by cases e
  | .int _ :: _, _, _, _, e => by cases e
  | .str _ :: _, _, _, _, e => by cases e
  | .lst _ :: _, _, _, _, e => by cases e
  | .tup _ :: _, _, _, _, e => by cases e
  | .obj _ _ _ :: _, _, _, _, e => by cases e
  | .dk _ _ :: _, _, _, _, e => by cases e
  | .dt _ _ :: _, _, _, _, e => by cases e
  | .scr _ :: _, _, _, _, e => by cases e
  | .exc _ _ _ :: _, _, _, _, e => by cases e
def strsOf : List D → Option (List Str)
  | [] => some []
  | .str i :: ds => (strsOf ds).map (i :: ·)
  | _ :: _ => none
theorem strs_reps : ∀ {ds : List D} {vs : List V} {ns : List Str}, Reps g F ds vs → strsOf ds = some ns → vs = ns.map V.str
  | [], _, _, h, e => by cases e; exact h
  | .str i :: ds, _, ns, h, e => by
    obtain ⟨v, vr, r, s, q⟩ := h
    have e' : (strsOf ds).map (i :: ·) = some ns := e
    cases q1 : strsOf ds with
    | none => rw [q1] at e'; cases e'
    | some m =>
      rw [q1] at e'; cases e'
      have s' : v = .str i := s
      rw [r, s', strs_reps q q1] <;> rfl
  | .non :: _, _, _, _, e => by cases e
  | .int _ :: _, _, _, _, e => by cases e
  | .bl _ :: _, _, _, _, e => by cases e
  | .lst _ :: _, _, _, _, e => by cases e
  | .tup _ :: _, _, _, _, e => by cases e
  | .obj _ _ _ :: _, _, _, _, e => by cases e
  | .dk _ _ :: _, _, _, _, e => by cases e
  | .dt _ _ :: _, _, _, _, e => by cases e
  | .scr _ :: _, _, _, _, e => by cases e
  | .exc _ _ _ :: _, _, _, _, e => by cases e
end

/-! ### ints -/
def iI (f : Int → Int → Int) : D → D → Option Tv
  | .int i, .int j => some (.v (.int (f i j)))
  | _, _ => none
def iB (f : Int → Int → Bool) : D → D → Option Tv
  | .int i, .int j => some (.v (.bl (f i j)))
  | _, _ => none
def iIc (c : Int → Int → Bool) (f : Int → Int → Int) : D → D → Option Tv
  | .int i, .int j => if c i j = true then some (.v (.int (f i j))) else none
  | _, _ => none
theorem iI_inv {f : Int → Int → Int} {d e : D} {t : Tv} (h : iI f d e = some t) : ∃ i j, d = .int i ∧ e = .int j ∧ t = .v (.int (f i j)) := by
  unfold iI at h
  split at h
  · cases h; exact ⟨_, _, rfl, rfl, rfl⟩
  · cases h
theorem iB_inv {f : Int → Int → Bool} {d e : D} {t : Tv} (h : iB f d e = some t) : ∃ i j, d = .int i ∧ e = .int j ∧ t = .v (.bl (f i j)) := by
  unfold iB at h
  split at h
  · cases h; exact ⟨_, _, rfl, rfl, rfl⟩
  · cases h
theorem iIc_inv {c : Int → Int → Bool} {f : Int → Int → Int} {d e : D} {t : Tv} (h : iIc c f d e = some t) : ∃ i j, d = .int i ∧ e = .int j ∧ c i j = true ∧ t = .v (.int (f i j)) := by
  unfold iIc at h
  split at h
  · split at h
    · cases h; exact ⟨_, _, rfl, rfl, by assumption, rfl⟩
    · cases h
  · cases h
section
variable {g : G}
theorem p_I {f : Int → Int → Int} : P2 g (rI0 fun i j => .int (f i j)) (iI f) := fun F H d e x y t Q fh h1 h2 q k => by
  obtain ⟨i, j, rfl, rfl, rfl⟩ := iI_inv q
  exact ⟨i, j, vw_int h1, vw_int h2, k _ F H (Gr.refl fh) (rfl : V.int _ = .int _)⟩
theorem p_B {f : Int → Int → Bool} : P2 g (rI0 fun i j => .bl (f i j)) (iB f) := fun F H d e x y t Q fh h1 h2 q k => by
  obtain ⟨i, j, rfl, rfl, rfl⟩ := iB_inv q
  exact ⟨i, j, vw_int h1, vw_int h2, k _ F H (Gr.refl fh) (rfl : V.bl _ = .bl _)⟩
theorem p_Ic {C : Int → Int → Prop} {c : Int → Int → Bool} {f : Int → Int → Int} (hc : ∀ i j, c i j = true → C i j) : P2 g (rI C fun i j => .int (f i j)) (iIc c f) := fun F H d e x y t Q fh h1 h2 q k => by
  obtain ⟨i, j, rfl, rfl, hq, rfl⟩ := iIc_inv q
  exact ⟨i, j, vw_int h1, vw_int h2, hc i j hq, k _ F H (Gr.refl fh) (rfl : V.int _ = .int _)⟩
def cMul (i j : Int) : Bool := (decide (-(2 ^ 64) < i) && decide (i < 2 ^ 64)) || (decide (-(2 ^ 64) < j) && decide (j < 2 ^ 64))
theorem cMul_ok (i j : Int) (h : cMul i j = true) : CMul i j := by
  unfold cMul at h
  simp only [Bool.or_eq_true, Bool.and_eq_true, decide_eq_true_eq] at h
  exact h
def cDiv (i j : Int) : Bool := decide (0 < j) && decide (j < 1073741824)
theorem cDiv_ok (i j : Int) (h : cDiv i j = true) : CDiv i j := by
  unfold cDiv at h
  simp only [Bool.and_eq_true, decide_eq_true_eq] at h
  exact h
def cPos (i j : Int) : Bool := decide (0 < j)
theorem cPos_ok (i j : Int) (h : cPos i j = true) : 0 < j := by
  unfold cPos at h
  simpa using h
def cPow (i j : Int) : Bool := decide (0 ≤ j) && decide (j ≤ 1000) && decide (i.natAbs < 2 ^ 64)
theorem cPow_ok (i j : Int) (h : cPow i j = true) : CPow i j := by
  unfold cPow at h
  simp only [Bool.and_eq_true, decide_eq_true_eq] at h
  exact ⟨h.1.1, by omega, h.2⟩
def addI := iI fun i j => i + j
def subI := iI fun i j => i - j
def mulI := iIc cMul fun i j => i * j
def divI := iIc cDiv fun i j => i / j
def modI := iIc cPos fun i j => i % j
def powI := iIc cPow fun i j => i ^ j.toNat
theorem p_add : P2 g (rI0 fun i j => .int (i + j)) addI := p_I
theorem p_sub : P2 g (rI0 fun i j => .int (i - j)) subI := p_I
theorem p_mul : P2 g (rI CMul fun i j => .int (i * j)) mulI := p_Ic cMul_ok
theorem p_div : P2 g (rI CDiv fun i j => .int (i / j)) divI := p_Ic cDiv_ok
theorem p_mod : P2 g (rI (fun _ j => 0 < j) fun i j => .int (i % j)) modI := p_Ic cPos_ok
theorem p_pow : P2 g (rI CPow fun i j => .int (i ^ j.toNat)) powI := p_Ic cPow_ok
def ltI := iB fun i j => decide (i < j)
def leI := iB fun i j => decide (i ≤ j)
def gtI := iB fun i j => decide (j < i)
def geI := iB fun i j => decide (j ≤ i)
theorem p_lt : P2 g (rI0 fun i j => .bl (decide (i < j))) ltI := p_B
theorem p_le : P2 g (rI0 fun i j => .bl (decide (i ≤ j))) leI := p_B
theorem p_gt : P2 g (rI0 fun i j => .bl (decide (j < i))) gtI := p_B
theorem p_ge : P2 g (rI0 fun i j => .bl (decide (j ≤ i))) geI := p_B
def negI : D → Option Tv
  | .int i => some (.v (.int (-i)))
  | _ => none
theorem p_neg : P1 g (rU fun i => .int (-i)) negI := fun F H d x t Q fh h1 q k => by
  unfold negI at q
  split at q
  · cases q; exact ⟨_, vw_int h1, k _ F H (Gr.refl fh) (rfl : V.int _ = .int _)⟩
  · cases q
/-- is None, is not None -/
def isN : D → D → Option Tv
  | .non, .non => some (.v (.bl true))
  | _, .non => some (.v (.bl false))
  | _, _ => none
def isntN : D → D → Option Tv
  | .non, .non => some (.v (.bl false))
  | _, .non => some (.v (.bl true))
  | _, _ => none
theorem vw_notnon {F H : Hp} {d : D} {x : V} (h : Vw g F H d x) (n : d ≠ .non) : x ≠ .non := by
  intro e
  subst e
  rcases h with h | ⟨p, o, w, e, _⟩
  · cases d with
    | non => exact n rfl
    | bl _ => cases h
    | int _ => cases h
    | str _ => cases h
    | lst _ => obtain ⟨_, _, e, _⟩ := h; cases e
    | tup _ => obtain ⟨_, _, e, _⟩ := h; cases e
    | obj _ _ _ => obtain ⟨_, _, _, e, _⟩ := h; cases e
    | dk _ _ => obtain ⟨_, _, e, _⟩ := h; cases e
    | dt _ _ => obtain ⟨_, _, e, _⟩ := h; cases e
    | scr _ => obtain ⟨_, e, _⟩ := h; cases e
    | exc _ _ _ => obtain ⟨_, _, _, e, _⟩ := h; cases e
  · cases e
abbrev rIsN0 : R2 := fun x y H Q => y = .non ∧ Q (.bl (decide (x = .non))) H
abbrev rNotN0 : R2 := fun x y H Q => y = .non ∧ Q (.bl (!decide (x = .non))) H
theorem p_isN : P2 g rIsN0 isN := fun F H d e x y t Q fh h1 h2 q k => by
  unfold isN at q
  split at q
  · cases q
    refine ⟨vw_non h2, ?_⟩
    rw [vw_non h1]
    exact k _ F H (Gr.refl fh) (rfl : V.bl _ = .bl true)
  · cases q
    refine ⟨vw_non h2, ?_⟩
    rw [decide_eq_false (vw_notnon h1 (by intro z; subst z; simp_all))]
    exact k _ F H (Gr.refl fh) (rfl : V.bl _ = .bl false)
  · cases q
theorem p_isntN : P2 g rNotN0 isntN := fun F H d e x y t Q fh h1 h2 q k => by
  unfold isntN at q
  split at q
  · cases q
    refine ⟨vw_non h2, ?_⟩
    rw [vw_non h1]
    exact k _ F H (Gr.refl fh) (rfl : V.bl _ = .bl false)
  · cases q
    refine ⟨vw_non h2, ?_⟩
    rw [decide_eq_false (vw_notnon h1 (by intro z; subst z; simp_all))]
    exact k _ F H (Gr.refl fh) (rfl : V.bl _ = .bl true)
  · cases q

/-! ### equality of data -/
mutual
def toP : D → Option PyData
  | .non => some .none
  | .bl b => some (.bool b)
  | .int i => some (.int i)
  | .str s => some (.str s)
  | .lst ds => (toPs ds).map .list
  | .tup ds => (toPs ds).map .tuple
  | .obj _ _ _ => none
  | .dk _ _ => none
  | .dt _ _ => none
  | .scr _ => none
  | .exc _ _ _ => none
def toPs : List D → Option (List PyData)
  | [] => some []
  | d :: ds => match toP d, toPs ds with
    | some p, some ps => some (p :: ps)
    | _, _ => none
end
mutual
theorem rep_dp {F H : Hp} (e : Ex F H) : ∀ (d : D) {x : V} {p : PyData}, Rep g F d x → toP d = some p → Dp g.K H x p
  | .non, _, _, h, q => by cases h; cases q; exact .non
  | .bl b, _, _, h, q => by cases h; cases q; exact .bl _
  | .int b, _, _, h, q => by cases h; cases q; exact .int _
  | .str b, _, _, h, q => by cases h; cases q; exact .str _
  | .lst ds, _, _, h, q => by
    obtain ⟨a, vs, r, s, k⟩ := h
    have q' : (toPs ds).map PyData.list = some _ := q
    cases z : toPs ds with
    | none => rw [z] at q'; cases q'
    | some ps => rw [z] at q'; cases q'; subst r; exact .lst (SqL.of (e _ _ s)) (reps_dp e ds k z)
  | .tup ds, _, _, h, q => by
    obtain ⟨a, vs, r, s, k⟩ := h
    have q' : (toPs ds).map PyData.tuple = some _ := q
    cases z : toPs ds with
    | none => rw [z] at q'; cases q'
    | some ps => rw [z] at q'; cases q'; subst r; exact .tup (SqT.of (e _ _ s)) (reps_dp e ds k z)
  | .obj _ _ _, _, _, _, q => by cases q
  | .dk _ _, _, _, _, q => by cases q
  | .dt _ _, _, _, _, q => by cases q
  | .scr _, _, _, _, q => by cases q
  | .exc _ _ _, _, _, _, q => by cases q
theorem reps_dp {F H : Hp} (e : Ex F H) : ∀ (ds : List D) {xs : List V} {ps : List PyData}, Reps g F ds xs → toPs ds = some ps → DpAll g.K H xs ps
  | [], _, _, h, q => by rw [show _ = [] from h]; cases q; exact .nil
  | d :: ds, _, _, h, q => by
    obtain ⟨v, vr, r, s, k⟩ := h
    have q' : (match toP d, toPs ds with | some p, some ps => some (p :: ps) | _, _ => none) = some _ := q
    cases z1 : toP d with
    | none => rw [z1] at q'; cases q'
    | some p =>
      cases z2 : toPs ds with
      | none => rw [z1, z2] at q'; cases q'
      | some pr => rw [z1, z2] at q'; cases q'; subst r; exact .cons (rep_dp e d s z1) (reps_dp e ds k z2)
end
theorem vw_dp {F H : Hp} {d : D} {x : V} {p : PyData} (e : Ex F H) (h : Vw g F H d x) (q : toP d = some p) : Dp g.K H x p := by
  rcases h with h | ⟨a, o, w, r, hp, k, z⟩
  · exact rep_dp e d h q
  · cases w with
    | L ds =>
      cases z
      cases o with
      | lst vs =>
        have q' : (toPs ds).map PyData.list = some p := q
        cases z : toPs ds with
        | none => rw [z] at q'; cases q'
        | some ps => rw [z] at q'; cases q'; subst r; exact .lst (SqL.of hp) (reps_dp e ds k z)
      | _ => exact k.elim
    | K _ => cases z; cases q
    | T _ => cases z; cases q
def eqP (d e : D) : Option Bool := match toP d, toP e with
  | some p, some q => if SeqAt.shaped p = true ∧ SeqAt.shaped q = true then some (PyData.eqv p q) else none
  | _, _ => none
def eqD (d e : D) : Option Tv := (eqP d e).map fun b => .v (.bl b)
def neD (d e : D) : Option Tv := (eqP d e).map fun b => .v (.bl (!b))
theorem eqP_inv {d e : D} {b : Bool} (h : eqP d e = some b) : ∃ p q, toP d = some p ∧ toP e = some q ∧ SeqAt.shaped p = true ∧ SeqAt.shaped q = true ∧ b = PyData.eqv p q := by
  unfold eqP at h
  split at h
  · split at h
    · cases h; rename_i p q h1 h2 h3; exact ⟨p, q, h1, h2, h3.1, h3.2, rfl⟩
    · cases h
  · cases h
theorem p_eq : P2 g (rEqD g.K) eqD := fun F H d e x y t Q fh h1 h2 q k => by
  unfold eqD at q
  cases z : eqP d e with
  | none => rw [z] at q; cases q
  | some b =>
    rw [z] at q; cases q
    obtain ⟨p, r, e1, e2, s1, s2, rfl⟩ := eqP_inv z
    exact ⟨p, r, vw_dp fh h1 e1, vw_dp fh h2 e2, s1, s2, k _ F H (Gr.refl fh) (rfl : V.bl _ = .bl _)⟩
theorem p_ne : P2 g (rNeD g.K) neD := fun F H d e x y t Q fh h1 h2 q k => by
  unfold neD at q
  cases z : eqP d e with
  | none => rw [z] at q; cases q
  | some b =>
    rw [z] at q; cases q
    obtain ⟨p, r, e1, e2, s1, s2, rfl⟩ := eqP_inv z
    exact ⟨p, r, vw_dp fh h1 e1, vw_dp fh h2 e2, s1, s2, k _ F H (Gr.refl fh) (rfl : V.bl _ = .bl _)⟩
/-- x in ys, a list of data -/
def anyEq (d : D) : List D → Option Bool
  | [] => some false
  | e :: es => match eqP e d, anyEq d es with
    | some b, some c => some (b || c)
    | _, _ => none

/-! ### items, slices -/
theorem atI_reps {F : Hp} {ds : List D} {vs : List V} {i : Int} {d : D} (k : Reps g F ds vs) (h : atI ds i = some d) : ∃ v, atI vs i = some v ∧ Rep g F d v := by
  unfold atI at h ⊢
  rw [← k.length]
  cases z : ixN ds.length i with
  | none => rw [z] at h; cases h
  | some j =>
    rw [z] at h
    obtain ⟨v, h1, h2⟩ := k.get (show ds[j]? = some d from h)
    exact ⟨v, h1, h2⟩
def ixL : D → D → Option Tv
  | .lst ds, .int i => (atI ds i).map .v
  | .scr ns, .int i => (atI ns i).map fun n => .v (.int n)
  | _, _ => none
theorem p_ixL : P2 g (rIxL g.K) ixL := fun F H d e x y t Q fh h1 h2 q k => by
  unfold ixL at q
  split at q
  · rename_i ds i
    obtain ⟨a, vs, r, s, kk⟩ := vw_lst fh h1
    cases z : atI ds i with
    | none => rw [z] at q; cases q
    | some d =>
      rw [z] at q; cases q
      obtain ⟨v, e1, e2⟩ := atI_reps kk z
      exact ⟨a, vs, i, v, r, vw_int h2, SqL.of s, e1, k v F H (Gr.refl fh) e2⟩
  · rename_i ns i
    obtain ⟨a, r, s⟩ := vw_scr fh h1
    cases z : atI ns i with
    | none => rw [z] at q; cases q
    | some n =>
      rw [z] at q; cases q
      refine ⟨a, _, i, .int n, r, vw_int h2, s, ?_, k _ F H (Gr.refl fh) (rfl : V.int _ = .int _)⟩
      unfold atI at z ⊢
      rw [List.length_map]
      cases z2 : ixN ns.length i with
      | none => rw [z2] at z; cases z
      | some j =>
        rw [z2] at z
        show (ns.map V.int)[j]? = _
        rw [List.getElem?_map, show ns[j]? = some n from z] <;> rfl
  · cases q
def ixT : D → D → Option Tv
  | .tup ds, .int i => (atI ds i).map .v
  | _, _ => none
theorem p_ixT : P2 g (rIxT g.K) ixT := fun F H d e x y t Q fh h1 h2 q k => by
  unfold ixT at q
  split at q
  · rename_i ds i
    obtain ⟨a, vs, r, s, kk⟩ := vw_tup fh h1
    cases z : atI ds i with
    | none => rw [z] at q; cases q
    | some d =>
      rw [z] at q; cases q
      obtain ⟨v, e1, e2⟩ := atI_reps kk z
      exact ⟨a, vs, i, v, r, vw_int h2, SqT.of s, e1, k v F H (Gr.refl fh) e2⟩
  · cases q
def ixS : D → D → Option Tv
  | .str z, .int i => if z.length ≤ 100000 then (atI z.cps.toList i).map fun c => .v (.str ⟨#[c]⟩) else none
  | _, _ => none
theorem p_ixS : P2 g rIxS ixS := fun F H d e x y t Q fh h1 h2 q k => by
  unfold ixS at q
  split at q
  · rename_i z i
    split at q
    · rename_i hl
      cases q1 : atI z.cps.toList i with
      | none => rw [q1] at q; cases q
      | some c =>
        rw [q1] at q; cases q
        exact ⟨z, i, c, vw_str h1, vw_int h2, sz_of hl, q1, k _ F H (Gr.refl fh) (rfl : V.str _ = .str _)⟩
    · cases q
  · cases q
def ixA (d e : D) : Option Tv := match d with
  | .lst _ => ixL d e
  | .scr _ => ixL d e
  | .tup _ => ixT d e
  | .str _ => ixS d e
  | _ => none
theorem p_ix : P2 g (rIx g.K) ixA := fun F H d e x y t Q fh h1 h2 q k => by
  unfold ixA at q
  split at q
  · exact .inl (p_ixL F H _ _ x y t Q fh h1 h2 q k)
  · exact .inl (p_ixL F H _ _ x y t Q fh h1 h2 q k)
  · exact .inr (.inl (p_ixT F H _ _ x y t Q fh h1 h2 q k))
  · exact .inr (.inr (p_ixS F H _ _ x y t Q fh h1 h2 q k))
  · cases q

/-! ### lists put together -/
def catL : D → D → Option Tv
  | .lst xs, .lst ys => if xs.length + ys.length ≤ 100000 then some (.t (.L (xs ++ ys))) else none
  | _, _ => none
theorem none_of {F H : Hp} (fh : Ex F H) {p : Addr} (hp : H p = none) : F p = none := by
  cases q : F p with
  | none => rfl
  | some u => rw [fh _ _ q] at hp; cases hp
theorem p_cat : P2 g rCat catL := fun F H d e x y t Q fh h1 h2 q k => by
  unfold catL at q
  split at q
  · rename_i xs ys
    split at q
    · rename_i hl
      cases q
      obtain ⟨a, vs, r1, s1, k1⟩ := vw_lst fh h1
      obtain ⟨b, us, r2, s2, k2⟩ := vw_lst fh h2
      exact ⟨a, b, vs, us, r1, r2, s1, s2, by rw [← k1.length, ← k2.length]; exact sz_of hl, fun p hp => k _ F _ (Gr.tmp fh hp) ⟨p, _, rfl, hp, none_of fh hp, upd_same, k1.append k2⟩⟩
    · cases q
  · cases q
theorem reps_flat {F : Hp} {ds : List D} {vs : List V} (k : Reps g F ds vs) : ∀ n : Nat, Reps g F (List.replicate n ds).flatten (List.replicate n vs).flatten
  | 0 => rfl
  | n + 1 => by
    rw [List.replicate_succ, List.replicate_succ, List.flatten_cons, List.flatten_cons]
    exact k.append (reps_flat k n)
def repL : D → D → Option Tv
  | .lst xs, .int i => if -1000 ≤ i ∧ i ≤ 100000 ∧ xs.length * i.toNat ≤ 100000 then some (.t (.L (List.replicate i.toNat xs).flatten)) else none
  | _, _ => none
theorem p_rep : P2 g rRep repL := fun F H d e x y t Q fh h1 h2 q k => by
  unfold repL at q
  split at q
  · rename_i xs i
    split at q
    · rename_i hl
      cases q
      obtain ⟨a, vs, r1, s1, k1⟩ := vw_lst fh h1
      exact ⟨a, i, vs, r1, vw_int h2, s1, by omega, by omega, by rw [← k1.length]; exact sz_of hl.2.2, fun p hp => k _ F _ (Gr.tmp fh hp) ⟨p, _, rfl, hp, none_of fh hp, upd_same, reps_flat k1 _⟩⟩
    · cases q
  · cases q
/-! ### calls by name -/
def lenN : List D → Option Tv
  | [.lst xs] => some (.v (.int xs.length))
  | [.tup xs] => some (.v (.int xs.length))
  | [.scr xs] => some (.v (.int xs.length))
  | [.str s] => if s.length ≤ 100000 then some (.v (.int s.length)) else none
  | _ => none
theorem vws1 {F H : Hp} {d : D} {xs : List V} (h : Vws g F H [d] xs) : ∃ x, xs = [x] ∧ Vw g F H d x := by
  match xs, h with
  | [x], h => exact ⟨x, rfl, h.1⟩
theorem vws2 {F H : Hp} {d e : D} {xs : List V} (h : Vws g F H [d, e] xs) : ∃ x y, xs = [x, y] ∧ Vw g F H d x ∧ Vw g F H e y := by
  match xs, h with
  | [x, y], h => exact ⟨x, y, rfl, h.1, h.2.1⟩
theorem p_len : PN g (fun xs H Q => ∃ x n, xs = [x] ∧ LenV g.K x H n ∧ Q (.int n) H) lenN := fun F H ds xs t Q fh h q k => by
  unfold lenN at q
  split at q
  · cases q
    obtain ⟨x, rfl, hx⟩ := vws1 h
    obtain ⟨a, vs, rfl, s, kk⟩ := vw_lst fh hx
    exact ⟨_, _, rfl, .inl ⟨vs, SqL.of s, kk.length⟩, k _ F H (Gr.refl fh) (rfl : V.int _ = .int _)⟩
  · cases q
    obtain ⟨x, rfl, hx⟩ := vws1 h
    obtain ⟨a, vs, rfl, s, kk⟩ := vw_tup fh hx
    exact ⟨_, _, rfl, .inr ⟨vs, SqT.of s, kk.length⟩, k _ F H (Gr.refl fh) (rfl : V.int _ = .int _)⟩
  · cases q
    obtain ⟨x, rfl, hx⟩ := vws1 h
    obtain ⟨a, rfl, s⟩ := vw_scr fh hx
    exact ⟨_, _, rfl, .inl ⟨_, s, by rw [List.length_map]⟩, k _ F H (Gr.refl fh) (rfl : V.int _ = .int _)⟩
  · split at q
    · rename_i hl
      cases q
      obtain ⟨x, rfl, hx⟩ := vws1 h
      rw [vw_str hx]
      exact ⟨_, _, rfl, ⟨sz_of hl, rfl⟩, k _ F H (Gr.refl fh) (rfl : V.int _ = .int _)⟩
    · cases q
  · cases q
end
end PL
namespace PL
open PySem L2
/-! ### the slots of a comprehension -/
theorem wipe_get (σ : St) : ∀ (vs : List Nat) (i : Nat), (wipe σ vs)[i]? = if i ∈ vs ∧ i < σ.length then some none else σ[i]?
  | [], i => by simp [wipe]
  | v :: vs, i => by
    have ih := wipe_get σ vs i
    unfold wipe
    by_cases hv : v = i
    · subst hv
      by_cases hl : v < σ.length
      · rw [List.getElem?_set_self (by rw [wipe_length]; exact hl), if_pos ⟨List.mem_cons_self, hl⟩]
      · rw [List.getElem?_eq_none (by rw [List.length_set, wipe_length]; omega), if_neg (fun z => hl z.2), List.getElem?_eq_none (by omega)]
    · rw [List.getElem?_set_ne hv, ih]
      have : i ∈ v :: vs ↔ i ∈ vs := by simp [Ne.symm hv]
      by_cases h : i ∈ vs ∧ i < σ.length
      · rw [if_pos h, if_pos ⟨this.mpr h.1, h.2⟩]
      · rw [if_neg h, if_neg (fun z => h ⟨this.mp z.1, z.2⟩)]
theorem wipe_set {σ : St} {vs : List Nat} {j : Nat} (x : Option V) (hj : j ∈ vs) : wipe (σ.set j x) vs = wipe σ vs := by
  apply List.ext_getElem?
  intro i
  rw [wipe_get, wipe_get, List.length_set]
  by_cases h : i ∈ vs ∧ i < σ.length
  · rw [if_pos h, if_pos h]
  · rw [if_neg h, if_neg h]
    by_cases hi : j = i
    · subst hi
      rw [List.getElem?_eq_none (by rw [List.length_set]; have := mt (And.intro hj) h; omega), List.getElem?_eq_none (by have := mt (And.intro hj) h; omega)]
    · rw [List.getElem?_set_ne hi]
theorem wipe_wipe (σ : St) (vs : List Nat) : wipe (wipe σ vs) vs = wipe σ vs := by
  apply List.ext_getElem?
  intro i
  rw [wipe_get, wipe_length]
  by_cases h : i ∈ vs ∧ i < σ.length
  · rw [if_pos h, wipe_get, if_pos h]
  · rw [if_neg h]
def wipeE (env : En) : List Nat → En
  | [] => env
  | v :: vs => (wipeE env vs).set v .non
theorem wipeE_length (env : En) : ∀ vs : List Nat, (wipeE env vs).length = env.length
  | [] => rfl
  | v :: vs => by unfold wipeE; rw [List.length_set, wipeE_length env vs]
section
variable {g : G} {c : Cb} {σ : St} {env : En} {F H : Hp}
theorem Rel.setN {i : Nat} (R : Rel g c σ env F H) : Rel g c (σ.set i none) (env.set i .non) F H := by
  have ne : ∀ {j : Nat} {s : Sl}, (env.set i .non)[j]? = some s → s ≠ .non → i ≠ j ∧ env[j]? = some s := fun {j s} e hs => by
    by_cases hj : i = j
    · subst hj
      by_cases hl : i < env.length
      · rw [List.getElem?_set_self hl] at e; exact absurd (Option.some.inj e).symm hs
      · rw [List.getElem?_eq_none (by simpa using hl)] at e; cases e
    · rw [List.getElem?_set_ne hj] at e; exact ⟨hj, e⟩
  refine ⟨R.toLv, by rw [List.length_set, List.length_set]; exact R.len, fun j d q => ?_, fun j w q => ?_, fun j w q => ?_, fun j k p o1 o2 a1 a2 => ?_⟩
  · obtain ⟨nj, e⟩ := ne q (by intro z; cases z)
    obtain ⟨u, h1, h2⟩ := R.dat j d e
    exact ⟨u, by rw [List.getElem?_set_ne nj]; exact h1, h2⟩
  · obtain ⟨nj, e⟩ := ne q (by intro z; cases z)
    obtain ⟨p, o, h1, h2⟩ := R.own j w e
    exact ⟨p, o, (at_set (Ne.symm nj)).mpr h1, h2⟩
  · obtain ⟨nj, e⟩ := ne q (by intro z; cases z)
    obtain ⟨p, o, h1, h2⟩ := R.brf j w e
    exact ⟨p, o, (at_set (Ne.symm nj)).mpr h1, h2⟩
  · have side : ∀ {j}, owns (env.set i .non) j → j ≠ i ∧ owns env j := fun {j} ⟨s, e, hs⟩ => by
      obtain ⟨nj, e'⟩ := ne e (by intro z; subst z; cases hs)
      exact ⟨Ne.symm nj, s, e', hs⟩
    obtain ⟨n1, o1'⟩ := side o1
    obtain ⟨n2, o2'⟩ := side o2
    exact R.inj j k p o1' o2' ((at_set n1).mp a1) ((at_set n2).mp a2)
theorem Rel.wipe (R : Rel g c σ env F H) : ∀ vs : List Nat, Rel g c (L2.wipe σ vs) (wipeE env vs) F H
  | [] => R
  | v :: vs => (R.wipe vs).setN
def keepD (env : En) (i : Nat) : Sl := match env[i]? with
  | some (.d d) => .d d
  | _ => .non
def backE (env0 : En) (e : En) : List Nat → En
  | [] => e
  | v :: vs => (backE env0 e vs).set v (keepD env0 v)
theorem backE_length (env0 e : En) : ∀ vs : List Nat, (backE env0 e vs).length = e.length
  | [] => rfl
  | v :: vs => by unfold backE; rw [List.length_set, backE_length env0 e vs]
theorem backE_get (env0 e : En) : ∀ (vs : List Nat) (i : Nat), (backE env0 e vs)[i]? = if i ∈ vs ∧ i < e.length then some (keepD env0 i) else e[i]?
  | [], i => by simp [backE]
  | v :: vs, i => by
    have ih := backE_get env0 e vs i
    unfold backE
    by_cases hv : v = i
    · subst hv
      by_cases hl : v < e.length
      · rw [List.getElem?_set_self (by rw [backE_length]; exact hl), if_pos ⟨List.mem_cons_self, hl⟩]
      · rw [List.getElem?_eq_none (by rw [List.length_set, backE_length]; omega), if_neg (fun z => hl z.2), List.getElem?_eq_none (by omega)]
    · rw [List.getElem?_set_ne hv, ih]
      have : i ∈ v :: vs ↔ i ∈ vs := by simp [Ne.symm hv]
      by_cases h : i ∈ vs ∧ i < e.length
      · rw [if_pos h, if_pos ⟨this.mpr h.1, h.2⟩]
      · rw [if_neg h, if_neg (fun z => h ⟨this.mp z.1, z.2⟩)]
theorem Rel.back {env0 e : En} {F0 H0 : Hp} {vs : List Nat} (R0 : Rel g c σ env0 F0 H0) (x : Ex F0 F) (R : Rel g c (L2.wipe σ vs) e F H) : Rel g c σ (backE env0 e vs) F H := by
  have ll : e.length = σ.length := by have := R.len; rw [wipe_length] at this; exact this.symm
  have side : ∀ {j : Nat} {s : Sl}, (backE env0 e vs)[j]? = some s → s.own = true → e[j]? = some s ∧ (L2.wipe σ vs)[j]? = σ[j]? := fun {j s} q hs => by
    rw [backE_get] at q
    by_cases h : j ∈ vs ∧ j < e.length
    · rw [if_pos h] at q
      have : keepD env0 j = s := Option.some.inj q
      subst this
      unfold keepD at hs
      split at hs <;> cases hs
    · rw [if_neg h] at q
      exact ⟨q, by rw [wipe_get, if_neg (by rw [← ll]; exact h)]⟩
  refine ⟨R.toLv, by rw [backE_length]; exact ll.symm, fun j d q => ?_, fun j w q => ?_, fun j w q => ?_, fun j k p o1 o2 a1 a2 => ?_⟩
  · rw [backE_get] at q
    by_cases h : j ∈ vs ∧ j < e.length
    · rw [if_pos h] at q
      have hk : keepD env0 j = .d d := Option.some.inj q
      unfold keepD at hk
      split at hk
      · cases hk
        obtain ⟨u, h1, h2⟩ := R0.dat j d (by assumption)
        exact ⟨u, h1, Rep.mono x _ h2⟩
      · cases hk
    · rw [if_neg h] at q
      obtain ⟨u, h1, h2⟩ := R.dat j d q
      rw [wipe_get, if_neg (by rw [← ll]; exact h)] at h1
      exact ⟨u, h1, h2⟩
  · obtain ⟨e1, e2⟩ := side q rfl
    obtain ⟨p, o, h1, h2⟩ := R.own j w e1
    exact ⟨p, o, by unfold At at h1 ⊢; rw [← e2]; exact h1, h2⟩
  · obtain ⟨e1, e2⟩ := side q rfl
    obtain ⟨p, o, h1, h2⟩ := R.brf j w e1
    exact ⟨p, o, by unfold At at h1 ⊢; rw [← e2]; exact h1, h2⟩
  · obtain ⟨s1, q1, k1⟩ := o1
    obtain ⟨s2, q2, k2⟩ := o2
    obtain ⟨e1, f1⟩ := side q1 k1
    obtain ⟨e2, f2⟩ := side q2 k2
    exact R.inj j k p ⟨s1, e1, k1⟩ ⟨s2, e2, k2⟩ (by unfold At at a1 ⊢; rw [f1]; exact a1) (by unfold At at a2 ⊢; rw [f2]; exact a2)
theorem owns_wipe {vs : List Nat} {i : Nat} (h : owns (wipeE env vs) i) : owns env i := by
  induction vs with
  | nil => exact h
  | cons v vs ih =>
    refine ih ?_
    unfold wipeE at h
    rcases owns_set h with ⟨_, z⟩ | ⟨_, z⟩
    · cases z
    · exact z
theorem owns_back {env0 e : En} {vs : List Nat} {i : Nat} (h : owns (backE env0 e vs) i) : owns e i := by
  induction vs with
  | nil => exact h
  | cons v vs ih =>
    refine ih ?_
    unfold backE at h
    rcases owns_set h with ⟨_, z⟩ | ⟨_, z⟩
    · unfold keepD at z
      split at z <;> cases z
    · exact z
end
/-- a target within a comprehension: only the comprehension's own slots change -/
def SGv (g : G) (vs : List Nat) (tg : TG) (gm : GM) : Prop := ∀ (c : Cb) (σ : St) (env : En) (F H : Hp) (v : V) (d : D) (env' : En) (Q : St → Hp → Prop), Rel g c σ env F H → Rep g F d v → gm d env = some env' →
  (∀ σ', Rel g c σ' env' F H → L2.wipe σ' vs = L2.wipe σ vs → (∀ i, owns env' i → owns env i) → Q σ' H) → tg v σ H Q
def SGvs (g : G) (vs : List Nat) (tg : TGs) (gm : GMs) : Prop := ∀ (c : Cb) (σ : St) (env : En) (F H : Hp) (us : List V) (ds : List D) (env' : En) (Q : St → Hp → Prop), Rel g c σ env F H → Reps g F ds us → gm ds env = some env' →
  (∀ σ', Rel g c σ' env' F H → L2.wipe σ' vs = L2.wipe σ vs → (∀ i, owns env' i → owns env i) → Q σ' H) → tg us σ H Q
theorem sgv_name {g : G} {vs : List Nat} {i : Nat} (hi : i ∈ vs) : SGv g vs (gName i) (gN i) := fun c σ env F H v d env' Q R k e q => by
  unfold gN at e
  by_cases hc : canSet env i = true
  · rw [if_pos hc] at e; cases e
    exact q _ (R.setD (canSet_lt hc) k) (wipe_set _ hi) fun j oj => (owns_set_d oj).1
  · rw [if_neg hc] at e; cases e
theorem sgvs_nil {g : G} {vs : List Nat} : SGvs g vs gNil gsNil := fun c σ env F H us ds env' Q R k e q => by
  cases ds with
  | nil => cases e; exact ⟨k, q σ R rfl fun _ h => h⟩
  | cons d dr => cases e
theorem sgvs_cons {g : G} {vs : List Nat} {t : TG} {u : TGs} {m : GM} {ms : GMs} (h1 : SGv g vs t m) (h2 : SGvs g vs u ms) : SGvs g vs (gCons t u) (gsCons m ms) := fun c σ env F H us ds env' Q R k e q => by
  cases ds with
  | nil => cases e
  | cons d dr =>
    obtain ⟨v, vr, r, k1, k2⟩ := k
    have e' : (m d env).bind (fun e => ms dr e) = some env' := e
    cases q1 : m d env with
    | none => rw [q1] at e'; cases e'
    | some e1 =>
      rw [q1] at e'
      refine ⟨v, vr, r, h1 c σ env F H v d e1 _ R k1 q1 fun σ1 R1 w1 o1 => ?_⟩
      exact h2 c σ1 e1 F H vr dr env' Q R1 k2 e' fun σ2 R2 w2 o2 => q σ2 R2 (w2.trans w1) fun i h => o1 i (o2 i h)
theorem sgv_tup {g : G} {vs : List Nat} {n : Nat} {t : TGs} {ms : GMs} (h : SGvs g vs t ms) : SGv g vs (gTup g.K n t) (gT n ms) := fun c σ env F H v d env' Q R k e q => by
  unfold gT at e
  split at e
  · rename_i ds
    by_cases hn : ds.length = n
    · rw [if_pos hn] at e
      obtain ⟨a, us, r, s, k'⟩ := k
      exact ⟨a, us, r, SqT.of (R.fh _ _ s), k'.length.symm.trans hn, h c σ env F H us ds env' Q R k' e q⟩
    · rw [if_neg hn] at e; cases e
  · cases e
theorem Stp.conv {σ σ4 : St} {e e3 e5 : En} {F H F' H' : Hp} (s : Stp σ4 e3 F H e5 F' H') (k : ∀ i, owns e3 i → owns e i ∧ ∀ p, At σ4 i p → At σ i p) : Stp σ e F H e5 F' H' := by
  have fr : ∀ a, PL.free σ e a → PL.free σ4 e3 a := fun a f i o ha => f i (k i o).1 ((k i o).2 a ha)
  exact ⟨s.ex, fun a o h f => s.keep a o h (fr a f), fun a o h f n => s.tmp a o h (fr a f) n, fun i h => (k i (s.ow i h)).1, s.dm⟩
theorem Stp.sub {σ : St} {e e5 e6 : En} {F H F' H' : Hp} (s : Stp σ e F H e5 F' H') (k : ∀ i, owns e6 i → owns e5 i) : Stp σ e F H e6 F' H' := ⟨s.ex, s.keep, s.tmp, fun i h => s.ow i (k i h), s.dm⟩
theorem Rel.tmpPut {g : G} {c : Cb} {σ : St} {env : En} {F H : Hp} {p : Addr} {o' : HO} (R : Rel g c σ env F H) (fp : F p = none) (f : PL.free σ env p) (h0 : c.H0 p = none) : Rel g c σ env F (upd H p o') := by
  refine ⟨⟨fun a u q => ?_, R.f0, fun a u q b => ?_, fun a u q => ?_, R.nw⟩, R.len, R.dat, fun i w q => ?_, fun i w q => ?_, R.inj⟩
  · rw [upd_ne (fun z => by rw [z, fp] at q; cases q)]; exact R.fh _ _ q
  · rw [upd_ne (fun z => by rw [z, h0] at q; cases q)]; exact R.h0 _ _ q b
  · rw [upd_ne (fun z => by rw [z, h0] at q; cases q)]; exact R.dm _ _ q
  · obtain ⟨p', o, h1, h2, h3, h4, h5⟩ := R.own i w q
    exact ⟨p', o, h1, h2, h3, by rw [upd_ne (fun z : p' = p => f i ⟨_, q, rfl⟩ (z ▸ h1))]; exact h4, h5⟩
  · obtain ⟨p', o, h1, h2, h3, h4, h5⟩ := R.brf i w q
    exact ⟨p', o, h1, h2, h3, by rw [upd_ne (fun z : p' = p => f i ⟨_, q, rfl⟩ (z ▸ h1))]; exact h4, h5⟩
theorem wipeE_get (e : En) : ∀ (l : List Nat) (i : Nat), (wipeE e l)[i]? = if i ∈ l ∧ i < e.length then some .non else e[i]?
  | [], i => by simp [wipeE]
  | v :: l, i => by
    have ih := wipeE_get e l i
    unfold wipeE
    by_cases hv : v = i
    · subst hv
      by_cases hl : v < e.length
      · rw [List.getElem?_set_self (by rw [wipeE_length]; exact hl), if_pos ⟨List.mem_cons_self, hl⟩]
      · rw [List.getElem?_eq_none (by rw [List.length_set, wipeE_length]; omega), if_neg (fun z => hl z.2), List.getElem?_eq_none (by omega)]
    · rw [List.getElem?_set_ne hv, ih]
      have : i ∈ v :: l ↔ i ∈ l := by simp [Ne.symm hv]
      by_cases h : i ∈ l ∧ i < e.length
      · rw [if_pos h, if_pos ⟨this.mpr h.1, h.2⟩]
      · rw [if_neg h, if_neg (fun z => h ⟨this.mp z.1, z.2⟩)]
theorem owns_wipe_not {e : En} {l : List Nat} {i : Nat} (h : owns (wipeE e l) i) : i ∉ l := fun hm => by
  obtain ⟨s, q, hs⟩ := h
  rw [wipeE_get] at q
  by_cases hl : i < e.length
  · rw [if_pos ⟨hm, hl⟩] at q; cases q; cases hs
  · rw [if_neg (fun z => hl z.2), List.getElem?_eq_none (by omega)] at q; cases q
/-- the turns of a comprehension -/
def lcF (gm : GM) (vs : List Nat) (mt : TM) (me : EM) : List D → List D → En → Rs (List D)
  | [], acc, env => .ok acc env
  | d :: ds, acc, env => match gm d env with
    | none => .st
    | some e1 => (mt e1).bind fun b e2 => if b = true then (fzM me e2).bind fun x e3 => if acc.length < 100000 then lcF gm vs mt me ds (acc ++ [x]) (wipeE e3 vs) else .st
      else lcF gm vs mt me ds acc (wipeE e2 vs)
/-- no exception is let out -/
def noX {α : Type} : Rs α → Rs α
  | .ex _ _ _ => .st
  | r => r
def lcM (mi : FM) (gm : GM) (vs : List Nat) (mt : TM) (me : EM) : EM := fun env => (mi env).bind fun ds e => (noX (lcF gm vs mt me ds [] (wipeE e vs))).bind fun acc e2 => .ok (.t (.L acc)) (backE e e2 vs)
abbrev W0 : WX := fun _ _ _ _ => False
def yesT : TM := fun env => .ok true env
theorem st_yes {g : G} {W : WX} : STt g W tYes yesT := fun c σ env F H Q R P => P F H R (Stp.refl ..)
theorem lc_turns {g : G} {c : Cb} {σ : St} {vs : List Nat} {tg : TG} {tt : TT} {te : TE} {gm : GM} {mt : TM} {me : EM} (hg : SGv g vs tg gm) (ht : STt g W0 tt mt) (he : SE g W0 te me) {Q : Hp → Prop} {Dl : Addr} {F1 H1 : Hp} {e1 : En} {ds : List D} {J : It}
    (IT : Iter g F1 J ds) (R1 : Rel g c (L2.wipe σ vs) (wipeE e1 vs) F1 H1) (hD : H1 Dl = none) {accE : List D} {eE : En} (hE : lcF gm vs mt me ds [] (wipeE e1 vs) = .ok accE eE)
    (fin : ∀ F2 H2 accV, Rel g c (L2.wipe σ vs) eE F2 H2 → Stp (L2.wipe σ vs) (wipeE e1 vs) F1 H1 eE F2 H2 → F2 Dl = none → H2 Dl = some (.lst accV) → Reps g F2 accE accV → Q H2) :
    ∃ W : Nat → Nat → Hp → Prop, (∃ m, W 0 m (upd H1 Dl (.lst []))) ∧ ∀ i m H, W i m H →
      (J.stop i H ∧ Q H) ∨ (J.go i H ∧ ∃ Nx : Hp → Prop, (∀ H', Nx H' → ∃ m', m' < m ∧ W (i + 1) m' H') ∧ ∀ x H', J.yld i H x H' → tg x (L2.wipe σ vs) H' fun σ2 H2 => L2.wipe σ2 vs = L2.wipe σ vs ∧ tt σ2 H2 fun b H3 =>
        if b = true then te σ2 H3 fun y H4 => ∃ acc, H4 Dl = some (.lst acc) ∧ acc.length < sizeLine ∧ Nx (upd H4 Dl (.lst (acc ++ [y]))) else Nx H3) := by
  have fD : F1 Dl = none := none_of R1.fh hD
  have h00 : c.H0 Dl = none := R1.toLv.hnone hD
  have fr0 : PL.free (L2.wipe σ vs) (wipeE e1 vs) Dl := R1.freeN hD
  have g0 : Gr F1 H1 F1 (upd H1 Dl (.lst [])) := Gr.tmp R1.fh hD
  let WW : Nat → Hp → Prop := fun i H => ∃ acc e F accV, lcF gm vs mt me (ds.drop i) acc (wipeE e vs) = .ok accE eE ∧ Rel g c (L2.wipe σ vs) (wipeE e vs) F H ∧ Stp (L2.wipe σ vs) (wipeE e1 vs) F1 H1 (wipeE e vs) F H ∧ F Dl = none ∧ H Dl = some (.lst accV) ∧ Reps g F acc accV
  refine ⟨fun i m H => m = ds.length - i ∧ i ≤ ds.length ∧ WW i H, ⟨_, rfl, Nat.zero_le _, [], e1, F1, [], hE, R1.grow g0, g0.stp, fD, upd_same, rfl⟩, ?_⟩
  rintro i m H ⟨rfl, hi, acc, e, F, accV, hL, R, s, fDl, hDl, ra⟩
  obtain ⟨T1, T2⟩ := IT i F H s.ex R.fh
  have fr : PL.free (L2.wipe σ vs) (wipeE e vs) Dl := fr0.mono s.ow
  by_cases hlt : i < ds.length
  · refine .inr ?_
    have hd : ds[i]? = some ds[i] := by simp [hlt]
    rw [List.drop_eq_getElem_cons hlt] at hL
    obtain ⟨go, yl⟩ := T1 _ hd
    refine ⟨go, WW (i + 1), fun H' h => ⟨ds.length - (i + 1), by omega, rfl, hlt, h⟩, fun x H3 y => ?_⟩
    obtain ⟨F3, gr, rp⟩ := yl x H3 y
    unfold lcF at hL
    cases q1 : gm ds[i] (wipeE e vs) with
    | none => rw [q1] at hL; cases hL
    | some e3 =>
      rw [q1] at hL
      have R3 := R.grow gr
      refine hg c (L2.wipe σ vs) (wipeE e vs) F3 H3 x ds[i] e3 _ R3 rp q1 fun σ4 R4 w4 o4 => ?_
      have w4' : L2.wipe σ4 vs = L2.wipe σ vs := w4.trans (wipe_wipe σ vs)
      refine ⟨w4', ?_⟩
      have s3 : Stp (L2.wipe σ vs) (wipeE e1 vs) F1 H1 (wipeE e vs) F3 H3 := s.trans gr.stp
      have conv : ∀ j, owns e3 j → owns (wipeE e vs) j ∧ ∀ p, At σ4 j p → At (L2.wipe σ vs) j p := fun j oj => by
        have oj' := o4 j oj
        refine ⟨oj', fun p hp => ?_⟩
        have nj := owns_wipe_not oj'
        have : (L2.wipe σ4 vs)[j]? = σ4[j]? := by rw [wipe_get, if_neg (fun z => nj z.1)]
        show (L2.wipe σ vs)[j]? = _
        rw [← w4', this]; exact hp
      have hL' : ((mt e3).bind fun b e2 => if b = true then (fzM me e2).bind fun x e3 => if acc.length < 100000 then lcF gm vs mt me (ds.drop (i + 1)) (acc ++ [x]) (wipeE e3 vs) else .st
        else lcF gm vs mt me (ds.drop (i + 1)) acc (wipeE e2 vs)) = .ok accE eE := hL
      refine ht c σ4 e3 F3 H3 _ R4 ?_
      cases q2 : mt e3 with
      | st => rw [q2] at hL'; cases hL'
      | ex cl fs e4 => rw [q2] at hL'; cases hL'
      | ok b e4 =>
        rw [q2] at hL'
        intro F5 H5 R5 s5
        have s5' := s5.conv conv
        cases b with
        | false =>
          have R5w := R5.wipe vs
          rw [w4'] at R5w
          refine ⟨acc, e4, F5, accV, hL', R5w, (s3.trans s5').sub fun j oj => owns_wipe oj, ?_, ?_, Reps.mono (gr.ff.trans s5.ex) _ ra⟩
          · exact (gr.stp.trans s5').tmp Dl _ hDl fr fDl
          · exact (gr.stp.trans s5').keep Dl _ hDl fr
        | true =>
          have hL2 : ((fzM me e4).bind fun x e3 => if acc.length < 100000 then lcF gm vs mt me (ds.drop (i + 1)) (acc ++ [x]) (wipeE e3 vs) else .st) = .ok accE eE := hL'
          refine sd_fz he c σ4 e4 F5 H5 _ R5 ?_
          cases q3 : fzM me e4 with
          | st => rw [q3] at hL2; cases hL2
          | ex cl fs e5 => rw [q3] at hL2; cases hL2
          | ok d5 e5 =>
            rw [q3] at hL2
            have hL3 : (if acc.length < 100000 then lcF gm vs mt me (ds.drop (i + 1)) (acc ++ [d5]) (wipeE e5 vs) else .st) = .ok accE eE := hL2
            intro y6 F6 H6 R6 s6 k6
            by_cases hz : acc.length < 100000
            · rw [if_pos hz] at hL3
              have s56' := (s5.trans s6).conv conv
              have all : Stp (L2.wipe σ vs) (wipeE e vs) F H e5 F6 H6 := gr.stp.trans s56'
              have hD6 : H6 Dl = some (.lst accV) := all.keep Dl _ hDl fr
              have fD6 : F6 Dl = none := all.tmp Dl _ hDl fr fDl
              have ra6 : Reps g F6 acc accV := Reps.mono all.ex _ ra
              refine ⟨accV, hD6, Nat.lt_of_lt_of_le (ra6.length ▸ hz) (by decide), acc ++ [d5], e5, F6, accV ++ [y6], hL3, ?_, ?_, fD6, upd_same, ra6.append (Reps.one k6)⟩
              · have R6w := R6.wipe vs
                rw [w4'] at R6w
                exact R6w.tmpPut fD6 (fr.mono fun j oj => all.ow j (owns_wipe oj)) h00
              · have t := (s.trans all).sub (e6 := wipeE e5 vs) fun j oj => owns_wipe oj
                refine ⟨t.ex, fun a o h f => ?_, t.tmp, t.ow, fun a o h => ?_⟩
                · rw [upd_ne (ne_of_none h hD)]; exact t.keep a o h f
                · rw [upd_ne (ne_of_none h hD)]; exact t.dm a o h
            · rw [if_neg hz] at hL3; cases hL3
  · have e0 : i = ds.length := by omega
    refine .inl ⟨T2 e0, ?_⟩
    rw [e0, List.drop_length] at hL
    cases hL
    exact fin F H accV R s fDl hDl ra
theorem se_lc {g : G} {W : WX} {ti : TI} {mi : FM} {vs : List Nat} {tg : TG} {tt : TT} {te : TE} {gm : GM} {mt : TM} {me : EM} (hi : SI g W ti mi) (hg : SGv g vs tg gm) (ht : STt g W0 tt mt) (he : SE g W0 te me) : SE g W (tLc ti tg tt te vs) (lcM mi gm vs mt me) := fun c σ env F H Q R P => by
  refine hi c σ env F H _ R ?_
  unfold lcM at P
  cases q : mi env with
  | st => rw [q] at P; exact P
  | ex cl fs e1 => rw [q] at P; exact P
  | ok ds e1 =>
    rw [q] at P
    have P' : Post g c W σ env F H Q ((noX (lcF gm vs mt me ds [] (wipeE e1 vs))).bind fun acc e2 => .ok (.t (.L acc)) (backE e1 e2 vs)) := P
    intro J F1 H1 R1 s1 IT Dl hD
    cases q2 : lcF gm vs mt me ds [] (wipeE e1 vs) with
    | st => rw [q2] at P'; exact P'.elim
    | ex cl fs e2 => rw [q2] at P'; exact P'.elim
    | ok acc e2 =>
      rw [q2] at P'
      have P2 : Post g c W σ env F H Q (.ok (.t (.L acc)) (backE e1 e2 vs)) := P'
      refine lc_turns hg ht he IT (R1.wipe vs) hD q2 fun F2 H2 accV R2 s2 fD hD2 ra => ?_
      have R3 : Rel g c σ (backE e1 e2 vs) F2 H2 := R1.back s2.ex R2
      have ow : ∀ j, owns (backE e1 e2 vs) j → owns e1 j := fun j oj => owns_wipe (s2.ow j (owns_back oj))
      have s3 : Stp σ e1 F1 H1 (backE e1 e2 vs) F2 H2 := by
        have : Stp σ e1 F1 H1 e2 F2 H2 := s2.conv fun j oj => ⟨owns_wipe oj, fun p hp => by
          have nj := owns_wipe_not oj
          have hp' : (L2.wipe σ vs)[j]? = _ := hp
          rw [wipe_get, if_neg (fun z => nj z.1)] at hp'
          exact hp'⟩
        exact this.sub fun j oj => owns_back oj
      exact P2 (.ref Dl) F2 H2 R3 (s1.trans s3) ⟨Dl, _, rfl, fD, R1.toLv.hnone hD, (R1.freeN hD).mono ow, hD2, ra⟩ fun p e => by
        cases e
        cases z : H Dl with
        | none => rfl
        | some o =>
          obtain ⟨o', z'⟩ := s1.dm Dl o z
          rw [hD] at z'; cases z'
end PL
namespace PL
open PySem L2
section
variable {g : G} {c : Cb} {σ : St} {env : En} {F H : Hp}
/-- the thing of a slot -/
def owOf (env : En) (i : Nat) : Option Ow := match env[i]? with
  | some (.o w) => some w
  | some (.r w) => some w
  | _ => none
def putE (env : En) (i : Nat) (w : Ow) : En := env.set i (match env[i]? with | some (.r _) => .r w | _ => .o w)
theorem owOf_inv {i : Nat} {w : Ow} (h : owOf env i = some w) : env[i]? = some (.o w) ∨ env[i]? = some (.r w) := by
  unfold owOf at h
  split at h
  · cases h; left; assumption
  · cases h; right; assumption
  · cases h
theorem Rel.ow {i : Nat} {w : Ow} (R : Rel g c σ env F H) (h : owOf env i = some w) : ∃ p o, At σ i p ∧ F p = none ∧ H p = some o ∧ Cont g F o w := by
  rcases owOf_inv h with h | h
  · obtain ⟨p, o, h1, h2, _, h3, h4⟩ := R.own i w h; exact ⟨p, o, h1, h2, h3, h4⟩
  · obtain ⟨p, o, h1, h2, _, h3, h4⟩ := R.brf i w h; exact ⟨p, o, h1, h2, h3, h4⟩
theorem Rel.putE {i : Nat} {w w' : Ow} {p : Addr} {o' : HO} (R : Rel g c σ env F H) (h : owOf env i = some w) (ha : At σ i p) (k : Cont g F o' w') : Rel g c σ (PL.putE env i w') F (upd H p o') ∧ Stp σ env F H (PL.putE env i w') F (upd H p o') :=
  R.put (owOf_inv h) ha k
end
theorem cont_L {g : G} {F : Hp} {o : HO} {xs : List D} (h : Cont g F o (.L xs)) : ∃ vs, o = .lst vs ∧ Reps g F xs vs := by
  cases o with
  | lst vs => exact ⟨vs, rfl, h⟩
  | _ => exact h.elim
theorem cont_K {g : G} {F : Hp} {o : HO} {xs : List (Key × D)} (h : Cont g F o (.K xs)) : ∃ vs, o = .dK vs ∧ vs.map (·.1) = xs.map (·.1) ∧ Reps g F (xs.map (·.2)) (vs.map (·.2)) := by
  cases o with
  | dK vs => exact ⟨vs, rfl, h⟩
  | _ => exact h.elim
theorem cont_T {g : G} {F : Hp} {o : HO} {xs : List (List Key × D)} (h : Cont g F o (.T xs)) : ∃ vs, o = .dT vs ∧ vs.map (·.1) = xs.map (·.1) ∧ Reps g F (xs.map (·.2)) (vs.map (·.2)) := by
  cases o with
  | dT vs => exact ⟨vs, rfl, h⟩
  | _ => exact h.elim
/-! ### methods that change a list in a slot -/
def PMut (g : G) (r : V → List V → Hp → VK → Prop) (fn : List D → List D → Option (D × List D)) : Prop := ∀ (F H : Hp) (l : Addr) (vs ys : List V) (xs ds : List D) (res : D) (xs' : List D) (Q : VK), Ex F H → H l = some (.lst vs) → Reps g F xs vs → Reps g F ds ys → fn xs ds = some (res, xs') →
  (∀ v vs', Rep g F res v → Reps g F xs' vs' → Q v (upd H l (.lst vs'))) → r (.ref l) ys H Q
def mutEnd (i : Nat) (fn : List D → List D → Option (D × List D)) (ds : List D) : EM := fun e => match owOf e i with
  | some (.L xs) => (match fn xs ds with
    | some (res, xs') => .ok (.v res) (putE e i (.L xs'))
    | none => .st)
  | _ => .st
def mutM (i : Nat) (fn : List D → List D → Option (D × List D)) (mf : FM) : EM := fun env => match owOf env i with
  | some (.L _) => (mf env).bind fun ds e => mutEnd i fn ds e
  | _ => .st
theorem mut_core {g : G} {W : WX} {i : Nat} {r : V → List V → Hp → VK → Prop} {fn : List D → List D → Option (D × List D)} (p : PMut g r fn) {c : Cb} {σ : St} {e : En} {F H : Hp} {Q : VK} {ys : List V} {ds : List D} {x : V} (R : Rel g c σ e F H) (hx : σ[i]? = some (some x)) (k : Reps g F ds ys)
    (P : Post g c W σ e F H Q (mutEnd i fn ds e)) : r x ys H Q := by
  unfold mutEnd at P
  cases q : owOf e i with
  | none => rw [q] at P; exact (show False from P).elim
  | some w =>
    rw [q] at P
    cases w with
    | K _ => exact (show False from P).elim
    | T _ => exact (show False from P).elim
    | L xs =>
      have P' : Post g c W σ e F H Q (match fn xs ds with | some (res, xs') => .ok (.v res) (putE e i (.L xs')) | none => .st) := P
      obtain ⟨p0, o, h1, h2, h3, h4⟩ := R.ow q
      obtain ⟨vs, rfl, k4⟩ := cont_L h4
      have h1' : σ[i]? = some (some (.ref p0)) := h1
      rw [hx] at h1'; cases h1'
      cases q2 : fn xs ds with
      | none => rw [q2] at P'; exact P'.elim
      | some rr =>
        obtain ⟨res, xs'⟩ := rr
        rw [q2] at P'
        refine p F H p0 vs ys xs ds res xs' Q R.fh h3 k4 k q2 fun v vs' k1 k2 => ?_
        obtain ⟨R2, s2⟩ := R.putE q h1 (o' := .lst vs') (w' := .L xs') k2
        exact P' v F _ R2 s2 k1 trivial
theorem se_mut {g : G} {W : WX} {i : Nat} {r : V → List V → Hp → VK → Prop} {fn : List D → List D → Option (D × List D)} {ta : TA} {mf : FM} (p : PMut g r fn) (h : SF g W ta mf) : SE g W (tBM g.K "list" r (tVar i) ta) (mutM i fn mf) := fun c σ env F H Q R P => by
  unfold mutM at P
  cases q : owOf env i with
  | none => rw [q] at P; exact (show False from P).elim
  | some w =>
    rw [q] at P
    cases w with
    | K _ => exact (show False from P).elim
    | T _ => exact (show False from P).elim
    | L xs0 =>
      obtain ⟨p0, o, h1, h2, h3, h4⟩ := R.ow q
      obtain ⟨vs, rfl, k4⟩ := cont_L h4
      refine ⟨_, h1, .inl ⟨rfl, vs, SqL.of h3⟩, h c σ env F H _ R ?_⟩
      have P' : Post g c W σ env F H Q ((mf env).bind fun ds e => mutEnd i fn ds e) := P
      cases q1 : mf env with
      | st => rw [q1] at P'; exact P'
      | ex cl fs e1 => rw [q1] at P'; exact P'
      | ok ds e1 =>
        rw [q1] at P'
        intro ys F1 H1 R1 s1 k1
        exact mut_core p R1 h1 k1 (Post.from s1 P')
def mut0M (i : Nat) (fn : List D → List D → Option (D × List D)) : EM := mutEnd i fn []
theorem se_mut0 {g : G} {W : WX} {i : Nat} {r : V → List V → Hp → VK → Prop} {fn : List D → List D → Option (D × List D)} (p : PMut g r fn) : SE g W (tBM0 g.K "list" r (tVar i)) (mut0M i fn) := fun c σ env F H Q R P => by
  have P0 := P
  unfold mut0M mutEnd at P
  cases q : owOf env i with
  | none => rw [q] at P; exact (show False from P).elim
  | some w =>
    cases w with
    | K _ => rw [q] at P; exact (show False from P).elim
    | T _ => rw [q] at P; exact (show False from P).elim
    | L xs0 =>
      obtain ⟨p0, o, h1, h2, h3, h4⟩ := R.ow q
      obtain ⟨vs, rfl, k4⟩ := cont_L h4
      exact ⟨_, h1, .inl ⟨rfl, vs, SqL.of h3⟩, mut_core (ds := []) p R h1 (rfl : ([] : List V) = []) P0⟩
section
variable {g : G}
theorem reps1 {F : Hp} {d : D} {ys : List V} (h : Reps g F [d] ys) : ∃ y, ys = [y] ∧ Rep g F d y := by
  obtain ⟨v, vr, r, s, q⟩ := h
  have q' : vr = [] := q
  exact ⟨v, by rw [r, q'], s⟩
theorem reps2 {F : Hp} {d e : D} {ys : List V} (h : Reps g F [d, e] ys) : ∃ y z, ys = [y, z] ∧ Rep g F d y ∧ Rep g F e z := by
  obtain ⟨v, vr, r, s, q⟩ := h
  obtain ⟨z, e1, e2⟩ := reps1 q
  exact ⟨v, z, by rw [r, e1], s, e2⟩
def appendL (xs ds : List D) : Option (D × List D) := match ds with
  | [d] => if xs.length < 100000 then some (.non, xs ++ [d]) else none
  | _ => none
theorem pm_append : PMut g rAppend appendL := fun F H l vs ys xs ds res xs' Q fh hl k1 k2 q k => by
  unfold appendL at q
  split at q
  · rename_i d
    split at q
    · rename_i hz
      cases q
      obtain ⟨y, rfl, ky⟩ := reps1 k2
      exact ⟨l, vs, y, rfl, rfl, hl, Nat.lt_of_lt_of_le (k1.length ▸ hz) (by decide), k .non _ (rfl : V.non = .non) (k1.append (Reps.one ky))⟩
    · cases q
  · cases q
def extendL (xs ds : List D) : Option (D × List D) := match ds with
  | [.lst zs] => if xs.length + zs.length ≤ 100000 then some (.non, xs ++ zs) else none
  | _ => none
theorem pm_extend : PMut g rExtend extendL := fun F H l vs ys xs ds res xs' Q fh hl k1 k2 q k => by
  unfold extendL at q
  split at q
  · rename_i zs
    split at q
    · rename_i hz
      cases q
      obtain ⟨y, rfl, b, us, r, s, ky⟩ := reps1 k2
      subst r
      exact ⟨l, b, vs, us, rfl, rfl, hl, fh _ _ s, by rw [← k1.length, ← ky.length]; exact sz_of hz, k .non _ (rfl : V.non = .non) (k1.append ky)⟩
    · cases q
  · cases q
theorem Reps.dropLast {F : Hp} : ∀ {ds : List D} {vs : List V}, Reps g F ds vs → Reps g F ds.dropLast vs.dropLast
  | [], _, h => by rw [show _ = [] from h]; rfl
  | [d], _, h => by
    obtain ⟨v, rfl, s⟩ := reps1 h
    rfl
  | d :: e :: ds, _, h => by
    obtain ⟨v, vr, r, s, q⟩ := h
    have q0 := q
    obtain ⟨u, ur, r2, _, _⟩ := q0
    subst r; subst r2
    exact ⟨v, _, rfl, s, Reps.dropLast q⟩
def popL (xs ds : List D) : Option (D × List D) := match xs[xs.length - 1]? with
  | some d => some (d, xs.dropLast)
  | none => none
theorem pm_pop : PMut g (fun x ys H Q => ys = [] → rPop x ys H Q) popL := fun F H l vs ys xs ds res xs' Q fh hl k1 k2 q k hy => by
  subst hy
  unfold popL at q
  split at q
  · rename_i d hd
    cases q
    obtain ⟨v, h1, h2⟩ := k1.get hd
    exact ⟨l, vs, v, rfl, rfl, hl, by rw [← k1.length]; exact h1, k v _ h2 k1.dropLast⟩
  · cases q
def clearL (xs ds : List D) : Option (D × List D) := some (.non, [])
def insertL (xs ds : List D) : Option (D × List D) := match ds with
  | [.int i, d] => if xs.length < 100000 ∧ 0 ≤ i ∧ i ≤ 100000 then some (.non, xs.take i.toNat ++ [d] ++ xs.drop i.toNat) else none
  | _ => none
abbrev rInsert : V → List V → Hp → VK → Prop := fun x vs H Q => ∃ (l : Addr) (xs : List V) (i : Int) (y : V), x = .ref l ∧ vs = [.int i, y] ∧ H l = some (.lst xs) ∧ xs.length < sizeLine ∧ 0 ≤ i ∧ i < 2 ^ 63 ∧ Q .non (upd H l (.lst (xs.take i.toNat ++ [y] ++ xs.drop i.toNat)))
theorem pm_insert : PMut g rInsert insertL := fun F H l vs ys xs ds res xs' Q fh hl k1 k2 q k => by
  unfold insertL at q
  split at q
  · rename_i i d
    split at q
    · rename_i hz
      cases q
      obtain ⟨y, z, rfl, ky, kz⟩ := reps2 k2
      have ky' : y = .int i := ky
      subst ky'
      exact ⟨l, vs, i, z, rfl, rfl, hl, Nat.lt_of_lt_of_le (k1.length ▸ hz.1) (by decide), hz.2.1, by omega, k .non _ (rfl : V.non = .non) (((k1.take _).append (Reps.one kz)).append (k1.drop _))⟩
    · cases q
  · cases q
theorem seqIx {n : Nat} {i : Int} {j : Nat} (h : 0 ≤ i) (hj : i.toNat = j) (hn : j < n) : seqIndex? i n = some j := by
  unfold seqIndex?
  subst hj
  simp [h]
  omega
theorem Reps.eraseIdx {F : Hp} : ∀ {ds : List D} {vs : List V} (n : Nat), Reps g F ds vs → Reps g F (ds.eraseIdx n) (vs.eraseIdx n)
  | [], _, n, h => by rw [show _ = [] from h]; rfl
  | d :: ds, _, 0, h => by
    obtain ⟨v, vr, r, s, q⟩ := h
    subst r; exact q
  | d :: ds, _, n + 1, h => by
    obtain ⟨v, vr, r, s, q⟩ := h
    subst r
    exact ⟨v, _, rfl, s, Reps.eraseIdx n q⟩
def popAtL (xs ds : List D) : Option (D × List D) := match ds with
  | [.int i] => if 0 ≤ i ∧ i ≤ 100000 then match xs[i.toNat]? with
    | some d => some (d, xs.eraseIdx i.toNat)
    | none => none
    else none
  | _ => none
theorem pm_popAt : PMut g rPopAt popAtL := fun F H l vs ys xs ds res xs' Q fh hl k1 k2 q k => by
  unfold popAtL at q
  split at q
  · rename_i i
    split at q
    · rename_i hz
      split at q
      · rename_i d hd
        cases q
        obtain ⟨y, rfl, ky⟩ := reps1 k2
        have ky' : y = .int i := ky
        subst ky'
        obtain ⟨v, h1, h2⟩ := k1.get hd
        exact ⟨l, vs, i, i.toNat, v, rfl, rfl, hl, by omega, by omega, seqIx hz.1 rfl (List.getElem?_eq_some_iff.mp h1).1, h1, k v _ h2 (k1.eraseIdx _)⟩
      · cases q
    · cases q
  · cases q
end
theorem se_pop {g : G} {W : WX} {i : Nat} : SE g W (tBM0 g.K "list" rPop (tVar i)) (mut0M i popL) := fun c σ env F H Q R P => by
  have := se_mut0 (g := g) (W := W) (i := i) pm_pop c σ env F H Q R P
  obtain ⟨v, h1, h2, h3⟩ := this
  exact ⟨v, h1, h2, h3 rfl⟩
theorem se_clear {g : G} {W : WX} {i : Nat} : SE g W (tBM0 g.K "list" rClear (tVar i)) (mut0M i clearL) := fun c σ env F H Q R P => by
  have p : PMut g (fun x ys H Q => ys = [] → rClear x ys H Q) clearL := fun F H l vs ys xs ds res xs' Q fh hl k1 k2 q k hy => by
    subst hy; cases q
    exact ⟨l, vs, rfl, rfl, hl, k .non [] (rfl : V.non = .non) (rfl : ([] : List V) = [])⟩
  obtain ⟨v, h1, h2, h3⟩ := se_mut0 (g := g) (W := W) (i := i) p c σ env F H Q R P
  exact ⟨v, h1, h2, h3 rfl⟩
/-! ### xs[i] = e -/
def gIxEnd (i : Nat) (d : D) (k : Int) (e : En) : Option En := match owOf e i with
  | some (.L xs) => (match ixN xs.length k with
    | some j => some (putE e i (.L (xs.set j d)))
    | none => none)
  | _ => none
def gIx (i : Nat) (m : EM) : GM := fun d env => match owOf env i with
  | some (.L _) => (match m env with
    | .ok (.v (.int k)) e => gIxEnd i d k e
    | _ => none)
  | _ => none
theorem sg_ix {g : G} {i : Nat} {te : TE} {m : EM} (h : SE g W0 te m) : SG g (gSub (tVar i) te rSetL) (gIx i m) := fun c σ env F H v d env' Q R kd e q => by
  unfold gIx at e
  split at e
  · rename_i xs0 q0
    split at e
    · rename_i k e1 q1
      unfold gIxEnd at e
      split at e
      · rename_i xs q2
        split at e
        · rename_i j q3
          cases e
          obtain ⟨p0, o0, a0, _⟩ := R.ow q0
          refine ⟨_, a0, h c σ env F H _ R ?_⟩
          rw [q1]
          intro y F1 H1 R1 s1 k1 _
          obtain rfl : y = V.int k := k1
          obtain ⟨p1, o1, a1, f1, h1, c1⟩ := R1.ow q2
          obtain ⟨vs, rfl, k4⟩ := cont_L c1
          have : (some (some (V.ref p0)) : Option (Option V)) = some (some (V.ref p1)) := Eq.trans (Eq.symm a0) a1
          cases this
          refine ⟨p0, vs, k, j, rfl, rfl, h1, by rw [← k4.length]; exact q3, ?_⟩
          obtain ⟨R2, s2⟩ := R1.putE q2 a1 (o' := .lst (vs.set j v)) (w' := .L (xs.set j d)) (k4.set (Rep.mono s1.ex _ kd) j)
          exact q σ F1 _ R2 s1.ex
        · cases e
      · cases e
    · cases e
  · cases e
/-! ### dicts -/
def keyOf : D → Option Key
  | .int i => some (.inl i)
  | .str s => some (.inr s)
  | _ => none
def keysOf : List D → Option (List Key)
  | [] => some []
  | d :: ds => match keyOf d, keysOf ds with
    | some k, some ks => some (k :: ks)
    | _, _ => none
theorem keyOf_rep {g : G} {F : Hp} {d : D} {v : V} {k : Key} (h : Rep g F d v) (e : keyOf d = some k) : v = kV k := by
  cases d <;> first
    | (cases e; exact h)
    | cases e
theorem keysOf_rep {g : G} {F : Hp} : ∀ {ds : List D} {vs : List V} {ks : List Key}, Reps g F ds vs → keysOf ds = some ks → vs = ks.map kV
  | [], _, _, h, e => by cases e; exact h
  | d :: ds, _, ks, h, e => by
    obtain ⟨v, vr, r, s, q⟩ := h
    have e' : (match keyOf d, keysOf ds with | some k, some ks => some (k :: ks) | _, _ => none) = some ks := e
    cases q1 : keyOf d with
    | none => rw [q1] at e'; cases e'
    | some k =>
      cases q2 : keysOf ds with
      | none => rw [q1, q2] at e'; cases e'
      | some kr =>
        rw [q1, q2] at e'; cases e'
        rw [r, keyOf_rep s q1, keysOf_rep q q2] <;> rfl
def lk {κ : Type} [DecidableEq κ] : List κ → List D → κ → Option D
  | k :: ks, d :: ds, x => if k = x then some d else lk ks ds x
  | _, _, _ => none
def OR (g : G) (F : Hp) : Option D → Option V → Prop
  | some d, ov => ∃ v, ov = some v ∧ Rep g F d v
  | none, ov => ov = none
theorem lk_val {g : G} {F : Hp} {κ : Type} [DecidableEq κ] : ∀ {kvs : List (κ × V)} {ks : List κ} {ds : List D} (x : κ), kvs.map (·.1) = ks → Reps g F ds (kvs.map (·.2)) → OR g F (lk ks ds x) (valV kvs x)
  | [], _, ds, x, h1, h2 => by
    subst h1
    cases ds with
    | nil => exact rfl
    | cons d dr => exact rfl
  | (k, v) :: kvs, _, ds, x, h1, h2 => by
    subst h1
    cases ds with
    | nil => have h2' : (((k, v) :: kvs).map (·.2)) = [] := h2; cases h2'
    | cons d dr =>
      obtain ⟨u, ur, r, s, q⟩ := h2
      have r' : v :: kvs.map (·.2) = u :: ur := r
      cases r'
      show OR g F (if k = x then some d else lk (kvs.map (·.1)) dr x) (valV ((k, v) :: kvs) x)
      by_cases hk : k = x
      · rw [if_pos hk]
        exact ⟨v, valV_pos hk, s⟩
      · rw [if_neg hk]
        have ih := lk_val (g := g) (F := F) (kvs := kvs) (ks := kvs.map (·.1)) (ds := dr) x rfl q
        rw [valV_neg (p := (k, v)) hk]
        exact ih
/-- d's value at a key: none where it is no dict or no key -/
def dget (d k : D) : Option (Option D) := match d with
  | .dk ks ds => (keyOf k).map fun x => lk ks ds x
  | .dt ks ds => (match k with
    | .tup k => (keysOf k).map fun x => lk ks ds x
    | _ => none)
  | _ => none
theorem vw_dk {g : G} {F H : Hp} {ks : List Key} {ds : List D} {x : V} (e : Ex F H) (h : Vw g F H (.dk ks ds) x) : ∃ a kvs, x = .ref a ∧ Rd H a (.dK kvs) ∧ kvs.map (·.1) = ks ∧ Reps g F ds (kvs.map (·.2)) := by
  rcases h with ⟨a, kvs, r, s, t, q⟩ | ⟨p, o, w, r, hp, k, z⟩
  · exact ⟨a, kvs, r, ex_rd e s, t, q⟩
  · cases w with
    | K es =>
      cases z
      obtain ⟨vs, rfl, k1, k2⟩ := cont_K k
      exact ⟨p, vs, r, .inl hp, k1, k2⟩
    | L _ => cases z
    | T _ => cases z
theorem vw_dt {g : G} {F H : Hp} {ks : List (List Key)} {ds : List D} {x : V} (e : Ex F H) (h : Vw g F H (.dt ks ds) x) : ∃ a kvs, x = .ref a ∧ Rd H a (.dT kvs) ∧ kvs.map (·.1) = ks ∧ Reps g F ds (kvs.map (·.2)) := by
  rcases h with ⟨a, kvs, r, s, t, q⟩ | ⟨p, o, w, r, hp, k, z⟩
  · exact ⟨a, kvs, r, ex_rd e s, t, q⟩
  · cases w with
    | T es =>
      cases z
      obtain ⟨vs, rfl, k1, k2⟩ := cont_T k
      exact ⟨p, vs, r, .inl hp, k1, k2⟩
    | L _ => cases z
    | K _ => cases z
theorem vw_key {g : G} {F H : Hp} {d : D} {x : V} {k : Key} (h : Vw g F H d x) (e : keyOf d = some k) : x = kV k := by
  rcases h with h | ⟨p, o, w, r, hp, kk, z⟩
  · exact keyOf_rep h e
  · subst z; cases w <;> cases e
theorem dget_ok {g : G} {F H : Hp} {d k : D} {x y : V} {o : Option D} (fh : Ex F H) (h1 : Vw g F H d x) (h2 : Vw g F H k y) (e : dget d k = some o) : ∃ a ov, x = .ref a ∧ DGet H a y ov ∧ OR g F o ov := by
  cases d with
  | dk ks ds =>
    have e' : (keyOf k).map (fun x => lk ks ds x) = some o := e
    obtain ⟨a, kvs, r, s, t, q⟩ := vw_dk fh h1
    cases z : keyOf k with
    | none => rw [z] at e'; cases e'
    | some key =>
      rw [z] at e'; cases e'
      exact ⟨a, valV kvs key, r, .inl ⟨kvs, key, s, vw_key h2 z, rfl⟩, lk_val key t q⟩
  | dt ks ds =>
    cases k with
    | tup k =>
      have e' : (keysOf k).map (fun x => lk ks ds x) = some o := e
      obtain ⟨a, kvs, r, s, t, q⟩ := vw_dt fh h1
      obtain ⟨b, us, r2, s2, q2⟩ := vw_tup fh h2
      cases z : keysOf k with
      | none => rw [z] at e'; cases e'
      | some key =>
        rw [z] at e'; cases e'
        exact ⟨a, valV kvs key, r, .inr ⟨kvs, key, b, s, r2, by rw [s2, keysOf_rep q2 z], rfl⟩, lk_val key t q⟩
    | _ => cases e
  | _ => cases e
/-- d[k] -/
def dgetI (d k : D) : Option Tv := match dget d k with
  | some (some x) => some (.v x)
  | _ => none
def dgetM (m1 m2 : EM) : EM := two m1 m2 (app2 dgetI)
theorem se_dget {g : G} {W : WX} {td ty : TE} {m1 m2 : EM} (h1 : SE g W td m1) (h2 : SE g W ty m2) : SE g W (tDGet td ty) (dgetM m1 m2) := fun c σ env F H Q R P =>
  se_two (R0 := fun x y H2 => ∃ a v, x = .ref a ∧ DGet H2 a y (some v) ∧ Q v H2) h1 h2 R P fun x y t1 t2 e2 F2 H2 R2 s k1 k2 _ _ _ P2 =>
    se_app2 (r := fun x y H2 Q => ∃ a v, x = .ref a ∧ DGet H2 a y (some v) ∧ Q v H2) (fun F H d e x y t Q fh v1 v2 q k => by
      unfold dgetI at q
      split at q
      · rename_i z hz
        cases q
        obtain ⟨a, ov, r, dg, v, rfl, rp⟩ := dget_ok fh v1 v2 hz
        exact ⟨a, v, r, dg, k v F H (Gr.refl fh) rp⟩
      · cases q) R2 k1 k2 P2
/-- k in d, k not in d (the key first) -/
def dinI (k d : D) : Option Tv := (dget d k).map fun o => .v (.bl o.isSome)
def dninI (k d : D) : Option Tv := (dget d k).map fun o => .v (.bl (!o.isSome))
def dinM (m1 m2 : EM) : EM := two m1 m2 (app2 dinI)
def dninM (m1 m2 : EM) : EM := two m1 m2 (app2 dninI)
theorem din_some {o : Option D} {ov : Option V} {g : G} {F : Hp} (h : OR g F o ov) : ov.isSome = o.isSome := by
  cases o with
  | none => rw [show ov = none from h] <;> rfl
  | some d => obtain ⟨v, e, _⟩ := h; rw [e]; rfl
theorem se_din {g : G} {W : WX} {td ty : TE} {m1 m2 : EM} (h1 : SE g W ty m1) (h2 : SE g W td m2) : SE g W (tDIn ty td) (dinM m1 m2) := fun c σ env F H Q R P =>
  se_two (R0 := fun y x H2 => ∃ a o, x = .ref a ∧ DGet H2 a y o ∧ Q (.bl o.isSome) H2) h1 h2 R P fun x y t1 t2 e2 F2 H2 R2 s k1 k2 _ _ _ P2 =>
    se_app2 (r := fun y x H2 Q => ∃ a o, x = .ref a ∧ DGet H2 a y o ∧ Q (.bl o.isSome) H2) (fun F H d e x y t Q fh v1 v2 q k => by
      unfold dinI at q
      cases z : dget e d with
      | none => rw [z] at q; cases q
      | some o =>
        rw [z] at q; cases q
        obtain ⟨a, ov, r, dg, h⟩ := dget_ok fh v2 v1 z
        refine ⟨a, ov, r, dg, ?_⟩
        rw [din_some h]
        exact k _ F H (Gr.refl fh) (rfl : V.bl _ = .bl _)) R2 k1 k2 P2
theorem se_dnin {g : G} {W : WX} {td ty : TE} {m1 m2 : EM} (h1 : SE g W ty m1) (h2 : SE g W td m2) : SE g W (tDNotIn ty td) (dninM m1 m2) := fun c σ env F H Q R P =>
  se_two (R0 := fun y x H2 => ∃ a o, x = .ref a ∧ DGet H2 a y o ∧ Q (.bl (!o.isSome)) H2) h1 h2 R P fun x y t1 t2 e2 F2 H2 R2 s k1 k2 _ _ _ P2 =>
    se_app2 (r := fun y x H2 Q => ∃ a o, x = .ref a ∧ DGet H2 a y o ∧ Q (.bl (!o.isSome)) H2) (fun F H d e x y t Q fh v1 v2 q k => by
      unfold dninI at q
      cases z : dget e d with
      | none => rw [z] at q; cases q
      | some o =>
        rw [z] at q; cases q
        obtain ⟨a, ov, r, dg, h⟩ := dget_ok fh v2 v1 z
        refine ⟨a, ov, r, dg, ?_⟩
        rw [din_some h]
        exact k _ F H (Gr.refl fh) (rfl : V.bl _ = .bl _)) R2 k1 k2 P2
/-- d.get(k, x): the dict's view is taken ahead of the key's evaluation too -/
def isDict : D → Bool
  | .dk _ _ => true
  | .dt _ _ => true
  | _ => false
theorem isD_of {g : G} {F H : Hp} {d : D} {x : V} (fh : Ex F H) (h : Vw g F H d x) (e : isDict d = true) : ∃ a, x = .ref a ∧ IsD H a := by
  cases d with
  | dk ks ds => obtain ⟨a, kvs, r, s, _⟩ := vw_dk fh h; exact ⟨a, r, .inl ⟨kvs, s⟩⟩
  | dt ks ds => obtain ⟨a, kvs, r, s, _⟩ := vw_dt fh h; exact ⟨a, r, .inr ⟨kvs, s⟩⟩
  | _ => cases e
def get2End (t1 t2 t3 : Tv) : EM := fun e => match view e t1, view e t2 with
  | some d, some k => (match dget d k with
    | some (some x) => .ok (.v x) e
    | some none => .ok t3 e
    | none => .st)
  | _, _ => .st
def get2M (m1 m2 m3 : EM) : EM := fun env => (m1 env).bind fun t1 e1 => match view e1 t1 with
  | some d0 => if isDict d0 = true then (m2 e1).bind fun t2 e2 => (m3 e2).bind fun t3 e3 => get2End t1 t2 t3 e3 else .st
  | none => .st
theorem se_get2 {g : G} {W : WX} {td ty tx : TE} {m1 m2 m3 : EM} (h1 : SE g W td m1) (h2 : SE g W ty m2) (h3 : SE g W tx m3) : SE g W (tDGet2 td ty tx) (get2M m1 m2 m3) := fun c σ env F H Q R P => by
  refine h1 c σ env F H _ R ?_
  unfold get2M at P
  cases q1 : m1 env with
  | st => rw [q1] at P; exact P
  | ex cl fs e1 => rw [q1] at P; exact P
  | ok t1 e1 =>
    rw [q1] at P
    have P1 : Post g c W σ env F H Q (match view e1 t1 with | some d0 => if isDict d0 = true then (m2 e1).bind fun t2 e2 => (m3 e2).bind fun t3 e3 => get2End t1 t2 t3 e3 else .st | none => .st) := P
    intro x F1 H1 R1 s1 k1 n1
    cases q0 : view e1 t1 with
    | none => rw [q0] at P1; exact P1.elim
    | some d0 =>
      rw [q0] at P1
      have P2 : Post g c W σ env F H Q (if isDict d0 = true then (m2 e1).bind fun t2 e2 => (m3 e2).bind fun t3 e3 => get2End t1 t2 t3 e3 else .st) := P1
      by_cases hd : isDict d0 = true
      · rw [if_pos hd] at P2
        obtain ⟨a, ea, ia⟩ := isD_of R1.fh (R1.view k1 q0) hd
        refine ⟨a, ea, ia, h2 c σ e1 F1 H1 _ R1 ?_⟩
        cases q2 : m2 e1 with
        | st => rw [q2] at P2; exact P2
        | ex cl fs e2 => rw [q2] at P2; exact P2
        | ok t2 e2 =>
          rw [q2] at P2
          have P3 : Post g c W σ env F H Q ((m3 e2).bind fun t3 e3 => get2End t1 t2 t3 e3) := P2
          intro y F2 H2 R2 s2 k2 n2
          refine h3 c σ e2 F2 H2 _ R2 ?_
          cases q3 : m3 e2 with
          | st => rw [q3] at P3; exact P3
          | ex cl fs e3 => rw [q3] at P3; exact P3
          | ok t3 e3 =>
            rw [q3] at P3
            have P4 : Post g c W σ env F H Q (get2End t1 t2 t3 e3) := P3
            intro z F3 H3 R3 s3 k3 n3
            have s123 := (s1.trans s2).trans s3
            unfold get2End at P4
            cases v1 : view e3 t1 with
            | none => rw [v1] at P4; exact P4.elim
            | some d =>
              cases v2 : view e3 t2 with
              | none => rw [v1, v2] at P4; exact P4.elim
              | some k =>
                rw [v1, v2] at P4
                have P5 : Post g c W σ env F H Q (match dget d k with | some (some x) => .ok (.v x) e3 | some none => .ok t3 e3 | none => .st) := P4
                cases v3 : dget d k with
                | none => rw [v3] at P5; exact P5.elim
                | some o =>
                  rw [v3] at P5
                  obtain ⟨a', ov, r, dg, h⟩ := dget_ok R3.fh (R3.view (k1.step (s2.trans s3)) v1) (R3.view (k2.step s3) v2) v3
                  rw [ea] at r; cases r
                  refine ⟨ov, dg, ?_⟩
                  cases o with
                  | none =>
                    rw [show ov = none from h]
                    exact P5 z F3 H3 R3 s123 k3 ((n3.step s2).step s1)
                  | some d' =>
                    obtain ⟨v, e, rp⟩ := h
                    rw [e]
                    exact P5 v F3 H3 R3 s123 rp trivial
      · rw [if_neg hd] at P2; exact P2.elim
/-- d[k] = v, d the thing of slot i -/
def putD {κ : Type} [DecidableEq κ] (es : List (κ × D)) (k : κ) (d : D) : List (κ × D) :=
  if (es.any fun kv => decide (kv.1 = k)) = true then es.map (fun kv => if kv.1 = k then (kv.1, d) else kv) else es ++ [(k, d)]
def dropD {κ : Type} [DecidableEq κ] (es : List (κ × D)) (k : κ) : List (κ × D) := es.filter fun kv => decide (kv.1 ≠ k)
section
variable {g : G} {F : Hp} {κ : Type} [DecidableEq κ]
theorem any_keys : ∀ {kvs : List (κ × V)} {es : List (κ × D)} (k : κ), kvs.map (·.1) = es.map (·.1) → (kvs.any fun kv => decide (kv.1 = k)) = (es.any fun kv => decide (kv.1 = k))
  | [], [], _, _ => rfl
  | [], _ :: _, _, h => by cases h
  | _ :: _, [], _, h => by cases h
  | a :: kvs, b :: es, k, h => by
    have h' : a.1 = b.1 ∧ kvs.map (·.1) = es.map (·.1) := by simpa using h
    rw [List.any_cons, List.any_cons, h'.1, any_keys k h'.2]
theorem map_put : ∀ {kvs : List (κ × V)} {es : List (κ × D)} {k : κ} {d : D} {v : V}, Rep g F d v → kvs.map (·.1) = es.map (·.1) → Reps g F (es.map (·.2)) (kvs.map (·.2)) →
    (kvs.map (fun kv => if kv.1 = k then (kv.1, v) else kv)).map (·.1) = (es.map (fun kv => if kv.1 = k then (kv.1, d) else kv)).map (·.1) ∧ Reps g F ((es.map (fun kv => if kv.1 = k then (kv.1, d) else kv)).map (·.2)) ((kvs.map (fun kv => if kv.1 = k then (kv.1, v) else kv)).map (·.2))
  | [], [], _, _, _, _, _, _ => ⟨rfl, rfl⟩
  | [], _ :: _, _, _, _, _, h, _ => by cases h
  | _ :: _, [], _, _, _, _, h, _ => by cases h
  | (a, x) :: kvs, (b, y) :: es, k, d, v, hr, h, hq => by
    have h' : a = b ∧ kvs.map (·.1) = es.map (·.1) := by simpa using h
    obtain ⟨rfl, h2⟩ := h'
    obtain ⟨u, ur, r, s, q⟩ := hq
    have r' : x :: kvs.map (·.2) = u :: ur := r
    cases r'
    obtain ⟨i1, i2⟩ := map_put (k := k) hr h2 q
    rw [List.map_cons, List.map_cons, List.map_cons, List.map_cons, List.map_cons, List.map_cons, i1]
    by_cases hk : a = k
    · rw [if_pos hk, if_pos hk]
      exact ⟨rfl, v, _, rfl, hr, i2⟩
    · rw [if_neg hk, if_neg hk]
      exact ⟨rfl, x, _, rfl, s, i2⟩
theorem put_rep {kvs : List (κ × V)} {es : List (κ × D)} {k : κ} {d : D} {v : V} (hr : Rep g F d v) (h : kvs.map (·.1) = es.map (·.1)) (hq : Reps g F (es.map (·.2)) (kvs.map (·.2))) :
    (putK kvs k v).map (·.1) = (putD es k d).map (·.1) ∧ Reps g F ((putD es k d).map (·.2)) ((putK kvs k v).map (·.2)) := by
  unfold putK putD
  rw [any_keys k h]
  split
  · exact map_put hr h hq
  · rw [List.map_append, List.map_append, List.map_append, List.map_append, h]
    exact ⟨rfl, hq.append (Reps.one hr)⟩
theorem drop_rep : ∀ {kvs : List (κ × V)} {es : List (κ × D)} {k : κ}, kvs.map (·.1) = es.map (·.1) → Reps g F (es.map (·.2)) (kvs.map (·.2)) →
    (dropK kvs k).map (·.1) = (dropD es k).map (·.1) ∧ Reps g F ((dropD es k).map (·.2)) ((dropK kvs k).map (·.2))
  | [], [], _, _, _ => ⟨rfl, rfl⟩
  | [], _ :: _, _, h, _ => by cases h
  | _ :: _, [], _, h, _ => by cases h
  | (a, x) :: kvs, (b, y) :: es, k, h, hq => by
    have h' : a = b ∧ kvs.map (·.1) = es.map (·.1) := by simpa using h
    obtain ⟨rfl, h2⟩ := h'
    obtain ⟨u, ur, r, s, q⟩ := hq
    have r' : x :: kvs.map (·.2) = u :: ur := r
    cases r'
    obtain ⟨i1, i2⟩ := drop_rep (k := k) h2 q
    unfold dropK dropD at *
    rw [List.filter_cons, List.filter_cons]
    by_cases hk : a = k
    · rw [if_neg (by simp [hk]), if_neg (by simp [hk])]
      exact ⟨i1, i2⟩
    · rw [if_pos (by simp [hk]), if_pos (by simp [hk])]
      rw [List.map_cons, List.map_cons, List.map_cons, List.map_cons, i1]
      exact ⟨rfl, x, _, rfl, s, i2⟩
theorem keys_len {kvs : List (κ × V)} {es : List (κ × D)} (h : kvs.map (·.1) = es.map (·.1)) : kvs.length = es.length := by
  have := congrArg List.length h
  rw [List.length_map, List.length_map] at this
  exact this
end
/-- the store at a key, both kinds of dict -/
def dputW (w : Ow) (k d : D) : Option Ow := match w with
  | .K es => if es.length < 100000 then (keyOf k).map fun x => .K (putD es x d) else none
  | .T es => if es.length < 100000 then (match k with
    | .tup ks => (keysOf ks).map fun x => .T (putD es x d)
    | _ => none) else none
  | _ => none
theorem dput_ok {g : G} {c : Cb} {σ : St} {e : En} {F H : Hp} {i : Nat} {w w' : Ow} {k d : D} {x y v : V} (R : Rel g c σ e F H) (hx : σ[i]? = some (some x)) (q : owOf e i = some w) (hk : Vw g F H k y) (hd : Rep g F d v) (hp : dputW w k d = some w') :
    ∃ a H', x = .ref a ∧ DPut H a y v H' ∧ Rel g c σ (putE e i w') F H' ∧ Stp σ e F H (putE e i w') F H' := by
  obtain ⟨p0, o, h1, h2, h3, h4⟩ := R.ow q
  have h1' : σ[i]? = some (some (.ref p0)) := h1
  rw [hx] at h1'; cases h1'
  unfold dputW at hp
  cases w with
  | L _ => cases hp
  | K es =>
    obtain ⟨kvs, rfl, k1, k2⟩ := cont_K h4
    have hp' : (if es.length < 100000 then (keyOf k).map fun x => Ow.K (putD es x d) else none) = some w' := hp
    split at hp'
    · rename_i hz
      cases z : keyOf k with
      | none => rw [z] at hp'; cases hp'
      | some key =>
        rw [z] at hp'; cases hp'
        obtain ⟨r1, r2⟩ := put_rep (k := key) hd k1 k2
        obtain ⟨R2, s2⟩ := R.putE q h1 (o' := .dK (putK kvs key v)) (w' := .K (putD es key d)) ⟨r1, r2⟩
        exact ⟨p0, _, rfl, .inl ⟨kvs, key, h3, vw_key hk z, by rw [keys_len k1]; exact Nat.lt_of_lt_of_le hz (by decide), rfl⟩, R2, s2⟩
    · cases hp'
  | T es =>
    obtain ⟨kvs, rfl, k1, k2⟩ := cont_T h4
    have hp' : (if es.length < 100000 then (match k with | .tup ks => (keysOf ks).map fun x => Ow.T (putD es x d) | _ => none) else none) = some w' := hp
    split at hp'
    · rename_i hz
      split at hp'
      · rename_i ks
        obtain ⟨b, us, r2, s2, q2⟩ := vw_tup R.fh hk
        cases z : keysOf ks with
        | none => rw [z] at hp'; cases hp'
        | some key =>
          rw [z] at hp'; cases hp'
          obtain ⟨r1, r2'⟩ := put_rep (k := key) hd k1 k2
          obtain ⟨R2, s2'⟩ := R.putE q h1 (o' := .dT (putK kvs key v)) (w' := .T (putD es key d)) ⟨r1, r2'⟩
          exact ⟨p0, _, rfl, .inr ⟨kvs, key, b, h3, r2, by rw [s2, keysOf_rep q2 z], by rw [keys_len k1]; exact Nat.lt_of_lt_of_le hz (by decide), rfl⟩, R2, s2'⟩
      · cases hp'
    · cases hp'
def dputEnd (i : Nat) (d : D) (t2 : Tv) (e : En) : Option En := match owOf e i, view e t2 with
  | some w, some k => (dputW w k d).map fun w' => putE e i w'
  | _, _ => none
/-- the statement d[k] = v: the value first -/
def dputM (i : Nat) (mk mv : EM) : SM := fun env => (fzM mv env).toS fun d e1 => match owOf e1 i with
  | some _ => (mk e1).toS fun t2 e2 => match dputEnd i d t2 e2 with
    | some e3 => .nx e3
    | none => .st
  | none => .st
theorem ss_dput {g : G} {W : WX} {i : Nat} {ty tv : TE} {mk mv : EM} (h1 : SE g W tv mv) (h2 : SE g W ty mk) : SS g W (sDPut (tVar i) ty tv) (dputM i mk mv) := fun c σ env F H D R P => by
  refine sd_fz h1 c σ env F H _ R ?_
  unfold dputM at P
  cases q1 : fzM mv env with
  | st => rw [q1] at P; exact P
  | ex cl fs e1 => rw [q1] at P; exact P σ
  | ok d e1 =>
    rw [q1] at P
    have P1 : PostS g c W F D (match owOf e1 i with | some _ => (mk e1).toS fun t2 e2 => (match dputEnd i d t2 e2 with | some e3 => .nx e3 | none => .st) | none => .st) := P
    intro v F1 H1 R1 s1 k1
    cases q0 : owOf e1 i with
    | none => rw [q0] at P1; exact P1.elim
    | some w0 =>
      rw [q0] at P1
      have P2 : PostS g c W F D ((mk e1).toS fun t2 e2 => (match dputEnd i d t2 e2 with | some e3 => .nx e3 | none => .st)) := P1
      obtain ⟨p0, _, a0, _⟩ := R1.ow q0
      refine ⟨_, a0, h2 c σ e1 F1 H1 _ R1 ?_⟩
      cases q2 : mk e1 with
      | st => rw [q2] at P2; exact P2
      | ex cl fs e2 => rw [q2] at P2; exact P2 σ
      | ok t2 e2 =>
        rw [q2] at P2
        have P3 : PostS g c W F D (match dputEnd i d t2 e2 with | some e3 => .nx e3 | none => .st) := P2
        intro y F2 H2 R2 s2 k2 n2
        unfold dputEnd at P3
        cases q3 : owOf e2 i with
        | none => rw [q3] at P3; exact P3.elim
        | some w =>
          cases q4 : view e2 t2 with
          | none => rw [q3, q4] at P3; exact P3.elim
          | some k =>
            rw [q3, q4] at P3
            cases q5 : dputW w k d with
            | none => simp only [q5] at P3; exact (show False from P3).elim
            | some w' =>
              simp only [q5] at P3
              obtain ⟨a, H', e, dp, R3, s3⟩ := dput_ok R2 a0 q3 (R2.view k2 q4) (Rep.mono s2.ex _ k1) q5
              exact ⟨a, H', e, dp, (show PostS g c W F D (.nx (putE e2 i w')) from P3) σ F2 H' R3 (s1.ex.trans s2.ex)⟩
/-- .. as a target -/
def gDk (i : Nat) (mk : EM) : GM := fun d env => match owOf env i with
  | some _ => (match mk env with
    | .ok t2 e2 => dputEnd i d t2 e2
    | _ => none)
  | none => none
theorem sg_dk {g : G} {i : Nat} {ty : TE} {mk : EM} (h : SE g W0 ty mk) : SG g (gSub (tVar i) ty rSetD) (gDk i mk) := fun c σ env F H v d env' Q R kd e q => by
  unfold gDk at e
  split at e
  · rename_i w0 q0
    split at e
    · rename_i t2 e2 q1
      obtain ⟨p0, _, a0, _⟩ := R.ow q0
      refine ⟨_, a0, h c σ env F H _ R ?_⟩
      rw [q1]
      intro y F2 H2 R2 s2 k2 n2
      unfold dputEnd at e
      cases q3 : owOf e2 i with
      | none => rw [q3] at e; cases e
      | some w =>
        cases q4 : view e2 t2 with
        | none => rw [q3, q4] at e; cases e
        | some k =>
          rw [q3, q4] at e
          have e' : (dputW w k d).map (fun w' => putE e2 i w') = some env' := e
          cases q5 : dputW w k d with
          | none => rw [q5] at e'; cases e'
          | some w' =>
            rw [q5] at e'; cases e'
            obtain ⟨a, H', ea, dp, R3, s3⟩ := dput_ok R2 a0 q3 (R2.view k2 q4) (Rep.mono s2.ex _ kd) q5
            exact ⟨a, H', ea, dp, q σ F2 H' R3 s2.ex⟩
    · cases e
  · cases e
/-- del d[k] -/
def ddelEnd (i : Nat) (t2 : Tv) (e : En) : Option En := match owOf e i, view e t2 with
  | some (.K es), some k => (match keyOf k with
    | some x => if (es.any fun kv => decide (kv.1 = x)) = true then some (putE e i (.K (dropD es x))) else none
    | none => none)
  | _, _ => none
def ddelM (i : Nat) (mk : EM) : SM := fun env => match owOf env i with
  | some _ => (mk env).toS fun t2 e2 => match ddelEnd i t2 e2 with
    | some e3 => .nx e3
    | none => .st
  | none => .st
theorem valV_any {κ : Type} [DecidableEq κ] : ∀ {kvs : List (κ × V)} {k : κ}, (kvs.any fun kv => decide (kv.1 = k)) = true → (valV kvs k).isSome = true
  | [], _, h => by cases h
  | a :: kvs, k, h => by
    rw [List.any_cons] at h
    by_cases hk : a.1 = k
    · rw [valV_pos hk]; rfl
    · rw [decide_eq_false hk, Bool.false_or] at h
      rw [valV_neg hk]; exact valV_any h
theorem ss_ddel {g : G} {W : WX} {i : Nat} {ty : TE} {mk : EM} (h2 : SE g W ty mk) : SS g W (sDDel (tVar i) ty) (ddelM i mk) := fun c σ env F H D R P => by
  unfold ddelM at P
  cases q0 : owOf env i with
  | none => rw [q0] at P; exact P.elim
  | some w0 =>
    rw [q0] at P
    have P2 : PostS g c W F D ((mk env).toS fun t2 e2 => (match ddelEnd i t2 e2 with | some e3 => .nx e3 | none => .st)) := P
    obtain ⟨p0, _, a0, _⟩ := R.ow q0
    refine ⟨_, a0, h2 c σ env F H _ R ?_⟩
    cases q2 : mk env with
    | st => rw [q2] at P2; exact P2
    | ex cl fs e2 => rw [q2] at P2; exact P2 σ
    | ok t2 e2 =>
      rw [q2] at P2
      have P3 : PostS g c W F D (match ddelEnd i t2 e2 with | some e3 => .nx e3 | none => .st) := P2
      intro y F2 H2 R2 s2 k2 n2
      cases q3 : ddelEnd i t2 e2 with
      | none => rw [q3] at P3; exact P3.elim
      | some e3 =>
        rw [q3] at P3
        unfold ddelEnd at q3
        split at q3
        · rename_i es k z1 z2
          split at q3
          · rename_i x z3
            split at q3
            · rename_i ha
              cases q3
              obtain ⟨p1, o, a1, f1, h3, h4⟩ := R2.ow z1
              have : (some (some (V.ref p0)) : Option (Option V)) = some (some (V.ref p1)) := Eq.trans (Eq.symm a0) a1
              cases this
              obtain ⟨kvs, rfl, k1, k2'⟩ := cont_K h4
              obtain ⟨r1, r2⟩ := drop_rep (k := x) k1 k2'
              obtain ⟨R3, s3⟩ := R2.putE z1 a1 (o' := .dK (dropK kvs x)) (w' := .K (dropD es x)) ⟨r1, r2⟩
              exact ⟨p0, kvs, x, rfl, h3, vw_key (R2.view k2 z2) z3, valV_any (by rw [any_keys x k1]; exact ha), P3 σ F2 _ R3 s2.ex⟩
            · cases q3
          · cases q3
        · cases q3
/-- {} -/
def newK : EM := fun env => .ok (.t (.K [])) env
def newT : EM := fun env => .ok (.t (.T [])) env
theorem se_newK {g : G} {W : WX} : SE g W tDNewK newK := fun c σ env F H Q R P => fun p hp =>
  Post.prim R P (.ref p) F _ (Gr.tmp R.fh hp) ⟨p, _, rfl, hp, none_of R.fh hp, upd_same, rfl, rfl⟩
theorem se_newT {g : G} {W : WX} : SE g W tDNewT newT := fun c σ env F H Q R P => fun p hp =>
  Post.prim R P (.ref p) F _ (Gr.tmp R.fh hp) ⟨p, _, rfl, hp, none_of R.fh hp, upd_same, rfl, rfl⟩
/-- x = y, y's thing moves to x -/
def mvM (i j : Nat) : SM := fun env => match owOf env j with
  | some w => if canSet env i = true ∧ canSet env j = true ∧ i ≠ j then .nx ((env.set j .non).set i (.o w)) else .st
  | none => .st
theorem ss_mv {g : G} {W : WX} {i j : Nat} : SS g W (tAsg (tVar j) (gName i)) (mvM i j) := fun c σ env F H D R P => by
  unfold mvM at P
  cases q : owOf env j with
  | none => rw [q] at P; exact P.elim
  | some w =>
    rw [q] at P
    have P' : PostS g c W F D (if canSet env i = true ∧ canSet env j = true ∧ i ≠ j then .nx ((env.set j .non).set i (.o w)) else .st) := P
    split at P'
    · rename_i hc
      obtain ⟨h1, h2, h3⟩ := hc
      have qo : env[j]? = some (.o w) := by
        rcases owOf_inv q with z | z
        · exact z
        · unfold canSet at h2; rw [z] at h2; cases h2
      obtain ⟨p, o, a, fp, hp0, hp, ct⟩ := R.own j w qo
      refine ⟨_, a, P' _ F H ?_ (Ex.refl F)⟩
      have li : i < env.length := canSet_lt h1
      have lj : j < env.length := canSet_lt h2
      have get : ∀ {k : Nat} {s : Sl}, ((env.set j .non).set i (.o w))[k]? = some s → (k = i ∧ s = .o w) ∨ (k ≠ i ∧ (k = j ∧ s = .non)) ∨ (k ≠ i ∧ k ≠ j ∧ env[k]? = some s) := fun {k s} e => by
        by_cases hk : i = k
        · subst hk
          rw [List.getElem?_set_self (by rw [List.length_set]; exact li)] at e
          exact .inl ⟨rfl, (Option.some.inj e).symm⟩
        · rw [List.getElem?_set_ne hk] at e
          by_cases hk2 : j = k
          · subst hk2
            rw [List.getElem?_set_self lj] at e
            exact .inr (.inl ⟨Ne.symm hk, rfl, (Option.some.inj e).symm⟩)
          · rw [List.getElem?_set_ne hk2] at e
            exact .inr (.inr ⟨Ne.symm hk, Ne.symm hk2, e⟩)
      have ai : At (σ.set i (some (.ref p))) i p := List.getElem?_set_self (by rw [R.len]; exact li)
      refine ⟨R.toLv, by rw [List.length_set, List.length_set, List.length_set]; exact R.len, fun k d e => ?_, fun k w' e => ?_, fun k w' e => ?_, fun k l r o1 o2 a1 a2 => ?_⟩
      · rcases get e with ⟨_, z⟩ | ⟨_, _, z⟩ | ⟨n1, n2, z⟩
        · cases z
        · cases z
        · obtain ⟨u, u1, u2⟩ := R.dat k d z
          exact ⟨u, by rw [List.getElem?_set_ne (Ne.symm n1)]; exact u1, u2⟩
      · rcases get e with ⟨rfl, z⟩ | ⟨_, _, z⟩ | ⟨n1, n2, z⟩
        · cases z; exact ⟨p, o, ai, fp, hp0, hp, ct⟩
        · cases z
        · obtain ⟨p', o', u1, u2⟩ := R.own k w' z
          exact ⟨p', o', (at_set n1).mpr u1, u2⟩
      · rcases get e with ⟨rfl, z⟩ | ⟨_, _, z⟩ | ⟨n1, n2, z⟩
        · cases z
        · cases z
        · obtain ⟨p', o', u1, u2⟩ := R.brf k w' z
          exact ⟨p', o', (at_set n1).mpr u1, u2⟩
      · -- a slot of the new slots stands for one of the old
        have old : ∀ {k : Nat}, owns ((env.set j .non).set i (.o w)) k → ∀ r, At (σ.set i (some (.ref p))) k r → ∃ k', owns env k' ∧ At σ k' r ∧ (k = i ∧ k' = j ∨ k ≠ i ∧ k' = k ∧ k' ≠ j) := fun {k} ⟨s, e, hs⟩ r ha => by
          rcases get e with ⟨rfl, z⟩ | ⟨_, _, z⟩ | ⟨n1, n2, z⟩
          · have e1 : (some (some (V.ref r)) : Option (Option V)) = some (some (V.ref p)) := Eq.trans (Eq.symm ha) ai
            have e2 : r = p := by injection e1 with e1; injection e1 with e1; injection e1
            subst e2
            exact ⟨j, ⟨_, qo, rfl⟩, a, .inl ⟨rfl, rfl⟩⟩
          · subst z; cases hs
          · exact ⟨k, ⟨s, z, hs⟩, (at_set n1).mp ha, .inr ⟨n1, rfl, n2⟩⟩
        obtain ⟨k', ok, ak, ck⟩ := old o1 r a1
        obtain ⟨l', ol, al, cl⟩ := old o2 r a2
        have e := R.inj k' l' r ok ol ak al
        rcases ck with ⟨x1, x2⟩ | ⟨x1, x2, x3⟩
        · rcases cl with ⟨y1, y2⟩ | ⟨y1, y2, y3⟩
          · rw [x1, y1]
          · exact absurd (e ▸ x2) y3
        · rcases cl with ⟨y1, y2⟩ | ⟨y1, y2, y3⟩
          · exact absurd (e.trans y2) x3
          · rw [← x2, ← y2]; exact e
    · exact P'.elim
end PL
namespace PL
open PySem PySem.Spec PyProof.Rows L2
/-- no guard is known to run -/
abbrev NoG (A : Around) : Prop := A.guards = some []
/-- a def's promise where no guard runs -/
structure FnG (P : Program) (w : World) (K : PySem.W.Frag) (mg : Str → Option Value) (base : Heap) (CX : CXT) (k : Nat) (f : Addr) (fd : FuncData) (ps : List Str) (sp : Sp) : Prop where
  ln : ∀ vs H Q E, sp vs H Q E → vs.length = ps.length
  go : ∀ (A : Around) (fr : List Env) (s : Shared) (H : Hp) (args : Args) (us : List Value) (vs : List V) (Q : VK) (E : XK), NoG A → Room k A → Env0 P w K mg base A fr s H → BindsTo s fd args (ps.zip us) → Vals vs us → sp vs H Q E →
    codeAny (model P w) A (.call (.ref f) args) (CR CX fr P w H s Q E) s
theorem FnOk.toG {P : Program} {w : World} {K : PySem.W.Frag} {mg : Str → Option Value} {base : Heap} {CX : CXT} {k : Nat} {f : Addr} {fd : FuncData} {ps : List Str} {sp : Sp} (F : FnOk P w K mg base CX k f fd ps sp) : FnG P w K mg base CX k f fd ps sp :=
  ⟨F.len, fun A fr s H args us vs Q E _ => F.run A fr s H args us vs Q E⟩
theorem FnG.less {P : Program} {w : World} {K : PySem.W.Frag} {mg : Str → Option Value} {base : Heap} {CX : CXT} {j k : Nat} {f : Addr} {fd : FuncData} {ps : List Str} {sp : Sp} (F : FnG P w K mg base CX j f fd ps sp) (h : j ≤ k) : FnG P w K mg base CX k f fd ps sp :=
  ⟨F.ln, fun A fr s H args us vs Q E n r => F.go A fr s H args us vs Q E n (r.mono h)⟩
/-- the rule for a def, by its body -/
theorem fnG_of {CX : CXT} {P : Program} {w : World} {K : PySem.W.Frag} {mg : Str → Option Value} {base : Heap} {k : Nat} {f : Addr} {nm qn : Str} {par : Arguments} {code : List Stmt} {sco : Scope} {dV kV dc pm cdv ct oc : Value} {an od : Option Addr}
    {osl : Array (Option Value)} {N ps : List Str} {sp : Sp} (look : K.lookup f = some ⟨oc, od, .func (PySem.W.fnOf nm qn par code sco dV kV dc pm an cdv ct), osl⟩) (hc : PySem.W.codeIn K cdv qn = true) (FS : FnScope N ps sco)
    (ln : ∀ vs H Q E, sp vs H Q E → vs.length = ps.length)
    (hb : ∀ (A : Around) (fr : List Env) (s : Shared) (H : Hp) (vs : List V) (Q : VK) (E : XK), NoG A → Room k (A.deeper (envOfC qn sco s.heap.objs.size f cdv)) → sp vs H Q E →
      ∃ t, PSs (cxOf CX P w K mg base N qn sco f cdv A fr s H E) code t ∧ t { nx := fun _ H' => Q .non H', rt := Q } (L2.start N vs) H) :
    FnG P w K mg base CX (k + 1) f (PySem.W.fnOf nm qn par code sco dV kV dc pm an cdv ct) ps sp := by
  refine ⟨ln, fun A fr s H args us vs Q E ng hroom env hbind rel hpr => ?_⟩
  have hlen := ln vs H Q E hpr
  have kin : K.In s.heap := env.mod.kin.keeps fun b o e => (env.bs b o e).1
  have nolim : s.heap.NoLimit := env.mod.nolimit.keeps fun b o e => (env.bs b o e).1
  have kinds : ∀ y ∈ ps.zip us, sco.names.lookup y.1 = some .local ∨ (sco.names.lookup y.1 = some .cell ∧ ((cellsFrom (s.heap.objs.size + 1) sco.names []).lookup y.1).isSome = true) := by
    rintro ⟨n, v⟩ hy
    cases FS.par n (List.of_mem_zip hy).1 with
    | inl q => exact .inl q
    | inr q => exact .inr ⟨q, PySem.W.cellsFrom_some _ _ _ (.inl q)⟩
  refine codeAny_call_function hroom.depth (kin _ _ look) rfl FS.co FS.gen rfl (PySem.W.codeRec_of kin hc) (hbind _ _ _ _ ?_)
  refine wpAny_newFunctionEnv_cells FS.kind kinds fun env' eqe s1 made => ?_
  subst eqe
  refine ⟨nolim.keeps made.toInCall.keep, codeAny_func ?_⟩
  obtain ⟨t, ht, run⟩ := hb A fr s H vs Q E ng (hroom.deeper _) hpr
  have inv0 : Inv (cxOf CX P w K mg base N qn sco f cdv A fr s H E) [] (L2.start N vs) H s1 := inv_start FS hroom.hd env hlen rel made
  refine wpAny_mono (ht.run [] s1 (L2.start N vs) H _ inv0 run) (fun fl s2 hs => ?_) fun e s2 hs => hs
  have done : ∀ {σ2 : L2.St} {H2 : Hp} {v : V} {u : Value}, Inv (cxOf CX P w K mg base N qn sco f cdv A fr s H E) [] σ2 H2 s2 → RelV v u → Q v H2 → CE fr P w H s Q u s2 :=
    fun {σ2 H2 v u} J rv q => ⟨v, H2, J.os, J.bare, J.base, J.hok, rv, q⟩
  match fl, hs with
  | .ret u, ⟨v, σ2, H2, J, rv, q⟩ => exact done J rv q
  | .next, ⟨σ2, H2, J, q⟩ => exact done (v := V.non) (u := Value.none) J rfl q
  | .brk, ⟨_, _, _, q⟩ => exact (show False from q).elim
  | .cont, ⟨_, _, _, q⟩ => exact (show False from q).elim
section
variable {P : Program} {w : World} {K : PySem.W.Frag} {mg : Str → Option Value} {base : Heap} {nm qn : Str} {par : Arguments} {code : List Stmt} {sco : Scope} {dvs : List V} {kws : List (Str × V)} {f : Addr} {fd : FuncData}
theorem FunD.okG {CX : CXT} {N ps : List Str} {k : Nat} {sp : Sp} (F : FunD K nm qn par code sco dvs kws f fd) (FS : FnScope N ps sco) (ln : ∀ vs H Q E, sp vs H Q E → vs.length = ps.length)
    (hb : ∀ (cdv : Value) (A : Around) (fr : List Env) (s : Shared) (H : Hp) (vs : List V) (Q : VK) (E : XK), NoG A → Room k (A.deeper (envOfC qn sco s.heap.objs.size f cdv)) → sp vs H Q E →
      ∃ t, PSs (cxOf CX P w K mg base N qn sco f cdv A fr s H E) code t ∧ t { nx := fun _ H' => Q .non H', rt := Q } (L2.start N vs) H) : FnG P w K mg base CX (k + 1) f fd ps sp := by
  obtain ⟨oc, od, dV, kV, doc, pm, an, cdv, ct, osl, rfl, lk, hcd, _, _⟩ := F.ex
  exact fnG_of lk hcd FS ln fun A fr s H vs Q E ng hr hsp => hb cdv A fr s H vs Q E ng hr hsp
end
section
variable {X : Cx} {CX : CXT} {k : Nat} {f : Addr} {fd : FuncData} {ps : List Str} {sp : Sp} {dvs : List V} {ds : List Value} {E : L2.St → XK} {x : Str} {p pos : Pos} {e : Expr} {es : List Expr} {t : TA}
/-- the callee runs -/
theorem runG {pins : List (Addr × Obj)} {σ : L2.St} {H : Hp} {s : Shared} {Q : VK} {us : List Value} {vs : List V} (F : FnG X.prog X.w X.K X.mg X.base CX k f fd ps sp) (ng : NoG X.A) (hr : Room k X.A) (hb : Binds X.K fd ps ds) (hd : Vals dvs ds) (hx : PassesAt CX X σ (E σ))
    (I : Inv X pins σ H s) (r : Vals vs us) (h : sp (vs ++ dvs) H Q (E σ)) : wpAny (model X.prog X.w) X.A (call (.ref f) us) (EP X pins σ Q) X.xe s := by
  have both : Vals (vs ++ dvs) (us ++ ds) := r.append hd
  have hlen : (us ++ ds).length = ps.length := both.length.symm.trans (F.ln _ _ _ _ h)
  refine wpAny_call (codeAny_mono (F.go X.A X.stack s H ⟨us, []⟩ (us ++ ds) (vs ++ dvs) Q (E σ) ng hr I.env0 (hb s us I.kIn hlen) both h) fun res s2 hq => ?_)
  match res, hq with
  | .error err, hq => exact hx pins H s err s2 I hq
  | .ok (.ret u), hq => exact I.after hq
  | .ok .next, hq => exact (show False from hq).elim
  | .ok .brk, hq => exact (show False from hq).elim
  | .ok .cont, hq => exact (show False from hq).elim
theorem pe_callG (F : FnG X.prog X.w X.K X.mg X.base CX k f fd ps sp) (ng : NoG X.A) (hr : Room k X.A) (hg : Gl X x) (hm : X.mg x = some (.ref f)) (hk : PySem.W.keepIn X.K (.ref f) = true) (hb : Binds X.K fd ps ds) (hd : Vals dvs ds) (hx : ∀ σ, PassesAt CX X σ (E σ))
    (ha : PA X (e :: es) t) (hdb : (x == ("__debug__" : Str)) = false := by decide) (he : starEach (e :: es) X.env = (false, eval e X.env) :: starEach es X.env := by rfl) (hpl : (backTo pos (starEach es X.env)).any (·.1) = false := by rfl) :
    PE X (.Call (.Name x p) (e :: es) [] pos) (tCallSD sp dvs E t) := by
  refine ⟨fun pins s σ H Q I pre => ?_⟩
  refine wpAny_Call_Name_kw (ld_glob I hg hm ?_ hdb)
  exact PySem.W.callWith_K (h₀ := X.base) I.ok.mod.kin hk
    (thn (ha.run pos pins s σ H _ I pre) fun us s1 hh =>
      let ⟨vs, H1, I1, r, q⟩ := hh
      ⟨I1.kIn, runG F ng hr hb hd (hx σ) I1 r q⟩) he hpl
theorem pe_callG0 (F : FnG X.prog X.w X.K X.mg X.base CX k f fd ps sp) (ng : NoG X.A) (hr : Room k X.A) (hg : Gl X x) (hm : X.mg x = some (.ref f)) (hk : PySem.W.keepIn X.K (.ref f) = true) (hb : Binds X.K fd ps ds) (hd : Vals dvs ds) (hx : ∀ σ, PassesAt CX X σ (E σ))
    (hdb : (x == ("__debug__" : Str)) = false := by decide) : PE X (.Call (.Name x p) [] [] pos) (tCallSD sp dvs E tNil) := by
  refine ⟨fun pins s σ H Q I pre => ?_⟩
  refine wpAny_Call_Name_kw (ld_glob I hg hm ?_ hdb)
  exact PySem.W.callWith_K0 I.kIn hk (runG (us := []) F ng hr hb hd (hx σ) I .nil pre)
end
end PL
namespace PL
open PySem PySem.Spec PyProof.Rows L2
/-- the ways on from the heap behind the top: nothing tracked, or the script tracked -/
theorem lawG {P : Program} {w : World} {K : PySem.W.Frag} {mg mb : Str → Option Value} {CX : CXT} {k : Nat} {fa a : Addr} {fd : FuncData} {x : Str} {sp : Sp} {t : Shared} {vs : List Value} {ns : List Int}
    (kin : K.In t.heap) (gl : t.heap.Ns mainGlobals mg) (bl : t.heap.Ns builtinsNs mb) (bb : ∀ y : Str, y ≠ "__name__" → mb y = bootBuiltins y) (nl : t.heap.NoLimit) (ge : t.gens = #[])
    (sc : t.heap.get? a = some { cls := .type "list", data := .seq vs.toArray }) (ii : IntsAre vs ns) (sz : ns.length ≤ sizeLine) (room : Room k callerA)
    (F : ∀ base : Heap, K.In base → base.Ns mainGlobals mg → FnG P w K mg base CX k fa fd [x] sp) (bi : ∀ (s : Shared) (u : Value), BindsTo s fd ⟨[u], []⟩ [(x, u)])
    (pr : ∀ H : Hp, Only H → SqL K H a (ns.map V.int) → sp [.ref a] H (fun v _ => v = .bl true) fun _ _ _ => False)
    (cx : ∀ H e s', CX [] H t (fun _ _ _ => False) e s' → False) :
    codeAny (model P w) callerA (.call (.ref fa) ⟨[.ref a], []⟩) (fun r s' => r = .ok (.ret (.bool true)) ∧ OldK t.heap s'.heap ∧ s'.os = t.os ∧ AllBare s'.gens) t := by
  have rv := vals_ints ii
  have go : ∀ H : Hp, Only H → SqL K H a (ns.map V.int) → HOk P w H t.heap → (∀ b, H b ≠ none → b = a) → (H a ≠ none → K.lookup a = none) →
      codeAny (model P w) callerA (.call (.ref fa) ⟨[.ref a], []⟩) (fun r s' => r = .ok (.ret (.bool true)) ∧ OldK t.heap s'.heap ∧ s'.os = t.os ∧ AllBare s'.gens) t := by
    intro H only sq hok one notK
    have isA : ∀ {b : Addr} {u : HO}, H b = some u → b = a := fun {b u} q => one b (by rw [q]; simp)
    have ground : ∀ {b : Addr} {o : Obj}, t.heap.get? b = some o → H b = none → (hidT t.heap H).get? b = some o := fun e n => hidT_get e n
    have dictN : ∀ {b : Addr} {o : Obj} {es : Array DictEntry} {ep : Nat}, t.heap.get? b = some o → o.data = .dict es ep → H b = none := by
      intro b o es ep e d
      match q : H b with
      | none => rfl
      | some u =>
        obtain rfl := isA q
        rw [sc] at e
        obtain rfl := Option.some.inj e
        exact (show Data.seq vs.toArray _ = Data.dict es ep from d) |> fun z => nomatch z
    have space : ∀ {b : Addr} {m : Str → Option Value}, t.heap.Ns b m → (hidT t.heap H).Ns b m := by
      rintro b m ⟨o, es, ep, e, d, r⟩
      exact ⟨o, es, ep, ground e (dictN e d), d, r⟩
    have kb : K.In (hidT t.heap H) := fun b o e => by
      refine ground (kin b o e) ?_
      match q : H b with
      | none => rfl
      | some u =>
        obtain rfl := isA q
        have z := notK (by rw [q]; simp)
        rw [z] at e; cases e
    have md : Mod K mg (hidT t.heap H) := ⟨kb, space gl, ⟨mb, space bl, bb⟩, by obtain ⟨mc, h1, h2⟩ := nl; exact ⟨mc, space h1, h2⟩⟩
    have env : Env0 P w K mg (hidT t.heap H) callerA [] t H := ⟨rfl, md, fun b o e => of_hidT e, Nat.le_of_eq (hidT_size _ _), trivial, fun b hb => absurd (show b ∈ ([] : List Addr) from hb) (by simp), hok, .of_eq ge⟩
    have run := (F (hidT t.heap H) kb (space gl)).go callerA [] t H ⟨[.ref a], []⟩ [.ref a] [.ref a] (fun v _ => v = .bl true) (fun _ _ _ => False) rfl room env (bi t (.ref a)) (.cons rfl .nil) (pr H only sq)
    refine codeAny_mono run fun r s2 h => ?_
    match r, h with
    | .error e, h => exact (cx H e s2 h).elim
    | .ok .next, h => exact (show False from h).elim
    | .ok .brk, h => exact (show False from h).elim
    | .ok .cont, h => exact (show False from h).elim
    | .ok (.ret u), ⟨v, H2, os, bare, un, hok2, ru, q⟩ =>
      obtain rfl : v = .bl true := q
      obtain rfl : u = Value.bool true := ru
      refine ⟨rfl, OldK.of_keep fun b o e => ?_, os, bare⟩
      match q : H b with
      | none => exact un.keep b o e q (fun z => absurd (show b ∈ ([] : List Addr) from z) (by simp)) (by simp)
      | some u =>
        rcases only b with z | ⟨ob, xs, z⟩
        · rw [q] at z; cases z
        · obtain ⟨e1, _⟩ := hok b _ z
          obtain ⟨e2, _⟩ := hok2 b _ (un.frzs b ob _ z)
          rw [e] at e1
          obtain rfl := Option.some.inj e1
          exact e2
  match hk : K.lookup a with
  | some o =>
    have e := kin a o hk
    rw [sc] at e
    obtain rfl := Option.some.inj e
    refine go (fun _ => none) (fun _ => .inl rfl) (.inr ⟨_, vs.toArray, _, hk, rfl, rfl, rfl, by rw [List.size_toArray, ii.length]; exact sz, by simpa using rv⟩) (fun b u z => ?_) (fun b z => absurd rfl z) fun z => absurd rfl z
    cases (show (none : Option HO) = some u from z)
  | none =>
    let o : Obj := { cls := .type "list", data := .seq vs.toArray }
    let H : Hp := fun b => if b = a then some (.frz o (.lst (ns.map V.int))) else none
    have Ha : H a = some (.frz o (.lst (ns.map V.int))) := if_pos rfl
    have Hn : ∀ b, b ≠ a → H b = none := fun b n => if_neg n
    refine go H (fun b => ?_) (.inl (.inr ⟨o, Ha⟩)) (fun b u z => ?_) (fun b z => ?_) fun _ => hk
    · rcases Decidable.em (b = a) with n | n
      · exact .inr ⟨o, _, n ▸ Ha⟩
      · exact .inl (Hn b n)
    · rcases Decidable.em (b = a) with n | n
      · subst n
        rw [Ha] at z
        obtain rfl := Option.some.inj z
        exact ⟨sc, by rw [List.length_map]; exact sz, vs, _, rv, sc⟩
      · rw [Hn b n] at z; cases z
    · exact Decidable.byContradiction fun n => z (Hn b n)
/-- the walk's end -/
theorem walkG {l : PySem.W.OpenLaw} {n k : Nat} {q : Program} {loose : List Str} {XP : (Str → Option Value) → Heap → Prop} {YP : World → Heap → Prop} {d : DefRec} {CX : World → CXT} {x : Str}
    (most : l.most = some n) (small : n ≤ sizeLine) (nodf : d.params.defaults = []) (room : Room k callerA)
    (F : ∀ (w : World) (mg : Str → Option Value) (fa : Addr) (h : Heap), YP w h → h.Ns mainGlobals mg → mg d.name = some (.ref fa) →
      ∃ (K : PySem.W.Frag) (fd : FuncData) (sp : Sp), K.In h ∧ (∀ (s : Shared) (u : Value), BindsTo s fd ⟨[u], []⟩ [(x, u)]) ∧
        (∀ (H : Hp) (a : Addr) (ns : List Int), ns.length ≤ n → Only H → SqL K H a (ns.map V.int) → sp [.ref a] H (fun v _ => v = .bl true) fun _ _ _ => False) ∧
        ∀ base : Heap, K.In base → base.Ns mainGlobals mg → FnG l.prog w K mg base (CX w) k fa fd [x] sp)
    (cx : ∀ (w : World) (H : Hp) (s : Shared) (e : Value) (s' : Shared), CX w [] H s (fun _ _ _ => False) e s' → False) :
    PySem.W.WalkO q loose XP YP l.row.toRowW d [] (fun f vs => PySem.call f vs) := by
  refine Att.attach_call most nodf fun w s₀ s₁ mg mb fa o pm cd doc a vs ns G Y ho hd hcd hmg hobj ii len gens => ?_
  obtain ⟨K, fd, sp, kin, bi, pr, hF⟩ := F w mg fa _ Y G.T.g hmg
  exact lawG kin G.T.g G.T.b G.T.builtins G.T.nolimit gens hobj ii (Nat.le_trans len small) room hF bi (fun H only sq => pr H a ns len only sq) fun H e s' => cx w H s₁ e s'
end PL
namespace PL
open PySem PySem.Spec PyProof.Rows L2
/-! ### a rule of the walk and its pure reading, together -/
structure YE (X : Cx) (g : G) (W : WX) (e : Expr) (te : TE) (m : EM) : Prop where
  p : PE X e te
  s : SE g W te m
structure YT (X : Cx) (g : G) (W : WX) (e : Expr) (tt : TT) (m : TM) : Prop where
  p : PT X e tt
  s : STt g W tt m
structure YTs (X : Cx) (g : G) (W : WX) (es : List Expr) (tt : TT) (m : TM) : Prop where
  p : PTs X es tt
  s : STt g W tt m
structure YA (X : Cx) (g : G) (W : WX) (es : List Expr) (ta : TA) (m : AM) : Prop where
  p : PA X es ta
  s : SA g W ta m
structure YF (X : Cx) (g : G) (W : WX) (es : List Expr) (ta : TA) (m : FM) : Prop where
  p : PA X es ta
  s : SF g W ta m
structure YR (X : Cx) (g : G) (W : WX) (es : List Expr) (ta : TA) (m : RM) : Prop where
  p : PA X es ta
  s : SR g W ta m
structure YI (X : Cx) (g : G) (W : WX) (tg e : Expr) (ti : TI) (m : FM) : Prop where
  p : PI X tg e ti
  s : SI g W ti m
structure YG (X : Cx) (g : G) (e : Expr) (tg : TG) (m : GM) : Prop where
  p : PG X e tg
  s : SG g tg m
structure YGs (X : Cx) (g : G) (es : List Expr) (tg : TGs) (m : GMs) : Prop where
  p : PGs X es tg
  s : SGs g tg m
structure YV (X : Cx) (g : G) (vs : List Nat) (e : Expr) (tg : TG) (m : GM) : Prop where
  p : PG X e tg
  s : SGv g vs tg m
structure YVs (X : Cx) (g : G) (vs : List Nat) (es : List Expr) (tg : TGs) (m : GMs) : Prop where
  p : PGs X es tg
  s : SGvs g vs tg m
structure YS (X : Cx) (g : G) (W : WX) (e : Stmt) (ts : TS) (m : SM) : Prop where
  p : PS X e ts
  s : SS g W ts m
structure YSs (X : Cx) (g : G) (W : WX) (e : List Stmt) (ts : TS) (m : SM) : Prop where
  p : PSs X e ts
  s : SS g W ts m
section
variable {X : Cx} {g : G} {W : WX} {e a b c : Expr} {es : List Expr} {te ta tb : TE} {tA : TA} {tt tu : TT} {m m1 m2 : EM} {mt mt1 mt2 : TM} {mf : FM} {ma : AM} {mr : RM} {pos : Pos}
/-! ### expressions -/
theorem yv (i : Nat) {x : Str} (hN : X.N[i]? = some x := by rfl) (hv : Vis X.env.scope x := by first | exact Or.inl rfl | exact Or.inr (Or.inl rfl) | exact Or.inr (Or.inr rfl)) (hd : (x == ("__debug__" : Str)) = false := by decide)
    (hcd : (x == ("__classdict__" : Str)) = false := by decide) : YE X g W (.Name x pos) (tVar i) (varM i) := ⟨pe_var hN hv hd hcd, se_var⟩
theorem yi {i : Int} {j} : YE X g W (.Constant (.int i) j pos) (tC (.int i)) (cM (.int i)) := ⟨pe_int, se_c rfl⟩
theorem yb {i : Bool} {j} : YE X g W (.Constant (.bool i) j pos) (tC (.bl i)) (cM (.bl i)) := ⟨pe_bl, se_c rfl⟩
theorem yn {j} : YE X g W (.Constant .none j pos) (tC .non) (cM .non) := ⟨pe_non, se_c trivial⟩
theorem ys {i : Str} {j} : YE X g W (.Constant (.str i) j pos) (tC (.str i)) (cM (.str i)) := ⟨pe_str, se_c rfl⟩
/-- a constant of the module -/
theorem ygc {x : Str} {v : V} {d : D} (h : ∃ u, X.mg x = some u ∧ RelV v u) (f : Flat d v) (hg : Gl X x := by rfl) (hd : (x == ("__debug__" : Str)) = false := by decide) : YE X g W (.Name x pos) (tC v) (cM d) := by
  obtain ⟨u, h1, h2⟩ := h
  exact ⟨pe_glob hg h1 h2 hd, se_c f⟩
theorem yop {op : Operator} {r : R2} {fn} (ho : OpR X (binaryOp op) r) (p : P2 g r fn) (h1 : YE X g W a ta m1) (h2 : YE X g W b tb m2) : YE X g W (.BinOp a op b pos) (tOp r ta tb) (opM fn m1 m2) := ⟨pe_op ho h1.p h2.p, se_op p h1.s h2.s⟩
theorem yun {op : UnaryOp} {r} {fn} (ho : UnR X (unaryOp op) r) (p : P1 g r fn) (h1 : YE X g W a ta m1) : YE X g W (.UnaryOp op a pos) (tUn r ta) (unM fn m1) := ⟨pe_un ho h1.p, se_un p h1.s⟩
theorem ycmp {op : CmpOp} {r : R2} {fn} (ho : OpR X (compareOp op) r) (p : P2 g r fn) (h1 : YE X g W a ta m1) (h2 : YE X g W b tb m2) (hm : behindInMarks op b = false := by first | exact nomark _ | with_unfolding_all rfl) : YE X g W (.Compare a [op] [b] pos) (tOp r ta tb) (opM fn m1 m2) :=
  ⟨pe_cmpR ho h1.p h2.p hm, se_op p h1.s h2.s⟩
theorem ytc {op : CmpOp} {r : R2} {fn} (ho : OpR X (compareOp op) r) (p : P2 g r fn) (h1 : YE X g W a ta m1) (h2 : YE X g W b tb m2) (hm : behindInMarks op b = false := by first | exact nomark _ | with_unfolding_all rfl) : YT X g W (.Compare a [op] [b] pos) (tTest (tOp r ta tb)) (testM (opM fn m1 m2)) :=
  ⟨pt_cmpR ho h1.p h2.p hm, st_val (se_op p h1.s h2.s)⟩
/-- a op b op' c: the chain -/
def chM (fn fn' : D → D → Option Tv) (m1 m2 m3 : EM) : EM := fun env => (m1 env).bind fun t1 e1 => (m2 e1).bind fun t2 e2 => match view e2 t1, view e2 t2 with
  | some d1, some d2 => match fn d1 d2 with
    | some (.v (.bl true)) => (m3 e2).bind fun t3 e3 => app2 fn' t2 t3 e3
    | some (.v (.bl false)) => .ok (.v (.bl false)) e2
    | _ => .st
  | _, _ => .st
theorem se_chain {r r' : R2} {fn fn' : D → D → Option Tv} {tc : TE} {m3 : EM} (p : P2 g r fn) (p' : P2 g r' fn') (h1 : SE g W ta m1) (h2 : SE g W tb m2) (h3 : SE g W tc m3) : SE g W (tChain r r' ta tb tc) (chM fn fn' m1 m2 m3) := fun cb σ env F H Q R P => by
  refine h1 cb σ env F H _ R ?_
  unfold chM at P
  cases q1 : m1 env with
  | st => rw [q1] at P; exact P
  | ex cl fs e1 => rw [q1] at P; exact P
  | ok t1 e1 =>
    rw [q1] at P
    intro x F1 H1 R1 s1 k1 n1
    refine h2 cb σ e1 F1 H1 _ R1 ?_
    have P1 : Post g cb W σ env F H Q ((m2 e1).bind fun t2 e2 => match view e2 t1, view e2 t2 with
      | some d1, some d2 => match fn d1 d2 with
        | some (.v (.bl true)) => (m3 e2).bind fun t3 e3 => app2 fn' t2 t3 e3
        | some (.v (.bl false)) => .ok (.v (.bl false)) e2
        | _ => .st
      | _, _ => .st) := P
    cases q2 : m2 e1 with
    | st => rw [q2] at P1; exact P1
    | ex cl fs e2 => rw [q2] at P1; exact P1
    | ok t2 e2 =>
      rw [q2] at P1
      intro y F2 H2 R2 s2 k2 n2
      have P2' : Post g cb W σ env F H Q (match view e2 t1, view e2 t2 with
        | some d1, some d2 => match fn d1 d2 with
          | some (.v (.bl true)) => (m3 e2).bind fun t3 e3 => app2 fn' t2 t3 e3
          | some (.v (.bl false)) => .ok (.v (.bl false)) e2
          | _ => .st
        | _, _ => .st) := P1
      cases w1 : view e2 t1 with
      | none => simp only [w1] at P2'; exact P2'.elim
      | some d1 =>
        cases w2 : view e2 t2 with
        | none => simp only [w1, w2] at P2'; exact P2'.elim
        | some d2 =>
          simp only [w1, w2] at P2'
          split at P2'
          · rename_i qf
            refine p F2 H2 d1 d2 x y _ _ R2.fh (R2.view (k1.step s2) w1) (R2.view k2 w2) qf fun v F3 H3 gr nt => ?_
            have ev : v = V.bl true := nt
            have R3 := R2.grow gr
            refine ⟨true, ev, ?_⟩
            rw [if_pos rfl]
            have k3 := k2.step (gr.stp (σ := σ) (env := e2))
            refine h3 cb σ e2 F3 H3 _ R3 ?_
            have P3 : Post g cb W σ e2 F3 H3 Q ((m3 e2).bind fun t3 e3 => app2 fn' t2 t3 e3) := Post.from ((s1.trans s2).trans gr.stp) P2'
            cases q3 : m3 e2 with
            | st => rw [q3] at P3; exact P3
            | ex cl fs e3 => rw [q3] at P3; exact P3
            | ok t3 e3 =>
              rw [q3] at P3
              intro z F4 H4 R4 s4 k4 n4
              exact se_app2 p' R4 (k3.step s4) k4 (Post.from s4 P3)
          · rename_i qf
            refine p F2 H2 d1 d2 x y _ _ R2.fh (R2.view (k1.step s2) w1) (R2.view k2 w2) qf fun v F3 H3 gr nt => ?_
            have ev : v = V.bl false := nt
            have R3 := R2.grow gr
            refine ⟨false, ev, ?_⟩
            rw [if_neg (by decide)]
            exact Post.same R3 (Post.from ((s1.trans s2).trans gr.stp) P2') (rfl : V.bl false = .bl false) trivial
          · exact P2'.elim
theorem ychain {op op' : CmpOp} {r r' : R2} {fn fn'} {tc : TE} {m3 : EM} (ho : OpR X (compareOp op) r) (p : P2 g r fn) (ho' : OpR X (compareOp op') r') (p' : P2 g r' fn') (h1 : YE X g W a ta m1) (h2 : YE X g W b tb m2) (h3 : YE X g W c tc m3)
    (hm : lastMarks [op, op'] [b, c] = false := by with_unfolding_all rfl) : YE X g W (.Compare a [op, op'] [b, c] pos) (tChain r r' ta tb tc) (chM fn fn' m1 m2 m3) := ⟨pe_chain ho ho' h1.p h2.p h3.p hm, se_chain p p' h1.s h2.s h3.s⟩
theorem ytchain {op op' : CmpOp} {r r' : R2} {fn fn'} {tc : TE} {m3 : EM} (ho : OpR X (compareOp op) r) (p : P2 g r fn) (ho' : OpR X (compareOp op') r') (p' : P2 g r' fn') (h1 : YE X g W a ta m1) (h2 : YE X g W b tb m2) (h3 : YE X g W c tc m3)
    (hm : lastMarks [op, op'] [b, c] = false := by with_unfolding_all rfl) : YT X g W (.Compare a [op, op'] [b, c] pos) (tTest (tChain r r' ta tb tc)) (testM (chM fn fn' m1 m2 m3)) := ⟨pt_chain ho ho' h1.p h2.p h3.p hm, st_val (se_chain p p' h1.s h2.s h3.s)⟩
theorem yix {r : R2} {fn} (hr : IxR X r) (p : P2 g r fn) (h1 : YE X g W a ta m1) (h2 : YE X g W b tb m2) (hs : PlainIx b := by exact fun _ _ => rfl) : YE X g W (.Subscript a b pos) (tOp r ta tb) (opM fn m1 m2) := ⟨pe_ix hr h1.p h2.p hs, se_op p h1.s h2.s⟩
theorem yand1 {op} (h : YE X g W a ta m) : YE X g W (.BoolOp op [a] pos) ta m := ⟨pe_one h.p, h.s⟩
theorem yand {rest : List Expr} (h1 : YE X g W a ta m1) (h2 : YE X g W (.BoolOp .And (b :: rest) pos) tb m2) : YE X g W (.BoolOp .And (a :: b :: rest) pos) (tAndV ta tb) (andV m1 m2) := ⟨pe_and h1.p h2.p, se_andV h1.s h2.s⟩
theorem yor {rest : List Expr} (h1 : YE X g W a ta m1) (h2 : YE X g W (.BoolOp .Or (b :: rest) pos) tb m2) : YE X g W (.BoolOp .Or (a :: b :: rest) pos) (tOrV ta tb) (orV m1 m2) := ⟨pe_or h1.p h2.p, se_orV h1.s h2.s⟩
theorem ynot (h1 : YE X g W a ta m1) : YE X g W (.UnaryOp .Not a pos) (tNotV ta) (notV m1) := ⟨pe_not h1.p, se_notV h1.s⟩
theorem yif (h : YT X g W c tt mt) (h1 : YE X g W a ta m1) (h2 : YE X g W b tb m2) : YE X g W (.IfExp c a b pos) (tIf tt ta tb) (ifM mt m1 m2) := ⟨pe_ifExp h.p h1.p h2.p, se_if h.s h1.s h2.s⟩
theorem ylst (h : YF X g W es tA mf) : YE X g W (.List es pos) (tLst tA) (lstM mf) := ⟨pe_lst h.p, se_lst h.s⟩
theorem ytup {x1} (h : YF X g W es tA mf) : YE X g W (.Tuple es x1 pos) (tTup tA) (tupM mf) := ⟨pe_tup h.p, se_tup h.s⟩
/-! ### rows of arguments -/
theorem yan : YA X g W [] tNil nilA := ⟨pa_nil, sa_nil⟩
theorem yac (h1 : YE X g W e te m) (h2 : YA X g W es tA ma) (hs : starEach (e :: es) X.env = (false, eval e X.env) :: starEach es X.env := by rfl) : YA X g W (e :: es) (tCons te tA) (consA m ma) := ⟨pa_cons h1.p h2.p hs, sa_cons h1.s h2.s⟩
theorem yfn : YF X g W [] tNil nilF := ⟨pa_nil, sf_nil⟩
theorem yfc (h1 : YE X g W e te m) (h2 : YF X g W es tA mf) (hs : starEach (e :: es) X.env = (false, eval e X.env) :: starEach es X.env := by rfl) : YF X g W (e :: es) (tCons te tA) (consF m mf) := ⟨pa_cons h1.p h2.p hs, sf_cons h1.s h2.s⟩
theorem yrn : YR X g W [] tNil nilR := ⟨pa_nil, sr_nil⟩
theorem yrd (h1 : YE X g W e te m) (h2 : YR X g W es tA mr) (hs : starEach (e :: es) X.env = (false, eval e X.env) :: starEach es X.env := by rfl) : YR X g W (e :: es) (tCons te tA) (dR m mr) := ⟨pa_cons h1.p h2.p hs, sr_d h1.s h2.s⟩
theorem yrr (i : Nat) {x : Str} {p : Pos} (h2 : YR X g W es tA mr) (hN : X.N[i]? = some x := by rfl) (hv : Vis X.env.scope x := by first | exact Or.inl rfl | exact Or.inr (Or.inl rfl) | exact Or.inr (Or.inr rfl)) (hd : (x == ("__debug__" : Str)) = false := by decide)
    (hcd : (x == ("__classdict__" : Str)) = false := by decide) (hs : starEach (.Name x p :: es) X.env = (false, eval (.Name x p) X.env) :: starEach es X.env := by rfl) : YR X g W (.Name x p :: es) (tCons (tVar i) tA) (rR i mr) := ⟨pa_cons (pe_var hN hv hd hcd) h2.p hs, sr_r h2.s⟩
/-! ### tests -/
theorem ytv (h : YE X g W e te m) (he : ∀ whole, isTrue e X.env whole = (do let v ← whole; standAt e.pos; holding [v] (truthy v)) := by intro _; rfl) : YT X g W e (tB te) (testM m) := ⟨pt_val h.p he, st_B h.s⟩
theorem ytnot (h : YT X g W a tt mt) : YT X g W (.UnaryOp .Not a pos) (tNot tt) (notT mt) := ⟨pt_not h.p, st_not h.s⟩
/-! ### calls of built-ins -/
theorem ycb {id : String} {r} {fn} {x : Str} {p : Pos} (hc : CallR X (.builtin id) r) (pn : PN g r fn) (hm : X.mg x = none) (ha : YA X g W (e :: es) tA ma) (hv : bootBuiltins x = some (.builtin id) := by decide +kernel) (hg : Gl X x := by rfl) (hn : x ≠ "__name__" := by decide)
    (hdb : (x == ("__debug__" : Str)) = false := by decide) (he : starEach (e :: es) X.env = (false, eval e X.env) :: starEach es X.env := by rfl) (hpl : (backTo pos (starEach es X.env)).any (·.1) = false := by rfl) :
    YE X g W (.Call (.Name x p) (e :: es) [] pos) (tCB r tA) (cbM fn ma) := ⟨pe_callB hc hg hm hv ha.p hn hdb he hpl, se_cb pn ha.s⟩
theorem ycty {T : String} {r} {fn} {x : Str} {p : Pos} (hc : CallR X (.type T) r) (pn : PN g r fn) (hm : X.mg x = none) (ha : YA X g W (e :: es) tA ma) (hv : bootBuiltins x = some (.type T) := by decide +kernel) (hg : Gl X x := by rfl) (hn : x ≠ "__name__" := by decide)
    (hdb : (x == ("__debug__" : Str)) = false := by decide) (he : starEach (e :: es) X.env = (false, eval e X.env) :: starEach es X.env := by rfl) (hpl : (backTo pos (starEach es X.env)).any (·.1) = false := by rfl) :
    YE X g W (.Call (.Name x p) (e :: es) [] pos) (tCB r tA) (cbM fn ma) := ⟨pe_callTy hc hg hm hv ha.p hn hdb he hpl, se_cb pn ha.s⟩
end
/-! ### calls of own defs -/
/-- defaults behind what is written -/
def dfR (dd : List D) (mr : RM) : RM := fun env => (mr env).bind fun as e => .ok (as ++ dd.map Ar.d) e
def Flats : List D → List V → Prop
  | [], [] => True
  | d :: ds, v :: vs => Flat d v ∧ Flats ds vs
  | _, _ => False
theorem ars_app {g : G} {σ : L2.St} {F : Hp} : ∀ {vs : List V} {as : List Ar} {dd : List D} {dvs : List V}, ArsAt g σ F vs as → Flats dd dvs → ArsAt g σ F (vs ++ dvs) (as ++ dd.map Ar.d)
  | [], [], [], [], _, _ => trivial
  | [], [], d :: dd, v :: dvs, _, h => ⟨h.1.rep, ars_app (vs := []) (as := []) trivial h.2⟩
  | v :: vs, a :: as, _, _, h, k => ⟨h.1, ars_app h.2 k⟩
  | [], [], [], _ :: _, _, h => h.elim
  | [], [], _ :: _, [], _, h => h.elim
  | [], _ :: _, _, _, h, _ => h.elim
  | _ :: _, [], _, _, h, _ => h.elim
theorem se_callD {g : G} {W : WX} {f : DFun} {ta : TA} {mr : RM} {dd : List D} {dvs : List V} (fl : Flats dd dvs) (h : SR g W ta mr) : SE g W (tCallSD (spD g f) dvs (fun σ cls d H => W cls d σ H) ta) (callM f (dfR dd mr)) := fun c σ env F H Q R P => by
  have h2 : SR g W (fun σ H Q => ta σ H fun vs H1 => Q (vs ++ dvs) H1) (dfR dd mr) := fun c σ env F H Q R P => by
    refine h c σ env F H _ R ?_
    unfold dfR at P
    cases q1 : mr env with
    | st => rw [q1] at P; exact P
    | ex cl fs e1 => rw [q1] at P; exact P
    | ok as e1 =>
      rw [q1] at P
      exact fun vs F1 H1 R1 s1 k1 => P (vs ++ dvs) F1 H1 R1 s1 (ars_app k1 fl)
  have := se_call (f := f) h2 c σ env F H Q R P
  have e : tCallSD (spD g f) [] (fun σ cls d H => W cls d σ H) (fun σ H Q => ta σ H fun vs H1 => Q (vs ++ dvs) H1) σ H Q = tCallSD (spD g f) dvs (fun σ cls d H => W cls d σ H) ta σ H Q := by
    show (ta σ H fun vs H1 => spD g f ((vs ++ dvs) ++ []) H1 Q _) = (ta σ H fun vs H1 => spD g f (vs ++ dvs) H1 Q _)
    simp only [List.append_nil]
  rw [← e]
  exact this
def flatV : D → V
  | .bl b => .bl b
  | .int i => .int i
  | .str z => .str z
  | _ => .non
def isFlat : D → Bool
  | .non => true
  | .bl _ => true
  | .int _ => true
  | .str _ => true
  | _ => false
theorem flats_of : ∀ {dd : List D}, dd.all isFlat = true → Flats dd (dd.map flatV)
  | [], _ => trivial
  | d :: dd, h => by
    rw [List.all_cons, Bool.and_eq_true] at h
    refine ⟨?_, flats_of h.2⟩
    cases d <;> first | trivial | rfl | cases h.1
/-- an own def that may be called: its promise is the pure function f, dd its defaults that are left out -/
structure Fc (P : Program) (w : World) (K : PySem.W.Frag) (mg : Str → Option Value) (base : Heap) (g : G) (k : Nat) (x : Str) (f : DFun) (dd : List D) : Prop where
  ex : ∃ (fa : Addr) (fd : FuncData) (ps : List Str) (ds : List Value), FnG P w K mg base (L2.CX P w) k fa fd ps (spD g f) ∧ mg x = some (.ref fa) ∧ PySem.W.keepIn K (.ref fa) = true ∧ Binds K fd ps ds ∧ Vals (dd.map flatV) ds
  fl : dd.all isFlat = true
/-- what a place lets out -/
structure Pl (X : Cx) (W : WX) (k : Nat) : Prop where
  ng : NoG X.A
  rm : Room k X.A
  tk : Takes X W
def callD (f : DFun) (dd : List D) (mr : RM) : EM := callM f (dfR dd mr)
section
variable {X : Cx} {g : G} {W : WX} {e : Expr} {es : List Expr} {tA : TA} {mr : RM} {pos p : Pos} {k j : Nat} {x : Str} {f : DFun} {dd : List D}
/-- f(e, ..) -/
theorem ycall (o : Pl X W j) (F : Fc X.prog X.w X.K X.mg X.base g k x f dd) (ha : YR X g W (e :: es) tA mr) (hk : k ≤ j := by decide) (hg : Gl X x := by rfl) (hdb : (x == ("__debug__" : Str)) = false := by decide)
    (he : starEach (e :: es) X.env = (false, eval e X.env) :: starEach es X.env := by rfl) (hpl : (backTo pos (starEach es X.env)).any (·.1) = false := by rfl) :
    YE X g W (.Call (.Name x p) (e :: es) [] pos) (tCallSD (spD g f) (dd.map flatV) (fun σ cls d H => W cls d σ H) tA) (callD f dd mr) := by
  obtain ⟨fa, fd, ps, ds, F1, h1, h2, h3, h4⟩ := F.ex
  exact ⟨pe_callG F1 o.ng (o.rm.mono hk) hg h1 h2 h3 h4 (fun σ => L2.passAt o.tk σ) ha.p hdb he hpl, se_callD (flats_of F.fl) ha.s⟩
theorem ycall0 (o : Pl X W j) (F : Fc X.prog X.w X.K X.mg X.base g k x f dd) (hk : k ≤ j := by decide) (hg : Gl X x := by rfl) (hdb : (x == ("__debug__" : Str)) = false := by decide) :
    YE X g W (.Call (.Name x p) [] [] pos) (tCallSD (spD g f) (dd.map flatV) (fun σ cls d H => W cls d σ H) tNil) (callD f dd nilR) := by
  obtain ⟨fa, fd, ps, ds, F1, h1, h2, h3, h4⟩ := F.ex
  exact ⟨pe_callG0 F1 o.ng (o.rm.mono hk) hg h1 h2 h3 h4 (fun σ => L2.passAt o.tk σ) hdb, se_callD (flats_of F.fl) sr_nil⟩
end
/-! ### statements -/
section
variable {X : Cx} {g : G} {W : WX} {e a b c tg : Expr} {es : List Expr} {te ta tb : TE} {tt : TT} {t u : TS} {ti : TI} {tG : TG} {m : EM} {mt : TM} {mi : FM} {gm : GM} {s1 s2 : SM} {st : Stmt} {rest body orelse : List Stmt} {pos pos' : Pos}
theorem ssn : YSs X g W [] tNext skipM := ⟨pss_nil, ss_skip⟩
theorem ssc (h1 : YS X g W st t s1) (h2 : YSs X g W rest u s2) : YSs X g W (st :: rest) (tSeq t u) (seqM s1 s2) := ⟨pss_cons h1.p h2.p, ss_seq h1.s h2.s⟩
theorem sso (h1 : YS X g W st t s1) : YSs X g W [st] t s1 := ⟨pss_one h1.p, h1.s⟩
theorem zpass : YS X g W (.Pass pos) tNext skipM := ⟨ps_pass, ss_skip⟩
theorem zbrk : YS X g W (.Break pos) tBreak bkM := ⟨ps_break, ss_bk⟩
theorem zcnt : YS X g W (.Continue pos) tCont ctM := ⟨ps_continue, ss_ct⟩
theorem zdoc {x j} : YS X g W (.Expr (.Constant (.str x) j pos) pos') tNext skipM := ⟨ps_doc, ss_skip⟩
theorem zexp (h : YE X g W e te m) (hs : swapsWith e none pos.line X.env = pure false := by rfl) : YS X g W (.Expr e pos) (tDrop te) (dropM m) := ⟨ps_expr h.p hs, ss_drop h.s⟩
theorem zret (h : YE X g W e te m) : YS X g W (.Return (some e) pos) (tRet te) (retM m) := ⟨ps_ret h.p, ss_ret h.s⟩
theorem zret0 : YS X g W (.Return none pos) tRetN retNM := ⟨ps_retN, ss_retN⟩
theorem zif (h : YT X g W c tt mt) (h1 : YSs X g W body t s1) (h2 : YSs X g W orelse u s2) : YS X g W (.If c body orelse pos) (tIfS tt t u) (ifS mt s1 s2) := ⟨ps_if h.p h1.p h2.p, ss_if h.s h1.s h2.s⟩
/-- name = e, frozen | own -/
theorem zset (i : Nat) {x : Str} (h : YE X g W e te m) (hN : X.N.Nodup := by first | assumption | exact of_decide_eq_true (by kernel_rfl)) (hi : X.N[i]? = some x := by rfl) (hx : Loc X.env.scope x := by first | exact Or.inl rfl | exact Or.inr rfl) (hs : swapsWith e (some (.Name x pos')) pos.line X.env = pure false := by rfl)
    (hf : X.fn x = true ∨ X.env.scope.names.lookup x = some .local := by first | exact .inl rfl | exact .inr rfl) : YS X g W (.Assign [.Name x pos'] e pos) (tAsg te (gName i)) (asgF i m) := ⟨ps_set hN hi hx h.p hs hf, ss_asgF h.s⟩
theorem zown (i : Nat) {x : Str} (h : YE X g W e te m) (hN : X.N.Nodup := by first | assumption | exact of_decide_eq_true (by kernel_rfl)) (hi : X.N[i]? = some x := by rfl) (hx : Loc X.env.scope x := by first | exact Or.inl rfl | exact Or.inr rfl) (hs : swapsWith e (some (.Name x pos')) pos.line X.env = pure false := by rfl)
    (hf : X.fn x = true ∨ X.env.scope.names.lookup x = some .local := by first | exact .inl rfl | exact .inr rfl) : YS X g W (.Assign [.Name x pos'] e pos) (tAsg te (gName i)) (asgO i m) := ⟨ps_set hN hi hx h.p hs hf, ss_asgO h.s⟩
/-- x = y, y's thing goes over to x -/
theorem zmv (i j : Nat) {x y : Str} {py : Pos} (hN : X.N.Nodup := by first | assumption | exact of_decide_eq_true (by kernel_rfl)) (hi : X.N[i]? = some x := by rfl) (hx : Loc X.env.scope x := by first | exact Or.inl rfl | exact Or.inr rfl) (hj : X.N[j]? = some y := by rfl) (hv : Vis X.env.scope y := by first | exact Or.inl rfl | exact Or.inr (Or.inl rfl) | exact Or.inr (Or.inr rfl))
    (hs : swapsWith (.Name y py) (some (.Name x pos')) pos.line X.env = pure false := by rfl) (hf : X.fn x = true ∨ X.env.scope.names.lookup x = some .local := by first | exact .inl rfl | exact .inr rfl) (hd : (y == ("__debug__" : Str)) = false := by decide) (hcd : (y == ("__classdict__" : Str)) = false := by decide) :
    YS X g W (.Assign [.Name x pos'] (.Name y py) pos) (tAsg (tVar j) (gName i)) (mvM i j) := ⟨ps_set hN hi hx (pe_var hj hv hd hcd) hs hf, ss_mv⟩
theorem zaug (i : Nat) {x : Str} {op : Operator} {f : Int → Int → Int} (ho : PIp X op (ipI f)) (h : YE X g W e te m) (hN : X.N.Nodup := by first | assumption | exact of_decide_eq_true (by kernel_rfl)) (hi : X.N[i]? = some x := by rfl) (hx : Loc X.env.scope x := by first | exact Or.inl rfl | exact Or.inr rfl)
    (hf : X.fn x = true ∨ X.env.scope.names.lookup x = some .local := by first | exact .inl rfl | exact .inr rfl) : YS X g W (.AugAssign (.Name x pos') op e pos) (tAug i te (ipI f)) (augM i f m) := ⟨ps_aug hN hi hx h.p ho hf, ss_aug h.s⟩
/-- a target -/
theorem zasg (h : YE X g W e te m) (hg : YG X g tg tG gm) (hs : swapsWithSole [tg] e pos.line X.env = pure false := by rfl) (hw : swappedStores [tg] e X.env = pure none := by rfl) (h1 : (assignEach [tg] X.env).map (·.2) = [assign tg X.env] := by rfl) :
    YS X g W (.Assign [tg] e pos) (tAsg te tG) (asgG gm m) := ⟨ps_asg h.p hg.p hs hw h1, ss_asgG h.s hg.s⟩
theorem gn (i : Nat) {x : Str} (hN : X.N.Nodup := by first | assumption | exact of_decide_eq_true (by kernel_rfl)) (hi : X.N[i]? = some x := by rfl) (hx : Loc X.env.scope x := by first | exact Or.inl rfl | exact Or.inr rfl) (hf : X.fn x = true ∨ X.env.scope.names.lookup x = some .local := by first | exact .inl rfl | exact .inr rfl) :
    YG X g (.Name x pos) (gName i) (gN i) := ⟨pg_name hN hi hx hf, sg_name⟩
theorem gvn (i : Nat) {vs : List Nat} {x : Str} (hm : i ∈ vs := by first | decide | simp) (hN : X.N.Nodup := by first | assumption | exact of_decide_eq_true (by kernel_rfl)) (hi : X.N[i]? = some x := by rfl) (hx : Loc X.env.scope x := by first | exact Or.inl rfl | exact Or.inr rfl) (hf : X.fn x = true ∨ X.env.scope.names.lookup x = some .local := by first | exact .inl rfl | exact .inr rfl) :
    YV X g vs (.Name x pos) (gName i) (gN i) := ⟨pg_name hN hi hx hf, sgv_name hm⟩
theorem zfor (hc : X.calm = true) (hp : PassesOwn (model X.prog X.w) X.A X.env X.xe) (h1 : YI X g W tg e ti mi) (h2 : YG X g tg tG gm) (h3 : YSs X g W body t s1) (hs : ∀ x, foldedSetIterable e X.env x = pure x := by intro _; rfl) :
    YS X g W (.For tg e body [] pos) (tFor ti tG t) (forM mi gm s1) := ⟨ps_for hp hc h1.p h2.p h3.p hs, ss_for h1.s h2.s h3.s⟩
theorem zwhile (n : Nat) (hp : PassesOwn (model X.prog X.w) X.A X.env X.xe) (h1 : YT X g W c tt mt) (h3 : YSs X g W body t s1) : YS X g W (.While c body [] pos) (tWhile tt t) (whileM n mt s1) := ⟨ps_while hp h1.p h3.p, ss_while n h1.s h3.s⟩
/-! ### what is walked -/
theorem ilst {m : EM} (hK : X.K = g.K := by rfl) (h : YE X g W e te m) : YI X g W tg e (iList X.K te) (lsI m) := ⟨pi_list h.p, by rw [hK]; exact si_list h.s⟩
theorem itup {m : EM} (hK : X.K = g.K := by rfl) (h : YE X g W e te m) : YI X g W tg e (iTup X.K te) (tpI m) := ⟨pi_tup h.p, by rw [hK]; exact si_tup h.s⟩
theorem irg1 {ta : TA} {ma : AM} {p : Pos} (hm : X.mg "range" = none) (h : YA X g W [a] ta ma) (hg : Gl X "range" := by rfl) (hs : starEach [a] X.env = [(false, eval a X.env)] := by rfl) : YI X g W tg (.Call (.Name "range" p) [a] [] pos) (iRng1 ta) (rg1 ma) := ⟨pi_range1 hg hm h.p hs, si_rng1 h.s⟩
theorem irg2 {ta : TA} {ma : AM} {p : Pos} (hm : X.mg "range" = none) (h : YA X g W [a, b] ta ma) (hg : Gl X "range" := by rfl) (hs : starEach [a, b] X.env = [(false, eval a X.env), (false, eval b X.env)] := by rfl) (hs2 : starEach [b] X.env = [(false, eval b X.env)] := by rfl) :
    YI X g W tg (.Call (.Name "range" p) [a, b] [] pos) (iRng2 ta) (rg2 ma) := ⟨pi_range2 hg hm h.p hs hs2, si_rng2 h.s⟩
/-! ### comprehensions -/
theorem tsn : YTs X g W [] tYes yesT := ⟨pts_nil, st_yes⟩
theorem tso (h : YT X g W c tt mt) : YTs X g W [c] tt mt := ⟨pts_one h.p, h.s⟩
theorem ylc {elt it : Expr} {ifs : List Expr} {scope : Scope} (own : List (Str × Nat)) {mf : EM} (hc : X.calm = true) (hi : YI X g W tg it ti mi) (hg : ∀ (s : Shared) (H : Hp) (C : Addr) (cl : List (Str × Addr)) (fp : List Addr), YV (X.blk s H scope (compEnvC scope cl C X.env) fp) g (own.map (·.2)) tg tG gm)
    (ht : ∀ (s : Shared) (H : Hp) (C : Addr) (cl : List (Str × Addr)) (fp : List Addr), YTs (X.blk s H scope (compEnvC scope cl C X.env) fp) g W0 ifs tt mt) (he : ∀ (s : Shared) (H : Hp) (C : Addr) (cl : List (Str × Addr)) (fp : List Addr), YE (X.blk s H scope (compEnvC scope cl C X.env) fp) g W0 elt te mf)
    (hN : X.N.Nodup := by first | assumption | exact of_decide_eq_true (by kernel_rfl)) (ok : BlkOk X.N X.env.scope scope own := by exact blkOk_by (by kernel_rfl)) (hs : ∀ x, foldedSetIterable it X.env x = pure x := by intro _; rfl) :
    YE X g W (.ListComp elt [⟨tg, it, ifs, 0⟩] scope pos) (tLc ti tG tt te (own.map (·.2))) (lcM mi gm (own.map (·.2)) mt mf) :=
  ⟨pe_lc hc hN hi.p ok (fun s H C cl fp => (hg s H C cl fp).p) (fun s H C cl fp => (ht s H C cl fp).p) (fun s H C cl fp => (he s H C cl fp).p) hs,
    se_lc hi.s (hg ⟨⟨#[], {}⟩, #[], {}, 0, {}⟩ (fun _ => none) 0 [] []).s (ht ⟨⟨#[], {}⟩, #[], {}, 0, {}⟩ (fun _ => none) 0 [] []).s (he ⟨⟨#[], {}⟩, #[], {}, 0, {}⟩ (fun _ => none) 0 [] []).s⟩
end
end PL
namespace PL
open PySem PySem.Spec PyProof.Rows L2
/-! ### repr -/
def rRpr (K : PySem.W.Frag) : List V → Hp → VK → Prop := fun xs H Q => ∃ x p, xs = [x] ∧ Dp K H x p ∧ p.showable = true ∧ p.hasDict = false ∧ p.depth ≤ 20 ∧ p.shown.length ≤ 100000 ∧ Q (.str p.shown) H
theorem call_rep {X : Cx} (ng : NoG X.A) (hu : X.A.units + 64 < cLine) : CallR X (.builtin "repr") (rRpr X.K) := by
  intro pins s σ H xs us Q I r h
  obtain ⟨x, p, rfl, d, sh, nd, dp, sz, q⟩ := h
  have size : p.shown.length ≤ sizeLine := Nat.le_trans sz (by decide)
  have un : X.A.units + (p.depth + 1) < cLine := Nat.lt_of_le_of_lt (Nat.add_le_add_left (Nat.le_trans (Nat.succ_le_succ dp) (by decide)) _) hu
  match us, r with
  | [u], .cons rx .nil =>
    have one : X.A.units + 1 < cLine := Nat.lt_of_le_of_lt (Nat.add_le_add_left (by decide) _) hu
    have deep : ∀ {a : Addr}, u = .ref a → wpAny (model X.prog X.w) X.A (call (.builtin "repr") [u]) (EP X pins σ Q) X.xe s := fun {a} e => by
      obtain ⟨as, rd⟩ := Dp.reads I p x u d rx
      rw [e] at rd ⊢
      exact repr_of_reads' rd sh (fun z => by rw [nd] at z; cases z) ng un (fun _ _ z => z) (fun h' uu tk k => ⟨.str p.shown, H, I.kept k, ⟨uu, rfl⟩, q⟩) size
    cases d with
    | non =>
      obtain rfl : u = Value.none := rx
      exact PySem.P.repr_of_none ⟨.str ("None" : Str), H, I.tok _, ⟨_, rfl⟩, by simpa only [PyData.shown] using q⟩
    | bl b =>
      obtain rfl : u = Value.bool b := rx
      exact PySem.P.repr_of_bool ⟨.str (if b = true then ("True" : Str) else "False"), H, I.tok _, ⟨_, rfl⟩, by simpa only [PyData.shown] using q⟩
    | int i =>
      obtain ⟨t, rfl⟩ := (show ∃ t, u = Value.int i t from rx)
      have sh' : decide (i.natAbs.log2 < 1920) = true := by simpa only [PyData.showable] using sh
      exact PySem.P.repr_of_int (of_decide_eq_true sh') ⟨.str (toString i : String), H, I.tok _, ⟨_, rfl⟩, by simpa only [PyData.shown] using q⟩
    | str z =>
      obtain ⟨t, rfl⟩ := (show ∃ t, u = Value.str z t from rx)
      exact PySem.P.repr_of_str ⟨.str (reprText z), H, I.tok _, ⟨_, rfl⟩, by simpa only [PyData.shown] using q⟩ (by simpa only [PyData.shown] using size)
    | lst _ _ => exact deep (show u = Value.ref _ from rx)
    | tup _ _ => exact deep (show u = Value.ref _ from rx)
mutual
theorem toP_nd : ∀ {d : D} {p : PyData}, toP d = some p → p.hasDict = false
  | .non, _, h => by cases h; simp only [PyData.hasDict]
  | .bl _, _, h => by cases h; simp only [PyData.hasDict]
  | .int _, _, h => by cases h; simp only [PyData.hasDict]
  | .str _, _, h => by cases h; simp only [PyData.hasDict]
  | .lst ds, p, h => by
    have h' : (toPs ds).map PyData.list = some p := h
    cases z : toPs ds with
    | none => rw [z] at h'; cases h'
    | some ps => rw [z] at h'; cases h'; simp only [PyData.hasDict]; exact toPs_nd z
  | .tup ds, p, h => by
    have h' : (toPs ds).map PyData.tuple = some p := h
    cases z : toPs ds with
    | none => rw [z] at h'; cases h'
    | some ps => rw [z] at h'; cases h'; simp only [PyData.hasDict]; exact toPs_nd z
  | .obj _ _ _, _, h => by cases h
  | .dk _ _, _, h => by cases h
  | .dt _ _, _, h => by cases h
  | .scr _, _, h => by cases h
  | .exc _ _ _, _, h => by cases h
theorem toPs_nd : ∀ {ds : List D} {ps : List PyData}, toPs ds = some ps → PyData.hasDictAll ps = false
  | [], _, h => by cases h; simp only [PyData.hasDictAll]
  | d :: ds, ps, h => by
    have h' : (match toP d, toPs ds with | some p, some ps => some (p :: ps) | _, _ => none) = some ps := h
    cases z1 : toP d with
    | none => rw [z1] at h'; cases h'
    | some p =>
      cases z2 : toPs ds with
      | none => rw [z1, z2] at h'; cases h'
      | some pr => rw [z1, z2] at h'; cases h'; simp only [PyData.hasDictAll, toP_nd z1, toPs_nd z2, Bool.or_self]
end
def repP (p : PyData) : Bool := p.showable && (decide (p.depth ≤ 20) && decide (p.shown.length ≤ 100000))
def repN : List D → Option Tv
  | [d] => match toP d with
    | some p => if repP p = true then some (.v (.str p.shown)) else none
    | none => none
  | _ => none
theorem p_repr {g : G} : PN g (rRpr g.K) repN := fun F H ds xs t Q fh h q k => by
  unfold repN at q
  split at q
  · rename_i d
    split at q
    · rename_i p e
      split at q
      · rename_i c
        cases q
        unfold repP at c
        simp only [Bool.and_eq_true, decide_eq_true_eq] at c
        match xs, h with
        | [x], h => exact ⟨x, p, rfl, vw_dp fh h.1 e, c.1, toP_nd e, c.2.1, c.2.2, k _ F H (Gr.refl fh) (rfl : V.str _ = .str _)⟩
      · cases q
    · cases q
  · cases q
/-! ### isinstance of a built-in type -/
def tyN : D → Option String
  | .non => some "NoneType"
  | .bl _ => some "bool"
  | .int _ => some "int"
  | .str _ => some "str"
  | .lst _ => some "list"
  | .tup _ => some "tuple"
  | .dk _ _ => some "dict"
  | _ => none
def isTab (a b : String) : Bool := a == b || (a == "bool" && b == "int")
def tyNs : List String := ["NoneType", "bool", "int", "str", "list", "tuple", "dict"]
theorem isTab_ok : ∀ a ∈ tyNs, ∀ b ∈ tyNs, kitB a b = some (isTab a b) := by decide +kernel
theorem tyN_mem {d : D} {n : String} (h : tyN d = some n) : n ∈ tyNs := by
  unfold tyN at h
  split at h <;> first | (cases h; decide) | cases h
theorem tyN_X {g : G} {F H : Hp} {d : D} {x : V} {n : String} (fh : Ex F H) (h : Vw g F H d x) (e : tyN d = some n) : TyX g.K H x (.type n) := by
  unfold tyN at e
  split at e <;> first | cases e | skip
  · rw [vw_non h]; exact .base .non
  · rw [vw_bl h]; exact .base (.bl _)
  · rw [vw_int h]; exact .base (.int _)
  · rw [vw_str h]; exact .base (.str _)
  · obtain ⟨a, vs, rfl, ha, _⟩ := vw_lst fh h; exact .base (.lst ha)
  · obtain ⟨a, vs, rfl, ha, _⟩ := vw_tup fh h; exact .base (.tup ha)
  · rcases h with ⟨a, kvs, rfl, ha, _⟩ | ⟨p, o, w, rfl, hp, ct, z⟩
    · rcases ex_rd fh ha with ha | ⟨o, ha⟩
      · exact .base (.dK ha)
      · exact .fDict ha
    · cases w with
      | K es =>
        cases o with
        | dK _ => exact .base (.dK hp)
        | _ => exact ct.elim
      | L _ => cases z
      | T _ => cases z

def rIs (K : PySem.W.Frag) (T : String) : V → Hp → VK → Prop := fun x H Q => rIsi K [x, .ty T] H Q
def isN1 (T : String) : D → Option Tv := fun d => match tyN d with
  | some n => if tyNs.contains T = true then some (.v (.bl (isTab n T))) else none
  | none => none
theorem p_is {g : G} {T : String} : P1 g (rIs g.K T) (isN1 T) := fun F H d x t Q fh h q k => by
  unfold isN1 at q
  split at q
  · rename_i n e
    split at q
    · rename_i c
      cases q
      exact ⟨x, .ty T, .type n, .type T, _, rfl, .ty T, tyN_X fh h e, kit_ty (isTab_ok n (tyN_mem e) T (List.contains_iff_mem.mp c)), k _ F H (Gr.refl fh) (rfl : V.bl _ = .bl _)⟩
    · cases q
  · cases q
/-- isinstance(e, T) -/
theorem yis {X : Cx} {g : G} {W : WX} {e : Expr} {te : TE} {m : EM} {T : String} {x : Str} {p p2 pos : Pos} (hK : X.K = g.K) (hm : X.mg "isinstance" = none) (hT : X.mg x = none) (h : YE X g W e te m) (hvT : bootBuiltins x = some (.type T) := by decide +kernel) (hgT : Gl X x := by rfl)
    (hg : Gl X "isinstance" := by rfl) (hn : x ≠ "__name__" := by decide) (hd : (x == ("__debug__" : Str)) = false := by decide)
    (he : starEach [e, .Name x p2] X.env = (false, eval e X.env) :: starEach [.Name x p2] X.env := by rfl) (he2 : starEach [.Name x p2] X.env = (false, eval (.Name x p2) X.env) :: starEach [] X.env := by rfl) (hpl : (backTo pos (starEach [.Name x p2] X.env)).any (·.1) = false := by rfl) :
    YE X g W (.Call (.Name "isinstance" p) [e, .Name x p2] [] pos) (tUn (rIs X.K T) te) (unM (isN1 T) m) := by
  refine ⟨?_, by rw [hK]; exact se_un p_is h.s⟩
  have hv : bootBuiltins "isinstance" = some (.builtin "isinstance") := by decide +kernel
  have A : PA X [e, .Name x p2] (tCons te (tCons (tC (.ty T)) tNil)) := pa_cons h.p (pa_cons (pe_bltn hgT hT hvT (v := .ty T) rfl hn hd) pa_nil he2) he
  have B := pe_callB (p := p) (pos := pos) (call_isi (X := X)) hg hm hv A (by decide) (by decide) he hpl
  exact B
end PL
namespace PL
open PySem PySem.Spec PyProof.Rows L2
/-! ### for k in d: the dict is locked through the loop, then it stays as it is -/
theorem for_turns {g : G} {W : WX} {tg : TG} {tb : TS} {gm : GM} {mb : SM} (hg : SG g tg gm) (hb : SS g W tb mb) {c : Cb} {σ1 : L2.St} {e1 : En} {F1 H1 : Hp} {De : Ends} {ds : List D} {J : It} (R1 : Rel g c σ1 e1 F1 H1) (IT : Iter g F1 J ds)
    (P' : PostS g c W F1 De (loopM gm mb ds e1)) : tFor (fun _ H R => R J H) tg tb De σ1 H1 := by
  refine ⟨fun i m σ H => m = ds.length - i ∧ i ≤ ds.length ∧ ∃ e F2, Ex F1 F2 ∧ Rel g c σ e F2 H ∧ PostS g c W F2 De (loopM gm mb (ds.drop i) e), ⟨_, rfl, Nat.zero_le _, e1, F1, Ex.refl _, R1, P'⟩, ?_⟩
  rintro i m σ2 H2 ⟨rfl, hi, e, F2, x2, R2, P2⟩
  obtain ⟨T1, T2⟩ := IT i F2 H2 x2 R2.fh
  by_cases hlt : i < ds.length
  · refine .inr ?_
    have hd : ds[i]? = some ds[i] := by simp [hlt]
    rw [List.drop_eq_getElem_cons hlt] at P2
    obtain ⟨go, yl⟩ := T1 _ hd
    refine ⟨go, fun σ H => ∃ e F2, Ex F1 F2 ∧ Rel g c σ e F2 H ∧ PostS g c W F2 De (loopM gm mb (ds.drop (i + 1)) e), fun σ' H' ⟨e', F', x', R', P'⟩ => ⟨ds.length - (i + 1), by omega, rfl, hlt, e', F', x', R', P'⟩, fun x H3 y => ?_⟩
    obtain ⟨F3, gr, rp⟩ := yl x H3 y
    unfold loopM at P2
    cases q1 : gm ds[i] e with
    | none => rw [q1] at P2; exact P2.elim
    | some e3 =>
      rw [q1] at P2
      refine hg c σ2 e F3 H3 x ds[i] e3 _ (R2.grow gr) rp q1 fun σ4 F4 H4 R4 x4 => ?_
      refine hb c σ4 e3 F4 H4 _ R4 ?_
      have x24 := gr.ff.trans x4
      have P3 : PostS g c W F2 De (match mb e3 with | .nx e2 => loopM gm mb (ds.drop (i + 1)) e2 | .ct e2 => loopM gm mb (ds.drop (i + 1)) e2 | .bk e2 => .nx e2 | r => r) := P2
      cases q2 : mb e3 with
      | nx e4 =>
        rw [q2] at P3
        exact fun σ' F' H' R' x' => ⟨e4, F', x2.trans (x24.trans x'), R', PostS.from (x24.trans x') P3⟩
      | ct e4 =>
        rw [q2] at P3
        exact fun σ' F' H' R' x' => ⟨e4, F', x2.trans (x24.trans x'), R', PostS.from (x24.trans x') P3⟩
      | bk e4 =>
        rw [q2] at P3
        exact fun σ' F' H' R' x' => P3 σ' F' H' R' (x24.trans x')
      | rt t e4 => rw [q2] at P3; exact P3
      | ex cl fs e4 => rw [q2] at P3; exact P3
      | st => rw [q2] at P3; exact P3
  · have e0 : i = ds.length := by omega
    refine .inl ⟨T2 e0, ?_⟩
    rw [e0, List.drop_length] at P2
    exact P2 σ2 F2 H2 R2 (Ex.refl _)
/-! ### a lock is taken off -/
/-- all stays, but that locks may go -/
def Xl (F F2 : Hp) : Prop := ∀ a o, F a = some o → F2 a = some o ∨ ∃ od kvs, o = .frz od (.dK kvs) ∧ F2 a = some (.dK kvs)
section
variable {g : G} {F F2 : Hp}
theorem Xl.stay (x : Xl F F2) {a : Addr} {o : HO} (h : F a = some o) (n : ∀ od kvs, o ≠ .frz od (.dK kvs)) : F2 a = some o := (x a o h).elim id fun ⟨od, kvs, e, _⟩ => absurd e (n od kvs)
theorem Xl.rd (x : Xl F F2) {a : Addr} {kvs : List (Key × V)} (h : Rd F a (.dK kvs)) : Rd F2 a (.dK kvs) := by
  rcases h with h | ⟨o, h⟩
  · exact .inl (x.stay h (fun _ _ z => by cases z))
  · rcases x a _ h with h | ⟨od, kv2, e, h⟩
    · exact .inr ⟨o, h⟩
    · cases e; exact .inl h
theorem Xl.rdT (x : Xl F F2) {a : Addr} {kvs : List (List Key × V)} (h : Rd F a (.dT kvs)) : Rd F2 a (.dT kvs) := by
  rcases h with h | ⟨o, h⟩
  · exact .inl (x.stay h (fun _ _ z => by cases z))
  · exact .inr ⟨o, x.stay h (fun _ _ z => by cases z)⟩
theorem Xl.sq {K : PySem.W.Frag} (x : Xl F F2) {a : Addr} {vs : List V} (h : SqL K F a vs) : SqL K F2 a vs := by
  rcases h with (h | ⟨o, h⟩) | h
  · exact .inl (.inl (x.stay h (fun _ _ z => by cases z)))
  · exact .inl (.inr ⟨o, x.stay h (fun _ _ z => by cases z)⟩)
  · exact .inr h
mutual
theorem Rep.unl (x : Xl F F2) : ∀ (d : D) {v : V}, Rep g F d v → Rep g F2 d v
  | .non, _, h => h
  | .bl _, _, h => h
  | .int _, _, h => h
  | .str _, _, h => h
  | .lst ds, _, ⟨a, vs, r, s, q⟩ => ⟨a, vs, r, x.stay s (fun _ _ z => by cases z), Reps.unl x ds q⟩
  | .tup ds, _, ⟨a, vs, r, s, q⟩ => ⟨a, vs, r, x.stay s (fun _ _ z => by cases z), Reps.unl x ds q⟩
  | .obj c ns ds, _, ⟨a, dx, fs, r, s, t, q⟩ => ⟨a, dx, fs, r, x.stay s (fun _ _ z => by cases z), t, Reps.unl x ds q⟩
  | .dk ks ds, _, ⟨a, kvs, r, s, t, q⟩ => ⟨a, kvs, r, x.rd s, t, Reps.unl x ds q⟩
  | .dt ks ds, _, ⟨a, kvs, r, s, t, q⟩ => ⟨a, kvs, r, x.rdT s, t, Reps.unl x ds q⟩
  | .scr ns, _, ⟨a, r, s⟩ => ⟨a, r, x.sq s⟩
  | .exc c ns ds, _, ⟨a, d, fs, r, s, t, u, q⟩ => ⟨a, d, fs, r, s, x.stay t (fun _ _ z => by cases z), u, Reps.unl x ds q⟩
theorem Reps.unl (x : Xl F F2) : ∀ (ds : List D) {vs : List V}, Reps g F ds vs → Reps g F2 ds vs
  | [], _, h => h
  | d :: ds, _, ⟨v, vr, r, s, q⟩ => ⟨v, vr, r, Rep.unl x d s, Reps.unl x ds q⟩
end
theorem Cont.unl (x : Xl F F2) {o : HO} {w : Ow} (h : Cont g F o w) : Cont g F2 o w := by
  cases o <;> cases w <;> first | exact False.elim h | exact Reps.unl x _ h | exact ⟨h.1, Reps.unl x _ h.2⟩
theorem Rel.unlock {c : Cb} {σ : L2.St} {env : En} {H : Hp} {p : Addr} {od : Obj} {kvs : List (Key × V)} (R : Rel g c σ env F H) (hF : F p = some (.frz od (.dK kvs))) (f0 : c.F0 p = none) (h0 : c.H0 p = none) :
    Rel g c σ env (upd F p (.dK kvs)) (upd H p (.dK kvs)) ∧ Xl F (upd F p (.dK kvs)) := by
  have x : Xl F (upd F p (.dK kvs)) := fun a o e => by
    by_cases h : a = p
    · subst h
      rw [hF] at e; cases e
      exact .inr ⟨od, kvs, rfl, upd_same⟩
    · exact .inl (by rw [upd_ne h]; exact e)
  have ne : ∀ {q : Addr}, F q = none → q ≠ p := fun {q} e z => by rw [z, hF] at e; cases e
  refine ⟨⟨⟨fun a o e => ?_, fun a o e => ?_, fun a o e b => ?_, fun a o e => ?_, fun a o e => ?_⟩, R.len, fun i d e => ?_, fun i w e => ?_, fun i w e => ?_, R.inj⟩, x⟩
  · by_cases h : a = p
    · subst h; rw [upd_same] at e ⊢; exact e
    · rw [upd_ne h] at e ⊢; exact R.fh _ _ e
  · have h : a ≠ p := fun z => by rw [z, f0] at e; cases e
    rw [upd_ne h]; exact R.f0 _ _ e
  · have h : a ≠ p := fun z => by rw [z, h0] at e; cases e
    rw [upd_ne h]; exact R.h0 _ _ e b
  · have h : a ≠ p := fun z => by rw [z, h0] at e; cases e
    obtain ⟨o', e'⟩ := R.dm _ _ e
    exact ⟨o', by rw [upd_ne h]; exact e'⟩
  · by_cases h : a = p
    · subst h; exact .inr h0
    · rw [upd_ne h] at e; exact R.nw _ _ e
  · obtain ⟨u, h1, h2⟩ := R.dat i d e
    exact ⟨u, h1, Rep.unl x d h2⟩
  · obtain ⟨q, o, h1, h2, h3, h4, h5⟩ := R.own i w e
    exact ⟨q, o, h1, by rw [upd_ne (ne h2)]; exact h2, h3, by rw [upd_ne (ne h2)]; exact h4, h5.unl x⟩
  · obtain ⟨q, o, h1, h2, h3, h4, h5⟩ := R.brf i w e
    exact ⟨q, o, h1, by rw [upd_ne (ne h2)]; exact h2, h3, by rw [upd_ne (ne h2)]; exact h4, h5.unl x⟩
end
def keyD : Key → D
  | .inl i => .int i
  | .inr z => .str z
theorem keyD_rep {g : G} {F : Hp} {k : Key} : Rep g F (keyD k) (kV k) := by cases k <;> rfl
def lockM (i : Nat) (gm : GM) (body : SM) : SM := fun env => match env[i]? with
  | some (.o (.K es)) => (match loopM gm body (es.map fun e => keyD e.1) (env.set i (.d (.dk (es.map (·.1)) (es.map (·.2))))) with
    | .rt _ _ => .st
    | r => r)
  | _ => .st
theorem ss_lock {g : G} {W : WX} {i : Nat} {tg : TG} {tb : TS} {gm : GM} {mb : SM} (hg : SG g tg gm) (hb : SS g W tb mb) : SS g W (tLock (tFor (iKeys (tVar i)) tg tb)) (lockM i gm mb) := fun c σ env F H D R P => by
  unfold lockM at P
  split at P
  · rename_i es qe
    have P : PostS g c W F D (match loopM gm mb (es.map fun e => keyD e.1) (env.set i (.d (.dk (es.map (·.1)) (es.map (·.2))))) with | .rt _ _ => .st | r => r) := P
    obtain ⟨p, o, ai, fp, hp0, hp, ct⟩ := R.own i _ qe
    obtain ⟨kvs, rfl, k1, k2⟩ := cont_K ct
    have il : i < env.length := (List.getElem?_eq_some_iff.mp qe).1
    have oi : owns env i := ⟨_, qe, rfl⟩
    have f0 : c.F0 p = none := by
      cases q : c.F0 p with
      | none => rfl
      | some u => rw [R.f0 _ _ q] at fp; cases fp
    refine ⟨p, .dK kvs, hp, trivial, fun od => ?_⟩
    have xF : Ex F (upd F p (.frz od (.dK kvs))) := Ex.new fp
    have R1 : Rel g c σ (env.set i (.d (.dk (es.map (·.1)) (es.map (·.2))))) (upd F p (.frz od (.dK kvs))) (upd H p (.frz od (.dK kvs))) := by
      refine ⟨⟨fun a u e => ?_, R.f0.trans xF, fun a u e b => ?_, fun a u e => ?_, fun a u e => ?_⟩, by rw [List.length_set]; exact R.len, fun j d e => ?_, fun j w e => ?_, fun j w e => ?_, fun j k r h1 h2 => R.inj j k r (owns_set_d h1).1 (owns_set_d h2).1⟩
      · by_cases h : a = p
        · subst h; rw [upd_same] at e ⊢; exact e
        · rw [upd_ne h] at e ⊢; exact R.fh _ _ e
      · have h : a ≠ p := fun z => by rw [z, hp0] at e; cases e
        rw [upd_ne h]; exact R.h0 _ _ e b
      · have h : a ≠ p := fun z => by rw [z, hp0] at e; cases e
        obtain ⟨o', e'⟩ := R.dm _ _ e
        exact ⟨o', by rw [upd_ne h]; exact e'⟩
      · by_cases h : a = p
        · subst h; exact .inr hp0
        · rw [upd_ne h] at e; exact R.nw _ _ e
      · by_cases hj : i = j
        · subst hj
          rw [List.getElem?_set_self il] at e; cases e
          exact ⟨.ref p, ai, p, kvs, rfl, .inr ⟨od, upd_same⟩, k1, Reps.mono xF _ k2⟩
        · rw [List.getElem?_set_ne hj] at e
          obtain ⟨u, h1, h2⟩ := R.dat j d e
          exact ⟨u, h1, Rep.mono xF _ h2⟩
      · obtain ⟨oj, nj⟩ := owns_set_d (⟨_, e, rfl⟩ : owns _ j)
        rw [List.getElem?_set_ne (Ne.symm nj)] at e
        obtain ⟨q, o, h1, h2, h3, h4, h5⟩ := R.own j w e
        have ne : q ≠ p := fun z => nj (R.inj j i p oj oi (z ▸ h1) ai)
        exact ⟨q, o, h1, by rw [upd_ne ne]; exact h2, h3, by rw [upd_ne ne]; exact h4, h5.mono xF⟩
      · obtain ⟨oj, nj⟩ := owns_set_d (⟨_, e, rfl⟩ : owns _ j)
        rw [List.getElem?_set_ne (Ne.symm nj)] at e
        obtain ⟨q, o, h1, h2, h3, h4, h5⟩ := R.brf j w e
        have ne : q ≠ p := fun z => nj (R.inj j i p oj oi (z ▸ h1) ai)
        exact ⟨q, o, h1, by rw [upd_ne ne]; exact h2, h3, by rw [upd_ne ne]; exact h4, h5.mono xF⟩
    have lenE : kvs.length = (es.map fun e => keyD e.1).length := by rw [List.length_map]; exact keys_len k1
    have IT : Iter g (upd F p (.frz od (.dK kvs))) (Itk p od kvs) (es.map fun e => keyD e.1) := fun j F2 H2 x1 x2 => by
      have at2 : H2 p = some (.frz od (.dK kvs)) := x2 _ _ (x1 _ _ upd_same)
      refine ⟨fun d e => ?_, fun e => ⟨at2, by rw [e, lenE]; exact Nat.le_refl _⟩⟩
      have hj : j < kvs.length := by rw [lenE]; exact (List.getElem?_eq_some_iff.mp e).1
      refine ⟨⟨at2, hj⟩, fun x H3 y => ?_⟩
      obtain ⟨rfl, k, v, hk, rfl⟩ := y
      have e1 : (kvs.map (·.1))[j]? = some k := by rw [List.getElem?_map, hk]; rfl
      rw [k1, List.getElem?_map] at e1
      have ed : d = keyD k := by
        rw [List.getElem?_map] at e
        cases q : es[j]? with
        | none => rw [q] at e1; cases e1
        | some z =>
          rw [q] at e e1
          have a1 : z.1 = k := Option.some.inj e1
          have a2 : keyD z.1 = d := Option.some.inj e
          rw [← a2, a1]
      rw [ed]
      exact ⟨F2, Gr.refl x2, keyD_rep⟩
    refine ⟨.ref p, ai, p, od, rfl, .inl ⟨kvs, upd_same, ?_⟩⟩
    refine for_turns (W := W) hg hb R1 IT ?_
    have un : ∀ {σ' : L2.St} {env' : En} {F' H' : Hp}, Rel g c σ' env' F' H' → Ex (upd F p (.frz od (.dK kvs))) F' → H' p = some (.frz od (.dK kvs)) ∧ Rel g c σ' env' (upd F' p (.dK kvs)) (upd H' p (.dK kvs)) ∧ Xl F' (upd F' p (.dK kvs)) ∧ Ex F (upd F' p (.dK kvs)) := fun {σ' env' F' H'} R' x' => by
      have hF := x' _ _ (upd_same (H := F) (a := p) (o := .frz od (.dK kvs)))
      obtain ⟨r1, r2⟩ := R'.unlock hF f0 hp0
      refine ⟨R'.fh _ _ hF, r1, r2, fun a o e => ?_⟩
      have h : a ≠ p := fun z => by rw [z, fp] at e; cases e
      rw [upd_ne h]
      exact x' _ _ (by rw [upd_ne h]; exact e)
    cases q : loopM gm mb (es.map fun e => keyD e.1) (env.set i (.d (.dk (es.map (·.1)) (es.map (·.2))))) with
    | nx e' =>
      rw [q] at P
      exact fun σ' F' H' R' x' => let ⟨a, b, _, d⟩ := un R' x'; ⟨a, P σ' _ _ b d⟩
    | bk e' =>
      rw [q] at P
      exact fun σ' F' H' R' x' => let ⟨a, b, _, d⟩ := un R' x'; ⟨a, P σ' _ _ b d⟩
    | ct e' =>
      rw [q] at P
      exact fun σ' F' H' R' x' => let ⟨a, b, _, d⟩ := un R' x'; ⟨a, P σ' _ _ b d⟩
    | rt t e' => rw [q] at P; exact P.elim
    | ex cl fs e' => rw [q] at P; exact P
    | st => rw [q] at P; exact P.elim
  · exact P.elim
section
variable {X : Cx} {g : G} {W : WX} {tg : Expr} {tG : TG} {t : TS} {gm : GM} {s1 : SM} {body : List Stmt} {pos : Pos}
theorem zlock (i : Nat) {x : Str} {px : Pos} (hc : X.calm = true) (hp : PassesOwn (model X.prog X.w) X.A X.env X.xe) (h2 : YG X g tg tG gm) (h3 : YSs X g W body t s1) (hN : X.N[i]? = some x := by rfl) (hv : Vis X.env.scope x := by first | exact Or.inl rfl | exact Or.inr (Or.inl rfl) | exact Or.inr (Or.inr rfl))
    (hd : (x == ("__debug__" : Str)) = false := by decide) (hcd : (x == ("__classdict__" : Str)) = false := by decide) (hs : ∀ y, foldedSetIterable (.Name x px) X.env y = pure y := by intro _; rfl) :
    YS X g W (.For tg (.Name x px) body [] pos) (tLock (tFor (iKeys (tVar i)) tG t)) (lockM i gm s1) := ⟨ps_lock (ps_for hp hc (pi_keys (pe_var hN hv hd hcd)) h2.p h3.p hs), ss_lock h2.s h3.s⟩
end
end PL
namespace PL
open PySem PySem.Spec PyProof.Rows L2
/-! ### B.__init__(self, ..), B an own exception class without an __init__ of its own -/
section
variable {X : Cx} {e : Expr} {es : List Expr} {ta : TA} {p1 p2 pos : Pos}
theorem pe_ownInit {B : Addr} {mc : Value} {x : Str} {pl : Sem Bool} (hg : Gl X x) (hm : X.mg x = some (.ref B)) (rd : ClX.CRead X.K B mc) (fi : PySem.W.findCls X.K (.ref B) mc "__init__" = some (.val (.builtin "ValueError.__init__"))) (ha : PA X (e :: es) ta)
    (hdb : (x == ("__debug__" : Str)) = false := by decide)
    (form : eval (.Call (.Attribute (.Name x p1) "__init__" p2) (e :: es) [] pos) X.env = (do
      let o ← eval (.Name x p1) X.env
      standAt p2.atName
      let (fn, fst) ← holding [o] (getMethod o "__init__" pl)
      callWith pos fn fst (backTo pos (starEach (e :: es) X.env)) (backToKw pos (keywordEach [] X.env))) := by rfl)
    (st : starEach (e :: es) X.env = (false, eval e X.env) :: starEach es X.env := by rfl) (pn : (backTo pos (starEach es X.env)).any (·.1) = false := by rfl) :
    PE X (.Call (.Attribute (.Name x p1) "__init__" p2) (e :: es) [] pos) (tVeI X.K ta) := by
  refine ⟨fun pins s σ H Q I pre => PySem.W.methodCall_KW (ld_glob I hg hm ?_ hdb) form⟩
  refine PySem.W.method_cls I.kIn rd.ga (PySem.W.cls_value I.kIn rd.rd fi (by decide +kernel) ?_)
  show wpAny _ _ (callWith pos (Value.builtin "ValueError.__init__") [] (backTo pos (starEach (e :: es) X.env)) []) _ _ _
  refine PyProof.Rows.callWith_method1 (thn (ha.run pos pins _ σ H _ (I.tok _) pre) fun us s1 hh => ?_) st pn
  obtain ⟨vs, H1, I1, rel, a, C, ws, rfl, len, cls, at_, q⟩ := hh
  match us, rel with
  | u :: ur, .cons ru rest =>
    obtain rfl : u = Value.ref a := ru
    exact oinit_ok cls I1 at_ (Nat.le_trans (Nat.le_of_eq (Paired.length rest).symm) (Nat.le_trans len (by decide))) fun s2 J => ⟨.non, H1, J, rfl, q⟩
end
/-- what an __init__ of the form «base's __init__(self, text); self.f = value» promises -/
def spIni (K : PySem.W.Frag) (f : Str) : Sp := fun vs H Q _ => ∃ (a C : Addr) (v : V), vs = [.ref a, v] ∧ OexC K C ∧ PySem.W.findIn K (.ref C) f = some none ∧ H a = some (exo a C none) ∧
  ∀ dx, H dx = none → dx ≠ a → Q .non (upd (upd H dx (exd dx [(f, v)])) a (exo a C (some dx)))
def tIni (K : PySem.W.Frag) (f tx : Str) : TS := tSeq (tDrop (tVeI K (tCons (tVar 0) (tCons (tC (.str tx)) tNil)))) (tOst K f (tVar 0) (tVar 1))
theorem ini_ok {P : Program} {w : World} {K : PySem.W.Frag} {mg : Str → Option Value} {base : Heap} {nm qn sf vn f tx : Str} {par : Arguments} {body : List Stmt} {sco : Scope} {fa : Addr} {fd : FuncData}
    (F : FunD K nm qn par body sco [] [] fa fd) (S : FnScope [sf, vn] [sf, vn] sco) (hb : ∀ (cdv : Value) (A : Around) (fr : List Env) (s : Shared) (H : Hp) (E : XK), PSs (cxOf (L2.CX P w) P w K mg base [sf, vn] qn sco fa cdv A fr s H E) body (tIni K f tx)) :
    FnOk P w K mg base (L2.CX P w) 1 fa fd [sf, vn] (spIni K f) := by
  refine F.ok S (fun vs H Q E h => ?_) (fun cdv A outer s H vs Q E hr h => ⟨tIni K f tx, hb cdv A outer s H E, ?_⟩)
  · obtain ⟨a, C, v, rfl, _⟩ := h; rfl
  · obtain ⟨a, C, v, rfl, T, no, ha, q⟩ := h
    refine ⟨V.ref a, rfl, a, C, [V.str tx], rfl, (by show 1 ≤ 1000; decide), T, ha, ?_⟩
    exact ⟨v, rfl, V.ref a, rfl, a, C, rfl, T, no, .inl ⟨ha, fun dx n ne => q dx n ne⟩⟩
/-! ### raise C(e) -/
def raiseM (c : Nat) (f : Str) (mf : FM) : SM := fun env => (mf env).toS fun ds e => match ds with
  | [d] => .ex c [(f, d)] e
  | _ => .st
def tRaise (W : WX) (t : L2.St → Hp → XK → Prop) : TS := fun _ σ H => t σ H fun cls d H' => W cls d σ H'
theorem ss_raise {g : G} {W : WX} {C : Addr} {c : Nat} {f : Str} {ta : TA} {mf : FM} (hc : g.cls c = C) (T : OexC g.K C) (no : PySem.W.findIn g.K (.ref C) f = some none) (h : SF g W ta mf) : SS g W (tRaise W (tMkO C (spIni g.K f) [] ta)) (raiseM c f mf) := fun cb σ env F H D R P => by
  refine h cb σ env F H _ R ?_
  unfold raiseM at P
  cases q : mf env with
  | st => rw [q] at P; exact P
  | ex cl fs e1 => rw [q] at P; exact P σ
  | ok ds e1 =>
    rw [q] at P
    have P' : PostS g cb W F D (match (generalizing := false) ds with | [d] => .ex c [(f, d)] e1 | _ => .st) := P
    intro vs F1 H1 R1 s1 k1
    split at P'
    · rename_i d
      obtain ⟨v, vr, rfl, rv, rfl⟩ := k1
      have P2 : ∀ σ', PostX g cb W σ' c [(f, d)] e1 := P'
      refine ⟨(by show 1 ≤ 1000; decide), fun a na => ⟨a, C, v, rfl, T, no, upd_same, fun dx nd ne => ⟨rfl, dx, [(f, v)], upd_same, by rw [upd_ne ne]; exact upd_same, by rw [upd_ne ne] at nd; exact nd, ?_⟩⟩⟩
      have nd1 : H1 dx = none := by rw [upd_ne ne] at nd; exact nd
      have eq : upd (del (upd (upd (upd H1 a (exo a C none)) dx (exd dx [(f, v)])) a (exo a C (some dx))) a) dx (.xd [(f, v)]) = upd H1 dx (.xd [(f, v)]) := by
        funext b
        by_cases hb : b = dx
        · subst hb; rw [upd_same, upd_same]
        · rw [upd_ne hb, upd_ne hb]
          by_cases hb2 : b = a
          · subst hb2; rw [del_same, na]
          · rw [del_ne hb2, upd_ne hb2, upd_ne hb, upd_ne hb2]
      rw [eq, ← hc]
      refine P2 σ dx F1 _ (R1.grow (Gr.tmp R1.fh nd1)) ⟨R1.toLv.hnone nd1, [(f, v)], upd_same, rfl, v, [], rfl, rv, rfl⟩
    · exact P'.elim
section
variable {X : Cx} {g : G} {W : WX} {e : Expr} {es : List Expr} {ta : TA} {mf : FM} {pos p p2 : Pos} {k j : Nat} {x : Str} {C fI : Addr} {fd : FuncData} {ps : List Str} {f : Str}
/-- what is known of a class whose instances are raised -/
structure Rc (P : Program) (w : World) (K : PySem.W.Frag) (mg : Str → Option Value) (base : Heap) (g : G) (x f : Str) (c : Nat) (C : Addr) : Prop where
  ex : ∃ (fI : Addr) (fd : FuncData) (ps : List Str), OexC K C ∧ PySem.W.findIn K (.ref C) "__init__" = some (some (.ref fI)) ∧ PySem.W.typeIn K (.ref fI) = some (.type "function") ∧ FnOk P w K mg base (L2.CX P w) 1 fI fd ps (spIni K f) ∧ Binds K fd ps []
  mgC : mg x = some (.ref C)
  no : PySem.W.findIn K (.ref C) f = some none
  cls : g.cls c = C
theorem zraise (o : Pl X W j) (hc : X.calm = true) (hK : X.K = g.K) {c : Nat} (r : Rc X.prog X.w X.K X.mg X.base g x f c C) (ha : YF X g W (e :: es) ta mf) (hk : 2 ≤ j := by decide) (hg : Gl X x := by rfl) (hdb : (x == ("__debug__" : Str)) = false := by decide)
    (he : starEach (e :: es) X.env = (false, eval e X.env) :: starEach es X.env := by rfl) (hpl : (backTo p2 (starEach es X.env)).any (·.1) = false := by rfl) :
    YS X g W (.Raise (some (.Call (.Name x p) (e :: es) [] p2)) none pos) (tRaise W (tMkO C (spIni X.K f) [] ta)) (raiseM c f mf) := by
  obtain ⟨fI, fd, ps, T, h1, h2, F, b⟩ := r.ex
  exact ⟨ps_raise hc o.tk (pmk_oex T h1 h2 F (o.rm.mono hk) b .nil passL hg r.mgC ha.p hdb he hpl), by
    have T' := T
    have no' := r.no
    rw [hK] at T' no' ⊢
    exact ss_raise r.cls T' no' ha.s⟩
end
end PL
namespace PL
open PySem PySem.Spec PyProof.Rows L2
/-! ### try with several clauses, each with or without a name -/
/-- one clause: the class, the name's slot, the suite's reading -/
abbrev Cl : Type := Value × Option Nat × (Addr → Value → Option Addr → TS)
/-- behind a suite its name goes -/
def gone (D : Ends) (i : Nat) : Ends := ⟨fun σ H => D.nx (σ.set i none) H, D.rt, fun σ H => D.bk (σ.set i none) H, fun σ H => D.ct (σ.set i none) H⟩
def wCl (K : PySem.W.Frag) (out : WX) (D : Ends) : List Cl → WX
  | [] => out
  | (c, o, t) :: l => fun cls d σ H => ∃ b, PySem.W.exmOne K cls c = some b ∧
      (b = true → ∀ a, H a = none → match o with
        | none => t a cls d D σ H
        | some i => t a cls d (gone D i) (σ.set i (some (.ref a))) H) ∧ (b = false → wCl K out D l cls d σ H)
/-- a suite -/
abbrev SuiteOk (X : Cx) (body : List Stmt) (t : Addr → Value → Option Addr → TS) : Prop := ∀ (a : Addr) (oe : Obj) (cls : Value) (d : Option Addr) (pn : List (Addr × Obj)), Zc cls d oe → (∃ vs, oe.data = .fields vs) → PSs (X.suite a ((a, oe) :: pn)) body (t a cls d)
inductive Cls' (X : Cx) : List ExceptHandler → List Cl → Prop
  | nil : Cls' X [] []
  | bare {x : Str} {c : Value} {t : Addr → Value → Option Addr → TS} {b : Stmt} {bs : List Stmt} {np p : Pos} {hs : List ExceptHandler} {l : List Cl} (nm : Names X x c) (su : SuiteOk X (b :: bs) t) (r : Cls' X hs l) :
      Cls' X (.ExceptHandler (some (.Name x np)) none (b :: bs) p :: hs) ((c, none, t) :: l)
  | as {x n : Str} {i : Nat} {c : Value} {t : Addr → Value → Option Addr → TS} {b : Stmt} {bs : List Stmt} {np p : Pos} {hs : List ExceptHandler} {l : List Cl} (hi : X.N[i]? = some n) (hl : X.env.kindOf n = some .local) (nm : Names X x c) (su : SuiteOk X (b :: bs) t) (r : Cls' X hs l) :
      Cls' X (.ExceptHandler (some (.Name x np)) (some n) (b :: bs) p :: hs) ((c, some i, t) :: l)
section
variable {X : Cx} {body : List Stmt} {h0 : ExceptHandler} {hs : List ExceptHandler} {l : List Cl} {pos : Pos} {tb : WX → TS} {out : WX}
/-- where the clauses are looked at -/
theorem clauses {pins : List (Addr × Obj)} {σ : L2.St} {H : Hp} {D : Ends} {s1 sI : Shared} {a : Addr} {B h3 : Heap} {cls : Value} {d : Option Addr} (fr : X.env.frame = some X.env.locals) (st : X.stack = X.env :: X.outer) (nd : X.N.Nodup) (tk : Takes X out) (ok : X.Ok)
    (J : Inv X pins σ H sI) (nb : ∀ b o, sI.heap.get? b = some o → b ∉ frs X.stack → B.get? b = some o) (up : sI.heap.UpToSlots h3) (fl : HandSPX.FlyingZ B (X.env :: X.outer) a (Zc cls d) h3) (na : H a = none) (os : s1.os = sI.os) (ag : AllBare s1.gens) (nL : a ≠ X.env.locals) (nF : a ∉ X.fs)
    {hs : List ExceptHandler} {l : List Cl} (hh : Cls' X hs l) : wCl X.K out D l cls d σ H → wpAny (model X.prog X.w) X.A (handleBy (.ref a) X.env hs) (SP X pins D) X.xe { s1 with heap := h3 } := by
  obtain ⟨oe3, vs3, he3, hz3, hd3⟩ := fl.there
  have J3 : Inv X pins σ H { s1 with heap := h3 } := J.landed nb fl.1 up os ag
  have S3 := J3.suite he3 hd3 na nL nF
  -- the class that a clause names, and its answer
  have asked : ∀ {x : Str} {c : Value} {np : Pos} {b : Bool} {R : Bool → Shared → Prop}, Names X x c → PySem.W.exmOne X.K cls c = some b → (∀ {Q : Value → Shared → Prop} {E : Value → Shared → Prop}, Q c { s1 with heap := h3 } → wpAny (model X.prog X.w) (X.A.mark (some (.ref a))) (eval (.Name x np) X.env) Q E { s1 with heap := h3 }) := by
    intro x c np b R nm hb Q E q
    obtain ⟨hg, hdbg, hm | ⟨hm, hv, hnn⟩⟩ := nm
    · exact ld_glob (X := X.suite a ((a, oe3) :: (X.pn ++ pins))) S3 hg hm q hdbg
    · exact ld_blt (X := X.suite a ((a, oe3) :: (X.pn ++ pins))) S3 hg hm hv q hnn hdbg
  have tyL : PySem.W.Looks (model X.prog X.w) h3 (typeOf (.ref a)) cls := fun A Q E s k q => wpAny_typeOf_ref (k _ _ he3) (by rw [hz3.1]; exact q)
  induction hh with
  | nil =>
    intro w
    refine wpAny_handleBy_nil ?_
    obtain ⟨k1, k2, k3, oe, vs, T, oT, ts', he, hz, hd, h1, hr⟩ := id fl
    unfold PySem.passOn
    refine wpAny_bind (wpAny_field he hd h1 ?_)
    rw [if_neg (by simp : ¬ ((Value.ref T == Value.none) = true))]
    have off : wpAny (model X.prog X.w) X.A (setFlight (.ref a) X.env.frame) (fun _ s4 => wpAny (model X.prog X.w) X.A (throw (.ref a) : Sem Flow) (SP X pins D) X.xe s4) X.xe { s1 with heap := h3 } := by
      rw [fr]
      exact HandSPX.setFlight_upZ fl fun h4 held up4 => wpAny_throw (tk _ _ ⟨a, B, sI, pins, σ, H, cls, d, rfl, J, nb, up.trans up4, .inr (.inr (by rw [st]; exact held)), na, os, ag, w⟩)
    first
      | exact wpAny_bind (wpAny_pure (wpAny_bind off))
      | exact wpAny_bind off
  | bare nm su r ih =>
    rintro ⟨b, ans, yes, no⟩
    refine wpAny_handleBy_cons (codeAny_handlers_test ?_) (by intro q; cases q)
    refine asked (b := b) (R := fun _ _ => True) nm ans ((PySem.W.exm_one (M := model X.prog X.w) J3.kIn tyL ans).here ?_)
    match b, yes, no with
    | false, _, no => exact ih (no rfl)
    | true, yes, _ =>
      refine codeAny_handlers_suite ?_
      refine HandSPX.lands_againZ fl fun h4 fl4 up4 => ?_
      obtain ⟨oe4, vs4, he4, hz4, hd4⟩ := fl4.there
      have S4 := (J.landed (s' := { s1 with heap := h4 }) nb fl4.1 (up.trans up4) os ag).suite he4 hd4 na nL nF
      refine wpAny_mono ((su a oe4 cls d (X.pn ++ pins) hz4 ⟨_, hd4⟩).run [] _ _ H D S4 (yes rfl a na)) (fun f s6 z => ?_) (fun _ _ z => False.elim z)
      match f, z with
      | .next, ⟨σ6, H6, S6, q6⟩ => exact ⟨_, _, S6.unsuite ok, q6⟩
      | .brk, ⟨σ6, H6, S6, q6⟩ => exact ⟨_, _, S6.unsuite ok, q6⟩
      | .cont, ⟨σ6, H6, S6, q6⟩ => exact ⟨_, _, S6.unsuite ok, q6⟩
      | .ret u, ⟨v6, σ6, H6, S6, r6, q6⟩ => exact ⟨_, _, _, S6.unsuite ok, r6, q6⟩
  | @as x n i c t b0 bs np p hs' l' hi hl nm su r ih =>
    rintro ⟨b, ans, yes, no⟩
    refine wpAny_handleBy_cons (codeAny_handlers_test ?_) (by intro q; cases q)
    refine asked (b := b) (R := fun _ _ => True) nm ans ((PySem.W.exm_one (M := model X.prog X.w) J3.kIn tyL ans).here ?_)
    match b, yes, no with
    | false, _, no => exact ih (no rfl)
    | true, yes, _ =>
      refine codeAny_handlers_suite_as ?_
      refine HandSPX.lands_againZ fl fun h4 fl4 up4 => ?_
      obtain ⟨oe4, vs4, he4, hz4, hd4⟩ := fl4.there
      have S4 := (J.landed (s' := { s1 with heap := h4 }) nb fl4.1 (up.trans up4) os ag).suite he4 hd4 na nL nF
      refine store_ok (X := X.suite a ((a, oe4) :: (X.pn ++ pins))) (v := .ref a) S4 nd hi (.inl hl) rfl (fun s5 S5 => ?_) (.inr hl)
      refine wpAny_mono ((su a oe4 cls d (X.pn ++ pins) hz4 ⟨_, hd4⟩).run [] s5 _ H (gone D i) S5 (yes rfl a na)) (fun f s6 z => ?_) (fun _ _ z => False.elim z)
      have fin : ∀ {σ6 : L2.St} {H6 : Hp} {Q : Shared → Prop}, Inv (X.suite a ((a, oe4) :: (X.pn ++ pins))) [] σ6 H6 s6 → (∀ s7, Inv X pins (σ6.set i none) H6 s7 → Q s7) →
          wpAny (model X.prog X.w) X.A (do bindName X.env n .none; unbindBehindTheSuite X.env n p) (fun _ s7 => Q s7) X.xe s6 := fun {σ6 H6 Q} S6 hq => gone_ok (S6.unsuite ok) nd hi hl hq
      match f, z with
      | .next, ⟨σ6, H6, S6, q6⟩ => exact fin S6 fun s7 J7 => ⟨_, _, J7, q6⟩
      | .brk, ⟨σ6, H6, S6, q6⟩ => exact fin S6 fun s7 J7 => ⟨_, _, J7, q6⟩
      | .cont, ⟨σ6, H6, S6, q6⟩ => exact fin S6 fun s7 J7 => ⟨_, _, J7, q6⟩
      | .ret u, ⟨v6, σ6, H6, S6, r6, q6⟩ => exact fin S6 fun s7 J7 => ⟨_, _, _, J7, r6, q6⟩
theorem ps_tryAny (st : X.stack = X.env :: X.outer) (fr : X.env.frame = some X.env.locals) (nd : X.N.Nodup) (tk : Takes X out)
    (hb : ∀ (W : WX) (pn : List (Addr × Obj)) (xe : Value → Shared → Prop), Takes (X.tr pn xe) W → PassesOwn (model X.prog X.w) X.A X.env xe → PSs (X.tr pn xe) body (tb W))
    (hh : Cls' X (h0 :: hs) l) : PS X (.Try body (h0 :: hs) [] [] pos) (fun D σ H => tb (wCl X.K out D l) D σ H) := by
  refine ⟨fun pins s σ H D I pre => ?_⟩
  have ok := I.ok
  have frames : X.A.frames = some (X.env :: X.outer) := by rw [ok.frames, st]
  refine wpAny_Try_except ?_
  refine wpAny_mono ((hb (wCl X.K out D l) (X.pn ++ pins) (fun e s1 => wpAny (model X.prog X.w) X.A (noteFrame e X.env) (fun _ s2 => wpAny (model X.prog X.w) X.A (setFlight e none) (fun _ s3 =>
    wpAny (model X.prog X.w) X.A (handleBy e X.env (h0 :: hs)) (SP X pins D) X.xe s3) X.xe s2) X.xe s1) (fun u s1 air => ?_) PassesOwn.looking).run [] s σ H D (I.toTry _) pre) (fun f s1 z => ?_) (fun _ _ z => z)
  · obtain ⟨a, B, sI, pins', σ', H', cls, d, rfl, J', nb, up, sky, na, os, ag, w⟩ := air
    have J : Inv X pins σ' H' sI := J'.ofTry ok
    show wpAny (model X.prog X.w) X.A (noteFrame (.ref a) X.env) _ _ _
    refine Sky.land Zc.steady frames fr (show Sky B (X.env :: X.outer) a (Zc cls d) X.env.locals s1.heap by rw [← st]; exact sky) fun h3 fl3 up3 => ?_
    obtain ⟨oe3, vs3, he3, hz3, hd3⟩ := fl3.there
    have nfr : a ∉ frs (X.env :: X.outer) := fun hm => by
      obtain ⟨_, o', e', hnf⟩ := fl3.2.2.1.mem hm
      rw [he3] at e'; cases e'
      exact hnf _ hd3
    have nL : a ≠ X.env.locals := fun z => nfr (List.mem_filterMap.mpr ⟨X.env, List.mem_cons_self, by rw [fr, z]⟩)
    have nF : a ∉ X.fs := fun hm => by
      obtain ⟨e, he, q⟩ := List.mem_filterMap.mp hm
      exact nfr (List.mem_filterMap.mpr ⟨e, List.mem_cons_of_mem _ he, q⟩)
    exact clauses fr st nd tk ok J nb (up.trans up3) fl3 na os ag nL nF hh w
  · match f, z with
    | .next, ⟨σ', H', J', q⟩ => exact wpAny_execs_nil ⟨σ', H', J'.ofTry ok, q⟩
    | .brk, ⟨σ', H', J', q⟩ => exact ⟨σ', H', J'.ofTry ok, q⟩
    | .cont, ⟨σ', H', J', q⟩ => exact ⟨σ', H', J'.ofTry ok, q⟩
    | .ret u, ⟨v, σ', H', J', r, q⟩ => exact ⟨v, σ', H', J'.ofTry ok, r, q⟩
end
end PL
namespace PL
open PySem PySem.Spec PyProof.Rows L2
/-- where an exception is held: at a, of the class cl, its dict at d -/
def G.wx (g : G) (a : Addr) (cl : Nat) (d : Addr) : G := { g with ex := fun b => if b = a then some (cl, d) else none }
mutual
theorem Rep.wx {g : G} {F : Hp} {a d0 : Addr} {cl : Nat} (hx : ∀ b, g.ex b = none) : ∀ (d : D) {v : V}, Rep g F d v → Rep (g.wx a cl d0) F d v
  | .non, _, h => h
  | .bl _, _, h => h
  | .int _, _, h => h
  | .str _, _, h => h
  | .lst ds, _, ⟨a, vs, r, s, q⟩ => ⟨a, vs, r, s, Reps.wx hx ds q⟩
  | .tup ds, _, ⟨a, vs, r, s, q⟩ => ⟨a, vs, r, s, Reps.wx hx ds q⟩
  | .obj c ns ds, _, ⟨a, dx, fs, r, s, t, q⟩ => ⟨a, dx, fs, r, s, t, Reps.wx hx ds q⟩
  | .dk ks ds, _, ⟨a, kvs, r, s, t, q⟩ => ⟨a, kvs, r, s, t, Reps.wx hx ds q⟩
  | .dt ks ds, _, ⟨a, kvs, r, s, t, q⟩ => ⟨a, kvs, r, s, t, Reps.wx hx ds q⟩
  | .scr ns, _, h => h
  | .exc c ns ds, _, ⟨a, d, fs, r, s, _⟩ => by rw [hx a] at s; cases s
theorem Reps.wx {g : G} {F : Hp} {a d0 : Addr} {cl : Nat} (hx : ∀ b, g.ex b = none) : ∀ (ds : List D) {vs : List V}, Reps g F ds vs → Reps (g.wx a cl d0) F ds vs
  | [], _, h => h
  | d :: ds, _, ⟨v, vr, r, s, q⟩ => ⟨v, vr, r, Rep.wx hx d s, Reps.wx hx ds q⟩
end
mutual
/-- no exception is held within -/
def noE : D → Bool
  | .lst ds => noEs ds
  | .tup ds => noEs ds
  | .obj _ _ ds => noEs ds
  | .dk _ ds => noEs ds
  | .dt _ ds => noEs ds
  | .exc _ _ _ => false
  | _ => true
def noEs : List D → Bool
  | [] => true
  | d :: ds => noE d && noEs ds
end
mutual
theorem Rep.unwx {g : G} {F : Hp} {a d0 : Addr} {cl : Nat} : ∀ (d : D) {v : V}, noE d = true → Rep (g.wx a cl d0) F d v → Rep g F d v
  | .non, _, _, h => h
  | .bl _, _, _, h => h
  | .int _, _, _, h => h
  | .str _, _, _, h => h
  | .lst ds, _, n, ⟨a, vs, r, s, q⟩ => ⟨a, vs, r, s, Reps.unwx ds n q⟩
  | .tup ds, _, n, ⟨a, vs, r, s, q⟩ => ⟨a, vs, r, s, Reps.unwx ds n q⟩
  | .obj c ns ds, _, n, ⟨a, dx, fs, r, s, t, q⟩ => ⟨a, dx, fs, r, s, t, Reps.unwx ds n q⟩
  | .dk ks ds, _, n, ⟨a, kvs, r, s, t, q⟩ => ⟨a, kvs, r, s, t, Reps.unwx ds n q⟩
  | .dt ks ds, _, n, ⟨a, kvs, r, s, t, q⟩ => ⟨a, kvs, r, s, t, Reps.unwx ds n q⟩
  | .scr ns, _, _, h => h
  | .exc c ns ds, _, n, _ => by cases n
theorem Reps.unwx {g : G} {F : Hp} {a d0 : Addr} {cl : Nat} : ∀ (ds : List D) {vs : List V}, noEs ds = true → Reps (g.wx a cl d0) F ds vs → Reps g F ds vs
  | [], _, _, h => h
  | d :: ds, _, n, ⟨v, vr, r, s, q⟩ => by
    have n' : (noE d && noEs ds) = true := n
    rw [Bool.and_eq_true] at n'
    exact ⟨v, vr, r, Rep.unwx d n'.1 s, Reps.unwx ds n'.2 q⟩
end
theorem Cont.wx {g : G} {F : Hp} {a d0 : Addr} {cl : Nat} (hx : ∀ b, g.ex b = none) {o : HO} {w : Ow} (h : Cont g F o w) : Cont (g.wx a cl d0) F o w := by
  cases o <;> cases w <;> first | exact False.elim h | exact Reps.wx hx _ h | exact ⟨h.1, Reps.wx hx _ h.2⟩
theorem Rel.wx {g : G} {c : Cb} {σ : L2.St} {env : En} {F H : Hp} {a d0 : Addr} {cl : Nat} (hx : ∀ b, g.ex b = none) (R : Rel g c σ env F H) : Rel (g.wx a cl d0) c σ env F H where
  toLv := R.toLv
  len := R.len
  dat := fun i d e => let ⟨u, h1, h2⟩ := R.dat i d e; ⟨u, h1, Rep.wx hx d h2⟩
  own := fun i w e => let ⟨p, o, h1, h2, h3, h4, h5⟩ := R.own i w e; ⟨p, o, h1, h2, h3, h4, h5.wx hx⟩
  brf := fun i w e => let ⟨p, o, h1, h2, h3, h4, h5⟩ := R.brf i w e; ⟨p, o, h1, h2, h3, h4, h5.wx hx⟩
  inj := R.inj
/-- an exception's dict joins what is frozen -/
theorem Rel.addX {g : G} {c : Cb} {σ : L2.St} {env : En} {F H : Hp} {d : Addr} {vs : List (Str × V)} (R : Rel g c σ env F H) (h0 : c.H0 d = none) (hd : H d = some (.xd vs)) : ∃ F', Ex F F' ∧ F' d = some (.xd vs) ∧ Rel g c σ env F' H := by
  cases q : F d with
  | some o =>
    have := R.fh _ _ q
    rw [hd] at this; cases this
    exact ⟨F, Ex.refl F, q, R⟩
  | none =>
    have x : Ex F (upd F d (.xd vs)) := Ex.new q
    have ne : ∀ {p : Addr} {o : HO} {w : Ow}, H p = some o → Cont g F o w → p ≠ d := fun {p o w} hp k z => by
      rw [z, hd] at hp; cases hp
      cases w <;> exact k.elim
    refine ⟨_, x, upd_same, ⟨⟨fun a o e => ?_, R.f0.trans x, R.h0, R.dm, fun a o e => ?_⟩, R.len, fun i d' e => ?_, fun i w e => ?_, fun i w e => ?_, R.inj⟩⟩
    · by_cases h : a = d
      · subst h; rw [upd_same] at e; cases e; exact hd
      · rw [upd_ne h] at e; exact R.fh _ _ e
    · by_cases h : a = d
      · subst h; exact .inr h0
      · rw [upd_ne h] at e; exact R.nw _ _ e
    · obtain ⟨u, h1, h2⟩ := R.dat i d' e
      exact ⟨u, h1, Rep.mono x _ h2⟩
    · obtain ⟨p, o, h1, h2, h3, h4, h5⟩ := R.own i w e
      exact ⟨p, o, h1, by rw [upd_ne (ne h4 h5)]; exact h2, h3, h4, h5.mono x⟩
    · obtain ⟨p, o, h1, h2, h3, h4, h5⟩ := R.brf i w e
      exact ⟨p, o, h1, by rw [upd_ne (ne h4 h5)]; exact h2, h3, h4, h5.mono x⟩
def blank (env : En) : En := env.map fun _ => .non
theorem blank_no {env : En} {i : Nat} {s : Sl} (h : (blank env)[i]? = some s) : s = .non := by
  unfold blank at h
  rw [List.getElem?_map] at h
  cases q : env[i]? with
  | none => rw [q] at h; cases h
  | some t => rw [q] at h; exact (Option.some.inj h).symm
theorem Rel.blank {g g' : G} {c : Cb} {σ : L2.St} {env : En} {F H : Hp} (R : Rel g' c σ env F H) : Rel g c σ (blank env) F H where
  toLv := R.toLv
  len := by unfold PL.blank; rw [List.length_map]; exact R.len
  dat := fun i d e => by cases blank_no e
  own := fun i w e => by cases blank_no e
  brf := fun i w e => by cases blank_no e
  inj := fun i j p ⟨s, e, h⟩ => by rw [blank_no e] at h; cases h
/-- a clause -/
structure Hd where
  test : Nat → Option Bool
  slot : Option Nat
  suite : SM
def outM : Sr → Sr
  | .rt (.v d) e => if noE d = true then .rt (.v d) (blank e) else .st
  | _ => .st
def suiM (o : Option Nat) (m : SM) (cl : Nat) (fs : List (Str × D)) : SM := fun env => match o with
  | none => outM (m env)
  | some i => if canSet env i = true then outM (m (env.set i (.d (.exc cl (fs.map (·.1)) (fs.map (·.2)))))) else .st
def hdlM : List Hd → Nat → List (Str × D) → SM
  | [], cl, fs, env => .ex cl fs env
  | h :: r, cl, fs, env => match h.test cl with
    | some true => suiM h.slot h.suite cl fs env
    | some false => hdlM r cl fs env
    | none => .st
def tryM (mb : SM) (hs : List Hd) : SM := fun env => match mb env with
  | .ex cl fs e => hdlM hs cl fs e
  | r => r
def ClS (g : G) : List Cl → List Hd → Prop
  | [], [] => True
  | (c, o, t) :: l, h :: hs => (∀ cl b, h.test cl = some b → PySem.W.exmOne g.K (.ref (g.cls cl)) c = some b) ∧ o = h.slot ∧ (∀ a cl d, SS (g.wx a cl d) W0 (t a (.ref (g.cls cl)) (some d)) h.suite) ∧ ClS g l hs
  | _, _ => False
theorem out_inv {r : Sr} {g : G} {c : Cb} {W : WX} {F : Hp} {De : Ends} (P : PostS g c W F De (outM r)) : ∃ d e, r = .rt (.v d) e ∧ noE d = true ∧ PostS g c W F De (.rt (.v d) (blank e)) := by
  unfold outM at P
  split at P
  · rename_i d e
    split at P
    · exact ⟨d, e, rfl, by assumption, P⟩
    · exact P.elim
  · exact P.elim
theorem hdl_ok {g : G} {W : WX} {De : Ends} {c : Cb} {F : Hp} (hx : ∀ b, g.ex b = none) {cl : Nat} {fs : List (Str × D)} {e : En} : ∀ {l : List Cl} {hs : List Hd}, ClS g l hs → PostS g c W F De (hdlM hs cl fs e) → ∀ σ' (d : Addr) F' H', Rel g c σ' e F' H' → XF g c.H0 F' H' d fs → wCl g.K W De l (.ref (g.cls cl)) (some d) σ' H'
  | [], [], _, P, σ', d, F', H', R, X => (show ∀ σ', PostX g c W σ' cl fs e from P) σ' d F' H' R X
  | [], _ :: _, k, _, _, _, _, _, _, _ => k.elim
  | _ :: _, [], k, _, _, _, _, _, _, _ => k.elim
  | (cv, o, t) :: l, h :: hs, k, P, σ', d, F', H', R, X => by
    obtain ⟨k1, rfl, k3, k4⟩ := k
    have P' : PostS g c W F De (match h.test cl with | some true => suiM h.slot h.suite cl fs e | some false => hdlM hs cl fs e | none => .st) := P
    cases q : h.test cl with
    | none => rw [q] at P'; exact P'.elim
    | some b =>
      refine ⟨b, k1 cl b q, fun hb a na => ?_, fun hb => ?_⟩
      · subst hb
        rw [q] at P'
        have P2 : PostS g c W F De (suiM h.slot h.suite cl fs e) := P'
        obtain ⟨h0, vs, hd, x1, x2⟩ := X
        obtain ⟨F2, ex2, hF2, R2⟩ := R.addX h0 hd
        have R3 := R2.wx (a := a) (cl := cl) (d0 := d) hx
        have fin : ∀ {De' : Ends} {m : Sr}, De'.rt = De.rt → PostS g c W F De (outM m) → PostS (g.wx a cl d) c W0 F2 De' m := fun {De' m} er Po => by
          obtain ⟨dd, e2, rfl, nx, Pr⟩ := out_inv Po
          intro v σ2 F3 H3 R4 tk
          rw [er]
          exact Pr v σ2 F3 H3 R4.blank (Rep.unwx dd nx tk)
        unfold suiM at P2
        cases so : h.slot with
        | none =>
          rw [so] at P2
          exact k3 a cl d c σ' e F2 H' De R3 (fin rfl P2)
        | some i =>
          rw [so] at P2
          have P3 : PostS g c W F De (if canSet e i = true then outM (h.suite (e.set i (.d (.exc cl (fs.map (·.1)) (fs.map (·.2)))))) else .st) := P2
          split at P3
          · rename_i hc
            refine k3 a cl d c _ _ F2 H' (gone De i) (R3.setD (canSet_lt hc) ?_) (fin rfl P3)
            exact ⟨a, d, vs, rfl, if_pos rfl, hF2, x1, Reps.wx hx _ (Reps.mono ex2 _ x2)⟩
          · exact P3.elim
      · subst hb
        rw [q] at P'
        exact hdl_ok hx k4 P' σ' d F' H' R X
theorem ss_try {g : G} {W : WX} {tb : WX → TS} {mb : SM} {l : List Cl} {hs : List Hd} (hx : ∀ b, g.ex b = none) (hb : ∀ W', SS g W' (tb W') mb) (hl : ClS g l hs) : SS g W (fun D σ H => tb (wCl g.K W D l) D σ H) (tryM mb hs) := fun c σ env F H De R P => by
  refine hb _ c σ env F H De R ?_
  unfold tryM at P
  cases q : mb env with
  | nx e => rw [q] at P; exact P
  | bk e => rw [q] at P; exact P
  | ct e => rw [q] at P; exact P
  | rt t e => rw [q] at P; exact P
  | st => rw [q] at P; exact P
  | ex cl fs e =>
    rw [q] at P
    exact fun σ' d F' H' R' X => hdl_ok hx hl P σ' d F' H' R' X
/-! ### the rule -/
/-- a suite's reading for every exception -/
structure YU (X : Cx) (g : G) (body : List Stmt) (t : Addr → Value → Option Addr → TS) (m : SM) : Prop where
  p : SuiteOk X body t
  s : ∀ a cl d, SS (g.wx a cl d) W0 (t a (.ref (g.cls cl)) (some d)) m
structure YH (X : Cx) (g : G) (hs : List ExceptHandler) (l : List Cl) (ms : List Hd) : Prop where
  p : Cls' X hs l
  s : ClS g l ms
section
variable {X : Cx} {g : G} {W : WX} {body : List Stmt} {h0 : ExceptHandler} {hs : List ExceptHandler} {l : List Cl} {ms : List Hd} {pos : Pos} {tb : WX → TS} {mb m : SM} {t : Addr → Value → Option Addr → TS}
theorem yhn : YH X g [] [] [] := ⟨.nil, trivial⟩
theorem yhb {x : Str} {c : Value} {b : Stmt} {bs : List Stmt} {np p : Pos} (nm : Names X x c) (test : Nat → Option Bool) (ht : ∀ cl b, test cl = some b → PySem.W.exmOne g.K (.ref (g.cls cl)) c = some b) (su : YU X g (b :: bs) t m) (r : YH X g hs l ms) :
    YH X g (.ExceptHandler (some (.Name x np)) none (b :: bs) p :: hs) ((c, none, t) :: l) (⟨test, none, m⟩ :: ms) := ⟨.bare nm su.p r.p, ht, rfl, su.s, r.s⟩
theorem yha {x n : Str} (i : Nat) {c : Value} {b : Stmt} {bs : List Stmt} {np p : Pos} (nm : Names X x c) (test : Nat → Option Bool) (ht : ∀ cl b, test cl = some b → PySem.W.exmOne g.K (.ref (g.cls cl)) c = some b) (su : YU X g (b :: bs) t m) (r : YH X g hs l ms)
    (hi : X.N[i]? = some n := by rfl) (hl : X.env.kindOf n = some .local := by rfl) : YH X g (.ExceptHandler (some (.Name x np)) (some n) (b :: bs) p :: hs) ((c, some i, t) :: l) (⟨test, some i, m⟩ :: ms) := ⟨.as hi hl nm su.p r.p, ht, rfl, su.s, r.s⟩
theorem ztry (hK : X.K = g.K) (hx : ∀ b, g.ex b = none) (tk : Takes X W) (hb : ∀ (W : WX) (pn : List (Addr × Obj)) (xe : Value → Shared → Prop), Takes (X.tr pn xe) W → PassesOwn (model X.prog X.w) X.A X.env xe → YSs (X.tr pn xe) g W body (tb W) mb)
    (hh : YH X g (h0 :: hs) l ms) (st : X.stack = X.env :: X.outer := by rfl) (fr : X.env.frame = some X.env.locals := by rfl) (nd : X.N.Nodup := by first | assumption | exact of_decide_eq_true (by kernel_rfl)) :
    YS X g W (.Try body (h0 :: hs) [] [] pos) (fun D σ H => tb (wCl X.K W D l) D σ H) (tryM mb ms) := by
  refine ⟨ps_tryAny st fr nd tk (fun W pn xe h1 h2 => (hb W pn xe h1 h2).p) hh.p, ?_⟩
  rw [hK]
  refine ss_try hx (fun W' => ?_) hh.s
  have tk' : Takes (X.tr [(X.env.locals, ⟨.none, none, .plain, #[]⟩)] fun _ _ => False) W' := fun u s' ⟨_, _, _, _, _, _, _, _, _, I, _⟩ => (I.pin _ (List.mem_append_left _ List.mem_cons_self)).2.2.1 rfl
  exact (hb W' _ _ tk' PassesOwn.never).s
end
end PL
namespace PL
open PySem PySem.Spec PyProof.Rows L2
/-! ### e.f of the exception that a suite holds -/
def tXg (K : PySem.W.Frag) (a : Addr) (cls : Value) (d : Option Addr) (f : Str) (te : TE) : TE := fun σ H Q => te σ H fun x H1 => ∃ (C dd : Addr) (fs : List (Str × V)) (v : V), x = .ref a ∧ cls = .ref C ∧ d = some dd ∧ XfC K C ∧ PySem.W.findIn K (.ref C) f = some none ∧ H1 dd = some (.xd fs) ∧ fs.lookup f = some v ∧ Q v H1
theorem pe_xg {X : Cx} {a : Addr} {oe : Obj} {cls : Value} {d : Option Addr} {pn : List (Addr × Obj)} {e : Expr} {te : TE} {pos : Pos} {n : Str} (hz : Zc cls d oe) (hf : ∃ vs, oe.data = .fields vs) (he : PE (X.suite a ((a, oe) :: pn)) e te) (hb : attributeBase e n X.env (eval e X.env) = eval e X.env := by rfl) :
    PE (X.suite a ((a, oe) :: pn)) (.Attribute e n pos) (tXg X.K a cls d n te) := by
  refine ⟨fun pins s σ H Q I pre => attr_of hb (thn (he.run pins s σ H _ I pre) fun u s1 hh => ?_)⟩
  obtain ⟨x, H1, I1, rx, C, dd, fs, v, rfl, rfl, rfl, T, no, at_, lk, q⟩ := hh
  obtain rfl : u = Value.ref a := rx
  have here := (I1.pin (a, oe) (List.mem_append_left _ List.mem_cons_self)).1
  obtain ⟨vs, isF⟩ := hf
  obtain ⟨mA, space, rel⟩ := (show ObjOk X.prog X.w H1 s1.heap dd (.xd fs) from I1.hok dd _ at_)
  obtain ⟨od, dict, looks⟩ := lookIn_ns space
  obtain ⟨u, hu, ru⟩ := RelO.some_of (v := v) (o := mA n) (by rw [← lk]; exact rel n)
  have inst : PySem.W.InstAt s1.heap a oe C (some od) := ⟨here, hz.1, by unfold PySem.W.notCls; rw [isF] <;> rfl, by rw [hz.2]; exact dict⟩
  exact HandSPX.exc_get I1.kIn inst T.ga T.gg T.exC (PySem.W.findObj_own T.hdC no rfl (by rw [looks, hu])) (handed_of ru) ⟨v, H1, I1.tok _, ru, q⟩
def lookD : List Str → List D → Str → Option D
  | n :: ns, d :: ds, f => if f = n then some d else lookD ns ds f
  | _, _, _ => none
theorem lookD_ok {g : G} {F : Hp} {f : Str} {d : D} : ∀ {ns : List Str} {ds : List D} {fs : List (Str × V)}, fs.map (·.1) = ns → Reps g F ds (fs.map (·.2)) → lookD ns ds f = some d → ∃ v, fs.lookup f = some v ∧ Rep g F d v
  | n :: ns, e :: ds, (m, x) :: fs, h, r, q => by
    obtain ⟨rfl, h2⟩ : m = n ∧ fs.map (·.1) = ns := by simpa using h
    obtain ⟨u, ur, e1, r1, r2⟩ := r
    have e1' : x :: fs.map (·.2) = u :: ur := e1
    cases e1'
    have q' : (if f = m then some e else lookD ns ds f) = some d := q
    rw [lookup_put]
    by_cases hf : f = m
    · rw [if_pos hf] at q' ⊢
      cases q'
      exact ⟨x, rfl, r1⟩
    · rw [if_neg hf] at q' ⊢
      exact lookD_ok h2 r2 q'
  | [], _, _, _, _, q => by cases q
  | _ :: _, [], _, _, _, q => by cases q
  | _ :: _, _ :: _, [], h, _, _ => by cases h
def xgM (ok : Nat → Bool) (f : Str) (m : EM) : EM := fun env => (m env).bind fun t e => match view e t with
  | some (.exc cl ns xs) => if ok cl = true then (match lookD ns xs f with
    | some d => .ok (.v d) e
    | none => .st) else .st
  | _ => .st
theorem se_xg {g : G} {W : WX} {a dd : Addr} {cl : Nat} {ok : Nat → Bool} {f : Str} {te : TE} {m : EM} (hok : ∀ cl, ok cl = true → XfC g.K (g.cls cl) ∧ PySem.W.findIn g.K (.ref (g.cls cl)) f = some none) (h : SE (g.wx a cl dd) W te m) :
    SE (g.wx a cl dd) W (tXg g.K a (.ref (g.cls cl)) (some dd) f te) (xgM ok f m) := fun c σ env F H Q R P => by
  refine h c σ env F H _ R ?_
  unfold xgM at P
  cases q : m env with
  | st => rw [q] at P; exact P
  | ex c1 fs e1 => rw [q] at P; exact P
  | ok t e1 =>
    rw [q] at P
    intro x F1 H1 R1 s1 k1 n1
    have P1 : Post (g.wx a cl dd) c W σ env F H Q (match view e1 t with | some (.exc cl ns xs) => (if ok cl = true then (match lookD ns xs f with | some d => .ok (.v d) e1 | none => .st) else .st) | _ => .st) := P
    split at P1
    · rename_i cl' ns xs hv
      split at P1
      · rename_i hk
        split at P1
        · rename_i d hl
          rcases R1.view k1 hv with ⟨a', d', fs, rfl, hx, hF, hn, hr⟩ | ⟨p, o, w, _, _, ct, z⟩
          · have hx' : (if a' = a then some (cl, dd) else none) = some (cl', d') := hx
            split at hx'
            · rename_i ea
              cases hx'
              subst ea
              obtain ⟨v, h1, h2⟩ := lookD_ok hn hr hl
              obtain ⟨T, no⟩ := hok cl hk
              exact ⟨g.cls cl, dd, fs, v, rfl, rfl, rfl, T, no, R1.fh _ _ hF, h1, P1 v F1 H1 R1 s1 h2 trivial⟩
            · cases hx'
          · cases w <;> cases z
        · exact P1.elim
      · exact P1.elim
    · exact P1.elim
/-! ### isinstance(e, C) of it -/
theorem kin_cls {prog : Program} {w : World} {A : Around} {E : Value → Shared → Prop} {s : Shared} {K : PySem.W.Frag} {x C : Addr} {ox od : Obj} {Q : Option Value → Shared → Prop} (T : ExcC K C) (kin : K.In s.heap) (I : PySem.W.InstAt s.heap x ox C (some od))
    (h : Q (some (.ref C)) { s with toks := s.toks + 1 }) : wpAny (model prog w) A (getAttr? (.ref x) "__class__") Q E s := by
  have found : PySem.W.findObj K C (some od) "__class__" = some (.bind (.builtin "getset_descriptor.__get__") (.builtin "object.__class__")) := PySem.W.findObj_data (by obtain ⟨cd, hc, _⟩ := PySem.W.any_some T.hd; rw [hc]; rfl) T.ha T.hn T.ht
  obtain ⟨hp, gs, dr, tk, os⟩ := s
  have lt := I.type (M := model prog w)
  have lga := PySem.W.looks_findIn (M := model prog w) kin T.hg
  have lgt := PySem.W.looks_findIn (M := model prog w) kin T.hk
  have lfd := PySem.W.looks_find (M := model prog w) kin I found
  have isE : PySem.W.Looks (model prog w) hp (isInstance (.ref x) (.type "BaseException")) true := lt.andThen (PySem.W.looks_subIn kin T.hs)
  have c0 : (false && onTheHeap (Value.builtin "BaseException.__getattribute__")) = false := rfl
  have c1 : (onTheHeap (Value.ref C) && Value.builtin "BaseException.__getattribute__" == Value.builtin "object.__getattribute__") = false := by
    rw [show (Value.builtin "BaseException.__getattribute__" == Value.builtin "object.__getattribute__") = false from by decide +kernel]; rfl
  unfold getAttr? getAttrBy? getAttrBy
  refine wpAny_bind (wpAny_mkText (wpAny_bind (wpAny_attempt (wpAny_holding (wpAny_bind (lt.at (wpAny_bind (lga.at ?_))))))))
  show wpAny _ _ (if (onTheHeap (Value.ref C) && Value.builtin "BaseException.__getattribute__" == Value.builtin "object.__getattribute__") = true then _ else _) _ _ _
  rw [c1, if_neg Bool.false_ne_true]
  unfold getAttrByItsOwn hookBefore
  refine wpAny_bind ?_
  rw [if_pos (show onTheHeap (Value.ref C) = true from rfl)]
  refine lgt.at (wpAny_bind (wpAny_attempt (wpAny_holding ?_)))
  unfold callGetattribute
  rw [c0, if_neg Bool.false_ne_true]
  unfold boundAndCalled
  rw [PySem.F.excAttr_ValueError.ga.bind (.ref x)]
  refine wpAny_bind (wpAny_pure ?_)
  show wpAny _ _ (call (.builtin "BaseException.__getattribute__") [.ref x, .str "__class__" tk]) _ _ _
  refine wpAny_call (codeAny_call_builtin PySem.F.excAttr_ValueError.ga.plain PySem.F.entry_bexc_ga ?_)
  refine @PySem.W.check_slot (model prog w) _ _ ⟨hp, gs, dr, tk + 1, os⟩ "BaseException.__getattribute__" "BaseException" "__getattribute__" (.ref x) [.str "__class__" tk] [] _ (by decide +kernel) (by decide +kernel) isE (PySem.F.args_bexc_ga (.ref x) (.str "__class__" tk)) ?_
  unfold Builtin.«object.__getattribute__»
  refine wpAny_bind (wpAny_of_eq (a := ((Value.ref x : Value), [Value.str "__class__" tk])) (by first | rfl | (simp only [slotArgs]; rfl)) (wpAny_bind (wpAny_pure (wpAny_bind (lt.at (wpAny_bind (lfd.at ?_)))))))
  show wpAny _ _ (holding [Value.builtin "object.__class__"] (call (.builtin "getset_descriptor.__get__") [.builtin "object.__class__", .ref x, .ref C]) >>= ret) _ _ _
  refine wpAny_bind (wpAny_holding (wpAny_call (PySem.W.class_get (s := ⟨hp, gs, dr, tk + 1, os⟩) (ox := ox) (od := some od) kin I T.hm (wpAny_pure ?_))))
  show wpAny _ _ (handedOut (.ref C)) _ _ _
  rw [PySem.W.handedOut_of (v := .ref C) rfl]
  first
    | exact wpAny_pure (wpAny_pure h)
    | exact wpAny_pure h
    | exact wpAny_pure (wpAny_bind (wpAny_pure (wpAny_pure h)))
theorem kit_cls {K : PySem.W.Frag} {x C : Addr} {ox od : Obj} (T : ExcC K C) : PySem.W.KitX K (.ref x) (.ref C) (fun h => PySem.W.InstAt h x ox C (some od)) where
  ty := fun _ _ _ I => I.type
  it := fun _ _ kin _ => by
    obtain ⟨cd, hc, _⟩ := PySem.W.any_some T.hd
    unfold PySem.W.clsIn at hc
    split at hc
    · rename_i c' d' cd' sl' ho
      exact fun A' Q' E' s' k q => by
        unfold isType loadHead
        exact wpAny_bind (wpAny_loadPart (k _ _ (kin _ _ ho)) (wpAny_pure q))
    · cases hc
  ne := fun h tp dd its n sl kin htp => by
    obtain ⟨cd, hc, _⟩ := PySem.W.any_some T.hd
    refine Bool.eq_false_iff.mpr fun q => ?_
    obtain rfl : C = tp := Value.ref.inj (beq_iff_eq.mp q)
    unfold PySem.W.clsIn at hc
    split at hc
    · rename_i c' d' cd' sl' ho
      cases (kin _ _ ho).symm.trans htp
    · cases hc
  ca := fun kin I k => kin_cls T kin I k
/-- the class C as it is asked for: an own one, or a built-in one -/
def rIsX (K : PySem.W.Frag) (a : Addr) (cls : Value) (d : Option Addr) (cv : V) (cu : Value) : V → Hp → VK → Prop := fun x H Q => ∃ (C dd : Addr) (fs : List (Str × V)) (b : Bool), x = .ref a ∧ cls = .ref C ∧ d = some dd ∧ ExcC K C ∧ H dd = some (.xd fs) ∧ PySem.W.kitOne K (.ref C) cu = some b ∧ Q (.bl b) H
theorem call_isX {X : Cx} {a : Addr} {oe : Obj} {cls : Value} {d : Option Addr} {pn : List (Addr × Obj)} {cv : V} {cu : Value} (kc : ClsV cv cu) (hz : Zc cls d oe) (hf : ∃ vs, oe.data = .fields vs) :
    CallR (X.suite a ((a, oe) :: pn)) (.builtin "isinstance") (fun xs H Q => ∃ x, xs = [x, cv] ∧ rIsX X.K a cls d cv cu x H Q) := by
  intro pins s σ H xs us Q I r h
  obtain ⟨x, rfl, C, dd, fs, b, rfl, rfl, rfl, T, at_, e, q⟩ := h
  match us, r with
  | [u1, u2], .cons r1 (.cons r2 .nil) =>
    obtain rfl : u1 = Value.ref a := r1
    obtain rfl : u2 = cu := kc.eq r2
    have here := (I.pin (a, oe) (List.mem_append_left _ List.mem_cons_self)).1
    obtain ⟨vs, isF⟩ := hf
    obtain ⟨mA, space, _⟩ := (show ObjOk X.prog X.w H s.heap dd (.xd fs) from I.hok dd _ at_)
    obtain ⟨od, dict, _⟩ := lookIn_ns space
    have inst : PySem.W.InstAt s.heap a oe C (some od) := ⟨here, hz.1, by unfold PySem.W.notCls; rw [isF] <;> rfl, by rw [hz.2]; exact dict⟩
    exact PySem.W.kia_one (kit_cls T) I.kIn inst e (fun z => nomatch z) fun tk => ⟨.bl b, H, I.kept (t' := tk) fun _ _ z => z, rfl, q⟩
/-- .. as the call has it -/
def rIsY (K : PySem.W.Frag) (a : Addr) (cls : Value) (d : Option Addr) (cv : V) (cu : Value) : V → Hp → VK → Prop := fun x H Q => ∃ x', [x, cv] = [x', cv] ∧ rIsX K a cls d cv cu x' H Q
def isXM (ans : Nat → Option Bool) (m : EM) : EM := fun env => (m env).bind fun t e => match view e t with
  | some (.exc cl _ _) => (match ans cl with
    | some b => .ok (.v (.bl b)) e
    | none => .st)
  | _ => .st
theorem se_isX {g : G} {W : WX} {a dd : Addr} {cl : Nat} {ans : Nat → Option Bool} {cv : V} {cu : Value} {te : TE} {m : EM} (hok : ∀ cl b, ans cl = some b → ExcC g.K (g.cls cl) ∧ PySem.W.kitOne g.K (.ref (g.cls cl)) cu = some b) (h : SE (g.wx a cl dd) W te m) :
    SE (g.wx a cl dd) W (tUn (rIsY g.K a (.ref (g.cls cl)) (some dd) cv cu) te) (isXM ans m) := fun c σ env F H Q R P => by
  refine h c σ env F H _ R ?_
  unfold isXM at P
  cases q : m env with
  | st => rw [q] at P; exact P
  | ex c1 fs e1 => rw [q] at P; exact P
  | ok t e1 =>
    rw [q] at P
    intro x F1 H1 R1 s1 k1 n1
    have P1 : Post (g.wx a cl dd) c W σ env F H Q (match view e1 t with | some (.exc cl _ _) => (match ans cl with | some b => .ok (.v (.bl b)) e1 | none => .st) | _ => .st) := P
    split at P1
    · rename_i cl' ns xs hv
      split at P1
      · rename_i b hb
        rcases R1.view k1 hv with ⟨a', d', fs, rfl, hx, hF, hn, hr⟩ | ⟨p, o, w, _, _, ct, z⟩
        · have hx' : (if a' = a then some (cl, dd) else none) = some (cl', d') := hx
          split at hx'
          · rename_i ea
            cases hx'
            subst ea
            obtain ⟨T, k⟩ := hok cl b hb
            exact ⟨_, rfl, g.cls cl, dd, fs, b, rfl, rfl, rfl, T, R1.fh _ _ hF, k, P1 _ F1 H1 R1 s1 (rfl : V.bl b = .bl b) trivial⟩
          · cases hx'
        · cases w <;> cases z
      · exact P1.elim
    · exact P1.elim
/-! ### a suite: return e -/
/-- an expression of a suite, for every exception -/
structure YQ (X : Cx) (g : G) (e : Expr) (te : Addr → Value → Option Addr → TE) (m : EM) : Prop where
  p : ∀ (a : Addr) (oe : Obj) (cls : Value) (d : Option Addr) (pn : List (Addr × Obj)), Zc cls d oe → (∃ vs, oe.data = .fields vs) → PE (X.suite a ((a, oe) :: pn)) e (te a cls d)
  s : ∀ a cl d, SE (g.wx a cl d) W0 (te a (.ref (g.cls cl)) (some d)) m
structure YQF (X : Cx) (g : G) (es : List Expr) (ta : Addr → Value → Option Addr → TA) (m : FM) : Prop where
  p : ∀ (a : Addr) (oe : Obj) (cls : Value) (d : Option Addr) (pn : List (Addr × Obj)), Zc cls d oe → (∃ vs, oe.data = .fields vs) → PA (X.suite a ((a, oe) :: pn)) es (ta a cls d)
  s : ∀ a cl d, SF (g.wx a cl d) W0 (ta a (.ref (g.cls cl)) (some d)) m
structure YQT (X : Cx) (g : G) (e : Expr) (te : Addr → Value → Option Addr → TT) (m : TM) : Prop where
  p : ∀ (a : Addr) (oe : Obj) (cls : Value) (d : Option Addr) (pn : List (Addr × Obj)), Zc cls d oe → (∃ vs, oe.data = .fields vs) → PT (X.suite a ((a, oe) :: pn)) e (te a cls d)
  s : ∀ a cl d, STt (g.wx a cl d) W0 (te a (.ref (g.cls cl)) (some d)) m
section
variable {X : Cx} {g : G} {e b c : Expr} {es : List Expr} {te tb : Addr → Value → Option Addr → TE} {ta : Addr → Value → Option Addr → TA} {tt : Addr → Value → Option Addr → TT} {m m1 m2 : EM} {mf : FM} {mt : TM} {pos : Pos}
theorem qret (h : YQ X g e te m) : YU X g [.Return (some e) pos] (fun a cls d => tRet (te a cls d)) (retM m) := ⟨fun a oe cls d pn h1 h2 => pss_one (ps_ret (h.p a oe cls d pn h1 h2)), fun a cl d => ss_ret (h.s a cl d)⟩
/-- an expression that doesn't ask the exception -/
theorem qe {te0 : TE} (h : ∀ (g : G) (a : Addr) (pn : List (Addr × Obj)), YE (X.suite a pn) g W0 e te0 m) : YQ X g e (fun _ _ _ => te0) m := ⟨fun a oe cls d pn _ _ => (h g a _).p, fun a cl d => (h _ a []).s⟩
theorem qxg (f : Str) (ok : Nat → Bool) (hK : X.K = g.K) (hok : ∀ cl, ok cl = true → XfC g.K (g.cls cl) ∧ PySem.W.findIn g.K (.ref (g.cls cl)) f = some none) (h : YQ X g e te m) (hb : attributeBase e f X.env (eval e X.env) = eval e X.env := by rfl) :
    YQ X g (.Attribute e f pos) (fun a cls d => tXg X.K a cls d f (te a cls d)) (xgM ok f m) := ⟨fun a oe cls d pn h1 h2 => pe_xg h1 h2 (h.p a oe cls d pn h1 h2) hb, fun a cl d => by rw [hK]; exact se_xg hok (h.s a cl d)⟩
/-- isinstance(e, C) -/
theorem qis {cv : V} {cu : Value} {x : Str} {p p2 : Pos} (hK : X.K = g.K) (ans : Nat → Option Bool) (hok : ∀ cl b, ans cl = some b → ExcC g.K (g.cls cl) ∧ PySem.W.kitOne g.K (.ref (g.cls cl)) cu = some b) (kc : ClsV cv cu) (hm : X.mg "isinstance" = none)
    (hc : ∀ (a : Addr) (pn : List (Addr × Obj)), PE (X.suite a pn) (.Name x p2) (tC cv)) (h : YQ X g e te m) (hg : Gl X "isinstance" := by rfl)
    (he : starEach [e, .Name x p2] X.env = (false, eval e X.env) :: starEach [.Name x p2] X.env := by rfl) (he2 : starEach [.Name x p2] X.env = (false, eval (.Name x p2) X.env) :: starEach [] X.env := by rfl) (hpl : (backTo pos (starEach [.Name x p2] X.env)).any (·.1) = false := by rfl) :
    YQ X g (.Call (.Name "isinstance" p) [e, .Name x p2] [] pos) (fun a cls d => tUn (rIsY X.K a cls d cv cu) (te a cls d)) (isXM ans m) := by
  refine ⟨fun a oe cls d pn h1 h2 => ?_, fun a cl d => by rw [hK]; exact se_isX hok (h.s a cl d)⟩
  have hv : bootBuiltins "isinstance" = some (.builtin "isinstance") := by decide +kernel
  have A : PA (X.suite a ((a, oe) :: pn)) [e, .Name x p2] (tCons (te a cls d) (tCons (tC cv) tNil)) := pa_cons (h.p a oe cls d pn h1 h2) (pa_cons (hc a _) pa_nil he2) he
  exact pe_callB (X := X.suite a ((a, oe) :: pn)) (p := p) (pos := pos) (call_isX kc h1 h2) hg hm hv A (by decide) (by decide) he hpl
theorem qfn : YQF X g [] (fun _ _ _ => tNil) nilF := ⟨fun _ _ _ _ _ _ _ => pa_nil, fun _ _ _ => sf_nil⟩
theorem qfc (h1 : YQ X g e te m) (h2 : YQF X g es ta mf) (hs : starEach (e :: es) X.env = (false, eval e X.env) :: starEach es X.env := by rfl) : YQF X g (e :: es) (fun a cls d => tCons (te a cls d) (ta a cls d)) (consF m mf) :=
  ⟨fun a oe cls d pn z y => pa_cons (h1.p a oe cls d pn z y) (h2.p a oe cls d pn z y) hs, fun a cl d => sf_cons (h1.s a cl d) (h2.s a cl d)⟩
theorem qtup {x1} (h : YQF X g es ta mf) : YQ X g (.Tuple es x1 pos) (fun a cls d => tTup (ta a cls d)) (tupM mf) := ⟨fun a oe cls d pn z y => pe_tup (h.p a oe cls d pn z y), fun a cl d => se_tup (h.s a cl d)⟩
theorem qand1 {op} (h : YQ X g e te m) : YQ X g (.BoolOp op [e] pos) te m := ⟨fun a oe cls d pn z y => pe_one (h.p a oe cls d pn z y), h.s⟩
theorem qand {rest : List Expr} (h1 : YQ X g e te m1) (h2 : YQ X g (.BoolOp .And (b :: rest) pos) tb m2) : YQ X g (.BoolOp .And (e :: b :: rest) pos) (fun a cls d => tAndV (te a cls d) (tb a cls d)) (andV m1 m2) :=
  ⟨fun a oe cls d pn z y => pe_and (h1.p a oe cls d pn z y) (h2.p a oe cls d pn z y), fun a cl d => se_andV (h1.s a cl d) (h2.s a cl d)⟩
theorem qnot (h1 : YQ X g e te m) : YQ X g (.UnaryOp .Not e pos) (fun a cls d => tNotV (te a cls d)) (notV m) := ⟨fun a oe cls d pn z y => pe_not (h1.p a oe cls d pn z y), fun a cl d => se_notV (h1.s a cl d)⟩
theorem qtv (h : YQ X g e te m) (he : ∀ whole, isTrue e X.env whole = (do let v ← whole; standAt e.pos; holding [v] (truthy v)) := by intro _; rfl) : YQT X g e (fun a cls d => tB (te a cls d)) (testM m) := ⟨fun a oe cls d pn z y => pt_val (h.p a oe cls d pn z y) he, fun a cl d => st_B (h.s a cl d)⟩
theorem qif (h : YQT X g c tt mt) (h1 : YQ X g e te m1) (h2 : YQ X g b tb m2) : YQ X g (.IfExp c e b pos) (fun a cls d => tIf (tt a cls d) (te a cls d) (tb a cls d)) (ifM mt m1 m2) :=
  ⟨fun a oe cls d pn z y => pe_ifExp (h.p a oe cls d pn z y) (h1.p a oe cls d pn z y) (h2.p a oe cls d pn z y), fun a cl d => se_if (h.s a cl d) (h1.s a cl d) (h2.s a cl d)⟩
theorem qcmp {op : CmpOp} {r : R2} {fn} (ho : ∀ (a : Addr) (pn : List (Addr × Obj)), OpR (X.suite a pn) (compareOp op) r) (p : ∀ g' : G, g'.K = g.K → P2 g' r fn) (h1 : YQ X g e te m1) (h2 : YQ X g b tb m2) (hm : behindInMarks op b = false := by first | exact nomark _ | with_unfolding_all rfl) :
    YQ X g (.Compare e [op] [b] pos) (fun a cls d => tOp r (te a cls d) (tb a cls d)) (opM fn m1 m2) := ⟨fun a oe cls d pn z y => pe_cmpR (ho a _) (h1.p a oe cls d pn z y) (h2.p a oe cls d pn z y) hm, fun a cl d => se_op (p _ rfl) (h1.s a cl d) (h2.s a cl d)⟩
/-- repr(e) -/
theorem qrep {p : Pos} (ng : NoG X.A) (hu : X.A.units + 64 < cLine) (hK : X.K = g.K) (hm : X.mg "repr" = none) (h : YQ X g e te m) (hg : Gl X "repr" := by rfl) (he : starEach [e] X.env = (false, eval e X.env) :: starEach [] X.env := by rfl) (hpl : (backTo pos (starEach [] X.env)).any (·.1) = false := by rfl) :
    YQ X g (.Call (.Name "repr" p) [e] [] pos) (fun a cls d => tCB (rRpr X.K) (tCons (te a cls d) tNil)) (cbM repN (consA m nilA)) := by
  have hv : bootBuiltins "repr" = some (.builtin "repr") := by decide +kernel
  refine ⟨fun a oe cls d pn z y => pe_callB (X := X.suite a ((a, oe) :: pn)) (call_rep (X := X.suite a ((a, oe) :: pn)) ng hu) hg hm hv (pa_cons (h.p a oe cls d pn z y) pa_nil he) (by decide) (by decide) he hpl, fun a cl d => ?_⟩
  rw [hK]
  exact se_cb (g := g.wx a cl d) p_repr (sa_cons (h.s a cl d) sa_nil)
end
end PL
namespace PL
open PySem PySem.Spec PyProof.Rows L2
section
variable {g : G}
/-! ### sum, max, min, abs, int -/
theorem vw_seqL {F H : Hp} {ds : List D} {x : V} (fh : Ex F H) (h : Vw g F H (.lst ds) x) : ∃ a vs, x = .ref a ∧ SqL g.K H a vs ∧ Reps g F ds vs := by
  obtain ⟨a, vs, rfl, ha, r⟩ := vw_lst fh h
  exact ⟨a, vs, rfl, SqL.of ha, r⟩
def sumN : List D → Option Tv
  | [.lst ds] => (intsOf ds).map fun ns => .v (.int ns.sum)
  | _ => none
theorem p_sum : PN g (rSum g.K) sumN := fun F H ds xs t Q fh h q k => by
  unfold sumN at q
  split at q
  · rename_i es
    cases z : intsOf es with
    | none => rw [z] at q; cases q
    | some ns =>
      rw [z] at q; cases q
      match xs, h with
      | [x], h =>
        obtain ⟨a, vs, rfl, sq, r⟩ := vw_seqL fh h.1
        rw [ints_reps r z] at sq
        exact ⟨a, ns, rfl, sq, k _ F H (Gr.refl fh) (rfl : V.int _ = .int _)⟩
  · cases q
def int2 (f : Int → Int → Int) : List D → Option Tv
  | [.int i, .int j] => some (.v (.int (f i j)))
  | _ => none
theorem p_int2 {f : Int → Int → Int} : PN g (fun xs H Q => ∃ i j, xs = [.int i, .int j] ∧ Q (.int (f i j)) H) (int2 f) := fun F H ds xs t Q fh h q k => by
  unfold int2 at q
  split at q
  · cases q
    match xs, h with
    | [x, y], h =>
      rw [vw_int h.1, vw_int h.2.1]
      exact ⟨_, _, rfl, k _ F H (Gr.refl fh) (rfl : V.int _ = .int _)⟩
  · cases q
def max2N := int2 fun i j => if j > i then j else i
def min2N := int2 fun i j => if j < i then j else i
theorem p_max2 : PN g (fun xs H Q => ∃ i j, xs = [.int i, .int j] ∧ Q (.int (if j > i then j else i)) H) max2N := p_int2
theorem p_min2 : PN g (fun xs H Q => ∃ i j, xs = [.int i, .int j] ∧ Q (.int (if j < i then j else i)) H) min2N := p_int2
def absN : List D → Option Tv
  | [.int i] => some (.v (.int (if i < 0 then -i else i)))
  | _ => none
theorem p_abs : PN g (fun xs H Q => ∃ i, xs = [.int i] ∧ Q (.int (if i < 0 then -i else i)) H) absN := fun F H ds xs t Q fh h q k => by
  unfold absN at q
  split at q
  · cases q
    match xs, h with
    | [x], h =>
      rw [vw_int h.1]
      exact ⟨_, rfl, k _ F H (Gr.refl fh) (rfl : V.int _ = .int _)⟩
  · cases q
def intN : List D → Option Tv
  | [.int i] => some (.v (.int i))
  | [.bl b] => some (.v (.int (if b then 1 else 0)))
  | _ => none
theorem p_int : PN g (fun xs H Q => (∃ i, xs = [.int i] ∧ Q (.int i) H) ∨ ∃ k, xs = [.bl k] ∧ Q (.int (if k then 1 else 0)) H) intN := fun F H ds xs t Q fh h q k => by
  unfold intN at q
  split at q
  · cases q
    match xs, h with
    | [x], h =>
      rw [vw_int h.1]
      exact .inl ⟨_, rfl, k _ F H (Gr.refl fh) (rfl : V.int _ = .int _)⟩
  · cases q
    match xs, h with
    | [x], h =>
      rw [vw_bl h.1]
      exact .inr ⟨_, rfl, k _ F H (Gr.refl fh) (rfl : V.int _ = .int _)⟩
  · cases q
/-! ### {k: v, ..} -/
/-- the pairs, keys and values frozen -/
abbrev PrM := En → Rs (List (D × D))
def PostPr (g : G) (c : Cb) (W : WX) (σ : L2.St) (env : En) (F H : Hp) (Q : List (V × V) → Hp → Prop) : Rs (List (D × D)) → Prop
  | .ok ds env' => ∀ vs F' H', Rel g c σ env' F' H' → Stp σ env F H env' F' H' → Reps g F' (ds.map (·.1)) (vs.map (·.1)) → Reps g F' (ds.map (·.2)) (vs.map (·.2)) → Q vs H'
  | .ex cl fs env' => PostX g c W σ cl fs env'
  | .st => False
def SPr (g : G) (W : WX) (trs : List (TE × TE)) (m : PrM) : Prop := ∀ (c : Cb) (σ : L2.St) (env : En) (F H : Hp) (Q : List (V × V) → Hp → Prop), Rel g c σ env F H → PostPr g c W σ env F H Q (m env) → tPairs trs σ H Q
def nilPr : PrM := fun env => .ok [] env
def consPr (mk mv : EM) (mr : PrM) : PrM := fun env => (fzM mk env).bind fun k e1 => (fzM mv e1).bind fun v e2 => (mr e2).bind fun r e3 => .ok ((k, v) :: r) e3
theorem spr_nil {W : WX} : SPr g W [] nilPr := fun c σ env F H Q R P => P [] F H R (Stp.refl ..) rfl rfl
theorem spr_cons {W : WX} {tk tv : TE} {trs : List (TE × TE)} {mk mv : EM} {mr : PrM} (h1 : SE g W tk mk) (h2 : SE g W tv mv) (h3 : SPr g W trs mr) : SPr g W ((tk, tv) :: trs) (consPr mk mv mr) := fun c σ env F H Q R P => by
  refine sd_fz h1 c σ env F H _ R ?_
  unfold consPr at P
  cases q1 : fzM mk env with
  | st => rw [q1] at P; exact P
  | ex cl fs e1 => rw [q1] at P; exact P
  | ok k e1 =>
    rw [q1] at P
    intro x F1 H1 R1 s1 k1
    refine sd_fz h2 c σ e1 F1 H1 _ R1 ?_
    have P1 : PostPr g c W σ env F H Q ((fzM mv e1).bind fun v e2 => (mr e2).bind fun r e3 => .ok ((k, v) :: r) e3) := P
    cases q2 : fzM mv e1 with
    | st => rw [q2] at P1; exact P1
    | ex cl fs e2 => rw [q2] at P1; exact P1
    | ok v e2 =>
      rw [q2] at P1
      intro y F2 H2 R2 s2 k2
      refine h3 c σ e2 F2 H2 _ R2 ?_
      have P2 : PostPr g c W σ env F H Q ((mr e2).bind fun r e3 => .ok ((k, v) :: r) e3) := P1
      cases q3 : mr e2 with
      | st => rw [q3] at P2; exact P2
      | ex cl fs e3 => rw [q3] at P2; exact P2
      | ok r e3 =>
        rw [q3] at P2
        intro vs F3 H3 R3 s3 k3 k4
        exact (show PostPr g c W σ env F H Q (.ok ((k, v) :: r) e3) from P2) ((x, y) :: vs) F3 H3 R3 (s1.trans (s2.trans s3)) ⟨x, _, rfl, Rep.mono (s2.ex.trans s3.ex) _ k1, k3⟩ ⟨y, _, rfl, Rep.mono s3.ex _ k2, k4⟩
def keyedOf : List (D × D) → Option (List (Key × D))
  | [] => some []
  | (k, v) :: r => match keyOf k, keyedOf r with
    | some x, some l => some ((x, v) :: l)
    | _, _ => none
def mergeD (es more : List (Key × D)) : List (Key × D) := more.foldl (fun acc kv => putD acc kv.1 kv.2) es
theorem keyed_ok {F : Hp} : ∀ {ps : List (D × D)} {es : List (Key × D)} {vs : List (V × V)}, Reps g F (ps.map (·.1)) (vs.map (·.1)) → Reps g F (ps.map (·.2)) (vs.map (·.2)) → keyedOf ps = some es →
    ∃ kvs : List (Key × V), vs = kvs.map (fun kv => (kV kv.1, kv.2)) ∧ kvs.map (·.1) = es.map (·.1) ∧ Reps g F (es.map (·.2)) (kvs.map (·.2))
  | [], es, vs, h1, h2, q => by
    cases q
    have : vs.map (·.1) = [] := h1
    rw [List.map_eq_nil_iff.mp this]
    exact ⟨[], rfl, rfl, rfl⟩
  | (k, v) :: ps, es, vs, h1, h2, q => by
    obtain ⟨x, xr, e1, r1, t1⟩ := h1
    obtain ⟨y, yr, e2, r2, t2⟩ := h2
    match vs, e1, e2 with
    | (x', y') :: vs, e1, e2 =>
      have e1' : x' :: vs.map (·.1) = x :: xr := e1
      have e2' : y' :: vs.map (·.2) = y :: yr := e2
      cases e1'; cases e2'
      have q' : (match keyOf k, keyedOf ps with | some x, some l => some ((x, v) :: l) | _, _ => none) = some es := q
      cases z1 : keyOf k with
      | none => rw [z1] at q'; cases q'
      | some key =>
        cases z2 : keyedOf ps with
        | none => rw [z1, z2] at q'; cases q'
        | some l =>
          rw [z1, z2] at q'; cases q'
          obtain ⟨kvs, rfl, i1, i2⟩ := keyed_ok t1 t2 z2
          refine ⟨(key, y) :: kvs, ?_, by rw [List.map_cons, List.map_cons, i1], y, _, rfl, r2, i2⟩
          rw [List.map_cons, vw_key (F := F) (H := F) (.inl r1) z1]
theorem merge_rep {F : Hp} : ∀ {more : List (Key × V)} {em : List (Key × D)} {kvs : List (Key × V)} {es : List (Key × D)}, more.map (·.1) = em.map (·.1) → Reps g F (em.map (·.2)) (more.map (·.2)) → kvs.map (·.1) = es.map (·.1) → Reps g F (es.map (·.2)) (kvs.map (·.2)) →
    (mergeK kvs more).map (·.1) = (mergeD es em).map (·.1) ∧ Reps g F ((mergeD es em).map (·.2)) ((mergeK kvs more).map (·.2))
  | [], [], _, _, _, _, h3, h4 => ⟨h3, h4⟩
  | [], _ :: _, _, _, h, _, _, _ => by cases h
  | _ :: _, [], _, _, h, _, _, _ => by cases h
  | (a, x) :: more, (b, y) :: em, kvs, es, h1, h2, h3, h4 => by
    obtain ⟨rfl, h1'⟩ : a = b ∧ more.map (·.1) = em.map (·.1) := by simpa using h1
    obtain ⟨u, ur, r, s, q⟩ := h2
    have r' : x :: more.map (·.2) = u :: ur := r
    cases r'
    obtain ⟨i1, i2⟩ := put_rep (k := a) s h3 h4
    exact merge_rep (kvs := putK kvs a x) (es := putD es a y) h1' q i1 i2
def dispM (mp : PrM) : EM := fun env => (mp env).bind fun ps e => match keyedOf ps with
  | some es => if es.length ≤ 15 then .ok (.t (.K (mergeD [] es))) e else .st
  | none => .st
theorem se_disp {W : WX} {trs : List (TE × TE)} {mp : PrM} (h : SPr g W trs mp) : SE g W (tDisp trs) (dispM mp) := fun c σ env F H Q R P => by
  intro p hp
  have gr : Gr F H F (upd H p (.dK [])) := Gr.tmp R.fh hp
  have R0 := R.grow gr
  have fp : F p = none := none_of R.fh hp
  refine h c σ env F _ _ R0 ?_
  unfold dispM at P
  cases q1 : mp env with
  | st => rw [q1] at P; exact P
  | ex cl fs e1 => rw [q1] at P; exact P
  | ok ps e1 =>
    rw [q1] at P
    have P1 : Post g c W σ env F H Q (match keyedOf ps with | some es => (if es.length ≤ 15 then .ok (.t (.K (mergeD [] es))) e1 else .st) | none => .st) := P
    cases q2 : keyedOf ps with
    | none => rw [q2] at P1; exact P1.elim
    | some es =>
      rw [q2] at P1
      have P2 : Post g c W σ env F H Q (if es.length ≤ 15 then .ok (.t (.K (mergeD [] es))) e1 else .st) := P1
      split at P2
      · rename_i hl
        intro vs F1 H1 R1 s1 k1 k2
        have fre : free σ env p := R.freeN hp
        have at1 : H1 p = some (.dK []) := s1.keep p _ upd_same fre
        have f1 : F1 p = none := s1.tmp p _ upd_same fre fp
        obtain ⟨kvs, rfl, i1, i2⟩ := keyed_ok k1 k2 q2
        obtain ⟨j1, j2⟩ := merge_rep (kvs := []) (es := []) i1 i2 rfl rfl
        refine ⟨at1, kvs, rfl, by rw [keys_len i1]; exact hl, ?_⟩
        have fre1 : free σ e1 p := fre.mono s1.ow
        have nq : ∀ {q : Addr}, q ≠ p → (upd H1 p (.dK (mergeK [] kvs))) q = H1 q := fun n => upd_ne n
        -- the dict's last state
        have hp0 : c.H0 p = none := R.toLv.hnone hp
        have R2 : Rel g c σ e1 F1 (upd H1 p (.dK (mergeK [] kvs))) := by
          have ne : ∀ {i : Nat} {q : Addr}, owns e1 i → At σ i q → q ≠ p := fun {i q} oi ai z => fre1 i oi (z ▸ ai)
          refine ⟨⟨fun a o e => ?_, R1.f0, fun a o e b => ?_, fun a o e => ?_, R1.nw⟩, R1.len, R1.dat, fun i w e => ?_, fun i w e => ?_, R1.inj⟩
          · have : a ≠ p := fun z => by rw [z, f1] at e; cases e
            rw [nq this]; exact R1.fh _ _ e
          · have : a ≠ p := fun z => by rw [z, hp0] at e; cases e
            rw [nq this]; exact R1.h0 _ _ e b
          · by_cases z : a = p
            · exact ⟨_, by rw [z]; exact upd_same⟩
            · rw [nq z]; exact R1.dm _ _ e
          · obtain ⟨q, o, h1, h2, h3, h4, h5⟩ := R1.own i w e
            exact ⟨q, o, h1, h2, h3, by rw [nq (ne ⟨_, e, rfl⟩ h1)]; exact h4, h5⟩
          · obtain ⟨q, o, h1, h2, h3, h4, h5⟩ := R1.brf i w e
            exact ⟨q, o, h1, h2, h3, by rw [nq (ne ⟨_, e, rfl⟩ h1)]; exact h4, h5⟩
        have s2 : Stp σ env F H e1 F1 (upd H1 p (.dK (mergeK [] kvs))) := by
          have npH : ∀ {a : Addr} {o : HO}, H a = some o → a ≠ p := fun {a o} e z => by rw [z, hp] at e; cases e
          have up : ∀ {a : Addr} {o : HO}, H a = some o → (upd H p (.dK [])) a = some o := fun {a o} e => by rw [upd_ne (npH e)]; exact e
          exact ⟨s1.ex, fun a o e f => by rw [nq (npH e)]; exact s1.keep a o (up e) f, fun a o e f n => s1.tmp a o (up e) f n, s1.ow, fun a o e => by
            rw [nq (npH e)]; exact s1.dm a o (up e)⟩
        refine P2 (.ref p) F1 _ R2 s2 ⟨p, _, rfl, f1, hp0, fre1, upd_same, j1, j2⟩ fun q e => ?_
        cases e; exact hp
      · exact P2.elim
end
/-! ### rules -/
structure YP (X : Cx) (g : G) (W : WX) (pos : Pos) (keys : List (Option Expr)) (values : List Expr) (trs : List (TE × TE)) (m : PrM) : Prop where
  p : PPs X pos keys values trs
  s : SPr g W trs m
section
variable {X : Cx} {g : G} {W : WX} {o e f k v : Expr} {es : List Expr} {to te tf tk tv : TE} {tA : TA} {m m1 m2 m3 : EM} {mf : FM} {mp : PrM} {pos apos cpos pos' : Pos} {keys : List (Option Expr)} {values : List Expr} {trs : List (TE × TE)}
theorem ypn : YP X g W pos [] [] [] nilPr := ⟨pps_nil, spr_nil⟩
theorem ypc (h1 : YE X g W k tk m1) (h2 : YE X g W v tv m2) (h3 : YP X g W pos keys values trs mp) : YP X g W pos (some k :: keys) (v :: values) ((tk, tv) :: trs) (consPr m1 m2 mp) := ⟨pps_cons h1.p h2.p h3.p, spr_cons h1.s h2.s h3.s⟩
theorem ydisp (h : YP X g W pos keys values trs mp) (hall : keys.all (·.isSome) = true := by rfl) (hl : keys.length = values.length := by rfl) (h0 : keys ≠ [] := by exact List.cons_ne_nil _ _) (h15 : keys.length ≤ 15 := by decide) : YE X g W (.Dict keys values pos) (tDisp trs) (dispM mp) := ⟨pe_disp h.p hall hl h0 h15, se_disp h.s⟩
theorem ynewK : YE X g W (.Dict [] [] pos) tDNewK newK := ⟨pe_dnewK, se_newK⟩
theorem ynewT : YE X g W (.Dict [] [] pos) tDNewT newT := ⟨pe_dnewT, se_newT⟩
theorem ydget (hu : X.A.units + 1 < cLine) (h1 : YE X g W o to m1) (h2 : YE X g W e te m2) (hs : NoSl e := by exact fun _ _ => rfl) : YE X g W (.Subscript o e pos) (tDGet to te) (dgetM m1 m2) := ⟨pe_dget hu h1.p h2.p hs, se_dget h1.s h2.s⟩
theorem ydget2 (hu : X.A.units + 1 < cLine) (h1 : YE X g W o to m1) (h2 : YE X g W e te m2) (h3 : YE X g W f tf m3) (mm : M2 X o "get" apos e f cpos := by exact ⟨rfl, rfl, rfl, rfl⟩) : YE X g W (.Call (.Attribute o "get" apos) [e, f] [] cpos) (tDGet2 to te tf) (get2M m1 m2 m3) :=
  ⟨pe_dget2 hu h1.p h2.p h3.p mm, se_get2 h1.s h2.s h3.s⟩
/-- d[k] = v, d in the slot i -/
theorem zdput (i : Nat) {x : Str} {px : Pos} (hu : X.A.units + 1 < cLine) (h1 : YE X g W v tv m1) (h2 : YE X g W e te m2) (hN : X.N[i]? = some x := by rfl) (hv : Vis X.env.scope x := by first | exact Or.inl rfl | exact Or.inr (Or.inl rfl) | exact Or.inr (Or.inr rfl)) (hd : (x == ("__debug__" : Str)) = false := by decide)
    (hcd : (x == ("__classdict__" : Str)) = false := by decide) (hs : swapsWith v (some (.Subscript (.Name x px) e pos')) pos.line X.env = pure false := by rfl) : YS X g W (.Assign [.Subscript (.Name x px) e pos'] v pos) (sDPut (tVar i) te tv) (dputM i m2 m1) :=
  ⟨ps_dput hu (pe_var hN hv hd hcd) h2.p h1.p hs, ss_dput h1.s h2.s⟩
/-- xs[i] = v as a target -/
theorem gix (i : Nat) {x : Str} {px : Pos} (h2 : YE X g W0 e te m2) (hN : X.N[i]? = some x := by rfl) (hv : Vis X.env.scope x := by first | exact Or.inl rfl | exact Or.inr (Or.inl rfl) | exact Or.inr (Or.inr rfl)) (hd : (x == ("__debug__" : Str)) = false := by decide)
    (hcd : (x == ("__classdict__" : Str)) = false := by decide)
    (ha : ∀ u, assign (.Subscript (.Name x px) e pos) X.env u = (do
      let ov ← holding [u] (eval (.Name x px) X.env)
      let iv ← holding [u, ov] (eval e X.env)
      standAt pos
      holding [u, ov, iv] (setItem ov iv u)
      release [u, ov, iv] []) := by exact fun _ => rfl) : YG X g (.Subscript (.Name x px) e pos) (gSub (tVar i) te rSetL) (gIx i m2) := ⟨pg_sub (pe_var hN hv hd hcd) h2.p set_list ha, sg_ix h2.s⟩
/-- xs.append(e), xs in the slot i -/
theorem yapp (i : Nat) {x : Str} {px : Pos} (hK : X.K = g.K) (ha : YF X g W [e] tA mf) (hN : X.N[i]? = some x := by rfl) (hv : Vis X.env.scope x := by first | exact Or.inl rfl | exact Or.inr (Or.inl rfl) | exact Or.inr (Or.inr rfl)) (hd : (x == ("__debug__" : Str)) = false := by decide)
    (hcd : (x == ("__classdict__" : Str)) = false := by decide) (hbase : attributeBase (.Name x px) "append" X.env (eval (.Name x px) X.env) = eval (.Name x px) X.env := by rfl)
    (hfew : ((backTo cpos (starEach [e] X.env)).all (fun x => !x.1) && (backToKw cpos (keywordEach [] X.env)).all (fun x => x.1.isSome) && decide (([e] : List Expr).length + ([] : List Keyword).length + (if ([] : List Keyword).isEmpty then 0 else 1) < 30)) = true := by rfl)
    (hline : (apos.endLine == cpos.line) = true := by rfl) (hs : starEach [e] X.env = (false, eval e X.env) :: starEach [] X.env := by rfl) (hp : (backTo cpos (starEach [] X.env)).any (·.1) = false := by rfl) :
    YE X g W (.Call (.Attribute (.Name x px) "append" apos) [e] [] cpos) (tBM X.K "list" rAppend (tVar i) tA) (mutM i appendL mf) :=
  ⟨pe_bm PySem.F.plainAttrs_list PySem.F.slot_list_append PySem.F.type_list_append mt_append (pe_var hN hv hd hcd) ha.p hbase hfew hline hs hp, by rw [hK]; exact se_mut pm_append ha.s⟩
end
end PL
namespace PL
open PySem PySem.Spec PyProof.Rows L2
/-! ### what the head looks at -/
def frP (n : Nat) (g : Addr → Option Obj) : PySem.W.Frag := He.frG g (He.asD g n ++ [PySem.cStatics])
def obsP (n : Nat) (fa : List He.Fa) (fn : List He.DefD) (ex : PySem.W.Frag → Bool) (g : Addr → Option Obj) : He.AlD × Bool := (He.obsD fa fn (frP n g), ex (frP n g))
structure Says (fa : List He.Fa) (fn : List He.DefD) (ex : PySem.W.Frag → Bool) (K : PySem.W.Frag) : Prop where
  d : He.SaysD fa fn K
  ex : ex K = true
def hookP (n : Nat) (fa : List He.Fa) (fn : List He.DefD) (ex : PySem.W.Frag → Bool) : PySem.W.Hook where
  α := He.AlD × Bool
  obs := fun s => obsP n fa fn ex s.heap.get?
  val := fun _ => (He.valD fn, true)
  says := fun _ h => ∃ K : PySem.W.Frag, K.In h ∧ Says fa fn ex K
  of := fun _ _ e => ⟨frP n _, He.frG_in, congrArg (fun z : He.AlD × Bool => z.1) e, congrArg (fun z : He.AlD × Bool => z.2) e⟩
  keeps := fun _ _ _ ⟨K, hK, c⟩ k => ⟨K, PySem.W.Frag.In.keeps hK k, c⟩
theorem obsP_eq {n : Nat} {fa : List He.Fa} {fn : List He.DefD} {ex : PySem.W.Frag → Bool} {g : Addr → Option Obj} {s : Shared} (h : ∀ a, g a = s.heap.get? a) : obsP n fa fn ex g = (hookP n fa fn ex).obs s := by
  obtain rfl : g = s.heap.get? := funext h
  rfl
theorem bands {a b : Bool} (h : (a && b) = true) : a = true ∧ b = true := Bool.and_eq_true_iff.mp h
/-! ### an exception class whose instances are raised -/
def oexB (K : PySem.W.Frag) (C : Addr) : Bool := (match K.lookup C with
  | some ⟨.type "type", _, .cls cd, sl⟩ => (match cd.mro, sl.toList with
    | .ref C' :: bm, [_, _, _, _, some (.builtin n), _] => C' == C && (n == "ValueError.__new__" && (!cd.hasDel && (cd.hasDict && PySem.HandSPX.refsVE bm)))
    | _, _ => false)
  | _ => false) && (decide (PySem.W.findIn K (.ref C) "__setattr__" = some (some (.builtin "object.__setattr__"))) && (decide (PySem.W.subIn K (.ref C) (.type "BaseException") = some true) && (decide (PySem.W.typeIn K (.ref C) = some (.type "type")) && PySem.W.keepIn K (.ref C))))
theorem oexB_ok {K : PySem.W.Frag} {C : Addr} (h : oexB K C = true) : OexC K C := by
  obtain ⟨h1, h⟩ := bands h
  obtain ⟨h2, h⟩ := bands h
  obtain ⟨h3, h⟩ := bands h
  obtain ⟨h4, h5⟩ := bands h
  refine ⟨?_, of_decide_eq_true h2, of_decide_eq_true h3, of_decide_eq_true h4, h5⟩
  split at h1
  · rename_i dd cd sl look
    split at h1
    · rename_i C' bm k0 k1 k2 k3 n k5 mro slots
      obtain ⟨q1, q⟩ := bands h1
      obtain ⟨q2, q⟩ := bands q
      obtain ⟨q3, q⟩ := bands q
      obtain ⟨q4, q5⟩ := bands q
      obtain rfl := beq_iff_eq.mp q1
      obtain rfl := beq_iff_eq.mp q2
      obtain ⟨nm, bs, mr, ns, qn, hd, sn, sub, ab, col, dl⟩ := cd
      dsimp only at mro q3 q4
      subst mro q4
      have q3' : dl = false := by simpa using q3
      subst q3'
      have es : sl = #[k0, k1, k2, k3, some (.builtin "ValueError.__new__"), k5] := by
        obtain ⟨l⟩ := sl
        simp only at slots
        rw [slots]
      subst es
      exact ⟨nm, qn, ns, bs, bm, sn, sub, ab, col, dd, k0, k1, k2, k3, k5, look, q5⟩
    · cases h1
  · cases h1
/-- .. its __init__, its field -/
def rcB (K : PySem.W.Frag) (x f : Str) : Bool := oexB K (He.ga K x) && (decide (PySem.W.findIn K (.ref (He.ga K x)) "__init__" = some (some (.ref (He.ma K (He.ga K x) "__init__")))) && (decide (PySem.W.typeIn K (.ref (He.ma K (He.ga K x) "__init__")) = some (.type "function")) &&
  (decide (PySem.W.findIn K (.ref (He.ga K x)) f = some none))))
/-- its base, whose __init__ is called -/
def baB (K : PySem.W.Frag) (x : Str) : Bool := PySem.W.readsIn K (He.ga K x) (.type "type") && (decide (PySem.W.specialIn K (.ref (He.ga K x)) "__getattribute__" = some (some (.builtin "type.__getattribute__"))) &&
  (match PySem.W.findCls K (.ref (He.ga K x)) (.type "type") "__init__" with
    | some (.val (.builtin n)) => n == "ValueError.__init__"
    | _ => false))
theorem baB_ok {K : PySem.W.Frag} {x : Str} (h : baB K x = true) : ClX.CRead K (He.ga K x) (.type "type") ∧ PySem.W.findCls K (.ref (He.ga K x)) (.type "type") "__init__" = some (.val (.builtin "ValueError.__init__")) := by
  obtain ⟨h1, h⟩ := bands h
  obtain ⟨h2, h3⟩ := bands h
  refine ⟨⟨h1, of_decide_eq_true h2⟩, ?_⟩
  split at h3
  · rename_i n e
    rw [e, beq_iff_eq.mp h3]
  · cases h3
def excB (K : PySem.W.Frag) (C : Addr) : Bool := decide (PySem.W.findIn K (.ref C) "__getattribute__" = some (some (.builtin "BaseException.__getattribute__"))) && (decide (PySem.W.findIn K (.ref C) "__getattr__" = some none) && (decide (PySem.W.subIn K (.ref C) (.type "BaseException") = some true) &&
  (PySem.W.hasDictIn K C && (decide (PySem.W.findIn K (.ref C) "__class__" = some (some (.builtin "object.__class__"))) && (decide (PySem.W.specialIn K (.builtin "object.__class__") "__get__" = some (some (.builtin "getset_descriptor.__get__"))) &&
    (decide (PySem.W.takesIn K (.builtin "object.__class__") = some true) && decide (PySem.W.mroIn K C (.type "object") = some true)))))))
theorem excB_ok {K : PySem.W.Frag} {C : Addr} (h : excB K C = true) : ExcC K C ∧ XfC K C := by
  obtain ⟨h1, h⟩ := bands h
  obtain ⟨h2, h⟩ := bands h
  obtain ⟨h3, h⟩ := bands h
  obtain ⟨h4, h⟩ := bands h
  obtain ⟨h5, h⟩ := bands h
  obtain ⟨h6, h⟩ := bands h
  obtain ⟨h7, h8⟩ := bands h
  exact ⟨⟨of_decide_eq_true h1, of_decide_eq_true h2, of_decide_eq_true h3, h4, of_decide_eq_true h5, of_decide_eq_true h6, of_decide_eq_true h7, of_decide_eq_true h8⟩, ⟨of_decide_eq_true h1, of_decide_eq_true h2, of_decide_eq_true h3, h4⟩⟩
/-! ### the exception classes of a program, by a row of names -/
def gOf (xs : List Str) (K : PySem.W.Frag) : G := ⟨K, fun i => He.ga K (xs.getD i ""), fun _ => none⟩
/-- all that is asked of the classes xs: what they catch of one another, isinstance's answers -/
def xtB (xs : List Str) (K : PySem.W.Frag) : Bool := xs.all fun x => excB K (He.ga K x)
/-- is the class i, caught as j -/
def subs (par : List Nat) : Nat → Nat → Nat → Bool
  | 0, _, _ => false
  | n + 1, i, j => i == j || (match par[i]? with
    | some p => if p == i then false else subs par n p j
    | none => false)
/-- answers for the class y (an own one) -/
def ansOwn (xs : List Str) (par : List Nat) (j : Nat) (i : Nat) : Option Bool := if i < xs.length then some (subs par 20 i j) else none
def ansB (xs : List Str) (par : List Nat) (K : PySem.W.Frag) : Bool := (List.range xs.length).all fun i => (List.range xs.length).all fun j => decide (PySem.W.exmOne K (.ref (He.ga K (xs.getD i ""))) (.ref (He.ga K (xs.getD j ""))) = some (subs par 20 i j)) &&
  decide (PySem.W.kitOne K (.ref (He.ga K (xs.getD i ""))) (.ref (He.ga K (xs.getD j ""))) = some (subs par 20 i j))
theorem ansB_ok {xs : List Str} {par : List Nat} {K : PySem.W.Frag} (h : ansB xs par K = true) {j : Nat} (hj : j < xs.length) : ∀ i b, ansOwn xs par j i = some b →
    PySem.W.exmOne K (.ref ((gOf xs K).cls i)) (.ref (He.ga K (xs.getD j ""))) = some b ∧ PySem.W.kitOne K (.ref ((gOf xs K).cls i)) (.ref (He.ga K (xs.getD j ""))) = some b := fun i b e => by
  unfold ansOwn at e
  split at e
  · rename_i hi
    cases e
    have h1 := List.all_eq_true.mp (List.all_eq_true.mp h i (List.mem_range.mpr hi)) j (List.mem_range.mpr hj)
    obtain ⟨a, b⟩ := bands h1
    exact ⟨of_decide_eq_true a, of_decide_eq_true b⟩
  · cases e
/-- the fields of exceptions -/
def okF (xs : List Str) (fs : List Str) (f : Str) (i : Nat) : Bool := decide (i < xs.length) && decide (fs[i]? = some f)
def fldB (xs fs : List Str) (K : PySem.W.Frag) : Bool := (List.range xs.length).all fun i => decide (PySem.W.findIn K (.ref (He.ga K (xs.getD i ""))) (fs.getD i "") = some none)
theorem getD_mem {xs : List Str} {i : Nat} (h : i < xs.length) : xs.getD i "" ∈ xs := by
  rw [List.getD_eq_getElem?_getD, List.getElem?_eq_getElem h]
  exact List.getElem_mem h
theorem okF_ok {xs fs : List Str} {K : PySem.W.Frag} (h1 : xtB xs K = true) (h2 : fldB xs fs K = true) {f : Str} : ∀ i, okF xs fs f i = true → XfC (gOf xs K).K ((gOf xs K).cls i) ∧ PySem.W.findIn (gOf xs K).K (.ref ((gOf xs K).cls i)) f = some none := fun i e => by
  obtain ⟨a, b⟩ := bands e
  have hi := of_decide_eq_true a
  have hf := of_decide_eq_true b
  refine ⟨(excB_ok (List.all_eq_true.mp h1 _ (getD_mem hi))).2, ?_⟩
  have := of_decide_eq_true (List.all_eq_true.mp h2 i (List.mem_range.mpr hi))
  rw [show fs.getD i "" = f by rw [List.getD_eq_getElem?_getD, hf]; rfl] at this
  exact this
theorem isx_ok {xs : List Str} {par : List Nat} {K : PySem.W.Frag} (h1 : xtB xs K = true) (h : ansB xs par K = true) {j : Nat} (hj : j < xs.length) : ∀ i b, ansOwn xs par j i = some b →
    ExcC (gOf xs K).K ((gOf xs K).cls i) ∧ PySem.W.kitOne (gOf xs K).K (.ref ((gOf xs K).cls i)) (.ref (He.ga K (xs.getD j ""))) = some b := fun i b e => by
  have hi : i < xs.length := by
    unfold ansOwn at e
    split at e
    · assumption
    · cases e
  exact ⟨(excB_ok (List.all_eq_true.mp h1 _ (getD_mem hi))).1, (ansB_ok h hj i b e).2⟩
/-! ### a def, by its body -/
theorem spD_len {g : G} {np n : Nat} {b : SM} {vs : List V} {H : Hp} {Q : VK} {E : XK} (h : spD g (defM np n b) vs H Q E) : vs.length = np := by
  obtain ⟨F, P, args, _, aa, _, post⟩ := h
  have la := aa.length
  unfold defM at post
  by_cases z : args.length = np
  · omega
  · rw [if_neg z] at post; exact post.elim
/-- where a def's body runs -/
abbrev cx (P : Program) (w : World) (K : PySem.W.Frag) (mg : Str → Option Value) (base : Heap) (N : List Str) (qual : Str) (sc : Scope) (fa : Addr) (cdv : Value) (A : Around) (fr : List Env) (s : Shared) (H : Hp) (E : XK) : Cx := cxOf (L2.CX P w) P w K mg base N qual sc fa cdv A fr s H E
abbrev wE (E : XK) : WX := fun cls d _ H => E cls d H
theorem def_ok {P : Program} {w : World} {K : PySem.W.Frag} {mg : Str → Option Value} {base : Heap} {g : G} {nm qn : Str} {par : Arguments} {code : List Stmt} {sco : Scope} {dvs : List V} {f : Addr} {fd : FuncData} {N ps : List Str} {k : Nat} {m : SM} (F : FunD K nm qn par code sco dvs [] f fd) (FS : FnScope N ps sco)
    (hb : ∀ (cdv : Value) (A : Around) (fr : List Env) (s : Shared) (H : Hp) (E : XK), Pl (cx P w K mg base N qn sco f cdv A fr s H E) (wE E) k → PassesOwn (model P w) (cx P w K mg base N qn sco f cdv A fr s H E).A (cx P w K mg base N qn sco f cdv A fr s H E).env (cx P w K mg base N qn sco f cdv A fr s H E).xe →
      ∃ ts, YSs (cx P w K mg base N qn sco f cdv A fr s H E) g (wE E) code ts m) (hl : ps.length ≤ N.length) : FnG P w K mg base (L2.CX P w) (k + 1) f fd ps (spD g (defM ps.length N.length m)) :=
  FunD.okG F FS (fun vs H Q E h => spD_len h) fun cdv A fr s H vs Q E ng hr h => by
    obtain ⟨ts, y⟩ := hb cdv A fr s H E ⟨ng, hr, takes_of rfl rfl rfl rfl⟩ (passes_of rfl)
    exact ⟨ts, y.p, body_ok rfl (spD_len h) hl y.s h⟩
/-- the law's promise, from its pure function -/
theorem law_sp {xs : List Str} {K : PySem.W.Frag} {f : DFun} {ns : List Int} {H : Hp} {a : Addr} (h : f [.d (.scr ns)] = .ok (.v (.bl true)) [.d (.scr ns)]) (hS : SqL K H a (ns.map V.int)) : spD (gOf xs K) f [.ref a] H (fun v _ => v = .bl true) fun _ _ _ => False := by
  refine ⟨H, fun _ => 0, [.d (.scr ns)], Ex.refl H, ⟨⟨a, rfl, hS⟩, trivial⟩, fun i j s t hi hj hs ht _ => ?_, ?_⟩
  · cases i with
    | zero => cases hi; cases hs
    | succ i => simp at hi
  · rw [h]
    exact fun v F' H' _ _ rk => rk
end PL
namespace PL
open PySem PySem.Spec PyProof.Rows L2
theorem Pl.blk {X : Cx} {W : WX} {k : Nat} (o : Pl X W k) {s : Shared} {H : Hp} {sc : Scope} {env : Env} {fp : List Addr} : Pl (X.blk s H sc env fp) W0 k := ⟨o.ng, o.rm, takes0⟩
theorem Pl.tr {X : Cx} {W W' : WX} {k : Nat} (o : Pl X W k) {pn : List (Addr × Obj)} {xe : Value → Shared → Prop} (tk : Takes (X.tr pn xe) W') : Pl (X.tr pn xe) W' k := ⟨o.ng, o.rm, tk⟩
theorem nmx {X : Cx} {x : Str} {c : Value} (h : X.mg x = some c) (hg : Gl X x := by rfl) (hd : (x == ("__debug__" : Str)) = false := by decide) : Names X x c := ⟨hg, hd, .inl h⟩
/-! ### one reading or another -/
def rOr (r r' : R2) : R2 := fun x y H Q => r x y H Q ∨ r' x y H Q
def fOr (f f' : D → D → Option Tv) : D → D → Option Tv := fun d e => match f d e with
  | some t => some t
  | none => f' d e
theorem opOr {X : Cx} {op : Value → Value → Sem Value} {r r' : R2} (h : OpR X op r) (h' : OpR X op r') : OpR X op (rOr r r') := fun pins s σ H x y v u Q I rx ry q => q.elim (h pins s σ H x y v u Q I rx ry) (h' pins s σ H x y v u Q I rx ry)
theorem pOr {g : G} {r r' : R2} {f f' : D → D → Option Tv} (p : P2 g r f) (p' : P2 g r' f') : P2 g (rOr r r') (fOr f f') := fun F H d e x y t Q fh h1 h2 q k => by
  unfold fOr at q
  split at q
  · rename_i t' e'
    cases q
    exact .inl (p F H d e x y t Q fh h1 h2 e' k)
  · exact .inr (p' F H d e x y t Q fh h1 h2 q k)
def strCat : D → D → Option Tv
  | .str a, .str b => if a.length + b.length ≤ 100000 then some (.v (.str (a ++ b))) else none
  | _, _ => none
theorem p_strCat {g : G} : P2 g (fun x y H Q => ∃ i j, x = .str i ∧ y = .str j ∧ i.length + j.length ≤ sizeLine ∧ Q (.str (i ++ j)) H) strCat := fun F H d e x y t Q fh h1 h2 q k => by
  unfold strCat at q
  split at q
  · split at q
    · rename_i c
      cases q
      exact ⟨_, _, vw_str h1, vw_str h2, Nat.le_trans c (by decide), k _ F H (Gr.refl fh) (rfl : V.str _ = .str _)⟩
    · cases q
  · cases q
def addA := fOr addI (fOr catL strCat)
def mulA := fOr mulI repL
section
variable {X : Cx} {g : G}
theorem o_add : OpR X (binaryOp .Add) (rOr (rI0 fun i j => .int (i + j)) (rOr rCat fun x y H Q => ∃ i j, x = .str i ∧ y = .str j ∧ i.length + j.length ≤ sizeLine ∧ Q (.str (i ++ j)) H)) := opOr op_add (opOr op_cat op_add_str)
theorem p_addA : P2 g (rOr (rI0 fun i j => .int (i + j)) (rOr rCat fun x y H Q => ∃ i j, x = .str i ∧ y = .str j ∧ i.length + j.length ≤ sizeLine ∧ Q (.str (i ++ j)) H)) addA := pOr p_add (pOr p_cat p_strCat)
theorem o_mul : OpR X (binaryOp .Mult) (rOr (rI CMul fun i j => .int (i * j)) rRep) := opOr op_mul op_rep
theorem p_mulA : P2 g (rOr (rI CMul fun i j => .int (i * j)) rRep) mulA := pOr p_mul p_rep
end
/-! ### tests of more than one part -/
structure YW (X : Cx) (g : G) (W : WX) (e : Expr) (tt : TT) (m : TM) : Prop where
  p : PW X e tt
  s : STt g W tt m
section
variable {X : Cx} {g : G} {W : WX} {a b : Expr} {rest es : List Expr} {tA tB : TT} {m m1 m2 : TM} {pos : Pos} {tg : TG} {gm : GM} {tgs : TGs} {ms : GMs} {vs : List Nat}
theorem yw1and (h : YT X g W a tA m) : YW X g W (.BoolOp .And [a] pos) tA m := ⟨pw_and1 h.p, h.s⟩
theorem yw1or (h : YT X g W a tA m) : YW X g W (.BoolOp .Or [a] pos) tA m := ⟨pw_or1 h.p, h.s⟩
theorem ywand (h1 : YT X g W a tA m1) (h2 : YW X g W (.BoolOp .And (b :: rest) pos) tB m2) : YW X g W (.BoolOp .And (a :: b :: rest) pos) (tAnd tA tB) (andT m1 m2) := ⟨pw_and h1.p h2.p, st_and h1.s h2.s⟩
theorem ywor (h1 : YT X g W a tA m1) (h2 : YW X g W (.BoolOp .Or (b :: rest) pos) tB m2) : YW X g W (.BoolOp .Or (a :: b :: rest) pos) (tOr tA tB) (orT m1 m2) := ⟨pw_or h1.p h2.p, st_or h1.s h2.s⟩
theorem ytw (h : YW X g W a tA m) : YT X g W a tA m := ⟨h.p.pt, h.s⟩
/-! ### targets of several names -/
theorem gsn : YGs X g [] gNil gsNil := ⟨pgs_nil, sgs_nil⟩
theorem gsc (h1 : YG X g a tg gm) (h2 : YGs X g es tgs ms) (hs : (assignEach (a :: es) X.env).map (·.2) = assign a X.env :: (assignEach es X.env).map (·.2) := by rfl) : YGs X g (a :: es) (gCons tg tgs) (gsCons gm ms) := ⟨pgs_cons h1.p h2.p hs, sgs_cons h1.s h2.s⟩
theorem gt {k n : Nat} (hc : X.calm = true) (hK : X.K = g.K) (h : YGs X g es tgs ms) (hn : (assignEach es X.env).length = n := by rfl) (hst : (assignEach es X.env).findIdx? (·.1) = none := by rfl) : YG X g (.Tuple es k pos) (gTup X.K n tgs) (gT n ms) := ⟨pg_tup hc h.p hn hst, by rw [hK]; exact sg_tup h.s⟩
theorem gvsn : YVs X g vs [] gNil gsNil := ⟨pgs_nil, sgvs_nil⟩
theorem gvsc (h1 : YV X g vs a tg gm) (h2 : YVs X g vs es tgs ms) (hs : (assignEach (a :: es) X.env).map (·.2) = assign a X.env :: (assignEach es X.env).map (·.2) := by rfl) : YVs X g vs (a :: es) (gCons tg tgs) (gsCons gm ms) := ⟨pgs_cons h1.p h2.p hs, sgvs_cons h1.s h2.s⟩
theorem gvt {k n : Nat} (hc : X.calm = true) (hK : X.K = g.K) (h : YVs X g vs es tgs ms) (hn : (assignEach es X.env).length = n := by rfl) (hst : (assignEach es X.env).findIdx? (·.1) = none := by rfl) : YV X g vs (.Tuple es k pos) (gTup X.K n tgs) (gT n ms) := ⟨pg_tup hc h.p hn hst, by rw [hK]; exact sgv_tup h.s⟩
end
/-! ### name = [..] on one line -/
section
variable {X : Cx} {g : G} {W : WX} {tg elt it : Expr} {ifs : List Expr} {te : TE} {tt : TT} {ti : TI} {tG : TG} {mf : EM} {mt : TM} {mi : FM} {gm : GM} {pos spos py : Pos} {scope : Scope}
theorem zsetLc (i : Nat) {y : Str} (own : List (Str × Nat)) (hc : X.calm = true) (hi : YI X g W tg it ti mi) (hg : ∀ (s : Shared) (H : Hp) (C : Addr) (cl : List (Str × Addr)) (fp : List Addr), YV (X.blk s H scope (compEnvC scope cl C X.env) fp) g (own.map (·.2)) tg tG gm)
    (ht : ∀ (s : Shared) (H : Hp) (C : Addr) (cl : List (Str × Addr)) (fp : List Addr), YTs (X.blk s H scope (compEnvC scope cl C X.env) fp) g W0 ifs tt mt) (he : ∀ (s : Shared) (H : Hp) (C : Addr) (cl : List (Str × Addr)) (fp : List Addr), YE (X.blk s H scope (compEnvC scope cl C X.env) fp) g W0 elt te mf)
    (hy : X.N[i]? = some y := by rfl) (hyl : X.env.scope.names.lookup y = some .local := by rfl) (hsw : swapsWith (.ListComp elt [⟨tg, it, ifs, 0⟩] scope pos) (some (.Name y py)) spos.line X.env = pure true := by exact sw_true rfl rfl rfl rfl)
    (hN : X.N.Nodup := by first | assumption | exact of_decide_eq_true (by kernel_rfl)) (ok : BlkOk X.N X.env.scope scope own := by exact blkOk_by (by kernel_rfl)) (hs : ∀ x, foldedSetIterable it X.env x = pure x := by intro _; rfl) :
    YS X g W (.Assign [.Name y py] (.ListComp elt [⟨tg, it, ifs, 0⟩] scope pos) spos) (tAsg (tLc ti tG tt te (own.map (·.2))) (gName i)) (asgF i (lcM mi gm (own.map (·.2)) mt mf)) :=
  ⟨ps_setLc hc hN hy hyl hsw hi.p ok (fun s H C cl fp => (hg s H C cl fp).p) (fun s H C cl fp => (ht s H C cl fp).p) (fun s H C cl fp => (he s H C cl fp).p) hs, ss_asgF (ylc own hc hi hg ht he hN ok hs (pos := pos)).s⟩
theorem zownLc (i : Nat) {y : Str} (own : List (Str × Nat)) (hc : X.calm = true) (hi : YI X g W tg it ti mi) (hg : ∀ (s : Shared) (H : Hp) (C : Addr) (cl : List (Str × Addr)) (fp : List Addr), YV (X.blk s H scope (compEnvC scope cl C X.env) fp) g (own.map (·.2)) tg tG gm)
    (ht : ∀ (s : Shared) (H : Hp) (C : Addr) (cl : List (Str × Addr)) (fp : List Addr), YTs (X.blk s H scope (compEnvC scope cl C X.env) fp) g W0 ifs tt mt) (he : ∀ (s : Shared) (H : Hp) (C : Addr) (cl : List (Str × Addr)) (fp : List Addr), YE (X.blk s H scope (compEnvC scope cl C X.env) fp) g W0 elt te mf)
    (hy : X.N[i]? = some y := by rfl) (hyl : X.env.scope.names.lookup y = some .local := by rfl) (hsw : swapsWith (.ListComp elt [⟨tg, it, ifs, 0⟩] scope pos) (some (.Name y py)) spos.line X.env = pure true := by exact sw_true rfl rfl rfl rfl)
    (hN : X.N.Nodup := by first | assumption | exact of_decide_eq_true (by kernel_rfl)) (ok : BlkOk X.N X.env.scope scope own := by exact blkOk_by (by kernel_rfl)) (hs : ∀ x, foldedSetIterable it X.env x = pure x := by intro _; rfl) :
    YS X g W (.Assign [.Name y py] (.ListComp elt [⟨tg, it, ifs, 0⟩] scope pos) spos) (tAsg (tLc ti tG tt te (own.map (·.2))) (gName i)) (asgO i (lcM mi gm (own.map (·.2)) mt mf)) :=
  ⟨ps_setLc hc hN hy hyl hsw hi.p ok (fun s H C cl fp => (hg s H C cl fp).p) (fun s H C cl fp => (ht s H C cl fp).p) (fun s H C cl fp => (he s H C cl fp).p) hs, ss_asgO (ylc own hc hi hg ht he hN ok hs (pos := pos)).s⟩
end
end PL
namespace PL
namespace K46
open PySem PySem.Spec PyProof.Rows L2
def top (i : Nat) : Stmt := PySem.Challenge.pw_cupcap_k46_diagrams_counted.main.body.getD i (.Pass ⟨0, 0, 0, 0⟩)
def xs : List Str := ["DiagramError", "InvalidColumns", "InvalidNumber"]
def par : List Nat := [0, 0, 0]
def flds : List Str := ["", "value", "value"]
structure Nm (K : PySem.W.Frag) (mg : Str → Option Value) : Prop where
  m_abs : mg "abs" = none
  m_bool : mg "bool" = none
  m_int : mg "int" = none
  m_isinstance : mg "isinstance" = none
  m_len : mg "len" = none
  m_max : mg "max" = none
  m_min : mg "min" = none
  m_range : mg "range" = none
  m_repr : mg "repr" = none
  m_sum : mg "sum" = none
  c_MAX_COLUMNS : ∃ u, mg "MAX_COLUMNS" = some u ∧ RelV (.int 16) u
  x_DiagramError : mg "DiagramError" = some (.ref (He.ga K "DiagramError"))
  x_InvalidColumns : mg "InvalidColumns" = some (.ref (He.ga K "InvalidColumns"))
  x_InvalidNumber : mg "InvalidNumber" = some (.ref (He.ga K "InvalidNumber"))
  g_is_integer : mg "is_integer" = some (.ref (He.ga K "is_integer"))
  g_is_columns : mg "is_columns" = some (.ref (He.ga K "is_columns"))
  g_check_columns : mg "check_columns" = some (.ref (He.ga K "check_columns"))
  g_binomial : mg "binomial" = some (.ref (He.ga K "binomial"))
  g_count_pairings : mg "count_pairings" = some (.ref (He.ga K "count_pairings"))
  g_count_diagrams : mg "count_diagrams" = some (.ref (He.ga K "count_diagrams"))
  g_count_with_through : mg "count_with_through" = some (.ref (He.ga K "count_with_through"))
  g__law_pool : mg "_law_pool" = some (.ref (He.ga K "_law_pool"))
  g__law_take : mg "_law_take" = some (.ref (He.ga K "_law_take"))
  g__law_catalan : mg "_law_catalan" = some (.ref (He.ga K "_law_catalan"))
  g__law_half_count : mg "_law_half_count" = some (.ref (He.ga K "_law_half_count"))
  g__law_result : mg "_law_result" = some (.ref (He.ga K "_law_result"))
  g_law : mg "law" = some (.ref (He.ga K "law"))
  ext : xtB xs K = true
  eans : ansB xs par K = true
  efld : fldB xs flds K = true
abbrev s_is_integer : Stmt := top 6
def b_is_integer : SM := retM (andV (unM (isN1 "int") (varM 0)) (andV (notV (unM (isN1 "bool") (varM 0))) (opM geI (varM 0) (varM 1))))
def f_is_integer : DFun := defM 2 2 b_is_integer
set_option maxHeartbeats 0 in
theorem ok_is_integer {P : Program} {w : World} {K : PySem.W.Frag} {mg : Str → Option Value} {base : Heap} {fa : Addr} {fd : FuncData} (N : Nm K mg) (F : FunD K "is_integer" "is_integer" (defArgs s_is_integer) (defBody s_is_integer) (defScope s_is_integer) [.int 0] [] fa fd) :
    FnG P w K mg base (L2.CX P w) 1 fa fd ["value", "minimum"] (spD (gOf xs K) f_is_integer) :=
  def_ok (N := ["value", "minimum"]) (ps := ["value", "minimum"]) (k := 0) (m := b_is_integer) F ⟨rfl, rfl, rfl, by decide +kernel, rfl, by decide +kernel, by decide +kernel⟩ (fun cdv A fr s H E o hp => ⟨_, (sso (zret (yand (yis (T := "int") rfl N.m_isinstance N.m_int (yv 0)) (yand (ynot (yis (T := "bool") rfl N.m_isinstance N.m_bool (yv 0))) (yand1 (ycmp op_ge p_ge (yv 0) (yv 1)))))))⟩) (by decide)
abbrev s_is_columns : Stmt := top 7
def b_is_columns : SM := retM (andV (callD f_is_integer [] (dR (varM 0) (dR (cM (.int 1)) (nilR)))) (opM leI (varM 0) (cM (.int 16))))
def f_is_columns : DFun := defM 1 1 b_is_columns
set_option maxHeartbeats 0 in
theorem ok_is_columns {P : Program} {w : World} {K : PySem.W.Frag} {mg : Str → Option Value} {base : Heap} {fa : Addr} {fd : FuncData} (N : Nm K mg) (F : FunD K "is_columns" "is_columns" (defArgs s_is_columns) (defBody s_is_columns) (defScope s_is_columns) [] [] fa fd) (c_is_integer : Fc P w K mg base (gOf xs K) 1 "is_integer" f_is_integer []) :
    FnG P w K mg base (L2.CX P w) 2 fa fd ["value"] (spD (gOf xs K) f_is_columns) :=
  def_ok (N := ["value"]) (ps := ["value"]) (k := 1) (m := b_is_columns) F ⟨rfl, rfl, rfl, by decide +kernel, rfl, by decide +kernel, by decide +kernel⟩ (fun cdv A fr s H E o hp => ⟨_, (sso (zret (yand (ycall o c_is_integer (yrd (yv 0) (yrd yi yrn))) (yand1 (ycmp op_le p_le (yv 0) (ygc N.c_MAX_COLUMNS (d := .int 16) rfl))))))⟩) (by decide)
abbrev s_check_columns : Stmt := top 8
def b_check_columns : SM := ifS (notT (testM (callD f_is_columns [] (dR (varM 0) (nilR))))) (raiseM 1 "value" (consF (varM 0) (nilF))) (skipM)
def f_check_columns : DFun := defM 1 1 b_check_columns
set_option maxHeartbeats 0 in
theorem ok_check_columns {P : Program} {w : World} {K : PySem.W.Frag} {mg : Str → Option Value} {base : Heap} {fa : Addr} {fd : FuncData} (N : Nm K mg) (F : FunD K "check_columns" "check_columns" (defArgs s_check_columns) (defBody s_check_columns) (defScope s_check_columns) [] [] fa fd) (c_is_columns : Fc P w K mg base (gOf xs K) 2 "is_columns" f_is_columns []) (r_InvalidColumns : Rc P w K mg base (gOf xs K) "InvalidColumns" "value" 1 (He.ga K "InvalidColumns")) :
    FnG P w K mg base (L2.CX P w) 3 fa fd ["columns"] (spD (gOf xs K) f_check_columns) :=
  def_ok (N := ["columns"]) (ps := ["columns"]) (k := 2) (m := b_check_columns) F ⟨rfl, rfl, rfl, by decide +kernel, rfl, by decide +kernel, by decide +kernel⟩ (fun cdv A fr s H E o hp => ⟨_, (sso (zif (ytnot (ytv (ycall o c_is_columns (yrd (yv 0) yrn)))) (sso (zraise o rfl rfl r_InvalidColumns (yfc (yv 0) yfn))) ssn))⟩) (by decide)
abbrev s_binomial : Stmt := top 10
def b_binomial : SM := seqM (ifS (testM (opM ltI (varM 1) (cM (.int 0)))) (retM (cM (.int 0))) (skipM)) (seqM (asgF 2 (cM (.int 1))) (seqM (forM (rg1 (consA (varM 1) (nilA))) (gN 3) (asgF 2 (opM divI (opM mulA (varM 2) (opM subI (varM 0) (varM 3))) (opM addA (varM 3) (cM (.int 1)))))) (retM (varM 2))))
def f_binomial : DFun := defM 2 4 b_binomial
set_option maxHeartbeats 0 in
theorem ok_binomial {P : Program} {w : World} {K : PySem.W.Frag} {mg : Str → Option Value} {base : Heap} {fa : Addr} {fd : FuncData} (N : Nm K mg) (F : FunD K "binomial" "binomial" (defArgs s_binomial) (defBody s_binomial) (defScope s_binomial) [] [] fa fd) :
    FnG P w K mg base (L2.CX P w) 1 fa fd ["total", "chosen"] (spD (gOf xs K) f_binomial) :=
  def_ok (N := ["total", "chosen", "result", "index"]) (ps := ["total", "chosen"]) (k := 0) (m := b_binomial) F ⟨rfl, rfl, rfl, by decide +kernel, rfl, by decide +kernel, by decide +kernel⟩ (fun cdv A fr s H E o hp => ⟨_, (ssc (zif (ytc op_lt p_lt (yv 1) yi) (sso (zret yi)) ssn) (ssc (zset 2 yi) (ssc (zfor rfl hp (irg1 N.m_range (yac (yv 1) yan)) (gn 3) (sso (zset 2 (yop op_fdiv p_div (yop o_mul p_mulA (yv 2) (yop op_sub p_sub (yv 0) (yv 3))) (yop o_add p_addA (yv 3) yi))))) (sso (zret (yv 2))))))⟩) (by decide)
abbrev s_count_pairings : Stmt := top 11
def b_count_pairings : SM := seqM (asgF 1 (opM divI (varM 0) (cM (.int 2)))) (retM (opM divI (callD f_binomial [] (dR (varM 0) (dR (varM 1) (nilR)))) (opM addA (varM 1) (cM (.int 1)))))
def f_count_pairings : DFun := defM 1 2 b_count_pairings
set_option maxHeartbeats 0 in
theorem ok_count_pairings {P : Program} {w : World} {K : PySem.W.Frag} {mg : Str → Option Value} {base : Heap} {fa : Addr} {fd : FuncData} (N : Nm K mg) (F : FunD K "count_pairings" "count_pairings" (defArgs s_count_pairings) (defBody s_count_pairings) (defScope s_count_pairings) [] [] fa fd) (c_binomial : Fc P w K mg base (gOf xs K) 1 "binomial" f_binomial []) :
    FnG P w K mg base (L2.CX P w) 2 fa fd ["points"] (spD (gOf xs K) f_count_pairings) :=
  def_ok (N := ["points", "half"]) (ps := ["points"]) (k := 1) (m := b_count_pairings) F ⟨rfl, rfl, rfl, by decide +kernel, rfl, by decide +kernel, by decide +kernel⟩ (fun cdv A fr s H E o hp => ⟨_, (ssc (zset 1 (yop op_fdiv p_div (yv 0) yi)) (sso (zret (yop op_fdiv p_div (ycall o c_binomial (yrd (yv 0) (yrd (yv 1) yrn))) (yop o_add p_addA (yv 1) yi)))))⟩) (by decide)
abbrev s_count_diagrams : Stmt := top 12
def b_count_diagrams : SM := seqM (dropM (callD f_check_columns [] (dR (varM 0) (nilR)))) (retM (callD f_count_pairings [] (dR (opM mulA (cM (.int 2)) (varM 0)) (nilR))))
def f_count_diagrams : DFun := defM 1 1 b_count_diagrams
set_option maxHeartbeats 0 in
theorem ok_count_diagrams {P : Program} {w : World} {K : PySem.W.Frag} {mg : Str → Option Value} {base : Heap} {fa : Addr} {fd : FuncData} (N : Nm K mg) (F : FunD K "count_diagrams" "count_diagrams" (defArgs s_count_diagrams) (defBody s_count_diagrams) (defScope s_count_diagrams) [] [] fa fd) (c_check_columns : Fc P w K mg base (gOf xs K) 3 "check_columns" f_check_columns []) (c_count_pairings : Fc P w K mg base (gOf xs K) 2 "count_pairings" f_count_pairings []) :
    FnG P w K mg base (L2.CX P w) 4 fa fd ["columns"] (spD (gOf xs K) f_count_diagrams) :=
  def_ok (N := ["columns"]) (ps := ["columns"]) (k := 3) (m := b_count_diagrams) F ⟨rfl, rfl, rfl, by decide +kernel, rfl, by decide +kernel, by decide +kernel⟩ (fun cdv A fr s H E o hp => ⟨_, (ssc (zexp (ycall o c_check_columns (yrd (yv 0) yrn))) (sso (zret (ycall o c_count_pairings (yrd (yop o_mul p_mulA yi (yv 0)) yrn)))))⟩) (by decide)
abbrev s_count_with_through : Stmt := top 13
def b_count_with_through : SM := seqM (dropM (callD f_check_columns [] (dR (varM 0) (nilR)))) (seqM (ifS (notT (testM (callD f_is_integer [.int 0] (dR (varM 1) (nilR))))) (raiseM 2 "value" (consF (varM 1) (nilF))) (skipM)) (seqM (ifS (orT (testM (opM gtI (varM 1) (varM 0))) (testM (opM eqD (opM modI (opM subI (varM 0) (varM 1)) (cM (.int 2))) (cM (.int 1))))) (retM (cM (.int 0))) (skipM)) (seqM (asgF 2 (opM divI (opM subI (varM 0) (varM 1)) (cM (.int 2)))) (retM (opM powI (opM subI (callD f_binomial [] (dR (varM 0) (dR (varM 2) (nilR)))) (callD f_binomial [] (dR (varM 0) (dR (opM subI (varM 2) (cM (.int 1))) (nilR))))) (cM (.int 2)))))))
def f_count_with_through : DFun := defM 2 3 b_count_with_through
set_option maxHeartbeats 0 in
theorem ok_count_with_through {P : Program} {w : World} {K : PySem.W.Frag} {mg : Str → Option Value} {base : Heap} {fa : Addr} {fd : FuncData} (N : Nm K mg) (F : FunD K "count_with_through" "count_with_through" (defArgs s_count_with_through) (defBody s_count_with_through) (defScope s_count_with_through) [] [] fa fd) (c_check_columns : Fc P w K mg base (gOf xs K) 3 "check_columns" f_check_columns []) (c_is_integer_1 : Fc P w K mg base (gOf xs K) 1 "is_integer" f_is_integer [.int 0]) (c_binomial : Fc P w K mg base (gOf xs K) 1 "binomial" f_binomial []) (r_InvalidNumber : Rc P w K mg base (gOf xs K) "InvalidNumber" "value" 2 (He.ga K "InvalidNumber")) :
    FnG P w K mg base (L2.CX P w) 4 fa fd ["columns", "through_arcs"] (spD (gOf xs K) f_count_with_through) :=
  def_ok (N := ["columns", "through_arcs", "caps"]) (ps := ["columns", "through_arcs"]) (k := 3) (m := b_count_with_through) F ⟨rfl, rfl, rfl, by decide +kernel, rfl, by decide +kernel, by decide +kernel⟩ (fun cdv A fr s H E o hp => ⟨_, (ssc (zexp (ycall o c_check_columns (yrd (yv 0) yrn))) (ssc (zif (ytnot (ytv (ycall o c_is_integer_1 (yrd (yv 1) yrn)))) (sso (zraise o rfl rfl r_InvalidNumber (yfc (yv 1) yfn))) ssn) (ssc (zif (ytw (ywor (ytc op_gt p_gt (yv 1) (yv 0)) (yw1or (ytc (op_eqD (Room.units o.rm)) p_eq (yop op_mod p_mod (yop op_sub p_sub (yv 0) (yv 1)) yi) yi)))) (sso (zret yi)) ssn) (ssc (zset 2 (yop op_fdiv p_div (yop op_sub p_sub (yv 0) (yv 1)) yi)) (sso (zret (yop op_pow p_pow (yop op_sub p_sub (ycall o c_binomial (yrd (yv 0) (yrd (yv 2) yrn))) (ycall o c_binomial (yrd (yv 0) (yrd (yop op_sub p_sub (yv 2) yi) yrn)))) yi)))))))⟩) (by decide)
abbrev s__law_pool : Stmt := top 15
def b__law_pool : SM := seqM (asgF 2 (cM (.int 0))) (seqM (ifS (testM (opM ltI (varM 1) (cbM lenN (consA (varM 0) (nilA))))) (asgF 2 (cbM absN (consA (opM ixA (varM 0) (varM 1)) (nilA)))) (skipM)) (seqM (asgF 3 (opM modI (opM mulA (opM addA (opM addA (opM addA (opM modI (varM 2) (cM (.int 2147483629))) (opM mulA (opM mulA (cM (.int 7919)) (varM 1)) (varM 1))) (opM mulA (cM (.int 31)) (varM 1))) (cM (.int 17))) (cM (.int 48271))) (cM (.int 2147483647)))) (retM (lstM (consF (opM mulA (varM 2) (cbM intN (consA (opM geI (varM 2) (opM powI (cM (.int 10)) (cM (.int 18)))) (nilA)))) (consF (opM modI (opM mulA (varM 3) (varM 3)) (cM (.int 2147483629))) (nilF)))))))
def f__law_pool : DFun := defM 2 4 b__law_pool
set_option maxHeartbeats 0 in
theorem ok__law_pool {P : Program} {w : World} {K : PySem.W.Frag} {mg : Str → Option Value} {base : Heap} {fa : Addr} {fd : FuncData} (N : Nm K mg) (F : FunD K "_law_pool" "_law_pool" (defArgs s__law_pool) (defBody s__law_pool) (defScope s__law_pool) [] [] fa fd) :
    FnG P w K mg base (L2.CX P w) 1 fa fd ["_law_script", "_law_k"] (spD (gOf xs K) f__law_pool) :=
  def_ok (N := ["_law_script", "_law_k", "_law_cell", "_law_mixed"]) (ps := ["_law_script", "_law_k"]) (k := 0) (m := b__law_pool) F ⟨rfl, rfl, rfl, by decide +kernel, rfl, by decide +kernel, by decide +kernel⟩ (fun cdv A fr s H E o hp => ⟨_, (ssc (zset 2 yi) (ssc (zif (ytc op_lt p_lt (yv 1) (ycb call_len p_len N.m_len (yac (yv 0) yan))) (sso (zset 2 (ycb call_abs p_abs N.m_abs (yac (yix ix_seq p_ix (yv 0) (yv 1)) yan)))) ssn) (ssc (zset 3 (yop op_mod p_mod (yop o_mul p_mulA (yop o_add p_addA (yop o_add p_addA (yop o_add p_addA (yop op_mod p_mod (yv 2) yi) (yop o_mul p_mulA (yop o_mul p_mulA yi (yv 1)) (yv 1))) (yop o_mul p_mulA yi (yv 1))) yi) yi) yi)) (sso (zret (ylst (yfc (yop o_mul p_mulA (yv 2) (ycty call_int1 p_int N.m_int (yac (ycmp op_ge p_ge (yv 2) (yop op_pow p_pow yi yi)) yan))) (yfc (yop op_mod p_mod (yop o_mul p_mulA (yv 3) (yv 3)) yi) yfn))))))))⟩) (by decide)
abbrev s__law_take : Stmt := top 16
def b__law_take : SM := seqM (ifS (testM (opM gtI (opM ixA (varM 0) (cM (.int 0))) (cM (.int 0)))) (seqM (asgF 2 (opM modI (opM ixA (varM 0) (cM (.int 0))) (varM 1))) (seqM (asgG (gIx 0 (cM (.int 0))) (opM divI (opM ixA (varM 0) (cM (.int 0))) (varM 1))) (retM (varM 2)))) (skipM)) (seqM (asgG (gIx 0 (cM (.int 1))) (opM modI (opM addA (opM mulA (opM ixA (varM 0) (cM (.int 1))) (cM (.int 48271))) (cM (.int 12345))) (cM (.int 2147483647)))) (retM (opM modI (opM divI (opM modI (opM mulA (opM ixA (varM 0) (cM (.int 1))) (opM ixA (varM 0) (cM (.int 1)))) (cM (.int 2147483629))) (cM (.int 64))) (varM 1))))
def f__law_take : DFun := defM 2 3 b__law_take
set_option maxHeartbeats 0 in
theorem ok__law_take {P : Program} {w : World} {K : PySem.W.Frag} {mg : Str → Option Value} {base : Heap} {fa : Addr} {fd : FuncData} (N : Nm K mg) (F : FunD K "_law_take" "_law_take" (defArgs s__law_take) (defBody s__law_take) (defScope s__law_take) [] [] fa fd) :
    FnG P w K mg base (L2.CX P w) 1 fa fd ["_law_pool_here", "_law_count"] (spD (gOf xs K) f__law_take) :=
  def_ok (N := ["_law_pool_here", "_law_count", "_law_result_here"]) (ps := ["_law_pool_here", "_law_count"]) (k := 0) (m := b__law_take) F ⟨rfl, rfl, rfl, by decide +kernel, rfl, by decide +kernel, by decide +kernel⟩ (fun cdv A fr s H E o hp => ⟨_, (ssc (zif (ytc op_gt p_gt (yix ix_seq p_ix (yv 0) yi) yi) (ssc (zset 2 (yop op_mod p_mod (yix ix_seq p_ix (yv 0) yi) (yv 1))) (ssc (zasg (yop op_fdiv p_div (yix ix_seq p_ix (yv 0) yi) (yv 1)) (gix 0 yi)) (sso (zret (yv 2))))) ssn) (ssc (zasg (yop op_mod p_mod (yop o_add p_addA (yop o_mul p_mulA (yix ix_seq p_ix (yv 0) yi) yi) yi) yi) (gix 0 yi)) (sso (zret (yop op_mod p_mod (yop op_fdiv p_div (yop op_mod p_mod (yop o_mul p_mulA (yix ix_seq p_ix (yv 0) yi) (yix ix_seq p_ix (yv 0) yi)) yi) yi) (yv 1))))))⟩) (by decide)
abbrev s__law_catalan : Stmt := top 17
def b__law_catalan : SM := seqM (asgO 1 (lstM (consF (cM (.int 1)) (nilF)))) (seqM (forM (rg1 (consA (varM 0) (nilA))) (gN 2) (dropM (mutM 1 appendL (consF (cbM sumN (consA (lcM (rg1 (consA (opM addA (varM 2) (cM (.int 1))) (nilA))) (gN 3) [3] (yesT) (opM mulA (opM ixA (varM 1) (varM 3)) (opM ixA (varM 1) (opM subI (varM 2) (varM 3))))) (nilA))) (nilF))))) (retM (opM ixA (varM 1) (varM 0))))
def f__law_catalan : DFun := defM 1 4 b__law_catalan
set_option maxHeartbeats 0 in
theorem ok__law_catalan {P : Program} {w : World} {K : PySem.W.Frag} {mg : Str → Option Value} {base : Heap} {fa : Addr} {fd : FuncData} (N : Nm K mg) (F : FunD K "_law_catalan" "_law_catalan" (defArgs s__law_catalan) (defBody s__law_catalan) (defScope s__law_catalan) [] [] fa fd) :
    FnG P w K mg base (L2.CX P w) 1 fa fd ["_law_count"] (spD (gOf xs K) f__law_catalan) :=
  def_ok (N := ["_law_count", "_law_result_here", "_law_total", "_law_k"]) (ps := ["_law_count"]) (k := 0) (m := b__law_catalan) F ⟨rfl, rfl, rfl, by decide +kernel, rfl, by decide +kernel, by decide +kernel⟩ (fun cdv A fr s H E o hp => ⟨_, (ssc (zown 1 (ylst (yfc yi yfn))) (ssc (zfor rfl hp (irg1 N.m_range (yac (yv 0) yan)) (gn 2) (sso (zexp (yapp 1 rfl (yfc (ycb (cr_sum rfl) p_sum N.m_sum (yac (ylc [("_law_k", 3)] rfl (irg1 N.m_range (yac (yop o_add p_addA (yv 2) yi) yan)) (fun _ _ _ _ _ => (gvn 3)) (fun _ _ _ _ _ => tsn) (fun _ _ _ _ _ => (yop o_mul p_mulA (yix ix_seq p_ix (yv 1) (yv 3)) (yix ix_seq p_ix (yv 1) (yop op_sub p_sub (yv 2) (yv 3)))))) yan)) yfn))))) (sso (zret (yix ix_seq p_ix (yv 1) (yv 0))))))⟩) (by decide)
abbrev s__law_half_count : Stmt := top 18
def b__law_half_count : SM := seqM (asgO 2 (dispM (consPr (cM (.int 0)) (cM (.int 1)) (nilPr)))) (seqM (forM (rg1 (consA (varM 0) (nilA))) (gN 3) (seqM (asgO 4 (newK)) (seqM (lockM 2 (gN 5) (forM (lsI (lstM (consF (opM subI (varM 5) (cM (.int 1))) (consF (opM addA (varM 5) (cM (.int 1))) (nilF))))) (gN 6) (ifS (testM (opM geI (varM 6) (cM (.int 0)))) (dputM 4 (varM 6) (opM addA (get2M (varM 4) (varM 6) (cM (.int 0))) (dgetM (varM 2) (varM 5)))) (skipM)))) (mvM 2 4)))) (retM (get2M (varM 2) (varM 1) (cM (.int 0)))))
def f__law_half_count : DFun := defM 2 7 b__law_half_count
set_option maxHeartbeats 0 in
theorem ok__law_half_count {P : Program} {w : World} {K : PySem.W.Frag} {mg : Str → Option Value} {base : Heap} {fa : Addr} {fd : FuncData} (N : Nm K mg) (F : FunD K "_law_half_count" "_law_half_count" (defArgs s__law_half_count) (defBody s__law_half_count) (defScope s__law_half_count) [] [] fa fd) :
    FnG P w K mg base (L2.CX P w) 1 fa fd ["_law_width", "_law_count"] (spD (gOf xs K) f__law_half_count) :=
  def_ok (N := ["_law_width", "_law_count", "_law_levels", "_law_column", "_law_following", "_law_level", "_law_other"]) (ps := ["_law_width", "_law_count"]) (k := 0) (m := b__law_half_count) F ⟨rfl, rfl, rfl, by decide +kernel, rfl, by decide +kernel, by decide +kernel⟩ (fun cdv A fr s H E o hp => ⟨_, (ssc (zown 2 (ydisp (ypc yi yi ypn))) (ssc (zfor rfl hp (irg1 N.m_range (yac (yv 0) yan)) (gn 3) (ssc (zown 4 ynewK) (ssc (zlock 2 rfl hp (gn 5) (sso (zfor rfl hp (ilst rfl (ylst (yfc (yop op_sub p_sub (yv 5) yi) (yfc (yop o_add p_addA (yv 5) yi) yfn)))) (gn 6) (sso (zif (ytc op_ge p_ge (yv 6) yi) (sso (zdput 4 (hu_of o.rm) (yop o_add p_addA (ydget2 (hu_of o.rm) (yv 4) (yv 6) yi) (ydget (hu_of o.rm) (yv 2) (yv 5))) (yv 6))) ssn))))) (sso (zmv 2 4))))) (sso (zret (ydget2 (hu_of o.rm) (yv 2) (yv 1) yi)))))⟩) (by decide)
abbrev s__law_result : Stmt := top 19
def b__law_result : SM := tryM (retM (ifM (testM (opM eqD (varM 0) (cM (.int 0)))) (callD f_count_diagrams [] (dR (varM 1) (nilR))) (callD f_count_with_through [] (dR (varM 1) (dR (varM 2) (nilR)))))) (⟨ansOwn xs par 1, some 3, retM (tupM (consF (cM (.str "columns")) (consF (cbM repN (consA (xgM (okF xs flds "value") "value" (varM 3)) nilA)) (consF (andV (isXM (ansOwn xs par 0) (varM 3)) (notV (isXM (ansOwn xs par 2) (varM 3)))) (nilF)))))⟩ :: ⟨ansOwn xs par 2, some 3, retM (tupM (consF (cM (.str "number")) (consF (cbM repN (consA (xgM (okF xs flds "value") "value" (varM 3)) nilA)) (consF (andV (isXM (ansOwn xs par 0) (varM 3)) (notV (isXM (ansOwn xs par 1) (varM 3)))) (nilF)))))⟩ :: [])
def f__law_result : DFun := defM 3 4 b__law_result
set_option maxHeartbeats 0 in
theorem ok__law_result {P : Program} {w : World} {K : PySem.W.Frag} {mg : Str → Option Value} {base : Heap} {fa : Addr} {fd : FuncData} (N : Nm K mg) (F : FunD K "_law_result" "_law_result" (defArgs s__law_result) (defBody s__law_result) (defScope s__law_result) [] [] fa fd) (c_count_diagrams : Fc P w K mg base (gOf xs K) 4 "count_diagrams" f_count_diagrams []) (c_count_with_through : Fc P w K mg base (gOf xs K) 4 "count_with_through" f_count_with_through []) :
    FnG P w K mg base (L2.CX P w) 5 fa fd ["_law_which", "_law_width", "_law_count"] (spD (gOf xs K) f__law_result) :=
  def_ok (N := ["_law_which", "_law_width", "_law_count", "e"]) (ps := ["_law_which", "_law_width", "_law_count"]) (k := 4) (m := b__law_result) F ⟨rfl, rfl, rfl, by decide +kernel, rfl, by decide +kernel, by decide +kernel⟩ (fun cdv A fr s H E o hp => ⟨_, (sso (ztry rfl (fun _ => rfl) o.tk (fun W pn xe tk hp => (sso (zret (yif (ytc (op_eqD (Room.units (o.tr tk).rm)) p_eq (yv 0) yi) (ycall (o.tr tk) c_count_diagrams (yrd (yv 1) yrn)) (ycall (o.tr tk) c_count_with_through (yrd (yv 1) (yrd (yv 2) yrn))))))) (yha 3 (nmx N.x_InvalidColumns) (ansOwn xs par 1) (fun i b e => (ansB_ok N.eans (j := 1) (by decide) i b e).1) (qret (qtup (qfc (qe fun _ _ _ => ys) (qfc (qrep o.ng (Room.units o.rm) rfl N.m_repr (qxg "value" (okF xs flds "value") rfl (fun i h => okF_ok N.ext N.efld i h) (qe fun _ _ _ => yv 3))) (qfc (qand (qis (cv := .ref (He.ga K (xs.getD 0 ""))) rfl (ansOwn xs par 0) (fun i b e => isx_ok N.ext N.eans (j := 0) (by decide) i b e) (.own _) N.m_isinstance (fun _ _ => pe_glob rfl N.x_DiagramError rfl) (qe fun _ _ _ => yv 3)) (qand1 (qnot (qis (cv := .ref (He.ga K (xs.getD 2 ""))) rfl (ansOwn xs par 2) (fun i b e => isx_ok N.ext N.eans (j := 2) (by decide) i b e) (.own _) N.m_isinstance (fun _ _ => pe_glob rfl N.x_InvalidNumber rfl) (qe fun _ _ _ => yv 3))))) qfn))))) (yha 3 (nmx N.x_InvalidNumber) (ansOwn xs par 2) (fun i b e => (ansB_ok N.eans (j := 2) (by decide) i b e).1) (qret (qtup (qfc (qe fun _ _ _ => ys) (qfc (qrep o.ng (Room.units o.rm) rfl N.m_repr (qxg "value" (okF xs flds "value") rfl (fun i h => okF_ok N.ext N.efld i h) (qe fun _ _ _ => yv 3))) (qfc (qand (qis (cv := .ref (He.ga K (xs.getD 0 ""))) rfl (ansOwn xs par 0) (fun i b e => isx_ok N.ext N.eans (j := 0) (by decide) i b e) (.own _) N.m_isinstance (fun _ _ => pe_glob rfl N.x_DiagramError rfl) (qe fun _ _ _ => yv 3)) (qand1 (qnot (qis (cv := .ref (He.ga K (xs.getD 1 ""))) rfl (ansOwn xs par 1) (fun i b e => isx_ok N.ext N.eans (j := 1) (by decide) i b e) (.own _) N.m_isinstance (fun _ _ => pe_glob rfl N.x_InvalidColumns rfl) (qe fun _ _ _ => yv 3))))) qfn))))) yhn))))⟩) (by decide)
abbrev s_law : Stmt := top 20
def q_law_1 : SM := asgO 2 (callD f__law_pool [] (dR (varM 0) (dR (varM 1) (nilR))))
def q_law_2 : SM := asgF 3 (opM addA (cM (.int 1)) (callD f__law_take [] (rR 2 (dR (cM (.int 16)) (nilR)))))
def q_law_3 : SM := asgF 4 (lcM (rg1 (consA (opM addA (varM 3) (cM (.int 3))) (nilA))) (gN 8) [8] (yesT) (callD f__law_result [] (dR (cM (.int 1)) (dR (varM 3) (dR (varM 8) (nilR))))))
def q_law_4 : SM := asgF 5 (lcM (rg1 (consA (opM addA (varM 3) (cM (.int 3))) (nilA))) (gN 8) [8] (yesT) (callD f__law_half_count [] (dR (varM 3) (dR (varM 8) (nilR)))))
def q_law_5 : SM := retM (cM (.bl false))
def q_law_6 : SM := ifS (testM (opM neD (cbM repN (consA (varM 4) (nilA))) (cbM repN (consA (lcM (lsI (varM 5)) (gN 9) [9] (yesT) (opM mulA (varM 9) (varM 9))) (nilA))))) (q_law_5) (skipM)
def q_law_7 : SM := retM (cM (.bl false))
def q_law_8 : SM := ifS (orT (testM (opM neD (cbM repN (consA (callD f__law_result [] (dR (cM (.int 0)) (dR (varM 3) (dR (cM .non) (nilR))))) (nilA))) (cbM repN (consA (callD f__law_catalan [] (dR (varM 3) (nilR))) (nilA))))) (testM (opM neD (cbM sumN (consA (varM 4) (nilA))) (callD f__law_catalan [] (dR (varM 3) (nilR)))))) (q_law_7) (skipM)
def q_law_9 : SM := retM (cM (.bl false))
def q_law_10 : SM := ifS (testM (opM neD (callD f__law_result [] (dR (cM (.int 1)) (dR (varM 3) (dR (opM addA (opM powI (cM (.int 10)) (cM (.int 20))) (callD f__law_take [] (rR 2 (dR (cM (.int 9)) (nilR))))) (nilR))))) (cM (.int 0)))) (q_law_9) (skipM)
def q_law_11 : SM := asgF 6 (opM ixA (lstM (consF (cM .non) (consF (cM (.int 0)) (consF (cM (.int 17)) (consF (cM (.bl true)) (consF (cM (.str "3")) (consF (tupM (consF (cM (.int 3)) (nilF))) (consF (unM negI (cM (.int 1))) (consF (opM powI (cM (.int 10)) (cM (.int 20))) (nilF)))))))))) (callD f__law_take [] (rR 2 (dR (cM (.int 8)) (nilR)))))
def q_law_12 : SM := retM (cM (.bl false))
def q_law_13 : SM := ifS (testM (opM neD (callD f__law_result [] (dR (varM 7) (dR (varM 6) (dR (cM .non) (nilR))))) (tupM (consF (cM (.str "columns")) (consF (cbM repN (consA (varM 6) (nilA))) (consF (cM (.bl true)) (nilF))))))) (q_law_12) (skipM)
def q_law_14 : SM := forM (lsI (lstM (consF (cM (.int 0)) (consF (cM (.int 1)) (nilF))))) (gN 7) (q_law_13)
def q_law_15 : SM := asgF 6 (opM ixA (lstM (consF (cM .non) (consF (unM negI (cM (.int 1))) (consF (cM (.bl true)) (consF (cM (.bl false)) (consF (cM (.str "0")) (consF (tupM (consF (cM (.int 0)) (nilF))) (consF (lstM (consF (cM (.int 2)) (nilF))) (nilF))))))))) (callD f__law_take [] (rR 2 (dR (cM (.int 7)) (nilR)))))
def q_law_16 : SM := retM (cM (.bl false))
def q_law_17 : SM := ifS (testM (opM neD (callD f__law_result [] (dR (cM (.int 1)) (dR (varM 3) (dR (varM 6) (nilR))))) (tupM (consF (cM (.str "number")) (consF (cbM repN (consA (varM 6) (nilA))) (consF (cM (.bl true)) (nilF))))))) (q_law_16) (skipM)
def q_law_18 : SM := forM (rg1 (consA (cbM max2N (consA (cM (.int 1)) (consA (cbM min2N (consA (cM (.int 8)) (consA (cbM lenN (consA (varM 0) (nilA))) (nilA)))) (nilA)))) (nilA))) (gN 1) (seqM (q_law_1) (seqM (q_law_2) (seqM (q_law_3) (seqM (q_law_4) (seqM (q_law_6) (seqM (q_law_8) (seqM (q_law_10) (seqM (q_law_11) (seqM (q_law_14) (seqM (q_law_15) (q_law_17)))))))))))
def q_law_19 : SM := retM (cM (.bl true))
def b_law : SM := seqM (q_law_18) (q_law_19)
def f_law : DFun := defM 1 10 b_law
set_option maxHeartbeats 0 in
theorem ok_law {P : Program} {w : World} {K : PySem.W.Frag} {mg : Str → Option Value} {base : Heap} {fa : Addr} {fd : FuncData} (N : Nm K mg) (F : FunD K "law" "law" (defArgs s_law) (defBody s_law) (defScope s_law) [] [] fa fd) (c__law_pool : Fc P w K mg base (gOf xs K) 1 "_law_pool" f__law_pool []) (c__law_take : Fc P w K mg base (gOf xs K) 1 "_law_take" f__law_take []) (c__law_result : Fc P w K mg base (gOf xs K) 5 "_law_result" f__law_result []) (c__law_half_count : Fc P w K mg base (gOf xs K) 1 "_law_half_count" f__law_half_count []) (c__law_catalan : Fc P w K mg base (gOf xs K) 1 "_law_catalan" f__law_catalan []) :
    FnG P w K mg base (L2.CX P w) 6 fa fd ["_law_script"] (spD (gOf xs K) f_law) :=
  def_ok (N := ["_law_script", "_law_k", "_law_pool_here", "_law_width", "_law_found", "_law_walks", "_law_odd", "_law_which", "_law_count", "_law_walk"]) (ps := ["_law_script"]) (k := 5) (m := b_law) F ⟨rfl, rfl, rfl, by decide +kernel, rfl, by decide +kernel, by decide +kernel⟩ (fun cdv A fr s H E o hp => ⟨_, (ssc (zfor rfl hp (irg1 N.m_range (yac (ycb (call_max2 rfl) p_max2 N.m_max (yac yi (yac (ycb (call_min2 rfl) p_min2 N.m_min (yac yi (yac (ycb call_len p_len N.m_len (yac (yv 0) yan)) yan))) yan))) yan)) (gn 1) (ssc (zown 2 (ycall o c__law_pool (yrd (yv 0) (yrd (yv 1) yrn)))) (ssc (zset 3 (yop o_add p_addA yi (ycall o c__law_take (yrr 2 (yrd yi yrn))))) (ssc (zsetLc 4 [("_law_count", 8)] rfl (irg1 N.m_range (yac (yop o_add p_addA (yv 3) yi) yan)) (fun _ _ _ _ _ => (gvn 8)) (fun _ _ _ _ _ => tsn) (fun _ _ _ _ _ => (ycall o.blk c__law_result (yrd yi (yrd (yv 3) (yrd (yv 8) yrn)))))) (ssc (zsetLc 5 [("_law_count", 8)] rfl (irg1 N.m_range (yac (yop o_add p_addA (yv 3) yi) yan)) (fun _ _ _ _ _ => (gvn 8)) (fun _ _ _ _ _ => tsn) (fun _ _ _ _ _ => (ycall o.blk c__law_half_count (yrd (yv 3) (yrd (yv 8) yrn))))) (ssc (zif (ytc (op_neD (Room.units o.rm)) p_ne (ycb (call_rep o.ng (Room.units o.rm)) p_repr N.m_repr (yac (yv 4) yan)) (ycb (call_rep o.ng (Room.units o.rm)) p_repr N.m_repr (yac (ylc [("_law_walk", 9)] rfl (ilst rfl (yv 5)) (fun _ _ _ _ _ => (gvn 9)) (fun _ _ _ _ _ => tsn) (fun _ _ _ _ _ => (yop o_mul p_mulA (yv 9) (yv 9)))) yan))) (sso (zret yb)) ssn) (ssc (zif (ytw (ywor (ytc (op_neD (Room.units o.rm)) p_ne (ycb (call_rep o.ng (Room.units o.rm)) p_repr N.m_repr (yac (ycall o c__law_result (yrd yi (yrd (yv 3) (yrd yn yrn)))) yan)) (ycb (call_rep o.ng (Room.units o.rm)) p_repr N.m_repr (yac (ycall o c__law_catalan (yrd (yv 3) yrn)) yan))) (yw1or (ytc (op_neD (Room.units o.rm)) p_ne (ycb (cr_sum rfl) p_sum N.m_sum (yac (yv 4) yan)) (ycall o c__law_catalan (yrd (yv 3) yrn)))))) (sso (zret yb)) ssn) (ssc (zif (ytc (op_neD (Room.units o.rm)) p_ne (ycall o c__law_result (yrd yi (yrd (yv 3) (yrd (yop o_add p_addA (yop op_pow p_pow yi yi) (ycall o c__law_take (yrr 2 (yrd yi yrn)))) yrn)))) yi) (sso (zret yb)) ssn) (ssc (zset 6 (yix ix_seq p_ix (ylst (yfc yn (yfc yi (yfc yi (yfc yb (yfc ys (yfc (ytup (yfc yi yfn)) (yfc (yun un_neg p_neg yi) (yfc (yop op_pow p_pow yi yi) yfn))))))))) (ycall o c__law_take (yrr 2 (yrd yi yrn))))) (ssc (zfor rfl hp (ilst rfl (ylst (yfc yi (yfc yi yfn)))) (gn 7) (sso (zif (ytc (op_neD (Room.units o.rm)) p_ne (ycall o c__law_result (yrd (yv 7) (yrd (yv 6) (yrd yn yrn)))) (ytup (yfc ys (yfc (ycb (call_rep o.ng (Room.units o.rm)) p_repr N.m_repr (yac (yv 6) yan)) (yfc yb yfn))))) (sso (zret yb)) ssn))) (ssc (zset 6 (yix ix_seq p_ix (ylst (yfc yn (yfc (yun un_neg p_neg yi) (yfc yb (yfc yb (yfc ys (yfc (ytup (yfc yi yfn)) (yfc (ylst (yfc yi yfn)) yfn)))))))) (ycall o c__law_take (yrr 2 (yrd yi yrn))))) (sso (zif (ytc (op_neD (Room.units o.rm)) p_ne (ycall o c__law_result (yrd yi (yrd (yv 3) (yrd (yv 6) yrn)))) (ytup (yfc ys (yfc (ycb (call_rep o.ng (Room.units o.rm)) p_repr N.m_repr (yac (yv 6) yan)) (yfc yb yfn))))) (sso (zret yb)) ssn))))))))))))) (sso (zret yb)))⟩) (by decide)
abbrev s_InvalidColumns : Stmt := inClass (top 2) 0
theorem r_InvalidColumns {P : Program} {w : World} {K : PySem.W.Frag} {mg : Str → Option Value} {base : Heap} {fd : FuncData} (N : Nm K mg) (hb : baB K "DiagramError" = true) (hr : rcB K "InvalidColumns" "value" = true) (F : FunD K "__init__" "InvalidColumns.__init__" (defArgs s_InvalidColumns) (defBody s_InvalidColumns) (defScope s_InvalidColumns) [] [] (He.ma K (He.ga K "InvalidColumns") "__init__") fd) :
    Rc P w K mg base (gOf xs K) "InvalidColumns" "value" 1 (He.ga K "InvalidColumns") := by
  obtain ⟨h1, h⟩ := bands hr
  obtain ⟨h2, h⟩ := bands h
  obtain ⟨h3, h4⟩ := bands h
  refine ⟨⟨_, fd, ["self", "value"], oexB_ok h1, of_decide_eq_true h2, of_decide_eq_true h3, ini_ok F ⟨rfl, rfl, rfl, by decide +kernel, rfl, by decide +kernel, by decide +kernel⟩ (tx := "invalid number of columns") (fun cdv A fr s H E => ?_), FunD.bindsN F fun _ _ _ _ _ _ us hl => match us, hl with | [_, _], _ => rfl⟩, N.x_InvalidColumns, of_decide_eq_true h4, rfl⟩
  exact pss_cons (ps_expr (pe_ownInit (pl := plainOf (.Name "DiagramError" _) _) rfl N.x_DiagramError (baB_ok hb).1 (baB_ok hb).2 (pa_cons (pv 0) (pa_cons pe_str pa_nil)))) (pss_one (ps_ost (pv 0) (pv 1)))
abbrev s_InvalidNumber : Stmt := inClass (top 3) 0
theorem r_InvalidNumber {P : Program} {w : World} {K : PySem.W.Frag} {mg : Str → Option Value} {base : Heap} {fd : FuncData} (N : Nm K mg) (hb : baB K "DiagramError" = true) (hr : rcB K "InvalidNumber" "value" = true) (F : FunD K "__init__" "InvalidNumber.__init__" (defArgs s_InvalidNumber) (defBody s_InvalidNumber) (defScope s_InvalidNumber) [] [] (He.ma K (He.ga K "InvalidNumber") "__init__") fd) :
    Rc P w K mg base (gOf xs K) "InvalidNumber" "value" 2 (He.ga K "InvalidNumber") := by
  obtain ⟨h1, h⟩ := bands hr
  obtain ⟨h2, h⟩ := bands h
  obtain ⟨h3, h4⟩ := bands h
  refine ⟨⟨_, fd, ["self", "value"], oexB_ok h1, of_decide_eq_true h2, of_decide_eq_true h3, ini_ok F ⟨rfl, rfl, rfl, by decide +kernel, rfl, by decide +kernel, by decide +kernel⟩ (tx := "invalid number") (fun cdv A fr s H E => ?_), FunD.bindsN F fun _ _ _ _ _ _ us hl => match us, hl with | [_, _], _ => rfl⟩, N.x_InvalidNumber, of_decide_eq_true h4, rfl⟩
  exact pss_cons (ps_expr (pe_ownInit (pl := plainOf (.Name "DiagramError" _) _) rfl N.x_DiagramError (baB_ok hb).1 (baB_ok hb).2 (pa_cons (pv 0) (pa_cons pe_str pa_nil)))) (pss_one (ps_ost (pv 0) (pv 1)))
end K46
end PL
namespace PL.K46
open PySem L2
theorem at0 (x y : D) : atI [x, y] 0 = some x := rfl
theorem at1 (x y : D) : atI [x, y] 1 = some y := rfl
theorem ix0 (x y : D) : ixN [x, y].length 0 = some 0 := rfl
theorem ix1 (x y : D) : ixN [x, y].length 1 = some 1 := rfl
theorem cMul_r {i j : Int} (h : -(2 ^ 64) < j) (h2 : j < 2 ^ 64) : cMul i j = true := by
  unfold cMul
  rw [decide_eq_true h, decide_eq_true h2]; simp
theorem take_ok (a b n : Int) (h0 : 0 < n) (h1 : n < 1073741824) : ∃ i a' b', 0 ≤ i ∧ i < n ∧ f__law_take [.r (.L [.int a, .int b]), .d (.int n)] = .ok (.v (.int i)) [.r (.L [.int a', .int b']), .d (.int n)] := by
  have c1 : ∀ a, cPos a n = true := fun a => by simp [cPos, h0]
  have c2 : ∀ a, cDiv a n = true := fun a => by simp [cDiv, h0, h1]
  have e0 : ixN 2 0 = some 0 := rfl
  have e1 : ixN 2 1 = some 1 := rfl
  by_cases ha : 0 < a
  · refine ⟨a % n, a / n, b, Int.emod_nonneg _ (by omega), Int.emod_lt_of_pos _ h0, ?_⟩
    simp [f__law_take, b__law_take, defM, fin, seqM, Sr.seq, skipM, ifS, Rs.toS, testM, opM, unM, one, two, varM, cM, app2, app1, appN, view, views, Rs.bind, retM, rvOf, outA, asgF, asgO, fzM, frz, stT, asgG, gIx, gIxEnd, gN, gN, owOf, putE, canSet, cbM, consA, nilA, consF, nilF, consD, lstM, tupM, Ow.toD, ixA, ixL, ixT, addA, mulA, fOr, addI, subI, mulI, divI, modI, powI, iI, iB, iIc, ltI, leI, gtI, geI, callD, callM, dfR, dR, rR, nilR, slsOf, slOf, refsOf, nodupB, updsOf, backs, tvOf, ha, c1, c2, at0, at1, e0, e1]
  · have c3 : ∀ a, cPos a 2147483647 = true := fun a => by simp [cPos]
    have c4 : ∀ a, cPos a 2147483629 = true := fun a => by simp [cPos]
    have c5 : ∀ a, cDiv a 64 = true := fun a => by simp [cDiv]
    have c6 : cMul b 48271 = true := cMul_r (by omega) (by omega)
    have c7 : ∀ x y, cMul x (y % 2147483647) = true := fun x y => cMul_r (by omega) (by omega)
    refine ⟨(b * 48271 + 12345) % 2147483647 * ((b * 48271 + 12345) % 2147483647) % 2147483629 / 64 % n, a, (b * 48271 + 12345) % 2147483647, Int.emod_nonneg _ (by omega), Int.emod_lt_of_pos _ h0, ?_⟩
    simp [f__law_take, b__law_take, defM, fin, seqM, Sr.seq, skipM, ifS, Rs.toS, testM, opM, unM, one, two, varM, cM, app2, app1, appN, view, views, Rs.bind, retM, rvOf, outA, asgF, asgO, fzM, frz, stT, asgG, gIx, gIxEnd, gN, gN, owOf, putE, canSet, cbM, consA, nilA, consF, nilF, consD, lstM, tupM, Ow.toD, ixA, ixL, ixT, addA, mulA, fOr, addI, subI, mulI, divI, modI, powI, iI, iB, iIc, ltI, leI, gtI, geI, callD, callM, dfR, dR, rR, nilR, slsOf, slOf, refsOf, nodupB, updsOf, backs, tvOf, ha, c1, c2, c3, c4, c5, c6, c7, at0, at1, e0, e1]
theorem at_scr {ns : List Int} {k : Int} (h0 : 0 ≤ k) (h : k < ns.length) : ∃ c, atI ns k = some c := by
  obtain ⟨n, rfl⟩ := Int.eq_ofNat_of_zero_le h0
  have h' : n < ns.length := by omega
  exact ⟨ns[n], atI_nat (by simp [h'])⟩
theorem pool_ok (ns : List Int) (k : Int) (h0 : 0 ≤ k) (h1 : k ≤ 7) : ∃ a b, f__law_pool [.d (.scr ns), .d (.int k)] = .ok (.n (.L [.int a, .int b])) [.d (.scr ns), .d (.int k)] := by
  have c1 : ∀ a, cPos a 2147483647 = true := fun a => by simp [cPos]
  have c2 : ∀ a, cPos a 2147483629 = true := fun a => by simp [cPos]
  have c3 : ∀ a, cMul a k = true := fun a => cMul_r (by omega) (by omega)
  have c4 : ∀ x y, cMul x (y % 2147483647) = true := fun x y => cMul_r (by omega) (by omega)
  have c5 : ∀ a, cMul a 48271 = true := fun a => cMul_r (by omega) (by omega)
  have c6 : ∀ (a : Int) (p : Prop) [Decidable p], cMul a (if p then 1 else 0) = true := fun a p _ => cMul_r (by split <;> omega) (by split <;> omega)
  have c7 : cPow 10 18 = true := by decide
  have c8 : cMul 0 0 = true := by decide
  by_cases hk : k < (ns.length : Int)
  · obtain ⟨c, hc⟩ := at_scr h0 hk
    simp [f__law_pool, b__law_pool, defM, fin, seqM, Sr.seq, skipM, ifS, Rs.toS, testM, opM, unM, one, two, varM, cM, app2, app1, appN, view, views, Rs.bind, retM, rvOf, outA, asgF, asgO, fzM, frz, stT, asgG, gIx, gIxEnd, gN, gN, owOf, putE, canSet, cbM, consA, nilA, consF, nilF, consD, lstM, tupM, Ow.toD, ixA, ixL, ixT, addA, mulA, fOr, addI, subI, mulI, divI, modI, powI, iI, iB, iIc, ltI, leI, gtI, geI, callD, callM, dfR, dR, rR, nilR, slsOf, slOf, refsOf, nodupB, updsOf, backs, tvOf, lenN, absN, intN, hk, hc, c1, c2, c3, c4, c5, c6, c7, c8]
  · simp [f__law_pool, b__law_pool, defM, fin, seqM, Sr.seq, skipM, ifS, Rs.toS, testM, opM, unM, one, two, varM, cM, app2, app1, appN, view, views, Rs.bind, retM, rvOf, outA, asgF, asgO, fzM, frz, stT, asgG, gIx, gIxEnd, gN, gN, owOf, putE, canSet, cbM, consA, nilA, consF, nilF, consD, lstM, tupM, Ow.toD, ixA, ixL, ixT, addA, mulA, fOr, addI, subI, mulI, divI, modI, powI, iI, iB, iIc, ltI, leI, gtI, geI, callD, callM, dfR, dR, rR, nilR, slsOf, slOf, refsOf, nodupB, updsOf, backs, tvOf, lenN, absN, intN, hk, c1, c2, c3, c4, c5, c6, c7, c8]
end PL.K46
namespace PL.K46
open PySem L2
def E (ns : List Int) (s1 s2 s3 s4 s5 s6 s7 : Sl) : En := [.d (.scr ns), s1, s2, s3, s4, s5, s6, s7, .non, .non]
def founds : Int → List D
  | 1 => [.int 0, .int 1, .int 0, .int 0]
  | 2 => [.int 1, .int 0, .int 1, .int 0, .int 0]
  | 3 => [.int 0, .int 4, .int 0, .int 1, .int 0, .int 0]
  | 4 => [.int 4, .int 0, .int 9, .int 0, .int 1, .int 0, .int 0]
  | 5 => [.int 0, .int 25, .int 0, .int 16, .int 0, .int 1, .int 0, .int 0]
  | 6 => [.int 25, .int 0, .int 81, .int 0, .int 25, .int 0, .int 1, .int 0, .int 0]
  | 7 => [.int 0, .int 196, .int 0, .int 196, .int 0, .int 36, .int 0, .int 1, .int 0, .int 0]
  | 8 => [.int 196, .int 0, .int 784, .int 0, .int 400, .int 0, .int 49, .int 0, .int 1, .int 0, .int 0]
  | 9 => [.int 0, .int 1764, .int 0, .int 2304, .int 0, .int 729, .int 0, .int 64, .int 0, .int 1, .int 0, .int 0]
  | 10 => [.int 1764, .int 0, .int 8100, .int 0, .int 5625, .int 0, .int 1225, .int 0, .int 81, .int 0, .int 1, .int 0, .int 0]
  | 11 => [.int 0, .int 17424, .int 0, .int 27225, .int 0, .int 12100, .int 0, .int 1936, .int 0, .int 100, .int 0, .int 1, .int 0, .int 0]
  | 12 => [.int 17424, .int 0, .int 88209, .int 0, .int 75625, .int 0, .int 23716, .int 0, .int 2916, .int 0, .int 121, .int 0, .int 1, .int 0, .int 0]
  | 13 => [.int 0, .int 184041, .int 0, .int 327184, .int 0, .int 184041, .int 0, .int 43264, .int 0, .int 4225, .int 0, .int 144, .int 0, .int 1, .int 0, .int 0]
  | 14 => [.int 184041, .int 0, .int 1002001, .int 0, .int 1002001, .int 0, .int 405769, .int 0, .int 74529, .int 0, .int 5929, .int 0, .int 169, .int 0, .int 1, .int 0, .int 0]
  | 15 => [.int 0, .int 2044900, .int 0, .int 4008004, .int 0, .int 2683044, .int 0, .int 828100, .int 0, .int 122500, .int 0, .int 8100, .int 0, .int 196, .int 0, .int 1, .int 0, .int 0]
  | 16 => [.int 2044900, .int 0, .int 11778624, .int 0, .int 13249600, .int 0, .int 6492304, .int 0, .int 1587600, .int 0, .int 193600, .int 0, .int 10816, .int 0, .int 225, .int 0, .int 1, .int 0, .int 0]
  | _ => []
def walks : Int → List D
  | 1 => [.int 0, .int 1, .int 0, .int 0]
  | 2 => [.int 1, .int 0, .int 1, .int 0, .int 0]
  | 3 => [.int 0, .int 2, .int 0, .int 1, .int 0, .int 0]
  | 4 => [.int 2, .int 0, .int 3, .int 0, .int 1, .int 0, .int 0]
  | 5 => [.int 0, .int 5, .int 0, .int 4, .int 0, .int 1, .int 0, .int 0]
  | 6 => [.int 5, .int 0, .int 9, .int 0, .int 5, .int 0, .int 1, .int 0, .int 0]
  | 7 => [.int 0, .int 14, .int 0, .int 14, .int 0, .int 6, .int 0, .int 1, .int 0, .int 0]
  | 8 => [.int 14, .int 0, .int 28, .int 0, .int 20, .int 0, .int 7, .int 0, .int 1, .int 0, .int 0]
  | 9 => [.int 0, .int 42, .int 0, .int 48, .int 0, .int 27, .int 0, .int 8, .int 0, .int 1, .int 0, .int 0]
  | 10 => [.int 42, .int 0, .int 90, .int 0, .int 75, .int 0, .int 35, .int 0, .int 9, .int 0, .int 1, .int 0, .int 0]
  | 11 => [.int 0, .int 132, .int 0, .int 165, .int 0, .int 110, .int 0, .int 44, .int 0, .int 10, .int 0, .int 1, .int 0, .int 0]
  | 12 => [.int 132, .int 0, .int 297, .int 0, .int 275, .int 0, .int 154, .int 0, .int 54, .int 0, .int 11, .int 0, .int 1, .int 0, .int 0]
  | 13 => [.int 0, .int 429, .int 0, .int 572, .int 0, .int 429, .int 0, .int 208, .int 0, .int 65, .int 0, .int 12, .int 0, .int 1, .int 0, .int 0]
  | 14 => [.int 429, .int 0, .int 1001, .int 0, .int 1001, .int 0, .int 637, .int 0, .int 273, .int 0, .int 77, .int 0, .int 13, .int 0, .int 1, .int 0, .int 0]
  | 15 => [.int 0, .int 1430, .int 0, .int 2002, .int 0, .int 1638, .int 0, .int 910, .int 0, .int 350, .int 0, .int 90, .int 0, .int 14, .int 0, .int 1, .int 0, .int 0]
  | 16 => [.int 1430, .int 0, .int 3432, .int 0, .int 3640, .int 0, .int 2548, .int 0, .int 1260, .int 0, .int 440, .int 0, .int 104, .int 0, .int 15, .int 0, .int 1, .int 0, .int 0]
  | _ => []
theorem widths {w : Int} (h1 : 1 ≤ w) (h2 : w ≤ 16) : w = 1 ∨ w = 2 ∨ w = 3 ∨ w = 4 ∨ w = 5 ∨ w = 6 ∨ w = 7 ∨ w = 8 ∨ w = 9 ∨ w = 10 ∨ w = 11 ∨ w = 12 ∨ w = 13 ∨ w = 14 ∨ w = 15 ∨ w = 16 := by omega
section
variable {ns : List Int} {k a b : Int} {s4 s5 s6 s7 : Sl}
theorem found_ok_1 : (lcM (rg1 (consA (opM addA (varM 3) (cM (.int 3))) (nilA))) (gN 8) [8] (yesT) (callD f__law_result [] (dR (cM (.int 1)) (dR (varM 3) (dR (varM 8) (nilR)))))) (E ns (.d (.int k)) (.o (.L [.int a, .int b])) (.d (.int 1)) s4 s5 s6 s7) = .ok (.t (.L (founds 1))) (E ns (.d (.int k)) (.o (.L [.int a, .int b])) (.d (.int 1)) s4 s5 s6 s7) := by kernel_rfl
theorem found_ok_2 : (lcM (rg1 (consA (opM addA (varM 3) (cM (.int 3))) (nilA))) (gN 8) [8] (yesT) (callD f__law_result [] (dR (cM (.int 1)) (dR (varM 3) (dR (varM 8) (nilR)))))) (E ns (.d (.int k)) (.o (.L [.int a, .int b])) (.d (.int 2)) s4 s5 s6 s7) = .ok (.t (.L (founds 2))) (E ns (.d (.int k)) (.o (.L [.int a, .int b])) (.d (.int 2)) s4 s5 s6 s7) := by kernel_rfl
theorem found_ok_3 : (lcM (rg1 (consA (opM addA (varM 3) (cM (.int 3))) (nilA))) (gN 8) [8] (yesT) (callD f__law_result [] (dR (cM (.int 1)) (dR (varM 3) (dR (varM 8) (nilR)))))) (E ns (.d (.int k)) (.o (.L [.int a, .int b])) (.d (.int 3)) s4 s5 s6 s7) = .ok (.t (.L (founds 3))) (E ns (.d (.int k)) (.o (.L [.int a, .int b])) (.d (.int 3)) s4 s5 s6 s7) := by kernel_rfl
theorem found_ok_4 : (lcM (rg1 (consA (opM addA (varM 3) (cM (.int 3))) (nilA))) (gN 8) [8] (yesT) (callD f__law_result [] (dR (cM (.int 1)) (dR (varM 3) (dR (varM 8) (nilR)))))) (E ns (.d (.int k)) (.o (.L [.int a, .int b])) (.d (.int 4)) s4 s5 s6 s7) = .ok (.t (.L (founds 4))) (E ns (.d (.int k)) (.o (.L [.int a, .int b])) (.d (.int 4)) s4 s5 s6 s7) := by kernel_rfl
theorem found_ok_5 : (lcM (rg1 (consA (opM addA (varM 3) (cM (.int 3))) (nilA))) (gN 8) [8] (yesT) (callD f__law_result [] (dR (cM (.int 1)) (dR (varM 3) (dR (varM 8) (nilR)))))) (E ns (.d (.int k)) (.o (.L [.int a, .int b])) (.d (.int 5)) s4 s5 s6 s7) = .ok (.t (.L (founds 5))) (E ns (.d (.int k)) (.o (.L [.int a, .int b])) (.d (.int 5)) s4 s5 s6 s7) := by kernel_rfl
theorem found_ok_6 : (lcM (rg1 (consA (opM addA (varM 3) (cM (.int 3))) (nilA))) (gN 8) [8] (yesT) (callD f__law_result [] (dR (cM (.int 1)) (dR (varM 3) (dR (varM 8) (nilR)))))) (E ns (.d (.int k)) (.o (.L [.int a, .int b])) (.d (.int 6)) s4 s5 s6 s7) = .ok (.t (.L (founds 6))) (E ns (.d (.int k)) (.o (.L [.int a, .int b])) (.d (.int 6)) s4 s5 s6 s7) := by kernel_rfl
theorem found_ok_7 : (lcM (rg1 (consA (opM addA (varM 3) (cM (.int 3))) (nilA))) (gN 8) [8] (yesT) (callD f__law_result [] (dR (cM (.int 1)) (dR (varM 3) (dR (varM 8) (nilR)))))) (E ns (.d (.int k)) (.o (.L [.int a, .int b])) (.d (.int 7)) s4 s5 s6 s7) = .ok (.t (.L (founds 7))) (E ns (.d (.int k)) (.o (.L [.int a, .int b])) (.d (.int 7)) s4 s5 s6 s7) := by kernel_rfl
theorem found_ok_8 : (lcM (rg1 (consA (opM addA (varM 3) (cM (.int 3))) (nilA))) (gN 8) [8] (yesT) (callD f__law_result [] (dR (cM (.int 1)) (dR (varM 3) (dR (varM 8) (nilR)))))) (E ns (.d (.int k)) (.o (.L [.int a, .int b])) (.d (.int 8)) s4 s5 s6 s7) = .ok (.t (.L (founds 8))) (E ns (.d (.int k)) (.o (.L [.int a, .int b])) (.d (.int 8)) s4 s5 s6 s7) := by kernel_rfl
theorem found_ok_9 : (lcM (rg1 (consA (opM addA (varM 3) (cM (.int 3))) (nilA))) (gN 8) [8] (yesT) (callD f__law_result [] (dR (cM (.int 1)) (dR (varM 3) (dR (varM 8) (nilR)))))) (E ns (.d (.int k)) (.o (.L [.int a, .int b])) (.d (.int 9)) s4 s5 s6 s7) = .ok (.t (.L (founds 9))) (E ns (.d (.int k)) (.o (.L [.int a, .int b])) (.d (.int 9)) s4 s5 s6 s7) := by kernel_rfl
theorem found_ok_10 : (lcM (rg1 (consA (opM addA (varM 3) (cM (.int 3))) (nilA))) (gN 8) [8] (yesT) (callD f__law_result [] (dR (cM (.int 1)) (dR (varM 3) (dR (varM 8) (nilR)))))) (E ns (.d (.int k)) (.o (.L [.int a, .int b])) (.d (.int 10)) s4 s5 s6 s7) = .ok (.t (.L (founds 10))) (E ns (.d (.int k)) (.o (.L [.int a, .int b])) (.d (.int 10)) s4 s5 s6 s7) := by kernel_rfl
theorem found_ok_11 : (lcM (rg1 (consA (opM addA (varM 3) (cM (.int 3))) (nilA))) (gN 8) [8] (yesT) (callD f__law_result [] (dR (cM (.int 1)) (dR (varM 3) (dR (varM 8) (nilR)))))) (E ns (.d (.int k)) (.o (.L [.int a, .int b])) (.d (.int 11)) s4 s5 s6 s7) = .ok (.t (.L (founds 11))) (E ns (.d (.int k)) (.o (.L [.int a, .int b])) (.d (.int 11)) s4 s5 s6 s7) := by kernel_rfl
theorem found_ok_12 : (lcM (rg1 (consA (opM addA (varM 3) (cM (.int 3))) (nilA))) (gN 8) [8] (yesT) (callD f__law_result [] (dR (cM (.int 1)) (dR (varM 3) (dR (varM 8) (nilR)))))) (E ns (.d (.int k)) (.o (.L [.int a, .int b])) (.d (.int 12)) s4 s5 s6 s7) = .ok (.t (.L (founds 12))) (E ns (.d (.int k)) (.o (.L [.int a, .int b])) (.d (.int 12)) s4 s5 s6 s7) := by kernel_rfl
theorem found_ok_13 : (lcM (rg1 (consA (opM addA (varM 3) (cM (.int 3))) (nilA))) (gN 8) [8] (yesT) (callD f__law_result [] (dR (cM (.int 1)) (dR (varM 3) (dR (varM 8) (nilR)))))) (E ns (.d (.int k)) (.o (.L [.int a, .int b])) (.d (.int 13)) s4 s5 s6 s7) = .ok (.t (.L (founds 13))) (E ns (.d (.int k)) (.o (.L [.int a, .int b])) (.d (.int 13)) s4 s5 s6 s7) := by kernel_rfl
theorem found_ok_14 : (lcM (rg1 (consA (opM addA (varM 3) (cM (.int 3))) (nilA))) (gN 8) [8] (yesT) (callD f__law_result [] (dR (cM (.int 1)) (dR (varM 3) (dR (varM 8) (nilR)))))) (E ns (.d (.int k)) (.o (.L [.int a, .int b])) (.d (.int 14)) s4 s5 s6 s7) = .ok (.t (.L (founds 14))) (E ns (.d (.int k)) (.o (.L [.int a, .int b])) (.d (.int 14)) s4 s5 s6 s7) := by kernel_rfl
theorem found_ok_15 : (lcM (rg1 (consA (opM addA (varM 3) (cM (.int 3))) (nilA))) (gN 8) [8] (yesT) (callD f__law_result [] (dR (cM (.int 1)) (dR (varM 3) (dR (varM 8) (nilR)))))) (E ns (.d (.int k)) (.o (.L [.int a, .int b])) (.d (.int 15)) s4 s5 s6 s7) = .ok (.t (.L (founds 15))) (E ns (.d (.int k)) (.o (.L [.int a, .int b])) (.d (.int 15)) s4 s5 s6 s7) := by kernel_rfl
theorem found_ok_16 : (lcM (rg1 (consA (opM addA (varM 3) (cM (.int 3))) (nilA))) (gN 8) [8] (yesT) (callD f__law_result [] (dR (cM (.int 1)) (dR (varM 3) (dR (varM 8) (nilR)))))) (E ns (.d (.int k)) (.o (.L [.int a, .int b])) (.d (.int 16)) s4 s5 s6 s7) = .ok (.t (.L (founds 16))) (E ns (.d (.int k)) (.o (.L [.int a, .int b])) (.d (.int 16)) s4 s5 s6 s7) := by kernel_rfl
theorem found_ok (w : Int) (h1 : 1 ≤ w) (h2 : w ≤ 16) : (lcM (rg1 (consA (opM addA (varM 3) (cM (.int 3))) (nilA))) (gN 8) [8] (yesT) (callD f__law_result [] (dR (cM (.int 1)) (dR (varM 3) (dR (varM 8) (nilR)))))) (E ns (.d (.int k)) (.o (.L [.int a, .int b])) (.d (.int w)) s4 s5 s6 s7) = .ok (.t (.L (founds w))) (E ns (.d (.int k)) (.o (.L [.int a, .int b])) (.d (.int w)) s4 s5 s6 s7) := by
  rcases widths h1 h2 with rfl | rfl | rfl | rfl | rfl | rfl | rfl | rfl | rfl | rfl | rfl | rfl | rfl | rfl | rfl | rfl
  · exact found_ok_1
  · exact found_ok_2
  · exact found_ok_3
  · exact found_ok_4
  · exact found_ok_5
  · exact found_ok_6
  · exact found_ok_7
  · exact found_ok_8
  · exact found_ok_9
  · exact found_ok_10
  · exact found_ok_11
  · exact found_ok_12
  · exact found_ok_13
  · exact found_ok_14
  · exact found_ok_15
  · exact found_ok_16
theorem walks_ok_1 : (lcM (rg1 (consA (opM addA (varM 3) (cM (.int 3))) (nilA))) (gN 8) [8] (yesT) (callD f__law_half_count [] (dR (varM 3) (dR (varM 8) (nilR))))) (E ns (.d (.int k)) (.o (.L [.int a, .int b])) (.d (.int 1)) s4 s5 s6 s7) = .ok (.t (.L (walks 1))) (E ns (.d (.int k)) (.o (.L [.int a, .int b])) (.d (.int 1)) s4 s5 s6 s7) := by kernel_rfl
theorem walks_ok_2 : (lcM (rg1 (consA (opM addA (varM 3) (cM (.int 3))) (nilA))) (gN 8) [8] (yesT) (callD f__law_half_count [] (dR (varM 3) (dR (varM 8) (nilR))))) (E ns (.d (.int k)) (.o (.L [.int a, .int b])) (.d (.int 2)) s4 s5 s6 s7) = .ok (.t (.L (walks 2))) (E ns (.d (.int k)) (.o (.L [.int a, .int b])) (.d (.int 2)) s4 s5 s6 s7) := by kernel_rfl
theorem walks_ok_3 : (lcM (rg1 (consA (opM addA (varM 3) (cM (.int 3))) (nilA))) (gN 8) [8] (yesT) (callD f__law_half_count [] (dR (varM 3) (dR (varM 8) (nilR))))) (E ns (.d (.int k)) (.o (.L [.int a, .int b])) (.d (.int 3)) s4 s5 s6 s7) = .ok (.t (.L (walks 3))) (E ns (.d (.int k)) (.o (.L [.int a, .int b])) (.d (.int 3)) s4 s5 s6 s7) := by kernel_rfl
theorem walks_ok_4 : (lcM (rg1 (consA (opM addA (varM 3) (cM (.int 3))) (nilA))) (gN 8) [8] (yesT) (callD f__law_half_count [] (dR (varM 3) (dR (varM 8) (nilR))))) (E ns (.d (.int k)) (.o (.L [.int a, .int b])) (.d (.int 4)) s4 s5 s6 s7) = .ok (.t (.L (walks 4))) (E ns (.d (.int k)) (.o (.L [.int a, .int b])) (.d (.int 4)) s4 s5 s6 s7) := by kernel_rfl
theorem walks_ok_5 : (lcM (rg1 (consA (opM addA (varM 3) (cM (.int 3))) (nilA))) (gN 8) [8] (yesT) (callD f__law_half_count [] (dR (varM 3) (dR (varM 8) (nilR))))) (E ns (.d (.int k)) (.o (.L [.int a, .int b])) (.d (.int 5)) s4 s5 s6 s7) = .ok (.t (.L (walks 5))) (E ns (.d (.int k)) (.o (.L [.int a, .int b])) (.d (.int 5)) s4 s5 s6 s7) := by kernel_rfl
theorem walks_ok_6 : (lcM (rg1 (consA (opM addA (varM 3) (cM (.int 3))) (nilA))) (gN 8) [8] (yesT) (callD f__law_half_count [] (dR (varM 3) (dR (varM 8) (nilR))))) (E ns (.d (.int k)) (.o (.L [.int a, .int b])) (.d (.int 6)) s4 s5 s6 s7) = .ok (.t (.L (walks 6))) (E ns (.d (.int k)) (.o (.L [.int a, .int b])) (.d (.int 6)) s4 s5 s6 s7) := by kernel_rfl
theorem walks_ok_7 : (lcM (rg1 (consA (opM addA (varM 3) (cM (.int 3))) (nilA))) (gN 8) [8] (yesT) (callD f__law_half_count [] (dR (varM 3) (dR (varM 8) (nilR))))) (E ns (.d (.int k)) (.o (.L [.int a, .int b])) (.d (.int 7)) s4 s5 s6 s7) = .ok (.t (.L (walks 7))) (E ns (.d (.int k)) (.o (.L [.int a, .int b])) (.d (.int 7)) s4 s5 s6 s7) := by kernel_rfl
theorem walks_ok_8 : (lcM (rg1 (consA (opM addA (varM 3) (cM (.int 3))) (nilA))) (gN 8) [8] (yesT) (callD f__law_half_count [] (dR (varM 3) (dR (varM 8) (nilR))))) (E ns (.d (.int k)) (.o (.L [.int a, .int b])) (.d (.int 8)) s4 s5 s6 s7) = .ok (.t (.L (walks 8))) (E ns (.d (.int k)) (.o (.L [.int a, .int b])) (.d (.int 8)) s4 s5 s6 s7) := by kernel_rfl
theorem walks_ok_9 : (lcM (rg1 (consA (opM addA (varM 3) (cM (.int 3))) (nilA))) (gN 8) [8] (yesT) (callD f__law_half_count [] (dR (varM 3) (dR (varM 8) (nilR))))) (E ns (.d (.int k)) (.o (.L [.int a, .int b])) (.d (.int 9)) s4 s5 s6 s7) = .ok (.t (.L (walks 9))) (E ns (.d (.int k)) (.o (.L [.int a, .int b])) (.d (.int 9)) s4 s5 s6 s7) := by kernel_rfl
theorem walks_ok_10 : (lcM (rg1 (consA (opM addA (varM 3) (cM (.int 3))) (nilA))) (gN 8) [8] (yesT) (callD f__law_half_count [] (dR (varM 3) (dR (varM 8) (nilR))))) (E ns (.d (.int k)) (.o (.L [.int a, .int b])) (.d (.int 10)) s4 s5 s6 s7) = .ok (.t (.L (walks 10))) (E ns (.d (.int k)) (.o (.L [.int a, .int b])) (.d (.int 10)) s4 s5 s6 s7) := by kernel_rfl
theorem walks_ok_11 : (lcM (rg1 (consA (opM addA (varM 3) (cM (.int 3))) (nilA))) (gN 8) [8] (yesT) (callD f__law_half_count [] (dR (varM 3) (dR (varM 8) (nilR))))) (E ns (.d (.int k)) (.o (.L [.int a, .int b])) (.d (.int 11)) s4 s5 s6 s7) = .ok (.t (.L (walks 11))) (E ns (.d (.int k)) (.o (.L [.int a, .int b])) (.d (.int 11)) s4 s5 s6 s7) := by kernel_rfl
theorem walks_ok_12 : (lcM (rg1 (consA (opM addA (varM 3) (cM (.int 3))) (nilA))) (gN 8) [8] (yesT) (callD f__law_half_count [] (dR (varM 3) (dR (varM 8) (nilR))))) (E ns (.d (.int k)) (.o (.L [.int a, .int b])) (.d (.int 12)) s4 s5 s6 s7) = .ok (.t (.L (walks 12))) (E ns (.d (.int k)) (.o (.L [.int a, .int b])) (.d (.int 12)) s4 s5 s6 s7) := by kernel_rfl
theorem walks_ok_13 : (lcM (rg1 (consA (opM addA (varM 3) (cM (.int 3))) (nilA))) (gN 8) [8] (yesT) (callD f__law_half_count [] (dR (varM 3) (dR (varM 8) (nilR))))) (E ns (.d (.int k)) (.o (.L [.int a, .int b])) (.d (.int 13)) s4 s5 s6 s7) = .ok (.t (.L (walks 13))) (E ns (.d (.int k)) (.o (.L [.int a, .int b])) (.d (.int 13)) s4 s5 s6 s7) := by kernel_rfl
theorem walks_ok_14 : (lcM (rg1 (consA (opM addA (varM 3) (cM (.int 3))) (nilA))) (gN 8) [8] (yesT) (callD f__law_half_count [] (dR (varM 3) (dR (varM 8) (nilR))))) (E ns (.d (.int k)) (.o (.L [.int a, .int b])) (.d (.int 14)) s4 s5 s6 s7) = .ok (.t (.L (walks 14))) (E ns (.d (.int k)) (.o (.L [.int a, .int b])) (.d (.int 14)) s4 s5 s6 s7) := by kernel_rfl
theorem walks_ok_15 : (lcM (rg1 (consA (opM addA (varM 3) (cM (.int 3))) (nilA))) (gN 8) [8] (yesT) (callD f__law_half_count [] (dR (varM 3) (dR (varM 8) (nilR))))) (E ns (.d (.int k)) (.o (.L [.int a, .int b])) (.d (.int 15)) s4 s5 s6 s7) = .ok (.t (.L (walks 15))) (E ns (.d (.int k)) (.o (.L [.int a, .int b])) (.d (.int 15)) s4 s5 s6 s7) := by kernel_rfl
theorem walks_ok_16 : (lcM (rg1 (consA (opM addA (varM 3) (cM (.int 3))) (nilA))) (gN 8) [8] (yesT) (callD f__law_half_count [] (dR (varM 3) (dR (varM 8) (nilR))))) (E ns (.d (.int k)) (.o (.L [.int a, .int b])) (.d (.int 16)) s4 s5 s6 s7) = .ok (.t (.L (walks 16))) (E ns (.d (.int k)) (.o (.L [.int a, .int b])) (.d (.int 16)) s4 s5 s6 s7) := by kernel_rfl
theorem walks_ok (w : Int) (h1 : 1 ≤ w) (h2 : w ≤ 16) : (lcM (rg1 (consA (opM addA (varM 3) (cM (.int 3))) (nilA))) (gN 8) [8] (yesT) (callD f__law_half_count [] (dR (varM 3) (dR (varM 8) (nilR))))) (E ns (.d (.int k)) (.o (.L [.int a, .int b])) (.d (.int w)) s4 s5 s6 s7) = .ok (.t (.L (walks w))) (E ns (.d (.int k)) (.o (.L [.int a, .int b])) (.d (.int w)) s4 s5 s6 s7) := by
  rcases widths h1 h2 with rfl | rfl | rfl | rfl | rfl | rfl | rfl | rfl | rfl | rfl | rfl | rfl | rfl | rfl | rfl | rfl
  · exact walks_ok_1
  · exact walks_ok_2
  · exact walks_ok_3
  · exact walks_ok_4
  · exact walks_ok_5
  · exact walks_ok_6
  · exact walks_ok_7
  · exact walks_ok_8
  · exact walks_ok_9
  · exact walks_ok_10
  · exact walks_ok_11
  · exact walks_ok_12
  · exact walks_ok_13
  · exact walks_ok_14
  · exact walks_ok_15
  · exact walks_ok_16
theorem q6_ok_1 : q_law_6 (E ns (.d (.int k)) (.o (.L [.int a, .int b])) (.d (.int 1)) (.d (.lst (founds 1))) (.d (.lst (walks 1))) s6 s7) = .nx (E ns (.d (.int k)) (.o (.L [.int a, .int b])) (.d (.int 1)) (.d (.lst (founds 1))) (.d (.lst (walks 1))) s6 s7) := by kernel_rfl
theorem q6_ok_2 : q_law_6 (E ns (.d (.int k)) (.o (.L [.int a, .int b])) (.d (.int 2)) (.d (.lst (founds 2))) (.d (.lst (walks 2))) s6 s7) = .nx (E ns (.d (.int k)) (.o (.L [.int a, .int b])) (.d (.int 2)) (.d (.lst (founds 2))) (.d (.lst (walks 2))) s6 s7) := by kernel_rfl
theorem q6_ok_3 : q_law_6 (E ns (.d (.int k)) (.o (.L [.int a, .int b])) (.d (.int 3)) (.d (.lst (founds 3))) (.d (.lst (walks 3))) s6 s7) = .nx (E ns (.d (.int k)) (.o (.L [.int a, .int b])) (.d (.int 3)) (.d (.lst (founds 3))) (.d (.lst (walks 3))) s6 s7) := by kernel_rfl
theorem q6_ok_4 : q_law_6 (E ns (.d (.int k)) (.o (.L [.int a, .int b])) (.d (.int 4)) (.d (.lst (founds 4))) (.d (.lst (walks 4))) s6 s7) = .nx (E ns (.d (.int k)) (.o (.L [.int a, .int b])) (.d (.int 4)) (.d (.lst (founds 4))) (.d (.lst (walks 4))) s6 s7) := by kernel_rfl
theorem q6_ok_5 : q_law_6 (E ns (.d (.int k)) (.o (.L [.int a, .int b])) (.d (.int 5)) (.d (.lst (founds 5))) (.d (.lst (walks 5))) s6 s7) = .nx (E ns (.d (.int k)) (.o (.L [.int a, .int b])) (.d (.int 5)) (.d (.lst (founds 5))) (.d (.lst (walks 5))) s6 s7) := by kernel_rfl
theorem q6_ok_6 : q_law_6 (E ns (.d (.int k)) (.o (.L [.int a, .int b])) (.d (.int 6)) (.d (.lst (founds 6))) (.d (.lst (walks 6))) s6 s7) = .nx (E ns (.d (.int k)) (.o (.L [.int a, .int b])) (.d (.int 6)) (.d (.lst (founds 6))) (.d (.lst (walks 6))) s6 s7) := by kernel_rfl
theorem q6_ok_7 : q_law_6 (E ns (.d (.int k)) (.o (.L [.int a, .int b])) (.d (.int 7)) (.d (.lst (founds 7))) (.d (.lst (walks 7))) s6 s7) = .nx (E ns (.d (.int k)) (.o (.L [.int a, .int b])) (.d (.int 7)) (.d (.lst (founds 7))) (.d (.lst (walks 7))) s6 s7) := by kernel_rfl
theorem q6_ok_8 : q_law_6 (E ns (.d (.int k)) (.o (.L [.int a, .int b])) (.d (.int 8)) (.d (.lst (founds 8))) (.d (.lst (walks 8))) s6 s7) = .nx (E ns (.d (.int k)) (.o (.L [.int a, .int b])) (.d (.int 8)) (.d (.lst (founds 8))) (.d (.lst (walks 8))) s6 s7) := by kernel_rfl
theorem q6_ok_9 : q_law_6 (E ns (.d (.int k)) (.o (.L [.int a, .int b])) (.d (.int 9)) (.d (.lst (founds 9))) (.d (.lst (walks 9))) s6 s7) = .nx (E ns (.d (.int k)) (.o (.L [.int a, .int b])) (.d (.int 9)) (.d (.lst (founds 9))) (.d (.lst (walks 9))) s6 s7) := by kernel_rfl
theorem q6_ok_10 : q_law_6 (E ns (.d (.int k)) (.o (.L [.int a, .int b])) (.d (.int 10)) (.d (.lst (founds 10))) (.d (.lst (walks 10))) s6 s7) = .nx (E ns (.d (.int k)) (.o (.L [.int a, .int b])) (.d (.int 10)) (.d (.lst (founds 10))) (.d (.lst (walks 10))) s6 s7) := by kernel_rfl
theorem q6_ok_11 : q_law_6 (E ns (.d (.int k)) (.o (.L [.int a, .int b])) (.d (.int 11)) (.d (.lst (founds 11))) (.d (.lst (walks 11))) s6 s7) = .nx (E ns (.d (.int k)) (.o (.L [.int a, .int b])) (.d (.int 11)) (.d (.lst (founds 11))) (.d (.lst (walks 11))) s6 s7) := by kernel_rfl
theorem q6_ok_12 : q_law_6 (E ns (.d (.int k)) (.o (.L [.int a, .int b])) (.d (.int 12)) (.d (.lst (founds 12))) (.d (.lst (walks 12))) s6 s7) = .nx (E ns (.d (.int k)) (.o (.L [.int a, .int b])) (.d (.int 12)) (.d (.lst (founds 12))) (.d (.lst (walks 12))) s6 s7) := by kernel_rfl
theorem q6_ok_13 : q_law_6 (E ns (.d (.int k)) (.o (.L [.int a, .int b])) (.d (.int 13)) (.d (.lst (founds 13))) (.d (.lst (walks 13))) s6 s7) = .nx (E ns (.d (.int k)) (.o (.L [.int a, .int b])) (.d (.int 13)) (.d (.lst (founds 13))) (.d (.lst (walks 13))) s6 s7) := by kernel_rfl
theorem q6_ok_14 : q_law_6 (E ns (.d (.int k)) (.o (.L [.int a, .int b])) (.d (.int 14)) (.d (.lst (founds 14))) (.d (.lst (walks 14))) s6 s7) = .nx (E ns (.d (.int k)) (.o (.L [.int a, .int b])) (.d (.int 14)) (.d (.lst (founds 14))) (.d (.lst (walks 14))) s6 s7) := by kernel_rfl
theorem q6_ok_15 : q_law_6 (E ns (.d (.int k)) (.o (.L [.int a, .int b])) (.d (.int 15)) (.d (.lst (founds 15))) (.d (.lst (walks 15))) s6 s7) = .nx (E ns (.d (.int k)) (.o (.L [.int a, .int b])) (.d (.int 15)) (.d (.lst (founds 15))) (.d (.lst (walks 15))) s6 s7) := by kernel_rfl
theorem q6_ok_16 : q_law_6 (E ns (.d (.int k)) (.o (.L [.int a, .int b])) (.d (.int 16)) (.d (.lst (founds 16))) (.d (.lst (walks 16))) s6 s7) = .nx (E ns (.d (.int k)) (.o (.L [.int a, .int b])) (.d (.int 16)) (.d (.lst (founds 16))) (.d (.lst (walks 16))) s6 s7) := by kernel_rfl
theorem q6_ok (w : Int) (h1 : 1 ≤ w) (h2 : w ≤ 16) : q_law_6 (E ns (.d (.int k)) (.o (.L [.int a, .int b])) (.d (.int w)) (.d (.lst (founds w))) (.d (.lst (walks w))) s6 s7) = .nx (E ns (.d (.int k)) (.o (.L [.int a, .int b])) (.d (.int w)) (.d (.lst (founds w))) (.d (.lst (walks w))) s6 s7) := by
  rcases widths h1 h2 with rfl | rfl | rfl | rfl | rfl | rfl | rfl | rfl | rfl | rfl | rfl | rfl | rfl | rfl | rfl | rfl
  · exact q6_ok_1
  · exact q6_ok_2
  · exact q6_ok_3
  · exact q6_ok_4
  · exact q6_ok_5
  · exact q6_ok_6
  · exact q6_ok_7
  · exact q6_ok_8
  · exact q6_ok_9
  · exact q6_ok_10
  · exact q6_ok_11
  · exact q6_ok_12
  · exact q6_ok_13
  · exact q6_ok_14
  · exact q6_ok_15
  · exact q6_ok_16
theorem q8_ok_1 : q_law_8 (E ns (.d (.int k)) (.o (.L [.int a, .int b])) (.d (.int 1)) (.d (.lst (founds 1))) (.d (.lst (walks 1))) s6 s7) = .nx (E ns (.d (.int k)) (.o (.L [.int a, .int b])) (.d (.int 1)) (.d (.lst (founds 1))) (.d (.lst (walks 1))) s6 s7) := by kernel_rfl
theorem q8_ok_2 : q_law_8 (E ns (.d (.int k)) (.o (.L [.int a, .int b])) (.d (.int 2)) (.d (.lst (founds 2))) (.d (.lst (walks 2))) s6 s7) = .nx (E ns (.d (.int k)) (.o (.L [.int a, .int b])) (.d (.int 2)) (.d (.lst (founds 2))) (.d (.lst (walks 2))) s6 s7) := by kernel_rfl
theorem q8_ok_3 : q_law_8 (E ns (.d (.int k)) (.o (.L [.int a, .int b])) (.d (.int 3)) (.d (.lst (founds 3))) (.d (.lst (walks 3))) s6 s7) = .nx (E ns (.d (.int k)) (.o (.L [.int a, .int b])) (.d (.int 3)) (.d (.lst (founds 3))) (.d (.lst (walks 3))) s6 s7) := by kernel_rfl
theorem q8_ok_4 : q_law_8 (E ns (.d (.int k)) (.o (.L [.int a, .int b])) (.d (.int 4)) (.d (.lst (founds 4))) (.d (.lst (walks 4))) s6 s7) = .nx (E ns (.d (.int k)) (.o (.L [.int a, .int b])) (.d (.int 4)) (.d (.lst (founds 4))) (.d (.lst (walks 4))) s6 s7) := by kernel_rfl
theorem q8_ok_5 : q_law_8 (E ns (.d (.int k)) (.o (.L [.int a, .int b])) (.d (.int 5)) (.d (.lst (founds 5))) (.d (.lst (walks 5))) s6 s7) = .nx (E ns (.d (.int k)) (.o (.L [.int a, .int b])) (.d (.int 5)) (.d (.lst (founds 5))) (.d (.lst (walks 5))) s6 s7) := by kernel_rfl
theorem q8_ok_6 : q_law_8 (E ns (.d (.int k)) (.o (.L [.int a, .int b])) (.d (.int 6)) (.d (.lst (founds 6))) (.d (.lst (walks 6))) s6 s7) = .nx (E ns (.d (.int k)) (.o (.L [.int a, .int b])) (.d (.int 6)) (.d (.lst (founds 6))) (.d (.lst (walks 6))) s6 s7) := by kernel_rfl
theorem q8_ok_7 : q_law_8 (E ns (.d (.int k)) (.o (.L [.int a, .int b])) (.d (.int 7)) (.d (.lst (founds 7))) (.d (.lst (walks 7))) s6 s7) = .nx (E ns (.d (.int k)) (.o (.L [.int a, .int b])) (.d (.int 7)) (.d (.lst (founds 7))) (.d (.lst (walks 7))) s6 s7) := by kernel_rfl
theorem q8_ok_8 : q_law_8 (E ns (.d (.int k)) (.o (.L [.int a, .int b])) (.d (.int 8)) (.d (.lst (founds 8))) (.d (.lst (walks 8))) s6 s7) = .nx (E ns (.d (.int k)) (.o (.L [.int a, .int b])) (.d (.int 8)) (.d (.lst (founds 8))) (.d (.lst (walks 8))) s6 s7) := by kernel_rfl
theorem q8_ok_9 : q_law_8 (E ns (.d (.int k)) (.o (.L [.int a, .int b])) (.d (.int 9)) (.d (.lst (founds 9))) (.d (.lst (walks 9))) s6 s7) = .nx (E ns (.d (.int k)) (.o (.L [.int a, .int b])) (.d (.int 9)) (.d (.lst (founds 9))) (.d (.lst (walks 9))) s6 s7) := by kernel_rfl
theorem q8_ok_10 : q_law_8 (E ns (.d (.int k)) (.o (.L [.int a, .int b])) (.d (.int 10)) (.d (.lst (founds 10))) (.d (.lst (walks 10))) s6 s7) = .nx (E ns (.d (.int k)) (.o (.L [.int a, .int b])) (.d (.int 10)) (.d (.lst (founds 10))) (.d (.lst (walks 10))) s6 s7) := by kernel_rfl
theorem q8_ok_11 : q_law_8 (E ns (.d (.int k)) (.o (.L [.int a, .int b])) (.d (.int 11)) (.d (.lst (founds 11))) (.d (.lst (walks 11))) s6 s7) = .nx (E ns (.d (.int k)) (.o (.L [.int a, .int b])) (.d (.int 11)) (.d (.lst (founds 11))) (.d (.lst (walks 11))) s6 s7) := by kernel_rfl
theorem q8_ok_12 : q_law_8 (E ns (.d (.int k)) (.o (.L [.int a, .int b])) (.d (.int 12)) (.d (.lst (founds 12))) (.d (.lst (walks 12))) s6 s7) = .nx (E ns (.d (.int k)) (.o (.L [.int a, .int b])) (.d (.int 12)) (.d (.lst (founds 12))) (.d (.lst (walks 12))) s6 s7) := by kernel_rfl
theorem q8_ok_13 : q_law_8 (E ns (.d (.int k)) (.o (.L [.int a, .int b])) (.d (.int 13)) (.d (.lst (founds 13))) (.d (.lst (walks 13))) s6 s7) = .nx (E ns (.d (.int k)) (.o (.L [.int a, .int b])) (.d (.int 13)) (.d (.lst (founds 13))) (.d (.lst (walks 13))) s6 s7) := by kernel_rfl
theorem q8_ok_14 : q_law_8 (E ns (.d (.int k)) (.o (.L [.int a, .int b])) (.d (.int 14)) (.d (.lst (founds 14))) (.d (.lst (walks 14))) s6 s7) = .nx (E ns (.d (.int k)) (.o (.L [.int a, .int b])) (.d (.int 14)) (.d (.lst (founds 14))) (.d (.lst (walks 14))) s6 s7) := by kernel_rfl
theorem q8_ok_15 : q_law_8 (E ns (.d (.int k)) (.o (.L [.int a, .int b])) (.d (.int 15)) (.d (.lst (founds 15))) (.d (.lst (walks 15))) s6 s7) = .nx (E ns (.d (.int k)) (.o (.L [.int a, .int b])) (.d (.int 15)) (.d (.lst (founds 15))) (.d (.lst (walks 15))) s6 s7) := by kernel_rfl
theorem q8_ok_16 : q_law_8 (E ns (.d (.int k)) (.o (.L [.int a, .int b])) (.d (.int 16)) (.d (.lst (founds 16))) (.d (.lst (walks 16))) s6 s7) = .nx (E ns (.d (.int k)) (.o (.L [.int a, .int b])) (.d (.int 16)) (.d (.lst (founds 16))) (.d (.lst (walks 16))) s6 s7) := by kernel_rfl
theorem q8_ok (w : Int) (h1 : 1 ≤ w) (h2 : w ≤ 16) : q_law_8 (E ns (.d (.int k)) (.o (.L [.int a, .int b])) (.d (.int w)) (.d (.lst (founds w))) (.d (.lst (walks w))) s6 s7) = .nx (E ns (.d (.int k)) (.o (.L [.int a, .int b])) (.d (.int w)) (.d (.lst (founds w))) (.d (.lst (walks w))) s6 s7) := by
  rcases widths h1 h2 with rfl | rfl | rfl | rfl | rfl | rfl | rfl | rfl | rfl | rfl | rfl | rfl | rfl | rfl | rfl | rfl
  · exact q8_ok_1
  · exact q8_ok_2
  · exact q8_ok_3
  · exact q8_ok_4
  · exact q8_ok_5
  · exact q8_ok_6
  · exact q8_ok_7
  · exact q8_ok_8
  · exact q8_ok_9
  · exact q8_ok_10
  · exact q8_ok_11
  · exact q8_ok_12
  · exact q8_ok_13
  · exact q8_ok_14
  · exact q8_ok_15
  · exact q8_ok_16
end
end PL.K46
namespace PL.K46
open PySem L2
theorem st1 (ns : List Int) (k : Int) (h0 : 0 ≤ k) (h1 : k ≤ 7) (s2 s3 s4 s5 s6 s7 : Sl) (h2 : isR s2 = false) : ∃ a b, q_law_1 (E ns (.d (.int k)) s2 s3 s4 s5 s6 s7) = .nx (E ns (.d (.int k)) (.o (.L [.int a, .int b])) s3 s4 s5 s6 s7) := by
  obtain ⟨a, b, hp⟩ := pool_ok ns k h0 h1
  refine ⟨a, b, ?_⟩
  cases s2 with
  | r w => cases h2
  | _ => simp [q_law_1, E, defM, fin, seqM, Sr.seq, skipM, ifS, Rs.toS, testM, opM, unM, one, two, varM, cM, app2, app1, appN, view, views, Rs.bind, retM, rvOf, outA, asgF, asgO, fzM, frz, stT, asgG, gIx, gIxEnd, gN, gN, owOf, putE, canSet, cbM, consA, nilA, consF, nilF, consD, lstM, tupM, Ow.toD, ixA, ixL, ixT, addA, mulA, fOr, addI, subI, mulI, divI, modI, powI, iI, iB, iIc, ltI, leI, gtI, geI, callD, callM, dfR, dR, rR, nilR, slsOf, slOf, refsOf, nodupB, updsOf, backs, tvOf, hp]
theorem st2 (ns : List Int) (k a b : Int) (s3 s4 s5 s6 s7 : Sl) (h3 : isR s3 = false) : ∃ a' b' w, 1 ≤ w ∧ w ≤ 16 ∧ q_law_2 (E ns (.d (.int k)) (.o (.L [.int a, .int b])) s3 s4 s5 s6 s7) = .nx (E ns (.d (.int k)) (.o (.L [.int a', .int b'])) (.d (.int w)) s4 s5 s6 s7) := by
  obtain ⟨i, a', b', i0, i1, hp⟩ := take_ok a b 16 (by omega) (by omega)
  refine ⟨a', b', 1 + i, by omega, by omega, ?_⟩
  cases s3 with
  | r w => cases h3
  | _ => simp [q_law_2, E, defM, fin, seqM, Sr.seq, skipM, ifS, Rs.toS, testM, opM, unM, one, two, varM, cM, app2, app1, appN, view, views, Rs.bind, retM, rvOf, outA, asgF, asgO, fzM, frz, stT, asgG, gIx, gIxEnd, gN, gN, owOf, putE, canSet, cbM, consA, nilA, consF, nilF, consD, lstM, tupM, Ow.toD, ixA, ixL, ixT, addA, mulA, fOr, addI, subI, mulI, divI, modI, powI, iI, iB, iIc, ltI, leI, gtI, geI, callD, callM, dfR, dR, rR, nilR, slsOf, slOf, refsOf, nodupB, updsOf, backs, tvOf, kindW, hp]
theorem st3 (ns : List Int) (k a b w : Int) (h1 : 1 ≤ w) (h2 : w ≤ 16) (s4 s5 s6 s7 : Sl) (h4 : isR s4 = false) : q_law_3 (E ns (.d (.int k)) (.o (.L [.int a, .int b])) (.d (.int w)) s4 s5 s6 s7) = .nx (E ns (.d (.int k)) (.o (.L [.int a, .int b])) (.d (.int w)) (.d (.lst (founds w))) s5 s6 s7) := by
  unfold q_law_3 asgF fzM
  rw [found_ok w h1 h2]
  cases s4 with
  | r w => cases h4
  | _ => simp [E, defM, fin, seqM, Sr.seq, skipM, ifS, Rs.toS, testM, opM, unM, one, two, varM, cM, app2, app1, appN, view, views, Rs.bind, retM, rvOf, outA, asgF, asgO, fzM, frz, stT, asgG, gIx, gIxEnd, gN, gN, owOf, putE, canSet, cbM, consA, nilA, consF, nilF, consD, lstM, tupM, Ow.toD, ixA, ixL, ixT, addA, mulA, fOr, addI, subI, mulI, divI, modI, powI, iI, iB, iIc, ltI, leI, gtI, geI, callD, callM, dfR, dR, rR, nilR, slsOf, slOf, refsOf, nodupB, updsOf, backs, tvOf]
theorem st4 (ns : List Int) (k a b w : Int) (h1 : 1 ≤ w) (h2 : w ≤ 16) (s4 s5 s6 s7 : Sl) (h5 : isR s5 = false) : q_law_4 (E ns (.d (.int k)) (.o (.L [.int a, .int b])) (.d (.int w)) s4 s5 s6 s7) = .nx (E ns (.d (.int k)) (.o (.L [.int a, .int b])) (.d (.int w)) s4 (.d (.lst (walks w))) s6 s7) := by
  unfold q_law_4 asgF fzM
  rw [walks_ok w h1 h2]
  cases s5 with
  | r w => cases h5
  | _ => simp [E, defM, fin, seqM, Sr.seq, skipM, ifS, Rs.toS, testM, opM, unM, one, two, varM, cM, app2, app1, appN, view, views, Rs.bind, retM, rvOf, outA, asgF, asgO, fzM, frz, stT, asgG, gIx, gIxEnd, gN, gN, owOf, putE, canSet, cbM, consA, nilA, consF, nilF, consD, lstM, tupM, Ow.toD, ixA, ixL, ixT, addA, mulA, fOr, addI, subI, mulI, divI, modI, powI, iI, iB, iIc, ltI, leI, gtI, geI, callD, callM, dfR, dR, rR, nilR, slsOf, slOf, refsOf, nodupB, updsOf, backs, tvOf]
theorem nines {i : Int} (h1 : 0 ≤ i) (h2 : i < 9) : i = 0 ∨ i = 1 ∨ i = 2 ∨ i = 3 ∨ i = 4 ∨ i = 5 ∨ i = 6 ∨ i = 7 ∨ i = 8 := by omega
theorem eights {i : Int} (h1 : 0 ≤ i) (h2 : i < 8) : i = 0 ∨ i = 1 ∨ i = 2 ∨ i = 3 ∨ i = 4 ∨ i = 5 ∨ i = 6 ∨ i = 7 := by omega
theorem sevens {i : Int} (h1 : 0 ≤ i) (h2 : i < 7) : i = 0 ∨ i = 1 ∨ i = 2 ∨ i = 3 ∨ i = 4 ∨ i = 5 ∨ i = 6 := by omega
theorem big_ok (w : Int) (h1 : 1 ≤ w) (h2 : w ≤ 16) (i : Int) (h3 : 0 ≤ i) (h4 : i < 9) : f__law_result [.d (.int 1), .d (.int w), .d (.int (100000000000000000000 + i))] = .ok (.v (.int 0)) [.d (.int 1), .d (.int w), .d (.int (100000000000000000000 + i))] := by
  rcases widths h1 h2 with rfl | rfl | rfl | rfl | rfl | rfl | rfl | rfl | rfl | rfl | rfl | rfl | rfl | rfl | rfl | rfl <;> rcases nines h3 h4 with rfl | rfl | rfl | rfl | rfl | rfl | rfl | rfl | rfl <;> kernel_rfl
theorem st10 (ns : List Int) (k a b w : Int) (h1 : 1 ≤ w) (h2 : w ≤ 16) (s4 s5 s6 s7 : Sl) : ∃ a' b', q_law_10 (E ns (.d (.int k)) (.o (.L [.int a, .int b])) (.d (.int w)) s4 s5 s6 s7) = .nx (E ns (.d (.int k)) (.o (.L [.int a', .int b'])) (.d (.int w)) s4 s5 s6 s7) := by
  obtain ⟨i, a', b', i0, i1, hp⟩ := take_ok a b 9 (by omega) (by omega)
  refine ⟨a', b', ?_⟩
  have c7 : cPow 10 20 = true := by decide
  have c8 : neD (.int 0) (.int 0) = some (.v (.bl false)) := by kernel_rfl
  simp [q_law_10, E, defM, fin, seqM, Sr.seq, skipM, ifS, Rs.toS, testM, opM, unM, one, two, varM, cM, app2, app1, appN, view, views, Rs.bind, retM, rvOf, outA, asgF, asgO, fzM, frz, stT, asgG, gIx, gIxEnd, gN, gN, owOf, putE, canSet, cbM, consA, nilA, consF, nilF, consD, lstM, tupM, Ow.toD, ixA, ixL, ixT, addA, mulA, fOr, addI, subI, mulI, divI, modI, powI, iI, iB, iIc, ltI, leI, gtI, geI, callD, callM, dfR, dR, rR, nilR, slsOf, slOf, refsOf, nodupB, updsOf, backs, tvOf, kindW, hp, c7, c8, big_ok w h1 h2 i i0 i1]
def odds : List D := [.non, .int 0, .int 17, .bl true, .str "3", .tup [.int 3], .int (-1), .int 100000000000000000000]
def odds2 : List D := [.non, .int (-1), .bl true, .bl false, .str "0", .tup [.int 0], .lst [.int 2]]
theorem st11 (ns : List Int) (k a b w : Int) (s4 s5 s6 s7 : Sl) (h6 : isR s6 = false) : ∃ a' b' d, d ∈ odds ∧ q_law_11 (E ns (.d (.int k)) (.o (.L [.int a, .int b])) (.d (.int w)) s4 s5 s6 s7) = .nx (E ns (.d (.int k)) (.o (.L [.int a', .int b'])) (.d (.int w)) s4 s5 (.d d) s7) := by
  obtain ⟨i, a', b', i0, i1, hp⟩ := take_ok a b 8 (by omega) (by omega)
  have c7 : cPow 10 20 = true := by decide
  cases s6 with
  | r w => cases h6
  | _ =>
    rcases eights i0 i1 with rfl | rfl | rfl | rfl | rfl | rfl | rfl | rfl
    · exact ⟨a', b', .non, by simp [odds], by simp [q_law_11, E, defM, fin, seqM, Sr.seq, skipM, ifS, Rs.toS, testM, opM, unM, one, two, varM, cM, app2, app1, appN, view, views, Rs.bind, retM, rvOf, outA, asgF, asgO, fzM, frz, stT, asgG, gIx, gIxEnd, gN, gN, owOf, putE, canSet, cbM, consA, nilA, consF, nilF, consD, lstM, tupM, Ow.toD, ixA, ixL, ixT, addA, mulA, fOr, addI, subI, mulI, divI, modI, powI, iI, iB, iIc, ltI, leI, gtI, geI, callD, callM, dfR, dR, rR, nilR, slsOf, slOf, refsOf, nodupB, updsOf, backs, tvOf, negI, kindW, hp, c7, atI, ixN]⟩
    · exact ⟨a', b', .int 0, by simp [odds], by simp [q_law_11, E, defM, fin, seqM, Sr.seq, skipM, ifS, Rs.toS, testM, opM, unM, one, two, varM, cM, app2, app1, appN, view, views, Rs.bind, retM, rvOf, outA, asgF, asgO, fzM, frz, stT, asgG, gIx, gIxEnd, gN, gN, owOf, putE, canSet, cbM, consA, nilA, consF, nilF, consD, lstM, tupM, Ow.toD, ixA, ixL, ixT, addA, mulA, fOr, addI, subI, mulI, divI, modI, powI, iI, iB, iIc, ltI, leI, gtI, geI, callD, callM, dfR, dR, rR, nilR, slsOf, slOf, refsOf, nodupB, updsOf, backs, tvOf, negI, kindW, hp, c7, atI, ixN]⟩
    · exact ⟨a', b', .int 17, by simp [odds], by simp [q_law_11, E, defM, fin, seqM, Sr.seq, skipM, ifS, Rs.toS, testM, opM, unM, one, two, varM, cM, app2, app1, appN, view, views, Rs.bind, retM, rvOf, outA, asgF, asgO, fzM, frz, stT, asgG, gIx, gIxEnd, gN, gN, owOf, putE, canSet, cbM, consA, nilA, consF, nilF, consD, lstM, tupM, Ow.toD, ixA, ixL, ixT, addA, mulA, fOr, addI, subI, mulI, divI, modI, powI, iI, iB, iIc, ltI, leI, gtI, geI, callD, callM, dfR, dR, rR, nilR, slsOf, slOf, refsOf, nodupB, updsOf, backs, tvOf, negI, kindW, hp, c7, atI, ixN]⟩
    · exact ⟨a', b', .bl true, by simp [odds], by simp [q_law_11, E, defM, fin, seqM, Sr.seq, skipM, ifS, Rs.toS, testM, opM, unM, one, two, varM, cM, app2, app1, appN, view, views, Rs.bind, retM, rvOf, outA, asgF, asgO, fzM, frz, stT, asgG, gIx, gIxEnd, gN, gN, owOf, putE, canSet, cbM, consA, nilA, consF, nilF, consD, lstM, tupM, Ow.toD, ixA, ixL, ixT, addA, mulA, fOr, addI, subI, mulI, divI, modI, powI, iI, iB, iIc, ltI, leI, gtI, geI, callD, callM, dfR, dR, rR, nilR, slsOf, slOf, refsOf, nodupB, updsOf, backs, tvOf, negI, kindW, hp, c7, atI, ixN]⟩
    · exact ⟨a', b', .str "3", by simp [odds], by simp [q_law_11, E, defM, fin, seqM, Sr.seq, skipM, ifS, Rs.toS, testM, opM, unM, one, two, varM, cM, app2, app1, appN, view, views, Rs.bind, retM, rvOf, outA, asgF, asgO, fzM, frz, stT, asgG, gIx, gIxEnd, gN, gN, owOf, putE, canSet, cbM, consA, nilA, consF, nilF, consD, lstM, tupM, Ow.toD, ixA, ixL, ixT, addA, mulA, fOr, addI, subI, mulI, divI, modI, powI, iI, iB, iIc, ltI, leI, gtI, geI, callD, callM, dfR, dR, rR, nilR, slsOf, slOf, refsOf, nodupB, updsOf, backs, tvOf, negI, kindW, hp, c7, atI, ixN]⟩
    · exact ⟨a', b', .tup [.int 3], by simp [odds], by simp [q_law_11, E, defM, fin, seqM, Sr.seq, skipM, ifS, Rs.toS, testM, opM, unM, one, two, varM, cM, app2, app1, appN, view, views, Rs.bind, retM, rvOf, outA, asgF, asgO, fzM, frz, stT, asgG, gIx, gIxEnd, gN, gN, owOf, putE, canSet, cbM, consA, nilA, consF, nilF, consD, lstM, tupM, Ow.toD, ixA, ixL, ixT, addA, mulA, fOr, addI, subI, mulI, divI, modI, powI, iI, iB, iIc, ltI, leI, gtI, geI, callD, callM, dfR, dR, rR, nilR, slsOf, slOf, refsOf, nodupB, updsOf, backs, tvOf, negI, kindW, hp, c7, atI, ixN]⟩
    · exact ⟨a', b', .int (-1), by simp [odds], by simp [q_law_11, E, defM, fin, seqM, Sr.seq, skipM, ifS, Rs.toS, testM, opM, unM, one, two, varM, cM, app2, app1, appN, view, views, Rs.bind, retM, rvOf, outA, asgF, asgO, fzM, frz, stT, asgG, gIx, gIxEnd, gN, gN, owOf, putE, canSet, cbM, consA, nilA, consF, nilF, consD, lstM, tupM, Ow.toD, ixA, ixL, ixT, addA, mulA, fOr, addI, subI, mulI, divI, modI, powI, iI, iB, iIc, ltI, leI, gtI, geI, callD, callM, dfR, dR, rR, nilR, slsOf, slOf, refsOf, nodupB, updsOf, backs, tvOf, negI, kindW, hp, c7, atI, ixN]⟩
    · exact ⟨a', b', .int 100000000000000000000, by simp [odds], by simp [q_law_11, E, defM, fin, seqM, Sr.seq, skipM, ifS, Rs.toS, testM, opM, unM, one, two, varM, cM, app2, app1, appN, view, views, Rs.bind, retM, rvOf, outA, asgF, asgO, fzM, frz, stT, asgG, gIx, gIxEnd, gN, gN, owOf, putE, canSet, cbM, consA, nilA, consF, nilF, consD, lstM, tupM, Ow.toD, ixA, ixL, ixT, addA, mulA, fOr, addI, subI, mulI, divI, modI, powI, iI, iB, iIc, ltI, leI, gtI, geI, callD, callM, dfR, dR, rR, nilR, slsOf, slOf, refsOf, nodupB, updsOf, backs, tvOf, negI, kindW, hp, c7, atI, ixN]⟩
theorem st15 (ns : List Int) (k a b w : Int) (s4 s5 s6 s7 : Sl) (h6 : isR s6 = false) : ∃ a' b' d, d ∈ odds2 ∧ q_law_15 (E ns (.d (.int k)) (.o (.L [.int a, .int b])) (.d (.int w)) s4 s5 s6 s7) = .nx (E ns (.d (.int k)) (.o (.L [.int a', .int b'])) (.d (.int w)) s4 s5 (.d d) s7) := by
  obtain ⟨i, a', b', i0, i1, hp⟩ := take_ok a b 7 (by omega) (by omega)
  cases s6 with
  | r w => cases h6
  | _ =>
    rcases sevens i0 i1 with rfl | rfl | rfl | rfl | rfl | rfl | rfl
    · exact ⟨a', b', .non, by simp [odds2], by simp [q_law_15, E, defM, fin, seqM, Sr.seq, skipM, ifS, Rs.toS, testM, opM, unM, one, two, varM, cM, app2, app1, appN, view, views, Rs.bind, retM, rvOf, outA, asgF, asgO, fzM, frz, stT, asgG, gIx, gIxEnd, gN, gN, owOf, putE, canSet, cbM, consA, nilA, consF, nilF, consD, lstM, tupM, Ow.toD, ixA, ixL, ixT, addA, mulA, fOr, addI, subI, mulI, divI, modI, powI, iI, iB, iIc, ltI, leI, gtI, geI, callD, callM, dfR, dR, rR, nilR, slsOf, slOf, refsOf, nodupB, updsOf, backs, tvOf, negI, kindW, hp, atI, ixN]⟩
    · exact ⟨a', b', .int (-1), by simp [odds2], by simp [q_law_15, E, defM, fin, seqM, Sr.seq, skipM, ifS, Rs.toS, testM, opM, unM, one, two, varM, cM, app2, app1, appN, view, views, Rs.bind, retM, rvOf, outA, asgF, asgO, fzM, frz, stT, asgG, gIx, gIxEnd, gN, gN, owOf, putE, canSet, cbM, consA, nilA, consF, nilF, consD, lstM, tupM, Ow.toD, ixA, ixL, ixT, addA, mulA, fOr, addI, subI, mulI, divI, modI, powI, iI, iB, iIc, ltI, leI, gtI, geI, callD, callM, dfR, dR, rR, nilR, slsOf, slOf, refsOf, nodupB, updsOf, backs, tvOf, negI, kindW, hp, atI, ixN]⟩
    · exact ⟨a', b', .bl true, by simp [odds2], by simp [q_law_15, E, defM, fin, seqM, Sr.seq, skipM, ifS, Rs.toS, testM, opM, unM, one, two, varM, cM, app2, app1, appN, view, views, Rs.bind, retM, rvOf, outA, asgF, asgO, fzM, frz, stT, asgG, gIx, gIxEnd, gN, gN, owOf, putE, canSet, cbM, consA, nilA, consF, nilF, consD, lstM, tupM, Ow.toD, ixA, ixL, ixT, addA, mulA, fOr, addI, subI, mulI, divI, modI, powI, iI, iB, iIc, ltI, leI, gtI, geI, callD, callM, dfR, dR, rR, nilR, slsOf, slOf, refsOf, nodupB, updsOf, backs, tvOf, negI, kindW, hp, atI, ixN]⟩
    · exact ⟨a', b', .bl false, by simp [odds2], by simp [q_law_15, E, defM, fin, seqM, Sr.seq, skipM, ifS, Rs.toS, testM, opM, unM, one, two, varM, cM, app2, app1, appN, view, views, Rs.bind, retM, rvOf, outA, asgF, asgO, fzM, frz, stT, asgG, gIx, gIxEnd, gN, gN, owOf, putE, canSet, cbM, consA, nilA, consF, nilF, consD, lstM, tupM, Ow.toD, ixA, ixL, ixT, addA, mulA, fOr, addI, subI, mulI, divI, modI, powI, iI, iB, iIc, ltI, leI, gtI, geI, callD, callM, dfR, dR, rR, nilR, slsOf, slOf, refsOf, nodupB, updsOf, backs, tvOf, negI, kindW, hp, atI, ixN]⟩
    · exact ⟨a', b', .str "0", by simp [odds2], by simp [q_law_15, E, defM, fin, seqM, Sr.seq, skipM, ifS, Rs.toS, testM, opM, unM, one, two, varM, cM, app2, app1, appN, view, views, Rs.bind, retM, rvOf, outA, asgF, asgO, fzM, frz, stT, asgG, gIx, gIxEnd, gN, gN, owOf, putE, canSet, cbM, consA, nilA, consF, nilF, consD, lstM, tupM, Ow.toD, ixA, ixL, ixT, addA, mulA, fOr, addI, subI, mulI, divI, modI, powI, iI, iB, iIc, ltI, leI, gtI, geI, callD, callM, dfR, dR, rR, nilR, slsOf, slOf, refsOf, nodupB, updsOf, backs, tvOf, negI, kindW, hp, atI, ixN]⟩
    · exact ⟨a', b', .tup [.int 0], by simp [odds2], by simp [q_law_15, E, defM, fin, seqM, Sr.seq, skipM, ifS, Rs.toS, testM, opM, unM, one, two, varM, cM, app2, app1, appN, view, views, Rs.bind, retM, rvOf, outA, asgF, asgO, fzM, frz, stT, asgG, gIx, gIxEnd, gN, gN, owOf, putE, canSet, cbM, consA, nilA, consF, nilF, consD, lstM, tupM, Ow.toD, ixA, ixL, ixT, addA, mulA, fOr, addI, subI, mulI, divI, modI, powI, iI, iB, iIc, ltI, leI, gtI, geI, callD, callM, dfR, dR, rR, nilR, slsOf, slOf, refsOf, nodupB, updsOf, backs, tvOf, negI, kindW, hp, atI, ixN]⟩
    · exact ⟨a', b', .lst [.int 2], by simp [odds2], by simp [q_law_15, E, defM, fin, seqM, Sr.seq, skipM, ifS, Rs.toS, testM, opM, unM, one, two, varM, cM, app2, app1, appN, view, views, Rs.bind, retM, rvOf, outA, asgF, asgO, fzM, frz, stT, asgG, gIx, gIxEnd, gN, gN, owOf, putE, canSet, cbM, consA, nilA, consF, nilF, consD, lstM, tupM, Ow.toD, ixA, ixL, ixT, addA, mulA, fOr, addI, subI, mulI, divI, modI, powI, iI, iB, iIc, ltI, leI, gtI, geI, callD, callM, dfR, dR, rR, nilR, slsOf, slOf, refsOf, nodupB, updsOf, backs, tvOf, negI, kindW, hp, atI, ixN]⟩
theorem st14 (ns : List Int) (s1 s2 s3 s4 s5 s7 : Sl) (d : D) (hd : d ∈ odds) (h7 : isR s7 = false) : q_law_14 (E ns s1 s2 s3 s4 s5 (.d d) s7) = .nx (E ns s1 s2 s3 s4 s5 (.d d) (.d (.int 1))) := by
  unfold odds at hd
  simp only [List.mem_cons, List.not_mem_nil, or_false] at hd
  cases s7 with
  | r w => cases h7
  | _ => rcases hd with rfl | rfl | rfl | rfl | rfl | rfl | rfl | rfl <;> kernel_rfl
theorem st17 (ns : List Int) (w : Int) (h1 : 1 ≤ w) (h2 : w ≤ 16) (s1 s2 s4 s5 s7 : Sl) (d : D) (hd : d ∈ odds2) : q_law_17 (E ns s1 s2 (.d (.int w)) s4 s5 (.d d) s7) = .nx (E ns s1 s2 (.d (.int w)) s4 s5 (.d d) s7) := by
  unfold odds2 at hd
  simp only [List.mem_cons, List.not_mem_nil, or_false] at hd
  rcases widths h1 h2 with rfl | rfl | rfl | rfl | rfl | rfl | rfl | rfl | rfl | rfl | rfl | rfl | rfl | rfl | rfl | rfl <;> rcases hd with rfl | rfl | rfl | rfl | rfl | rfl | rfl <;> kernel_rfl
def bodyK : SM := seqM (q_law_1) (seqM (q_law_2) (seqM (q_law_3) (seqM (q_law_4) (seqM (q_law_6) (seqM (q_law_8) (seqM (q_law_10) (seqM (q_law_11) (seqM (q_law_14) (seqM (q_law_15) (q_law_17))))))))))
theorem seq_nx {m1 m2 : SM} {e e1 : En} (h : m1 e = .nx e1) : seqM m1 m2 e = m2 e1 := by unfold seqM; rw [h]; rfl
/-- the slots at a turn's begin -/
structure Sh (ns : List Int) (e : En) : Prop where
  ex : ∃ s1 s2 s3 s4 s5 s6 s7, e = E ns s1 s2 s3 s4 s5 s6 s7 ∧ isR s1 = false ∧ isR s2 = false ∧ isR s3 = false ∧ isR s4 = false ∧ isR s5 = false ∧ isR s6 = false ∧ isR s7 = false
theorem turn_ok {ns : List Int} {e : En} (h : Sh ns e) (k : Int) (h0 : 0 ≤ k) (h1 : k ≤ 7) : ∃ e1 e2, gN 1 (.int k) e = some e1 ∧ bodyK e1 = .nx e2 ∧ Sh ns e2 := by
  obtain ⟨s1, s2, s3, s4, s5, s6, s7, rfl, r1, r2, r3, r4, r5, r6, r7⟩ := h.ex
  obtain ⟨a1, b1, q1⟩ := st1 ns k h0 h1 s2 s3 s4 s5 s6 s7 r2
  obtain ⟨a2, b2, w, w1, w2, q2⟩ := st2 ns k a1 b1 s3 s4 s5 s6 s7 r3
  have q3 := st3 ns k a2 b2 w w1 w2 s4 s5 s6 s7 r4
  have q4 := st4 ns k a2 b2 w w1 w2 (.d (.lst (founds w))) s5 s6 s7 r5
  have q6 := q6_ok (ns := ns) (k := k) (a := a2) (b := b2) (s6 := s6) (s7 := s7) w w1 w2
  have q8 := q8_ok (ns := ns) (k := k) (a := a2) (b := b2) (s6 := s6) (s7 := s7) w w1 w2
  obtain ⟨a3, b3, q10⟩ := st10 ns k a2 b2 w w1 w2 (.d (.lst (founds w))) (.d (.lst (walks w))) s6 s7
  obtain ⟨a4, b4, d, hd, q11⟩ := st11 ns k a3 b3 w (.d (.lst (founds w))) (.d (.lst (walks w))) s6 s7 r6
  have q14 := st14 ns (.d (.int k)) (.o (.L [.int a4, .int b4])) (.d (.int w)) (.d (.lst (founds w))) (.d (.lst (walks w))) s7 d hd r7
  obtain ⟨a5, b5, d2, hd2, q15⟩ := st15 ns k a4 b4 w (.d (.lst (founds w))) (.d (.lst (walks w))) (.d d) (.d (.int 1)) rfl
  have q17 := st17 ns w w1 w2 (.d (.int k)) (.o (.L [.int a5, .int b5])) (.d (.lst (founds w))) (.d (.lst (walks w))) (.d (.int 1)) d2 hd2
  refine ⟨E ns (.d (.int k)) s2 s3 s4 s5 s6 s7, E ns (.d (.int k)) (.o (.L [.int a5, .int b5])) (.d (.int w)) (.d (.lst (founds w))) (.d (.lst (walks w))) (.d d2) (.d (.int 1)), ?_, ?_, ⟨_, _, _, _, _, _, _, rfl, rfl, rfl, rfl, rfl, rfl, rfl, rfl⟩⟩
  · cases s1 with
    | r w => cases r1
    | _ => simp [gN, canSet, E]
  · unfold bodyK
    rw [seq_nx q1, seq_nx q2, seq_nx q3, seq_nx q4, seq_nx q6, seq_nx q8, seq_nx q10, seq_nx q11, seq_nx q14, seq_nx q15, q17]
theorem turns_ok {ns : List Int} : ∀ (l : List D) (e : En), (∀ d ∈ l, ∃ k : Int, d = .int k ∧ 0 ≤ k ∧ k ≤ 7) → Sh ns e → ∃ e2, loopM (gN 1) bodyK l e = .nx e2 ∧ Sh ns e2
  | [], e, _, h => ⟨e, rfl, h⟩
  | d :: l, e, hl, h => by
    obtain ⟨k, rfl, k0, k7⟩ := hl d (List.mem_cons_self ..)
    obtain ⟨e1, e2, g1, g2, g3⟩ := turn_ok h k k0 k7
    obtain ⟨e3, g4, g5⟩ := turns_ok l e2 (fun x hx => hl x (List.mem_cons_of_mem _ hx)) g3
    refine ⟨e3, ?_, g5⟩
    unfold loopM
    rw [g1]
    show (match bodyK e1 with | .nx e2 => loopM (gN 1) bodyK l e2 | .ct e2 => loopM (gN 1) bodyK l e2 | .bk e2 => .nx e2 | r => r) = _
    rw [g2]
    exact g4
theorem law_ok (ns : List Int) : f_law [.d (.scr ns)] = .ok (.v (.bl true)) [.d (.scr ns)] := by
  have e0 : Sh ns (E ns .non .non .non .non .non .non .non) := ⟨_, _, _, _, _, _, _, rfl, rfl, rfl, rfl, rfl, rfl, rfl, rfl⟩
  have key : ∃ n : Nat, n ≤ 8 ∧ (rg1 (consA (cbM max2N (consA (cM (.int 1)) (consA (cbM min2N (consA (cM (.int 8)) (consA (cbM lenN (consA (varM 0) (nilA))) (nilA)))) (nilA)))) (nilA))) (E ns .non .non .non .non .non .non .non) = .ok (rgl 0 n) (E ns .non .non .non .non .non .non .non) := by
    let m : Int := if (ns.length : Int) < 8 then ns.length else 8
    let t : Int := if m > 1 then m else 1
    have ht : 1 ≤ t ∧ t ≤ 8 := by
      show 1 ≤ (if (if (ns.length : Int) < 8 then (ns.length : Int) else 8) > 1 then (if (ns.length : Int) < 8 then (ns.length : Int) else 8) else 1) ∧ (if (if (ns.length : Int) < 8 then (ns.length : Int) else 8) > 1 then (if (ns.length : Int) < 8 then (ns.length : Int) else 8) else 1) ≤ 8
      split <;> split <;> omega
    refine ⟨t.toNat, by omega, ?_⟩
    have ok : okR t = true := by
      unfold okR
      rw [Bool.and_eq_true, decide_eq_true_eq, decide_eq_true_eq]
      omega
    have ev : (consA (cbM max2N (consA (cM (.int 1)) (consA (cbM min2N (consA (cM (.int 8)) (consA (cbM lenN (consA (varM 0) (nilA))) (nilA)))) (nilA)))) (nilA)) (E ns .non .non .non .non .non .non .non) = .ok [.v (.int t)] (E ns .non .non .non .non .non .non .non) := rfl
    unfold rg1
    rw [ev]
    show (if okR t = true then Rs.ok (rgl 0 t.toNat) _ else .st) = _
    rw [if_pos ok]
  obtain ⟨n, hn, hr⟩ := key
  obtain ⟨e2, h2, h3⟩ := turns_ok (rgl 0 n) _ (fun d hd => by
    obtain ⟨i, hi⟩ := List.mem_iff_getElem?.mp hd
    obtain ⟨l, rfl⟩ := rgl_get hi
    exact ⟨_, rfl, by omega, by omega⟩) e0
  have h4 : q_law_18 (E ns .non .non .non .non .non .non .non) = .nx e2 := by
    unfold q_law_18 forM
    rw [hr]
    exact h2
  have h5 : b_law (E ns .non .non .non .non .non .non .non) = .rt (.v (.bl true)) e2 := by
    unfold b_law
    rw [seq_nx h4]
    rfl
  show fin [.d (.scr ns)] (b_law (E ns .non .non .non .non .non .non .non)) = _
  rw [h5]
  obtain ⟨s1, s2, s3, s4, s5, s6, s7, rfl, _⟩ := h3.ex
  rfl
end PL.K46
namespace PL
namespace K46
open PySem PySem.Spec PyProof.Rows L2
def fns : List He.DefD := [⟨("is_integer", none), "is_integer", "is_integer", defArgs s_is_integer, defBody s_is_integer, defScope s_is_integer, [.int 0], []⟩, ⟨("is_columns", none), "is_columns", "is_columns", defArgs s_is_columns, defBody s_is_columns, defScope s_is_columns, [], []⟩, ⟨("check_columns", none), "check_columns", "check_columns", defArgs s_check_columns, defBody s_check_columns, defScope s_check_columns, [], []⟩, ⟨("binomial", none), "binomial", "binomial", defArgs s_binomial, defBody s_binomial, defScope s_binomial, [], []⟩, ⟨("count_pairings", none), "count_pairings", "count_pairings", defArgs s_count_pairings, defBody s_count_pairings, defScope s_count_pairings, [], []⟩, ⟨("count_diagrams", none), "count_diagrams", "count_diagrams", defArgs s_count_diagrams, defBody s_count_diagrams, defScope s_count_diagrams, [], []⟩, ⟨("count_with_through", none), "count_with_through", "count_with_through", defArgs s_count_with_through, defBody s_count_with_through, defScope s_count_with_through, [], []⟩, ⟨("_law_pool", none), "_law_pool", "_law_pool", defArgs s__law_pool, defBody s__law_pool, defScope s__law_pool, [], []⟩, ⟨("_law_take", none), "_law_take", "_law_take", defArgs s__law_take, defBody s__law_take, defScope s__law_take, [], []⟩, ⟨("_law_catalan", none), "_law_catalan", "_law_catalan", defArgs s__law_catalan, defBody s__law_catalan, defScope s__law_catalan, [], []⟩, ⟨("_law_half_count", none), "_law_half_count", "_law_half_count", defArgs s__law_half_count, defBody s__law_half_count, defScope s__law_half_count, [], []⟩, ⟨("_law_result", none), "_law_result", "_law_result", defArgs s__law_result, defBody s__law_result, defScope s__law_result, [], []⟩, ⟨("law", none), "law", "law", defArgs s_law, defBody s_law, defScope s_law, [], []⟩, ⟨("InvalidColumns", some "__init__"), "__init__", "InvalidColumns.__init__", defArgs s_InvalidColumns, defBody s_InvalidColumns, defScope s_InvalidColumns, [], []⟩, ⟨("InvalidNumber", some "__init__"), "__init__", "InvalidNumber.__init__", defArgs s_InvalidNumber, defBody s_InvalidNumber, defScope s_InvalidNumber, [], []⟩]
def fas : List He.Fa := [.free "abs", .free "bool", .free "int", .free "isinstance", .free "len", .free "max", .free "min", .free "range", .free "repr", .free "sum", .int "MAX_COLUMNS" 16, .glo "DiagramError", .glo "InvalidColumns", .glo "InvalidNumber", .glo "is_integer", .glo "is_columns", .glo "check_columns", .glo "binomial", .glo "count_pairings", .glo "count_diagrams", .glo "count_with_through", .glo "_law_pool", .glo "_law_take", .glo "_law_catalan", .glo "_law_half_count", .glo "_law_result", .glo "law"]
def exs (K : PySem.W.Frag) : Bool := xtB xs K && (ansB xs par K && (fldB xs flds K && (baB K "DiagramError" && (rcB K "InvalidColumns" "value" && (rcB K "InvalidNumber" "value")))))
abbrev Rw : PySem.W.OpenRow := PySem.W.OpenLaw.row PySem.Challenge.rw_cupcap_k46_diagrams_counted
abbrev hk : PySem.W.Hook := hookP 6 fas fns exs
def ob (s : PySem.W.SharedT) : He.AlD × Bool := obsP 6 fas fns exs (HandSHeadRun.getT s)
theorem ob_eq (s : PySem.W.SharedT) : ob s = hk.obs s.abs := obsP_eq (HandSHeadRun.getT_eq s)
def loose : List PySem.Str := (["DiagramError", "InvalidColumns", "InvalidNumber", "MAX_COLUMNS", "is_integer", "is_columns", "check_columns", "binomial", "count_pairings", "count_diagrams", "count_with_through", "_law_pool", "_law_take", "_law_catalan", "_law_half_count", "_law_result"] : List PySem.Str)
theorem run (w : World) : HandSHeadRun.RunEq Rw (PySem.W.view Rw.prog [20]) hk ob 4000 loose w := by
  intro os
  kernel_rfl
theorem nm_of {K : PySem.W.Frag} {h : Heap} {mg : Str → Option Value} (kin : K.In h) (G : h.Ns mainGlobals mg) (c : Says fas fns exs K) : Nm K mg where
  m_abs := He.free_ok kin G (c.d.fact 0 rfl)
  m_bool := He.free_ok kin G (c.d.fact 1 rfl)
  m_int := He.free_ok kin G (c.d.fact 2 rfl)
  m_isinstance := He.free_ok kin G (c.d.fact 3 rfl)
  m_len := He.free_ok kin G (c.d.fact 4 rfl)
  m_max := He.free_ok kin G (c.d.fact 5 rfl)
  m_min := He.free_ok kin G (c.d.fact 6 rfl)
  m_range := He.free_ok kin G (c.d.fact 7 rfl)
  m_repr := He.free_ok kin G (c.d.fact 8 rfl)
  m_sum := He.free_ok kin G (c.d.fact 9 rfl)
  c_MAX_COLUMNS := by obtain ⟨t, e⟩ := He.int_ok kin G (c.d.fact 10 rfl); exact ⟨_, e, t, rfl⟩
  x_DiagramError := He.glo_ok kin G (c.d.fact 11 rfl)
  x_InvalidColumns := He.glo_ok kin G (c.d.fact 12 rfl)
  x_InvalidNumber := He.glo_ok kin G (c.d.fact 13 rfl)
  g_is_integer := He.glo_ok kin G (c.d.fact 14 rfl)
  g_is_columns := He.glo_ok kin G (c.d.fact 15 rfl)
  g_check_columns := He.glo_ok kin G (c.d.fact 16 rfl)
  g_binomial := He.glo_ok kin G (c.d.fact 17 rfl)
  g_count_pairings := He.glo_ok kin G (c.d.fact 18 rfl)
  g_count_diagrams := He.glo_ok kin G (c.d.fact 19 rfl)
  g_count_with_through := He.glo_ok kin G (c.d.fact 20 rfl)
  g__law_pool := He.glo_ok kin G (c.d.fact 21 rfl)
  g__law_take := He.glo_ok kin G (c.d.fact 22 rfl)
  g__law_catalan := He.glo_ok kin G (c.d.fact 23 rfl)
  g__law_half_count := He.glo_ok kin G (c.d.fact 24 rfl)
  g__law_result := He.glo_ok kin G (c.d.fact 25 rfl)
  g_law := He.glo_ok kin G (c.d.fact 26 rfl)
  ext := (bands c.ex).1
  eans := (bands (bands c.ex).2).1
  efld := (bands (bands (bands c.ex).2).2).1
theorem facts {P : Program} {w : World} {K : PySem.W.Frag} {h : Heap} {mg : Str → Option Value} {f : Addr} (kin : K.In h) (G : h.Ns mainGlobals mg) (at_ : mg ("law" : Str) = some (.ref f)) (c : Says fas fns exs K) :
    ∃ fd : FuncData, (∀ (s : Shared) (v : Value), BindsTo s fd ⟨[v], []⟩ [("_law_script", v)]) ∧ ∀ base : Heap, K.In base → base.Ns mainGlobals mg → FnG P w K mg base (L2.CX P w) 6 f fd ["_law_script"] (spD (gOf xs K) f_law) := by
  have N := nm_of kin G c
  obtain ⟨fd_is_integer, F_is_integer⟩ := c.d.def_ 0 rfl
  obtain ⟨fd_is_columns, F_is_columns⟩ := c.d.def_ 1 rfl
  obtain ⟨fd_check_columns, F_check_columns⟩ := c.d.def_ 2 rfl
  obtain ⟨fd_binomial, F_binomial⟩ := c.d.def_ 3 rfl
  obtain ⟨fd_count_pairings, F_count_pairings⟩ := c.d.def_ 4 rfl
  obtain ⟨fd_count_diagrams, F_count_diagrams⟩ := c.d.def_ 5 rfl
  obtain ⟨fd_count_with_through, F_count_with_through⟩ := c.d.def_ 6 rfl
  obtain ⟨fd__law_pool, F__law_pool⟩ := c.d.def_ 7 rfl
  obtain ⟨fd__law_take, F__law_take⟩ := c.d.def_ 8 rfl
  obtain ⟨fd__law_catalan, F__law_catalan⟩ := c.d.def_ 9 rfl
  obtain ⟨fd__law_half_count, F__law_half_count⟩ := c.d.def_ 10 rfl
  obtain ⟨fd__law_result, F__law_result⟩ := c.d.def_ 11 rfl
  obtain ⟨fd_law, F_law⟩ := c.d.def_ 12 rfl
  obtain ⟨fd_InvalidColumns, F_InvalidColumns⟩ := c.d.def_ 13 rfl
  obtain ⟨fd_InvalidNumber, F_InvalidNumber⟩ := c.d.def_ 14 rfl
  cases at_.symm.trans N.g_law
  refine ⟨fd_law, fun s v => FunD.bindsA (ps := ["_law_script"]) F_law (fun _ _ _ _ _ _ us hl => match us, hl with | [_], _ => rfl) s [v] rfl, fun base kb gb => ?_⟩
  have r_InvalidColumns := r_InvalidColumns (P := P) (w := w) (base := base) N (bands (bands (bands (bands c.ex).2).2).2).1 (bands (bands (bands (bands (bands c.ex).2).2).2).2).1 F_InvalidColumns
  have r_InvalidNumber := r_InvalidNumber (P := P) (w := w) (base := base) N (bands (bands (bands (bands c.ex).2).2).2).1 (bands (bands (bands (bands (bands c.ex).2).2).2).2).2 F_InvalidNumber
  have o_is_integer := ok_is_integer (P := P) (w := w) (base := base) N F_is_integer
  have c_is_integer : Fc P w K mg base (gOf xs K) 1 "is_integer" f_is_integer [] := by
    obtain ⟨ds, v, b⟩ := FunD.binds1 (ps := ["value", "minimum"]) F_is_integer 2 1 (by exact List.cons_ne_nil _ _) rfl fun _ _ _ _ _ _ _ us its hl h2 => match us, its, hl, h2 with | [_, _], [_], _, _ => ⟨_, rfl, rfl⟩
    exact ⟨⟨_, _, ["value", "minimum"], ds, o_is_integer, N.g_is_integer, F_is_integer.kp, b, v⟩, rfl⟩
  have c_is_integer_1 : Fc P w K mg base (gOf xs K) 1 "is_integer" f_is_integer [.int 0] := by
    obtain ⟨ds, v, b⟩ := FunD.binds1 (ps := ["value", "minimum"]) F_is_integer 1 0 (by exact List.cons_ne_nil _ _) rfl fun _ _ _ _ _ _ _ us its hl h2 => match us, its, hl, h2 with | [_], [_], _, _ => ⟨_, rfl, rfl⟩
    exact ⟨⟨_, _, ["value", "minimum"], ds, o_is_integer, N.g_is_integer, F_is_integer.kp, b, v⟩, rfl⟩
  have o_binomial := ok_binomial (P := P) (w := w) (base := base) N F_binomial
  have c_binomial : Fc P w K mg base (gOf xs K) 1 "binomial" f_binomial [] := ⟨⟨_, _, ["total", "chosen"], [], o_binomial, N.g_binomial, F_binomial.kp, FunD.bindsN F_binomial fun _ _ _ _ _ _ us hl => match us, hl with | [_, _], _ => rfl, .nil⟩, rfl⟩
  have o__law_pool := ok__law_pool (P := P) (w := w) (base := base) N F__law_pool
  have c__law_pool : Fc P w K mg base (gOf xs K) 1 "_law_pool" f__law_pool [] := ⟨⟨_, _, ["_law_script", "_law_k"], [], o__law_pool, N.g__law_pool, F__law_pool.kp, FunD.bindsN F__law_pool fun _ _ _ _ _ _ us hl => match us, hl with | [_, _], _ => rfl, .nil⟩, rfl⟩
  have o__law_take := ok__law_take (P := P) (w := w) (base := base) N F__law_take
  have c__law_take : Fc P w K mg base (gOf xs K) 1 "_law_take" f__law_take [] := ⟨⟨_, _, ["_law_pool_here", "_law_count"], [], o__law_take, N.g__law_take, F__law_take.kp, FunD.bindsN F__law_take fun _ _ _ _ _ _ us hl => match us, hl with | [_, _], _ => rfl, .nil⟩, rfl⟩
  have o__law_catalan := ok__law_catalan (P := P) (w := w) (base := base) N F__law_catalan
  have c__law_catalan : Fc P w K mg base (gOf xs K) 1 "_law_catalan" f__law_catalan [] := ⟨⟨_, _, ["_law_count"], [], o__law_catalan, N.g__law_catalan, F__law_catalan.kp, FunD.bindsN F__law_catalan fun _ _ _ _ _ _ us hl => match us, hl with | [_], _ => rfl, .nil⟩, rfl⟩
  have o__law_half_count := ok__law_half_count (P := P) (w := w) (base := base) N F__law_half_count
  have c__law_half_count : Fc P w K mg base (gOf xs K) 1 "_law_half_count" f__law_half_count [] := ⟨⟨_, _, ["_law_width", "_law_count"], [], o__law_half_count, N.g__law_half_count, F__law_half_count.kp, FunD.bindsN F__law_half_count fun _ _ _ _ _ _ us hl => match us, hl with | [_, _], _ => rfl, .nil⟩, rfl⟩
  have o_is_columns := ok_is_columns (P := P) (w := w) (base := base) N F_is_columns c_is_integer
  have c_is_columns : Fc P w K mg base (gOf xs K) 2 "is_columns" f_is_columns [] := ⟨⟨_, _, ["value"], [], o_is_columns, N.g_is_columns, F_is_columns.kp, FunD.bindsN F_is_columns fun _ _ _ _ _ _ us hl => match us, hl with | [_], _ => rfl, .nil⟩, rfl⟩
  have o_count_pairings := ok_count_pairings (P := P) (w := w) (base := base) N F_count_pairings c_binomial
  have c_count_pairings : Fc P w K mg base (gOf xs K) 2 "count_pairings" f_count_pairings [] := ⟨⟨_, _, ["points"], [], o_count_pairings, N.g_count_pairings, F_count_pairings.kp, FunD.bindsN F_count_pairings fun _ _ _ _ _ _ us hl => match us, hl with | [_], _ => rfl, .nil⟩, rfl⟩
  have o_check_columns := ok_check_columns (P := P) (w := w) (base := base) N F_check_columns c_is_columns r_InvalidColumns
  have c_check_columns : Fc P w K mg base (gOf xs K) 3 "check_columns" f_check_columns [] := ⟨⟨_, _, ["columns"], [], o_check_columns, N.g_check_columns, F_check_columns.kp, FunD.bindsN F_check_columns fun _ _ _ _ _ _ us hl => match us, hl with | [_], _ => rfl, .nil⟩, rfl⟩
  have o_count_diagrams := ok_count_diagrams (P := P) (w := w) (base := base) N F_count_diagrams c_check_columns c_count_pairings
  have c_count_diagrams : Fc P w K mg base (gOf xs K) 4 "count_diagrams" f_count_diagrams [] := ⟨⟨_, _, ["columns"], [], o_count_diagrams, N.g_count_diagrams, F_count_diagrams.kp, FunD.bindsN F_count_diagrams fun _ _ _ _ _ _ us hl => match us, hl with | [_], _ => rfl, .nil⟩, rfl⟩
  have o_count_with_through := ok_count_with_through (P := P) (w := w) (base := base) N F_count_with_through c_check_columns c_is_integer_1 c_binomial r_InvalidNumber
  have c_count_with_through : Fc P w K mg base (gOf xs K) 4 "count_with_through" f_count_with_through [] := ⟨⟨_, _, ["columns", "through_arcs"], [], o_count_with_through, N.g_count_with_through, F_count_with_through.kp, FunD.bindsN F_count_with_through fun _ _ _ _ _ _ us hl => match us, hl with | [_, _], _ => rfl, .nil⟩, rfl⟩
  have o__law_result := ok__law_result (P := P) (w := w) (base := base) N F__law_result c_count_diagrams c_count_with_through
  have c__law_result : Fc P w K mg base (gOf xs K) 5 "_law_result" f__law_result [] := ⟨⟨_, _, ["_law_which", "_law_width", "_law_count"], [], o__law_result, N.g__law_result, F__law_result.kp, FunD.bindsN F__law_result fun _ _ _ _ _ _ us hl => match us, hl with | [_, _, _], _ => rfl, .nil⟩, rfl⟩
  have o_law := ok_law (P := P) (w := w) (base := base) N F_law c__law_pool c__law_take c__law_result c__law_half_count c__law_catalan
  exact o_law
end K46
end PL
open PySem PySem.W PySem.Calls PyProof.Rows
theorem PySem.Challenge.cw_cupcap_k46_diagrams_counted_holds : PySem.Challenge.rw_cupcap_k46_diagrams_counted.Holds := by
  w_on; o_law
  refine HandSHeadRun.head_any (r := OpenLaw.row PySem.Challenge.rw_cupcap_k46_diagrams_counted) (q := view (OpenLaw.row PySem.Challenge.rw_cupcap_k46_diagrams_counted).prog [20]) (H := PL.K46.hk) (ob := PL.K46.ob) (M := 4000) (loose := PL.K46.loose) (d := HandSHeadRun.topDef (OpenLaw.row PySem.Challenge.rw_cupcap_k46_diagrams_counted).prog 20) (kwd := []) PL.K46.ob_eq
    (by kernel_rfl) (fun s => by kernel_rfl) PL.K46.run (by kernel_rfl) (by kernel_rfl) (by kernel_rfl) (by rfl) (by first | assumption | decide +kernel) (by decide +kernel) ⟨rfl, rfl, rfl, rfl, rfl, by decide +kernel⟩ ?hw ?hc
  case hw => w_witness2
  case hc =>
    refine PL.walkG (l := PySem.Challenge.rw_cupcap_k46_diagrams_counted) (n := 63) (k := 6) (x := "_law_script") (CX := fun w => L2.CX (PySem.Challenge.rw_cupcap_k46_diagrams_counted).prog w) rfl (by decide) (by kernel_rfl) ⟨rfl, by decide, by decide⟩ ?F (fun _ _ _ _ _ z => by obtain ⟨_, _, _, _, _, _, _, _, _, _, _, _, y⟩ := z; exact y.elim)
    intro w mg fa h Y G hmg0
    obtain ⟨K, kin, c⟩ := Y
    have hmg : mg ("law" : PySem.Str) = some (.ref fa) := by
      have e : (HandSHeadRun.topDef (OpenLaw.row PySem.Challenge.rw_cupcap_k46_diagrams_counted).prog 20).name = ("law" : PySem.Str) := by kernel_rfl
      rw [← e]
      exact hmg0
    obtain ⟨fd, hb, hF⟩ := PL.K46.facts (P := (PySem.Challenge.rw_cupcap_k46_diagrams_counted).prog) (w := w) kin G hmg c
    exact ⟨K, fd, _, kin, hb, fun H a ns _ _ hS => PL.law_sp (PL.K46.law_ok ns) hS, hF⟩

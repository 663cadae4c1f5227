import PyProof.Rows.All
import Wide.All
import OpenK.AllK
import Wide.FinOn
import KE.DataCmp
import KE.DataEq
import KE.SortData
import KE.DataIsa
import KE.DataAny
import KE.DataMinMax
import KE.DatumIndex
import KE.GoesNew
import HandS.ForMost
import HandS.ForExc
import HandS.Walk
import HandS.Defaults
import HandS.Zip
import HandS.Strs
import HandS.TupAny
import HandS.IsInst
import HandS.Flow
import HandS.Rev
import HandS.RaiseMore
import HandS.Wide
import HandS.TupLe
import HandS.Style
import HandS.WideBits
import PyProof.ReprRoads
import PyProof.TupleOfStr
import PyProof.ListStr
import HandS.Replace
import HandS.HeadHook2
import HandS.HeadEnd
import KE.GoesMore
import KE.GoesEnum
import HandS.Comp
import HandS.Conv
import HandS.Ends
import HandS.SetKeys
import HandS.Set
import PyProof.Rows.SetFrom
import PyProof.StrOps2
import KE.KStateDown
import HandS.Head0
import HandS.Head1
import HandS.Head2
import HandS.HeadHook1
import PySem.Challenge.RW_elderwords_k81_whole_forms_at_all_nodes
set_option Elab.async false
set_option linter.all false
set_option maxRecDepth 100000
set_option maxHeartbeats 1000000
/-! EW 1: values as data; the slots of a def as cells; what stays true of a state. -/
namespace EW
open PySem PySem.Spec PyProof.Rows L2

abbrev St := L2.St
abbrev D := PyData
/-- all of H stands in H' -/
def Ex (H H' : Hp) : Prop := ∀ a o, H a = some o → H' a = some o
theorem Ex.refl (H : Hp) : Ex H H := fun _ _ h => h
theorem Ex.trans {H H1 H2 : Hp} (a : Ex H H1) (b : Ex H1 H2) : Ex H H2 := fun x o h => b x o (a x o h)
theorem Ex.new {H : Hp} {p : Addr} {o : HO} (h : H p = none) : Ex H (upd H p o) := fun a u e => by
  rw [upd_ne (ne_of_none e h)]
  exact e
theorem Ex.none {H H' : Hp} {p : Addr} (e : Ex H H') (h : H' p = Option.none) : H p = Option.none := by
  cases q : H p with
  | none => rfl
  | some o => rw [e p o q] at h; cases h
theorem Ex.upd {F H : Hp} {p : Addr} {o : HO} (e : Ex F H) (h : F p = Option.none) : Ex F (L2.upd H p o) := fun a u ha => by
  rw [upd_ne (ne_of_none ha h)]
  exact e a u ha
theorem Ex.upd2 {F H : Hp} {p : Addr} {o : HO} (e : Ex F H) : Ex (L2.upd F p o) (L2.upd H p o) := fun a u ha => by
  by_cases q : a = p
  · subst q; rw [upd_same] at ha ⊢; exact ha
  · rw [upd_ne q] at ha ⊢; exact e a u ha
theorem ex_rd {H H' : Hp} {a : Addr} {u : HO} (e : Ex H H') (h : Rd H a u) : Rd H' a u := by
  rcases h with h | ⟨o, h⟩
  · exact .inl (e a _ h)
  · exact .inr ⟨o, e a _ h⟩
theorem ex_l {K : PySem.W.Frag} {H H' : Hp} {a : Addr} {xs : List V} (e : Ex H H') (h : SqL K H a xs) : SqL K H' a xs := by
  rcases h with h | h
  · exact .inl (ex_rd e h)
  · exact .inr h
theorem ex_t {K : PySem.W.Frag} {H H' : Hp} {a : Addr} {xs : List V} (e : Ex H H') (h : SqT K H a xs) : SqT K H' a xs := by
  rcases h with h | h
  · exact .inl (ex_rd e h)
  · exact .inr h
mutual
theorem dp_mono {K : PySem.W.Frag} {H H' : Hp} (e : Ex H H') : ∀ {v : V} {d : D}, Dp K H v d → Dp K H' v d
  | _, _, .non => .non
  | _, _, .bl b => .bl b
  | _, _, .int i => .int i
  | _, _, .str x => .str x
  | _, _, .lst h a => .lst (ex_l e h) (dpa_mono e a)
  | _, _, .tup h a => .tup (ex_t e h) (dpa_mono e a)
theorem dpa_mono {K : PySem.W.Frag} {H H' : Hp} (e : Ex H H') : ∀ {vs : List V} {ds : List D}, DpAll K H vs ds → DpAll K H' vs ds
  | _, _, .nil => .nil
  | _, _, .cons h a => .cons (dp_mono e h) (dpa_mono e a)
end
section
variable {K : PySem.W.Frag} {H : Hp}
theorem dpa_length : ∀ {vs : List V} {ds : List D}, DpAll K H vs ds → vs.length = ds.length
  | _, _, .nil => rfl
  | _, _, .cons _ a => congrArg Nat.succ (dpa_length a)
theorem dpa_get : ∀ {vs : List V} {ds : List D}, DpAll K H vs ds → ∀ {i : Nat} {v : V}, vs[i]? = some v → ∃ d, ds[i]? = some d ∧ Dp K H v d
  | _, _, .nil, i, v, h => by simp at h
  | _, _, .cons h a, 0, v, e => by simp at e; subst e; exact ⟨_, rfl, h⟩
  | _, _, .cons h a, i + 1, v, e => by
    obtain ⟨d, h1, h2⟩ := dpa_get a (i := i) (by simpa using e)
    exact ⟨d, by simpa using h1, h2⟩
theorem dpa_get' : ∀ {vs : List V} {ds : List D}, DpAll K H vs ds → ∀ {i : Nat} {d : D}, ds[i]? = some d → ∃ v, vs[i]? = some v ∧ Dp K H v d
  | _, _, .nil, i, v, h => by simp at h
  | _, _, .cons h a, 0, v, e => by simp at e; subst e; exact ⟨_, rfl, h⟩
  | _, _, .cons h a, i + 1, v, e => by
    obtain ⟨d, h1, h2⟩ := dpa_get' a (i := i) (by simpa using e)
    exact ⟨d, by simpa using h1, h2⟩
theorem dpa_append : ∀ {vs ws : List V} {ds es : List D}, DpAll K H vs ds → DpAll K H ws es → DpAll K H (vs ++ ws) (ds ++ es)
  | _, _, _, _, .nil, b => b
  | _, _, _, _, .cons h a, b => .cons h (dpa_append a b)
theorem dpa_take : ∀ {vs : List V} {ds : List D} (n : Nat), DpAll K H vs ds → DpAll K H (vs.take n) (ds.take n)
  | _, _, 0, _ => .nil
  | _, _, _ + 1, .nil => .nil
  | _, _, n + 1, .cons h a => .cons h (dpa_take n a)
theorem dpa_drop : ∀ {vs : List V} {ds : List D} (n : Nat), DpAll K H vs ds → DpAll K H (vs.drop n) (ds.drop n)
  | _, _, 0, h => h
  | _, _, _ + 1, .nil => .nil
  | _, _, n + 1, .cons h a => dpa_drop n a
theorem dpa_set : ∀ {vs : List V} {ds : List D} {v : V} {d : D} (i : Nat), DpAll K H vs ds → Dp K H v d → DpAll K H (vs.set i v) (ds.set i d)
  | _, _, _, _, _, .nil, _ => .nil
  | _, _, _, _, 0, .cons _ a, q => .cons q a
  | _, _, _, _, i + 1, .cons h a, q => .cons h (dpa_set i a q)
theorem dpa_reverse : ∀ {vs : List V} {ds : List D}, DpAll K H vs ds → DpAll K H vs.reverse ds.reverse
  | _, _, .nil => .nil
  | _, _, .cons h a => by
    rw [List.reverse_cons, List.reverse_cons]
    exact dpa_append (dpa_reverse a) (.cons h .nil)
theorem dpa_eraseIdx : ∀ {vs : List V} {ds : List D} (i : Nat), DpAll K H vs ds → DpAll K H (vs.eraseIdx i) (ds.eraseIdx i)
  | _, _, _, .nil => .nil
  | _, _, 0, .cons _ a => a
  | _, _, i + 1, .cons h a => .cons h (dpa_eraseIdx i a)
theorem dpa_strs : ∀ {vs : List V} {xs : List Str}, DpAll K H vs (xs.map PyData.str) → vs = xs.map V.str
  | _, [], .nil => rfl
  | _, x :: xs, .cons h a => by
    cases h
    rw [dpa_strs a]
    rfl
theorem dpa_of_strs : ∀ (xs : List Str), DpAll K H (xs.map V.str) (xs.map PyData.str)
  | [] => .nil
  | x :: xs => .cons (.str x) (dpa_of_strs xs)
theorem dpa_of_ints : ∀ (xs : List Int), DpAll K H (xs.map V.int) (xs.map PyData.int)
  | [] => .nil
  | x :: xs => .cons (.int x) (dpa_of_ints xs)
theorem dpa_ints : ∀ {vs : List V} {xs : List Int}, DpAll K H vs (xs.map PyData.int) → vs = xs.map V.int
  | _, [], .nil => rfl
  | _, x :: xs, .cons h a => by
    cases h
    rw [dpa_ints a]
    rfl
theorem dpa_bools : ∀ {vs : List V} {xs : List Bool}, DpAll K H vs (xs.map PyData.bool) → vs = xs.map V.bl
  | _, [], .nil => rfl
  | _, x :: xs, .cons h a => by
    cases h
    rw [dpa_bools a]
    rfl
end

/-! ### cells -/
/-- a thing that may change: a list; a dict -/
inductive Ob where
  | l (ds : List D)
  | d (kvs : List (D × D))
/-- what a slot holds: data that stands still; a thing of this def's own; a thing of the caller's -/
inductive Cell where
  | dat (d : D)
  | own (o : Ob)
  | par (k : Nat) (o : Ob)
/-- what an expression gives: data; a new thing; the thing in a slot -/
inductive Val where
  | dat (d : D)
  | new (o : Ob)
  | slot (i : Nat)
abbrev Env := List (Option Cell)
def keyD : D → Option Key
  | .int i => some (.inl i)
  | .str x => some (.inr x)
  | _ => none
def keysD : List D → Option (List Key)
  | [] => some []
  | d :: ds => match keyD d, keysD ds with
    | some k, some ks => some (k :: ks)
    | _, _ => none
inductive KvR (K : PySem.W.Frag) (F : Hp) : List (Key × V) → List (D × D) → Prop
  | nil : KvR K F [] []
  | cons {k : Key} {v : V} {kd d : D} {ks : List (Key × V)} {kvs : List (D × D)} : keyD kd = some k → Dp K F v d → KvR K F ks kvs → KvR K F ((k, v) :: ks) ((kd, d) :: kvs)
inductive KtR (K : PySem.W.Frag) (F : Hp) : List (List Key × V) → List (D × D) → Prop
  | nil : KtR K F [] []
  | cons {k : List Key} {v : V} {kd : List D} {d : D} {ks : List (List Key × V)} {kvs : List (D × D)} : keysD kd = some k → Dp K F v d → KtR K F ks kvs → KtR K F ((k, v) :: ks) ((.tuple kd, d) :: kvs)
def ObR (K : PySem.W.Frag) (F : Hp) : Ob → HO → Prop
  | .l ds, .lst vs => DpAll K F vs ds
  | .d kvs, .dK ks => KvR K F ks kvs
  | .d kvs, .dT ks => KtR K F ks kvs
  | _, _ => False
theorem kvr_mono {K : PySem.W.Frag} {F F' : Hp} (e : Ex F F') : ∀ {ks : List (Key × V)} {kvs : List (D × D)}, KvR K F ks kvs → KvR K F' ks kvs
  | _, _, .nil => .nil
  | _, _, .cons h q a => .cons h (dp_mono e q) (kvr_mono e a)
theorem ktr_mono {K : PySem.W.Frag} {F F' : Hp} (e : Ex F F') : ∀ {ks : List (List Key × V)} {kvs : List (D × D)}, KtR K F ks kvs → KtR K F' ks kvs
  | _, _, .nil => .nil
  | _, _, .cons h q a => .cons h (dp_mono e q) (ktr_mono e a)
theorem ObR.mono {K : PySem.W.Frag} {F F' : Hp} (e : Ex F F') {o : Ob} {ho : HO} (h : ObR K F o ho) : ObR K F' o ho := by
  cases o with
  | l ds => cases ho <;> first | exact dpa_mono e h | exact h.elim
  | d kvs => cases ho <;> first | exact kvr_mono e h | exact ktr_mono e h | exact h.elim

/-! ### the state -/
/-- what is fixed through a call: the written part, the heap and what stood still at the entry, the callers' things that may be changed here -/
structure Bs where
  K : PySem.W.Frag
  H0 : Hp
  F0 : Hp
  P : Nat → Option Addr
def CR (B : Bs) (F H : Hp) (v : V) : Cell → Prop
  | .dat d => Dp B.K F v d
  | .own o => ∃ a ho, v = .ref a ∧ F a = none ∧ H a = some ho ∧ ObR B.K F o ho ∧ B.H0 a = none
  | .par k o => ∃ a ho, v = .ref a ∧ F a = none ∧ H a = some ho ∧ ObR B.K F o ho ∧ B.P k = some a
def Cell.holds : Cell → Bool
  | .dat _ => false
  | _ => true
/-- a thing in a slot stands at a -/
def OA (σ : St) (env : Env) (a : Addr) : Prop := ∃ (i : Nat) (c : Cell), env[i]? = some (some c) ∧ c.holds = true ∧ σ[i]? = some (some (.ref a))
structure SR (B : Bs) (F H : Hp) (σ : St) (env : Env) : Prop where
  len : σ.length = env.length
  ff : Ex B.F0 F
  fh : Ex F H
  old : ∀ (a : Addr) (o : HO), B.H0 a = some o → (∀ k, B.P k ≠ some a) → H a = some o
  pt : ∀ k a, B.P k = some a → H a ≠ none
  new : ∀ a, F a ≠ none → B.F0 a ≠ none ∨ B.H0 a = none
  sl : ∀ (i : Nat) (c : Cell), env[i]? = some (some c) → ∃ v, σ[i]? = some (some v) ∧ CR B F H v c
  ds : ∀ (i j : Nat) (c c' : Cell), env[i]? = some (some c) → env[j]? = some (some c') → c.holds = true → c'.holds = true → σ[i]? = σ[j]? → i = j
theorem CR.mono {B : Bs} {F F' H H' : Hp} {v : V} {c : Cell} (h : CR B F H v c) (e : Ex F F') (k : c.holds = true → ∀ a, v = .ref a → F' a = F a ∧ H' a = H a) : CR B F' H' v c := by
  cases c with
  | dat d => exact dp_mono e h
  | own o =>
    obtain ⟨a, ho, rfl, h1, h2, h3, h4⟩ := h
    obtain ⟨k1, k2⟩ := k rfl a rfl
    exact ⟨a, ho, rfl, k1.trans h1, k2.trans h2, h3.mono e, h4⟩
  | par kk o =>
    obtain ⟨a, ho, rfl, h1, h2, h3, h4⟩ := h
    obtain ⟨k1, k2⟩ := k rfl a rfl
    exact ⟨a, ho, rfl, k1.trans h1, k2.trans h2, h3.mono e, h4⟩
theorem CR.there {B : Bs} {F H : Hp} {v : V} {c : Cell} (h : CR B F H v c) (q : c.holds = true) : ∃ a, v = .ref a ∧ F a = none ∧ H a ≠ none := by
  cases c with
  | dat d => cases q
  | own o => obtain ⟨a, ho, rfl, h1, h2, _⟩ := h; exact ⟨a, rfl, h1, by rw [h2]; simp⟩
  | par kk o => obtain ⟨a, ho, rfl, h1, h2, _⟩ := h; exact ⟨a, rfl, h1, by rw [h2]; simp⟩
section
variable {B : Bs} {F F' F1 F2 H H' H1 H2 : Hp} {σ : St} {env env' env1 env2 : Env} {a p : Addr} {o : HO}
theorem SR.h0 (s : SR B F H σ env) (h : H a = none) : B.H0 a = none := by
  cases q : B.H0 a with
  | none => rfl
  | some o =>
    by_cases hp : ∃ k, B.P k = some a
    · obtain ⟨k, hp⟩ := hp; exact absurd h (s.pt k a hp)
    · rw [s.old a o q fun k z => hp ⟨k, z⟩] at h; cases h
theorem SR.fnone (s : SR B F H σ env) (h : H a = none) : F a = none := s.fh.none h
theorem SR.oa (s : SR B F H σ env) (h : OA σ env a) : F a = none ∧ H a ≠ none := by
  obtain ⟨i, c, e, q, hs⟩ := h
  obtain ⟨v, hv, hc⟩ := s.sl i c e
  obtain ⟨b, rfl, h1, h2⟩ := hc.there q
  rw [hv] at hs
  cases hs
  exact ⟨h1, h2⟩
/-- a step: the slots' values stay, some data stands still further, things in slots may change -/
structure Post (B : Bs) (σ : St) (F H : Hp) (env : Env) (F' H' : Hp) (env' : Env) : Prop where
  sr : SR B F' H' σ env'
  ff : Ex F F'
  hh : ∀ a o, H a = some o → ¬ OA σ env a → H' a = some o
  kp : ∀ a, H a ≠ none → H' a ≠ none
  nw : ∀ a, F' a ≠ none → F a ≠ none ∨ H a = none ∨ OA σ env a
  oa : ∀ a, OA σ env' a → OA σ env a
  sm : ∀ (i : Nat) (c : Cell), env[i]? = some (some c) → ∃ c' : Cell, env'[i]? = some (some c')
theorem Post.refl (s : SR B F H σ env) : Post B σ F H env F H env :=
  ⟨s, Ex.refl F, fun _ _ h _ => h, fun _ h => h, fun _ h => .inl h, fun _ h => h, fun _ c h => ⟨c, h⟩⟩
theorem Post.fresh (q : Post B σ F H env F' H' env') (h : H' a = none) : H a = none := by
  cases e : H a with
  | none => rfl
  | some o => exact absurd h (q.kp a (by rw [e]; simp))
theorem Post.trans (q : Post B σ F H env F1 H1 env1) (r : Post B σ F1 H1 env1 F2 H2 env2) : Post B σ F H env F2 H2 env2 := by
  refine ⟨r.sr, q.ff.trans r.ff, fun a o h n => r.hh a o (q.hh a o h n) fun z => n (q.oa a z), fun a h => r.kp a (q.kp a h), fun a h => ?_, fun a z => q.oa a (r.oa a z), fun i c h => ?_⟩
  · rcases r.nw a h with z | z | z
    · exact q.nw a z
    · exact .inr (.inl (q.fresh z))
    · exact .inr (.inr (q.oa a z))
  · obtain ⟨c1, h1⟩ := q.sm i c h
    exact r.sm i c1 h1
/-- what a value is: pre is the heap ahead of the expression -/
def VR (B : Bs) (σ : St) (pre F H : Hp) (env : Env) (v : V) : Val → Prop
  | .dat d => Dp B.K F v d
  | .new o => ∃ p ho, v = .ref p ∧ F p = none ∧ H p = some ho ∧ ObR B.K F o ho ∧ pre p = none ∧ ¬ OA σ env p ∧ B.H0 p = none
  | .slot i => σ[i]? = some (some v) ∧ ∃ c : Cell, env[i]? = some (some c)
theorem VR.step {pre : Hp} {v : V} {val : Val} (h : VR B σ pre F1 H1 env1 v val) (r : Post B σ F1 H1 env1 F2 H2 env2) : VR B σ pre F2 H2 env2 v val := by
  cases val with
  | dat d => exact dp_mono r.ff h
  | new o =>
    obtain ⟨p, ho, rfl, h1, h2, h3, h4, h5, h6⟩ := h
    refine ⟨p, ho, rfl, ?_, r.hh p ho h2 h5, h3.mono r.ff, h4, fun z => h5 (r.oa p z), h6⟩
    cases e : F2 p with
    | none => rfl
    | some u =>
      rcases r.nw p (by rw [e]; simp) with z | z | z
      · exact absurd h1 z
      · rw [h2] at z; cases z
      · exact absurd z h5
  | slot i =>
    obtain ⟨h1, c, h2⟩ := h
    obtain ⟨c', h3⟩ := r.sm i c h2
    exact ⟨h1, c', h3⟩
theorem VR.ahead {pre pre' : Hp} {v : V} {val : Val} (h : VR B σ pre F H env v val) (k : ∀ p, pre p = none → pre' p = none) : VR B σ pre' F H env v val := by
  cases val with
  | dat d => exact h
  | new o => obtain ⟨p, ho, h0, h1, h2, h3, h4, h5⟩ := h; exact ⟨p, ho, h0, h1, h2, h3, k p h4, h5⟩
  | slot i => exact h
/-- a new object, tracked, not yet standing still -/
theorem SR.lay (s : SR B F H σ env) (h : H p = none) : SR B F (upd H p o) σ env := by
  refine ⟨s.len, s.ff, s.fh.upd (s.fnone h), fun a u e n => ?_, fun k a ha => ?_, s.new, fun i c e => ?_, s.ds⟩
  · rw [upd_ne (ne_of_none (s.old a u e n) h)]
    exact s.old a u e n
  · by_cases q : a = p
    · subst q; exact absurd h (s.pt k a ha)
    · rw [upd_ne q]; exact s.pt k a ha
  · obtain ⟨v, hv, hc⟩ := s.sl i c e
    refine ⟨v, hv, hc.mono (Ex.refl F) fun q a e1 => ⟨rfl, ?_⟩⟩
    obtain ⟨b, e2, _, h2⟩ := hc.there q
    rw [e1] at e2; cases e2
    exact upd_ne fun z => by subst z; exact h2 h
theorem Post.lay (s : SR B F H σ env) (h : H p = none) : Post B σ F H env F (upd H p o) env := by
  refine ⟨s.lay h, Ex.refl F, fun a u e _ => ?_, fun a ha => ?_, fun _ z => .inl z, fun _ z => z, fun _ c z => ⟨c, z⟩⟩
  · rw [upd_ne (ne_of_none e h)]; exact e
  · by_cases q : a = p
    · subst q; exact absurd h ha
    · rw [upd_ne q]; exact ha
/-- an object stands still from now on -/
theorem SR.freeze (s : SR B F H σ env) (h : F p = none) (hp : H p = some o) (h0 : B.H0 p = none) (n : ¬ OA σ env p) : SR B (upd F p o) H σ env := by
  refine ⟨s.len, s.ff.trans (Ex.new h), fun a u e => ?_, s.old, s.pt, fun a e => ?_, fun i c e => ?_, s.ds⟩
  · by_cases q : a = p
    · subst q; rw [upd_same] at e; cases e; exact hp
    · rw [upd_ne q] at e; exact s.fh a u e
  · by_cases q : a = p
    · subst q; exact .inr h0
    · rw [upd_ne q] at e; exact s.new a e
  · obtain ⟨v, hv, hc⟩ := s.sl i c e
    refine ⟨v, hv, hc.mono (Ex.new h) fun q a e1 => ⟨upd_ne fun z => n ?_, rfl⟩⟩
    rw [← z]
    exact ⟨i, c, e, q, by rw [hv, e1]⟩
end
end EW

/-! EW 2: readings by denotations; freezing; names, constants, displays. -/
namespace EW
open PySem PySem.Spec PyProof.Rows L2
abbrev DE := Env → Option (Val × Env)
abbrev DT := Env → Option (Bool × Env)
abbrev DA := Env → Option (List Val × Env)

def Ds (v : V) (x : Val) (vs : List V) (xs : List Val) : Prop := ∀ (k : Nat) (w : V) (o o' : Ob), vs[k]? = some w → xs[k]? = some (.new o') → x = .new o → v ≠ w
inductive VRs (B : Bs) (σ : St) (pre F H : Hp) (env : Env) : List V → List Val → Prop
  | nil : VRs B σ pre F H env [] []
  | cons {v : V} {x : Val} {vs : List V} {xs : List Val} : VR B σ pre F H env v x → Ds v x vs xs → VRs B σ pre F H env vs xs → VRs B σ pre F H env (v :: vs) (x :: xs)
section
variable {B : Bs} {F F' F1 F2 H H' H1 H2 pre : Hp} {σ : St} {env env' env1 env2 : Env} {a p : Addr} {o : HO} {v w : V} {x y : Val} {vs : List V} {xs : List Val}
theorem VRs.step (h : VRs B σ pre F1 H1 env1 vs xs) (r : Post B σ F1 H1 env1 F2 H2 env2) : VRs B σ pre F2 H2 env2 vs xs := by
  induction h with
  | nil => exact .nil
  | cons h d _ ih => exact .cons (h.step r) d ih
theorem VRs.ahead {pre' : Hp} (h : VRs B σ pre F H env vs xs) (k : ∀ p, pre p = none → pre' p = none) : VRs B σ pre' F H env vs xs := by
  induction h with
  | nil => exact .nil
  | cons h d _ ih => exact .cons (h.ahead k) d ih
theorem VRs.length (h : VRs B σ pre F H env vs xs) : vs.length = xs.length := by
  induction h with
  | nil => rfl
  | cons _ _ _ ih => exact congrArg Nat.succ ih
theorem VRs.get (h : VRs B σ pre F H env vs xs) : ∀ {k : Nat} {x : Val}, xs[k]? = some x → ∃ v, vs[k]? = some v ∧ VR B σ pre F H env v x := by
  induction h with
  | nil => intro k x e; simp at e
  | cons h d _ ih =>
    intro k x e
    cases k with
    | zero => simp at e; subst e; exact ⟨_, rfl, h⟩
    | succ k => simpa using ih (by simpa using e)
/-- an object laid that stands still at once -/
theorem Post.alloc {Fq Hq : Hp} {envp : Env} (q : Post B σ Fq Hq envp F H env) (h : H p = none) : Post B σ Fq Hq envp (upd F p o) (upd H p o) env := by
  have nf : F p = none := q.sr.fnone h
  have s1 := q.sr.lay (o := o) h
  have nO : ¬ OA σ env p := fun z => (q.sr.oa z).2 h
  have s2 : SR B (upd F p o) (upd H p o) σ env := s1.freeze nf upd_same (q.sr.h0 h) nO
  have hp : Hq p = none := q.fresh h
  refine ⟨s2, q.ff.trans (Ex.new nf), fun a u e n => ?_, fun a ha => ?_, fun a ha => ?_, q.oa, q.sm⟩
  · rw [upd_ne (ne_of_none e hp)]; exact q.hh a u e n
  · by_cases e : a = p
    · subst e; exact absurd hp ha
    · rw [upd_ne e]; exact q.kp a ha
  · by_cases e : a = p
    · subst e; exact .inr (.inl hp)
    · rw [upd_ne e] at ha; exact q.nw a ha
/-- an object laid that may still change -/
theorem Post.allocN {Fq Hq : Hp} {envp : Env} (q : Post B σ Fq Hq envp F H env) (h : H p = none) : Post B σ Fq Hq envp F (upd H p o) env := by
  have hp : Hq p = none := q.fresh h
  refine ⟨q.sr.lay h, q.ff, fun a u e n => ?_, fun a ha => ?_, q.nw, q.oa, q.sm⟩
  · rw [upd_ne (ne_of_none e hp)]; exact q.hh a u e n
  · by_cases e : a = p
    · subst e; exact absurd hp ha
    · rw [upd_ne e]; exact q.kp a ha
theorem VR.newAt {Fq Hq : Hp} {envp : Env} {ob : Ob} (q : Post B σ Fq Hq envp F H env) (h : H p = none) (r : ObR B.K F ob o) : VR B σ Hq F (upd H p o) env (.ref p) (.new ob) :=
  ⟨p, o, rfl, q.sr.fnone h, upd_same, r, q.fresh h, fun z => (q.sr.oa z).2 h, q.sr.h0 h⟩

/-! ### reading, freezing -/
def Val.rd (env : Env) : Val → Option D
  | .dat d => some d
  | .new (.l ds) => some (.list ds)
  | .slot i => match env[i]? with
    | some (some (.dat d)) => some d
    | some (some (.own (.l ds))) => some (.list ds)
    | some (some (.par _ (.l ds))) => some (.list ds)
    | _ => none
  | _ => none
/-- a list: where it stands, and what -/
theorem VR.rd (s : SR B F H σ env) (h : VR B σ pre F H env v x) {d : D} (e : x.rd env = some d) : Dp B.K H v d := by
  cases x with
  | dat d' => cases e; exact dp_mono s.fh h
  | new ob =>
    obtain ⟨p, ho, rfl, _, h2, h3, _⟩ := h
    cases ob with
    | l ds =>
      cases e
      cases ho <;> first | exact h3.elim | skip
      exact .lst (SqL.of h2) (dpa_mono s.fh h3)
    | d kvs => cases e
  | slot i =>
    obtain ⟨h1, c, h2⟩ := h
    obtain ⟨v', hv, hc⟩ := s.sl i c h2
    rw [h1] at hv
    cases hv
    simp only [Val.rd, h2] at e
    cases c with
    | dat d' => cases e; exact dp_mono s.fh hc
    | own ob =>
      cases ob with
      | l ds =>
        obtain ⟨a, ho, rfl, _, h3, h4, _⟩ := hc
        cases e
        cases ho <;> first | exact h4.elim | skip
        exact .lst (SqL.of h3) (dpa_mono s.fh h4)
      | d kvs => cases e
    | par kk ob =>
      cases ob with
      | l ds =>
        obtain ⟨a, ho, rfl, _, h3, h4, _⟩ := hc
        cases e
        cases ho <;> first | exact h4.elim | skip
        exact .lst (SqL.of h3) (dpa_mono s.fh h4)
      | d kvs => cases e
/-- a list that is read: its items stand still -/
theorem VR.rdL (s : SR B F H σ env) (h : VR B σ pre F H env v x) {ds : List D} (e : x.rd env = some (.list ds)) : ∃ a vs, v = .ref a ∧ SqL B.K H a vs ∧ DpAll B.K F vs ds := by
  cases x with
  | dat d' =>
    cases e
    cases h with
    | lst h1 h2 => exact ⟨_, _, rfl, ex_l s.fh h1, h2⟩
  | new ob =>
    obtain ⟨p, ho, rfl, _, h2, h3, _⟩ := h
    cases ob with
    | l ds =>
      cases e
      cases ho <;> first | exact h3.elim | skip
      exact ⟨_, _, rfl, SqL.of h2, h3⟩
    | d kvs => cases e
  | slot i =>
    obtain ⟨h1, c, h2⟩ := h
    obtain ⟨v', hv, hc⟩ := s.sl i c h2
    rw [h1] at hv
    cases hv
    simp only [Val.rd, h2] at e
    cases c with
    | dat d' =>
      cases e
      cases (show Dp B.K F _ _ from hc) with
      | lst g1 g2 => exact ⟨_, _, rfl, ex_l s.fh g1, g2⟩
    | own ob =>
      cases ob with
      | l ds =>
        obtain ⟨a, ho, rfl, _, h3, h4, _⟩ := hc
        cases e
        cases ho <;> first | exact h4.elim | skip
        exact ⟨_, _, rfl, SqL.of h3, h4⟩
      | d kvs => cases e
    | par kk ob =>
      cases ob with
      | l ds =>
        obtain ⟨a, ho, rfl, _, h3, h4, _⟩ := hc
        cases e
        cases ho <;> first | exact h4.elim | skip
        exact ⟨_, _, rfl, SqL.of h3, h4⟩
      | d kvs => cases e
theorem VR.rdD (s : SR B F H σ env) (h : VR B σ pre F H env v x) {d : D} (e : x.rd env = some d) (nl : ∀ ds, d ≠ .list ds) : Dp B.K F v d := by
  cases x with
  | dat d' => cases e; exact h
  | new ob =>
    cases ob with
    | l ds => cases e; exact absurd rfl (nl ds)
    | d kvs => cases e
  | slot i =>
    obtain ⟨h1, c, h2⟩ := h
    obtain ⟨v', hv, hc⟩ := s.sl i c h2
    rw [h1] at hv
    cases hv
    simp only [Val.rd, h2] at e
    cases c with
    | dat d' => cases e; exact hc
    | own ob =>
      cases ob with
      | l ds => cases e; exact absurd rfl (nl ds)
      | d kvs => cases e
    | par kk ob =>
      cases ob with
      | l ds => cases e; exact absurd rfl (nl ds)
      | d kvs => cases e
theorem VR.rdT (s : SR B F H σ env) (h : VR B σ pre F H env v x) {ds : List D} (e : x.rd env = some (.tuple ds)) : ∃ a vs, v = .ref a ∧ SqT B.K H a vs ∧ DpAll B.K F vs ds := by
  cases h.rdD s e (fun _ z => by cases z) with
  | tup h1 h2 => exact ⟨_, _, rfl, ex_t s.fh h1, h2⟩
theorem VR.rdS (s : SR B F H σ env) (h : VR B σ pre F H env v x) {z : Str} (e : x.rd env = some (.str z)) : v = .str z := by
  cases h.rdD s e (fun _ z => by cases z); rfl
theorem VR.rdI (s : SR B F H σ env) (h : VR B σ pre F H env v x) {i : Int} (e : x.rd env = some (.int i)) : v = .int i := by
  cases h.rdD s e (fun _ z => by cases z); rfl
theorem VR.rdB (s : SR B F H σ env) (h : VR B σ pre F H env v x) {b : Bool} (e : x.rd env = some (.bool b)) : v = .bl b := by
  cases h.rdD s e (fun _ z => by cases z); rfl
theorem VR.rdN (s : SR B F H σ env) (h : VR B σ pre F H env v x) (e : x.rd env = some .none) : v = .non := by
  cases h.rdD s e (fun _ z => by cases z); rfl

def Val.frz (env : Env) : Val → Option (D × Env)
  | .dat d => some (d, env)
  | .new (.l ds) => some (.list ds, env)
  | .slot i => match env[i]? with
    | some (some (.dat d)) => some (d, env)
    | some (some (.own (.l ds))) => some (.list ds, env.set i (some (.dat (.list ds))))
    | _ => none
  | _ => none
theorem set_get {env : Env} {i : Nat} {c c' : Option Cell} (h : env[i]? = some c) : (env.set i c')[i]? = some c' := by
  rw [List.getElem?_set_self (List.getElem?_eq_some_iff.mp h).1]
theorem set_ne {env : Env} {i j : Nat} {c' : Option Cell} (h : i ≠ j) : (env.set i c')[j]? = env[j]? := List.getElem?_set_ne h
/-- what is frozen -/
theorem frz_post {Fq Hq : Hp} {envp : Env} (q : Post B σ Fq Hq envp F H env) (h : VR B σ Hq F H env v x) {d : D} (e : x.frz env = some (d, env')) :
    ∃ F', Post B σ Fq Hq envp F' H env' ∧ Dp B.K F' v d ∧ Ex F F' ∧ ∀ w y, VR B σ Hq F H env w y → (∀ o o', x = .new o → y = .new o' → v ≠ w) → VR B σ Hq F' H env' w y := by
  cases x with
  | dat d' => cases e; exact ⟨F, q, h, Ex.refl F, fun _ _ z _ => z⟩
  | new ob =>
    obtain ⟨p, ho, rfl, h1, h2, h3, h4, h5, h6⟩ := h
    cases ob with
    | d kvs => cases e
    | l ds =>
      cases e
      cases ho <;> first | exact h3.elim | skip
      rename_i xs
      have s1 := q.sr.freeze h1 h2 h6 h5
      refine ⟨upd F p (.lst xs), ⟨s1, q.ff.trans (Ex.new h1), q.hh, q.kp, fun a ha => ?_, q.oa, q.sm⟩, .lst (SqL.of upd_same) (dpa_mono (Ex.new h1) h3), Ex.new h1, fun w y hw dn => ?_⟩
      · by_cases z : a = p
        · subst z; exact .inr (.inl h4)
        · rw [upd_ne z] at ha; exact q.nw a ha
      · cases y with
        | dat d' => exact dp_mono (Ex.new h1) hw
        | new o' =>
          obtain ⟨p', ho', rfl, g1, g2, g3, g4⟩ := hw
          have ne : p' ≠ p := fun z => dn _ _ rfl rfl (by rw [z])
          exact ⟨p', ho', rfl, (upd_ne ne).trans g1, g2, g3.mono (Ex.new h1), g4⟩
        | slot i => exact hw
  | slot i =>
    obtain ⟨h1, c, h2⟩ := h
    obtain ⟨v', hv, hc⟩ := q.sr.sl i c h2
    rw [h1] at hv
    cases hv
    simp only [Val.frz, h2] at e
    cases c with
    | dat d' => cases e; exact ⟨F, q, hc, Ex.refl F, fun _ _ z _ => z⟩
    | par kk ob => cases e
    | own ob =>
      cases ob with
      | d kvs => cases e
      | l ds =>
        obtain ⟨a, ho, rfl, g1, g2, g3, g4⟩ := hc
        cases e
        cases ho <;> first | exact g3.elim | skip
        rename_i xs
        have hOA : OA σ env a := ⟨i, _, h2, rfl, h1⟩
        have dd : Dp B.K (upd F a (.lst xs)) (.ref a) (.list ds) := .lst (SqL.of upd_same) (dpa_mono (Ex.new g1) g3)
        -- the slots but i
        have nO : ∀ b, OA σ (env.set i (some (.dat (.list ds)))) b → OA σ env b ∧ b ≠ a := fun b ⟨j, cj, e1, e2, e3⟩ => by
          have hji : i ≠ j := fun z => by
            subst z
            rw [set_get h2] at e1
            cases e1; cases e2
          rw [set_ne hji] at e1
          refine ⟨⟨j, cj, e1, e2, e3⟩, fun z => hji ?_⟩
          subst z
          exact (q.sr.ds i j _ _ h2 e1 rfl e2 (h1.trans e3.symm))
        have s1 : SR B (upd F a (.lst xs)) H σ (env.set i (some (.dat (.list ds)))) := by
          refine ⟨by rw [List.length_set]; exact q.sr.len, q.sr.ff.trans (Ex.new g1), fun b u hb => ?_, q.sr.old, q.sr.pt, fun b hb => ?_, fun j cj e1 => ?_, fun j k cj ck e1 e2 e3 e4 e5 => ?_⟩
          · by_cases z : b = a
            · subst z; rw [upd_same] at hb; cases hb; exact g2
            · rw [upd_ne z] at hb; exact q.sr.fh b u hb
          · by_cases z : b = a
            · subst z; exact .inr g4
            · rw [upd_ne z] at hb; exact q.sr.new b hb
          · by_cases hji : i = j
            · subst hji
              rw [set_get h2] at e1
              cases e1
              exact ⟨_, h1, dd⟩
            · have e1' := e1
              rw [set_ne hji] at e1
              obtain ⟨v, hv, hc⟩ := q.sr.sl j cj e1
              refine ⟨v, hv, hc.mono (Ex.new g1) fun hh b eb => ⟨upd_ne fun z => ?_, rfl⟩⟩
              exact (nO b ⟨j, cj, e1', hh, by rw [hv, eb]⟩).2 z
          · have hj : i ≠ j := fun z => by subst z; rw [set_get h2] at e1; cases e1; cases e3
            have hk : i ≠ k := fun z => by subst z; rw [set_get h2] at e2; cases e2; cases e4
            rw [set_ne hj] at e1
            rw [set_ne hk] at e2
            exact q.sr.ds j k cj ck e1 e2 e3 e4 e5
        have sm1 : ∀ (j : Nat) (c : Cell), env[j]? = some (some c) → ∃ c' : Cell, (env.set i (some (.dat (.list ds))))[j]? = some (some c') := fun j c ej => by
          by_cases hji : i = j
          · subst hji; exact ⟨_, set_get h2⟩
          · exact ⟨c, by rw [set_ne hji]; exact ej⟩
        refine ⟨upd F a (.lst xs), ⟨s1, q.ff.trans (Ex.new g1), q.hh, q.kp, fun b hb => ?_, fun b z => q.oa b (nO b z).1, fun j c ej => ?_⟩, dd, Ex.new g1, fun w y hw dn => ?_⟩
        · by_cases z : b = a
          · subst z; exact .inr (.inr (q.oa _ hOA))
          · rw [upd_ne z] at hb; exact q.nw b hb
        · obtain ⟨c', e'⟩ := q.sm j c ej
          exact sm1 j c' e'
        · cases y with
          | dat d' => exact dp_mono (Ex.new g1) hw
          | new o' =>
            obtain ⟨p', ho', rfl, k1, k2, k3, k4, k5, k6⟩ := hw
            have ne : p' ≠ a := fun z => k5 (z ▸ hOA)
            exact ⟨p', ho', rfl, (upd_ne ne).trans k1, k2, k3.mono (Ex.new g1), k4, fun z => k5 (nO _ z).1, k6⟩
          | slot j =>
            obtain ⟨k1, c, k2⟩ := hw
            exact ⟨k1, sm1 j c k2⟩
/-- several -/
def frzs : List Val → Env → Option (List D × Env)
  | [], env => some ([], env)
  | x :: xs, env => (x.frz env).bind fun r => (frzs xs r.2).bind fun q => some (r.1 :: q.1, q.2)
theorem VRs.tr {v : V} {x : Val} {pre2 : Hp} (hs : VRs B σ pre F H env vs xs) (tr : ∀ w y, VR B σ pre F H env w y → (∀ o o', x = .new o → y = .new o' → v ≠ w) → VR B σ pre2 F' H' env' w y) (dd : Ds v x vs xs) : VRs B σ pre2 F' H' env' vs xs := by
  induction hs with
  | nil => exact .nil
  | @cons w y ws ys hw d2 _ ih =>
    refine .cons (tr w y hw fun o o' e1 e2 => dd 0 w o o' rfl (by rw [e2]; rfl) e1) d2 (ih fun k w' o o' a b c => dd (k + 1) w' o o' (by simpa using a) (by simpa using b) c)
theorem frzs_post {Fq Hq : Hp} {envp : Env} : ∀ (xs : List Val) {vs : List V} {F : Hp} {env env' : Env} {ds : List D}, Post B σ Fq Hq envp F H env → VRs B σ Hq F H env vs xs → frzs xs env = some (ds, env') →
    ∃ F', Post B σ Fq Hq envp F' H env' ∧ DpAll B.K F' vs ds ∧ Ex F F' := by
  intro xs
  induction xs with
  | nil =>
    intro vs F env env' ds q h e
    cases h
    cases e
    exact ⟨F, q, .nil, Ex.refl F⟩
  | cons x xs ih =>
    intro vs F env env' ds q h e
    cases h with
    | cons h dd hs =>
      simp only [frzs, Option.bind_eq_some_iff] at e
      obtain ⟨⟨d, env1⟩, e1, ⟨ds1, env2⟩, e2, e3⟩ := e
      cases e3
      obtain ⟨F1, q1, hd, x1, tr⟩ := frz_post q h e1
      obtain ⟨F2, q2, ha, x2⟩ := ih q1 (hs.tr tr dd) e2
      exact ⟨F2, q2, .cons (dp_mono x2 hd) ha, x1.trans x2⟩
theorem frzs_postT {Fq Hq : Hp} {envp : Env} : ∀ (xs : List Val) {vs : List V} {F : Hp} {env env' : Env} {ds : List D}, Post B σ Fq Hq envp F H env → VRs B σ Hq F H env vs xs → frzs xs env = some (ds, env') →
    ∃ F', Post B σ Fq Hq envp F' H env' ∧ DpAll B.K F' vs ds ∧ Ex F F' ∧ ∀ w y, VR B σ Hq F H env w y → (∀ (k : Nat) (u : V) (o o' : Ob), vs[k]? = some u → xs[k]? = some (.new o) → y = .new o' → u ≠ w) → VR B σ Hq F' H env' w y := by
  intro xs
  induction xs with
  | nil =>
    intro vs F env env' ds q h e
    cases h
    cases e
    exact ⟨F, q, .nil, Ex.refl F, fun _ _ z _ => z⟩
  | cons x xs ih =>
    intro vs F env env' ds q h e
    cases h with
    | @cons v _ vs _ h dd hs =>
      simp only [frzs, Option.bind_eq_some_iff] at e
      obtain ⟨⟨d, env1⟩, e1, ⟨ds1, env2⟩, e2, e3⟩ := e
      cases e3
      obtain ⟨F1, q1, hd, x1, tr⟩ := frz_post q h e1
      obtain ⟨F2, q2, ha, x2, tr2⟩ := ih q1 (hs.tr tr dd) e2
      exact ⟨F2, q2, .cons (dp_mono x2 hd) ha, x1.trans x2, fun w y hw dn => tr2 w y (tr w y hw fun o o' a b => dn 0 v o o' rfl (by rw [a]; rfl) b) fun k u o o' a b e => dn (k + 1) u o o' (by simpa using a) (by simpa using b) e⟩
theorem frzs_length : ∀ {xs : List Val} {env env' : Env} {ds : List D}, frzs xs env = some (ds, env') → ds.length = xs.length
  | [], _, _, _, e => by cases e; rfl
  | x :: xs, env, env', ds, e => by
    simp only [frzs, Option.bind_eq_some_iff] at e
    obtain ⟨⟨d, env1⟩, e1, ⟨ds1, env2⟩, e2, e3⟩ := e
    cases e3
    exact congrArg Nat.succ (frzs_length e2)
end

/-! ### readings -/
def rdE (K : PySem.W.Frag) (f : DE) : TE := fun σ H Q => ∃ (B : Bs) (F : Hp) (env : Env) (val : Val) (env' : Env), B.K = K ∧ SR B F H σ env ∧ f env = some (val, env') ∧ ∀ v F' H', Post B σ F H env F' H' env' → VR B σ H F' H' env' v val → Q v H'
def rdT (K : PySem.W.Frag) (f : DT) : TT := fun σ H Q => ∃ (B : Bs) (F : Hp) (env : Env) (b : Bool) (env' : Env), B.K = K ∧ SR B F H σ env ∧ f env = some (b, env') ∧ ∀ F' H', Post B σ F H env F' H' env' → Q b H'
def rdA (K : PySem.W.Frag) (f : DA) : TA := fun σ H Q => ∃ (B : Bs) (F : Hp) (env : Env) (xs : List Val) (env' : Env), B.K = K ∧ SR B F H σ env ∧ f env = some (xs, env') ∧ ∀ vs F' H', Post B σ F H env F' H' env' → VRs B σ H F' H' env' vs xs → Q vs H'
abbrev JE (X : Cx) (e : Expr) (f : DE) : Prop := PE X e (rdE X.K f)
abbrev JT (X : Cx) (e : Expr) (f : DT) : Prop := PT X e (rdT X.K f)
abbrev JW (X : Cx) (e : Expr) (f : DT) : Prop := PW X e (rdT X.K f)
abbrev JA (X : Cx) (es : List Expr) (f : DA) : Prop := PA X es (rdA X.K f)
section
variable {X : Cx} {e : Expr} {es : List Expr}
theorem PE.imp {t t' : TE} (h : PE X e t) (i : ∀ σ H Q, t' σ H Q → t σ H Q) : PE X e t' := ⟨fun pins s σ H Q I q => h.run pins s σ H Q I (i σ H Q q)⟩
theorem PT.imp {t t' : TT} (h : PT X e t) (i : ∀ σ H Q, t' σ H Q → t σ H Q) : PT X e t' := ⟨fun pins s σ H Q I q => h.run pins s σ H Q I (i σ H Q q)⟩
theorem PW.imp {t t' : TT} (h : PW X e t) (i : ∀ σ H Q, t' σ H Q → t σ H Q) : PW X e t' := ⟨fun wh pins s σ H Q I q => h.run wh pins s σ H Q I (i σ H Q q)⟩
theorem PA.imp {t t' : TA} (h : PA X es t) (i : ∀ σ H Q, t' σ H Q → t σ H Q) : PA X es t' := ⟨fun pos pins s σ H Q I q => h.run pos pins s σ H Q I (i σ H Q q)⟩
end

/-! ### names, constants -/
def dNm (i : Nat) : DE := fun env => match env[i]? with
  | some (some (.dat d)) => some (.dat d, env)
  | some (some _) => some (.slot i, env)
  | _ => none
def dK (d : D) : DE := fun env => some (.dat d, env)
section
variable {X : Cx} {pos : Pos}
theorem je_nm (i : Nat) {x : Str} (hN : X.N[i]? = some x := by rfl) (hv : Vis X.env.scope x := by first | exact Or.inl rfl | exact Or.inr (Or.inl rfl) | exact Or.inr (Or.inr rfl)) (hd : (x == ("__debug__" : Str)) = false := by decide)
    (hcd : (x == ("__classdict__" : Str)) = false := by decide) : JE X (.Name x pos) (dNm i) := by
  refine PE.imp (pe_var hN hv hd hcd) fun σ H Q ⟨B, F, env, val, env', hK, s, e, k⟩ => ?_
  simp only [dNm] at e
  split at e
  · rename_i d h
    cases e
    obtain ⟨v, hv, hc⟩ := s.sl i _ h
    exact ⟨v, hv, k v F H (.refl s) hc⟩
  · rename_i c _ h
    cases e
    obtain ⟨v, hv, hc⟩ := s.sl i _ h
    exact ⟨v, hv, k v F H (.refl s) ⟨hv, _, h⟩⟩
  · cases e
theorem je_K {e : Expr} {v : V} {d : D} (h : PE X e (tC v)) (hd : ∀ F, Dp X.K F v d) : JE X e (dK d) := by
  refine PE.imp h fun σ H Q ⟨B, F, env, val, env', hK, s, e, k⟩ => ?_
  cases e
  exact k v F H (.refl s) (by rw [← hK] at hd; exact hd F)
theorem je_int {i : Int} {j} : JE X (.Constant (.int i) j pos) (dK (.int i)) := je_K pe_int fun _ => .int i
theorem je_bl {b : Bool} {j} : JE X (.Constant (.bool b) j pos) (dK (.bool b)) := je_K pe_bl fun _ => .bl b
theorem je_non {j} : JE X (.Constant .none j pos) (dK .none) := je_K pe_non fun _ => .non
theorem je_str {x : Str} {j} : JE X (.Constant (.str x) j pos) (dK (.str x)) := je_K pe_str fun _ => .str x
theorem je_gint {x : Str} {i : Int} {u : Value} (hg : Gl X x) (hm : X.mg x = some u) (r : RelV (.int i) u) (hd : (x == ("__debug__" : Str)) = false := by decide) : JE X (.Name x pos) (dK (.int i)) := je_K (pe_glob hg hm r hd) fun _ => .int i
theorem je_gstr {x z : Str} {u : Value} (hg : Gl X x) (hm : X.mg x = some u) (r : RelV (.str z) u) (hd : (x == ("__debug__" : Str)) = false := by decide) : JE X (.Name x pos) (dK (.str z)) := je_K (pe_glob hg hm r hd) fun _ => .str z
end

/-! ### arguments, displays -/
def aNil : DA := fun env => some ([], env)
def aCons (f : DE) (g : DA) : DA := fun env => (f env).bind fun r => (g r.2).bind fun q => some (r.1 :: q.1, q.2)
section
variable {X : Cx} {pos : Pos} {e : Expr} {es : List Expr} {f : DE} {g : DA}
theorem ja_nil : JA X [] aNil := by
  refine PA.imp pa_nil fun σ H Q ⟨B, F, env, val, env', hK, s, e, k⟩ => ?_
  cases e
  exact k [] F H (.refl s) .nil
theorem ja_cons (h : JE X e f) (hr : JA X es g) (hs : starEach (e :: es) X.env = (false, eval e X.env) :: starEach es X.env := by rfl) : JA X (e :: es) (aCons f g) := by
  refine PA.imp (pa_cons h hr hs) fun σ H Q ⟨B, F, env, val, env', hK, s, e, k⟩ => ?_
  simp only [aCons, Option.bind_eq_some_iff] at e
  obtain ⟨⟨x, env1⟩, e1, ⟨xs, env2⟩, e2, e3⟩ := e
  cases e3
  refine ⟨B, F, env, x, env1, hK, s, e1, fun v F1 H1 p1 r1 => ⟨B, F1, env1, xs, env2, hK, p1.sr, e2, fun vs F2 H2 p2 r2 => ?_⟩⟩
  refine k (v :: vs) F2 H2 (p1.trans p2) (.cons (r1.step p2) (fun kk w o o' a b c => ?_) (r2.ahead fun p hp => p1.fresh hp))
  subst c
  obtain ⟨p, ho, rfl, _, h2, _⟩ := r1
  obtain ⟨w', hw, rw'⟩ := r2.get b
  rw [a] at hw
  cases hw
  obtain ⟨p', ho', rfl, _, _, _, h4, _⟩ := rw'
  intro z
  cases z
  rw [h2] at h4
  cases h4
def dTup (g : DA) : DE := fun env => (g env).bind fun r => (frzs r.1 r.2).bind fun q => if q.1.length ≤ 1000 then some (.dat (.tuple q.1), q.2) else none
def dLst (g : DA) : DE := fun env => (g env).bind fun r => (frzs r.1 r.2).bind fun q => if q.1.length ≤ 1000 then some (.new (.l q.1), q.2) else none
theorem small_line {n : Nat} (h : n ≤ 1000) : n ≤ sizeLine := Nat.le_trans h (by decide)
theorem je_tup {x1} (h : JA X es g) : JE X (.Tuple es x1 pos) (dTup g) := by
  refine PE.imp (pe_tup h) fun σ H Q ⟨B, F, env, val, env', hK, s, e, k⟩ => ?_
  simp only [dTup, Option.bind_eq_some_iff] at e
  obtain ⟨⟨xs, env1⟩, e1, ⟨ds, env2⟩, e2, e3⟩ := e
  split at e3
  · rename_i hl
    cases e3
    refine ⟨B, F, env, xs, env1, hK, s, e1, fun vs F1 H1 p1 r1 => ?_⟩
    obtain ⟨F2, p2, ha, x2⟩ := frzs_post xs p1 r1 e2
    refine ⟨small_line (by rw [dpa_length ha]; exact hl), fun p hp => ?_⟩
    refine k _ (upd F2 p (.tup vs)) _ (p2.alloc hp) ?_
    exact .tup (SqT.of upd_same) (dpa_mono (Ex.new (p2.sr.fnone hp)) ha)
  · cases e3
theorem je_lst (h : JA X es g) : JE X (.List es pos) (dLst g) := by
  refine PE.imp (pe_lst h) fun σ H Q ⟨B, F, env, val, env', hK, s, e, k⟩ => ?_
  simp only [dLst, Option.bind_eq_some_iff] at e
  obtain ⟨⟨xs, env1⟩, e1, ⟨ds, env2⟩, e2, e3⟩ := e
  split at e3
  · rename_i hl
    cases e3
    refine ⟨B, F, env, xs, env1, hK, s, e1, fun vs F1 H1 p1 r1 => ?_⟩
    obtain ⟨F2, p2, ha, x2⟩ := frzs_post xs p1 r1 e2
    refine ⟨small_line (by rw [dpa_length ha]; exact hl), fun p hp => ?_⟩
    exact k _ F2 _ (p2.allocN hp) (VR.newAt p2 hp ha)
  · cases e3
end

/-! ### two values read -/
abbrev K2 := Val → Val → Env → Option (Val × Env)
def d2 (f g : DE) (k : K2) : DE := fun env => (f env).bind fun r => (g r.2).bind fun q => k r.1 q.1 q.2
/-- what a two-place rule must give for k -/
def R2ok (K : PySem.W.Frag) (r : R2) (k : K2) : Prop :=
  ∀ (B : Bs) (σ : St) (Fq Hq : Hp) (envp : Env) (F H : Hp) (env : Env) (v w : V) (x y : Val) (val : Val) (env' : Env) (Q : VK), B.K = K → Post B σ Fq Hq envp F H env → VR B σ Hq F H env v x → VR B σ Hq F H env w y →
    k x y env = some (val, env') → (∀ u F' H', Post B σ Fq Hq envp F' H' env' → VR B σ Hq F' H' env' u val → Q u H') → r v w H Q
theorem rd2 {K : PySem.W.Frag} {r : R2} {k : K2} (ok : R2ok K r k) {f g : DE} {σ : St} {H : Hp} {Q : VK} (h : rdE K (d2 f g k) σ H Q) : tOp r (rdE K f) (rdE K g) σ H Q := by
  obtain ⟨B, F, env, val, env', hK, s, e, q⟩ := h
  simp only [d2, Option.bind_eq_some_iff] at e
  obtain ⟨⟨x, env1⟩, e1, ⟨y, env2⟩, e2, e3⟩ := e
  exact ⟨B, F, env, x, env1, hK, s, e1, fun v F1 H1 p1 r1 => ⟨B, F1, env1, y, env2, hK, p1.sr, e2, fun w F2 H2 p2 r2 =>
    ok B σ F H env F2 H2 env2 v w x y val env' Q hK (p1.trans p2) (r1.step p2) (r2.ahead fun p hp => p1.fresh hp) e3 q⟩⟩
theorem je_op {X : Cx} {a b : Expr} {op : Operator} {r : R2} {k : K2} {f g : DE} {pos : Pos} (ho : OpR X (binaryOp op) r) (ok : R2ok X.K r k) (ha : JE X a f) (hb : JE X b g) : JE X (.BinOp a op b pos) (d2 f g k) :=
  PE.imp (pe_op ho ha hb) fun _ _ _ => rd2 ok
theorem je_cmp {X : Cx} {a b : Expr} {op : CmpOp} {r : R2} {k : K2} {f g : DE} {pos : Pos} (ho : OpR X (compareOp op) r) (ok : R2ok X.K r k) (ha : JE X a f) (hb : JE X b g) (hm : behindInMarks op b = false) : JE X (.Compare a [op] [b] pos) (d2 f g k) :=
  PE.imp (pe_cmpR ho ha hb hm) fun _ _ _ => rd2 ok
/-- by what is read of both, scalars given back -/
def kS (g : D → D → Option D) : K2 := fun x y env => (x.rd env).bind fun a => (y.rd env).bind fun b => (g a b).bind fun d => some (.dat d, env)
/-- a test of a value -/
def dB (f : DE) : DT := fun env => (f env).bind fun r => match r.1.rd r.2 with
  | some (.bool b) => some (b, r.2)
  | _ => none
theorem rdB_test {K : PySem.W.Frag} {f : DE} {σ : St} {H : Hp} {Q : Bool → Hp → Prop} (h : rdT K (dB f) σ H Q) : tB (rdE K f) σ H Q := by
  obtain ⟨B, F, env, b, env', hK, s, e, q⟩ := h
  simp only [dB, Option.bind_eq_some_iff] at e
  obtain ⟨⟨x, env1⟩, e1, e2⟩ := e
  split at e2
  · rename_i b' hb
    cases e2
    exact ⟨B, F, env, x, env1, hK, s, e1, fun v F1 H1 p1 r1 => ⟨b, r1.rdB p1.sr hb, q F1 H1 p1⟩⟩
  · cases e2
theorem jt_cmp {X : Cx} {a b : Expr} {op : CmpOp} {r : R2} {k : K2} {f g : DE} {pos : Pos} (ho : OpR X (compareOp op) r) (ok : R2ok X.K r k) (ha : JE X a f) (hb : JE X b g) (hm : behindInMarks op b = false) : JT X (.Compare a [op] [b] pos) (dB (d2 f g k)) := by
  refine PT.imp (pt_cmpR ho ha hb hm) fun σ H Q h => ?_
  have h1 := rdB_test h
  obtain ⟨B, F, env, val, env', hK, s, e, q⟩ := h1
  exact rd2 ok ⟨B, F, env, val, env', hK, s, e, q⟩
theorem jt_val {X : Cx} {e : Expr} {f : DE} (h : JE X e f) (he : ∀ whole, isTrue e X.env whole = (do let v ← whole; standAt e.pos; holding [v] (truthy v)) := by intro _; rfl) : JT X e (dB f) :=
  PT.imp (pt_val h he) fun _ _ _ => rdB_test
/-- and, or, not, a if t else b -/
def tA (f g : DT) : DT := fun env => (f env).bind fun r => if r.1 = true then g r.2 else some (false, r.2)
def tO (f g : DT) : DT := fun env => (f env).bind fun r => if r.1 = true then some (true, r.2) else g r.2
def tN (f : DT) : DT := fun env => (f env).bind fun r => some (!r.1, r.2)
section
variable {X : Cx} {a b c : Expr} {rest : List Expr} {pos : Pos} {f g : DT} {ff gg : DE}
theorem jw_and1 (h : JT X a f) : JW X (.BoolOp .And [a] pos) f := pw_and1 h
theorem jw_or1 (h : JT X a f) : JW X (.BoolOp .Or [a] pos) f := pw_or1 h
theorem jw_and (ha : JT X a f) (hb : JW X (.BoolOp .And (b :: rest) pos) g) : JW X (.BoolOp .And (a :: b :: rest) pos) (tA f g) := by
  refine PW.imp (pw_and ha hb) fun σ H Q ⟨B, F, env, b, env', hK, s, e, q⟩ => ?_
  simp only [tA, Option.bind_eq_some_iff] at e
  obtain ⟨⟨x, env1⟩, e1, e2⟩ := e
  refine ⟨B, F, env, x, env1, hK, s, e1, fun F1 H1 p1 => ?_⟩
  cases x with
  | true => exact ⟨B, F1, env1, b, env', hK, p1.sr, e2, fun F2 H2 p2 => q F2 H2 (p1.trans p2)⟩
  | false => cases e2; exact q F1 H1 p1
theorem jw_or (ha : JT X a f) (hb : JW X (.BoolOp .Or (b :: rest) pos) g) : JW X (.BoolOp .Or (a :: b :: rest) pos) (tO f g) := by
  refine PW.imp (pw_or ha hb) fun σ H Q ⟨B, F, env, b, env', hK, s, e, q⟩ => ?_
  simp only [tO, Option.bind_eq_some_iff] at e
  obtain ⟨⟨x, env1⟩, e1, e2⟩ := e
  refine ⟨B, F, env, x, env1, hK, s, e1, fun F1 H1 p1 => ?_⟩
  cases x with
  | true => cases e2; exact q F1 H1 p1
  | false => exact ⟨B, F1, env1, b, env', hK, p1.sr, e2, fun F2 H2 p2 => q F2 H2 (p1.trans p2)⟩
theorem jt_not (ha : JT X a f) : JT X (.UnaryOp .Not a pos) (tN f) := by
  refine PT.imp (pt_not ha) fun σ H Q ⟨B, F, env, b, env', hK, s, e, q⟩ => ?_
  simp only [tN, Option.bind_eq_some_iff] at e
  obtain ⟨⟨x, env1⟩, e1, e2⟩ := e
  cases e2
  exact ⟨B, F, env, x, env1, hK, s, e1, fun F1 H1 p1 => q F1 H1 p1⟩
/-- .. as values -/
def eA (f g : DE) : DE := fun env => (f env).bind fun r => match r.1.rd r.2 with
  | some (.bool true) => g r.2
  | some (.bool false) => some (.dat (.bool false), r.2)
  | _ => none
def eO (f g : DE) : DE := fun env => (f env).bind fun r => match r.1.rd r.2 with
  | some (.bool false) => g r.2
  | some (.bool true) => some (.dat (.bool true), r.2)
  | _ => none
def eN (f : DE) : DE := fun env => (f env).bind fun r => match r.1.rd r.2 with
  | some (.bool b) => some (.dat (.bool (!b)), r.2)
  | _ => none
theorem je_one {op} (h : JE X a ff) : JE X (.BoolOp op [a] pos) ff := pe_one h
theorem je_and (ha : JE X a ff) (hb : JE X (.BoolOp .And (b :: rest) pos) gg) : JE X (.BoolOp .And (a :: b :: rest) pos) (eA ff gg) := by
  refine PE.imp (pe_and ha hb) fun σ H Q ⟨B, F, env, val, env', hK, s, e, q⟩ => ?_
  simp only [eA, Option.bind_eq_some_iff] at e
  obtain ⟨⟨x, env1⟩, e1, e2⟩ := e
  refine ⟨B, F, env, x, env1, hK, s, e1, fun v F1 H1 p1 r1 => ?_⟩
  split at e2
  · rename_i h
    exact ⟨true, r1.rdB p1.sr h, B, F1, env1, val, env', hK, p1.sr, e2, fun u F2 H2 p2 r2 => q u F2 H2 (p1.trans p2) (r2.ahead fun p hp => p1.fresh hp)⟩
  · rename_i h
    cases e2
    exact ⟨false, r1.rdB p1.sr h, q _ F1 H1 p1 (.bl false)⟩
  · cases e2
theorem je_or (ha : JE X a ff) (hb : JE X (.BoolOp .Or (b :: rest) pos) gg) : JE X (.BoolOp .Or (a :: b :: rest) pos) (eO ff gg) := by
  refine PE.imp (pe_or ha hb) fun σ H Q ⟨B, F, env, val, env', hK, s, e, q⟩ => ?_
  simp only [eO, Option.bind_eq_some_iff] at e
  obtain ⟨⟨x, env1⟩, e1, e2⟩ := e
  refine ⟨B, F, env, x, env1, hK, s, e1, fun v F1 H1 p1 r1 => ?_⟩
  split at e2
  · rename_i h
    exact ⟨false, r1.rdB p1.sr h, B, F1, env1, val, env', hK, p1.sr, e2, fun u F2 H2 p2 r2 => q u F2 H2 (p1.trans p2) (r2.ahead fun p hp => p1.fresh hp)⟩
  · rename_i h
    cases e2
    exact ⟨true, r1.rdB p1.sr h, q _ F1 H1 p1 (.bl true)⟩
  · cases e2
theorem je_not (ha : JE X a ff) : JE X (.UnaryOp .Not a pos) (eN ff) := by
  refine PE.imp (pe_not ha) fun σ H Q ⟨B, F, env, val, env', hK, s, e, q⟩ => ?_
  simp only [eN, Option.bind_eq_some_iff] at e
  obtain ⟨⟨x, env1⟩, e1, e2⟩ := e
  refine ⟨B, F, env, x, env1, hK, s, e1, fun v F1 H1 p1 r1 => ?_⟩
  split at e2
  · rename_i b h
    cases e2
    exact ⟨b, r1.rdB p1.sr h, q _ F1 H1 p1 (.bl _)⟩
  · cases e2
def dIf (c : DT) (f g : DE) : DE := fun env => (c env).bind fun r => if r.1 = true then f r.2 else g r.2
theorem je_if (hc : JT X c f) (ha : JE X a ff) (hb : JE X b gg) : JE X (.IfExp c a b pos) (dIf f ff gg) := by
  refine PE.imp (pe_ifExp hc ha hb) fun σ H Q ⟨B, F, env, val, env', hK, s, e, q⟩ => ?_
  simp only [dIf, Option.bind_eq_some_iff] at e
  obtain ⟨⟨x, env1⟩, e1, e2⟩ := e
  refine ⟨B, F, env, x, env1, hK, s, e1, fun F1 H1 p1 => ?_⟩
  cases x with
  | true => exact ⟨B, F1, env1, val, env', hK, p1.sr, e2, fun u F2 H2 p2 r2 => q u F2 H2 (p1.trans p2) (r2.ahead fun p hp => p1.fresh hp)⟩
  | false => exact ⟨B, F1, env1, val, env', hK, p1.sr, e2, fun u F2 H2 p2 r2 => q u F2 H2 (p1.trans p2) (r2.ahead fun p hp => p1.fresh hp)⟩
end
end EW

/-! EW 3: operators and comparisons on data. -/
namespace EW
open PySem PySem.Spec PyProof.Rows L2

mutual
theorem dp_plain {K : PySem.W.Frag} {H : Hp} : ∀ {v : V} {d : D}, Dp K H v d → d.plain = true
  | _, _, .non => rfl
  | _, _, .bl _ => rfl
  | _, _, .int _ => rfl
  | _, _, .str _ => rfl
  | _, _, .lst _ a => by simp only [PyData.plain]; exact dpa_plain a
  | _, _, .tup _ a => by simp only [PyData.plain]; exact dpa_plain a
theorem dpa_plain {K : PySem.W.Frag} {H : Hp} : ∀ {vs : List V} {ds : List D}, DpAll K H vs ds → PyData.plainAll ds = true
  | _, _, .nil => rfl
  | _, _, .cons h a => by simp only [PyData.plainAll, dp_plain h, dpa_plain a, Bool.and_self]
end
theorem mil : (1000000 : Nat) ≤ sizeLine := by decide
/-- a value of its own for each datum without parts -/
def scV : D → Option V
  | .none => some .non
  | .bool b => some (.bl b)
  | .int i => some (.int i)
  | .str x => some (.str x)
  | _ => none
theorem scV_ok {K : PySem.W.Frag} {d : D} {u : V} (h : scV d = some u) (H : Hp) : Dp K H u d := by
  cases d <;> first | (cases h; constructor) | cases h
theorem kS_ok {K : PySem.W.Frag} {r : R2} {g : D → D → Option D} (h : ∀ (H : Hp) (v w : V) (a b d : D), Dp K H v a → Dp K H w b → g a b = some d → ∃ u, scV d = some u ∧ ∀ Q : VK, Q u H → r v w H Q) : R2ok K r (kS g) := by
  intro B σ Fq Hq envp F H env v w x y val env' Q hK p rx ry e q
  simp only [kS, Option.bind_eq_some_iff] at e
  obtain ⟨a, e1, b, e2, d, e3, e4⟩ := e
  cases e4
  subst hK
  obtain ⟨u, hu, k⟩ := h H v w a b d (rx.rd p.sr e1) (ry.rd p.sr e2) e3
  exact k Q (q u F H p (scV_ok hu F))
theorem dp_int {K : PySem.W.Frag} {H : Hp} {v : V} {i : Int} (h : Dp K H v (.int i)) : v = .int i := by cases h; rfl
theorem dp_str {K : PySem.W.Frag} {H : Hp} {v : V} {x : Str} (h : Dp K H v (.str x)) : v = .str x := by cases h; rfl
theorem dp_bool {K : PySem.W.Frag} {H : Hp} {v : V} {x : Bool} (h : Dp K H v (.bool x)) : v = .bl x := by cases h; rfl

/-! ### == and != of any data -/
def rEqP (K : PySem.W.Frag) : R2 := fun x y H Q => ∃ d e, Dp K H x d ∧ Dp K H y e ∧ min d.depth e.depth ≤ 100 ∧ Q (.bl (PyData.eqv d e)) H
def rNeP (K : PySem.W.Frag) : R2 := fun x y H Q => ∃ d e, Dp K H x d ∧ Dp K H y e ∧ min d.depth e.depth ≤ 100 ∧ Q (.bl (!PyData.eqv d e)) H
section
variable {X : Cx}
theorem op_eqP (hu : X.A.units + 200 < cLine) : OpR X (compareOp .Eq) (rEqP X.K) := by
  intro pins s σ H x y v u Q I rx ry ⟨d, e, hd, he, hz, q⟩
  obtain ⟨as, r1⟩ := Dp.reads I d x v hd rx
  obtain ⟨bs, r2⟩ := Dp.reads I e y u he ry
  exact SeqAt.eq_plain r1 r2 (dp_plain hd) (dp_plain he) (by omega) ⟨.bl _, H, I, rfl, q⟩
theorem op_neP (hu : X.A.units + 200 < cLine) : OpR X (compareOp .NotEq) (rNeP X.K) := by
  intro pins s σ H x y v u Q I rx ry ⟨d, e, hd, he, hz, q⟩
  obtain ⟨as, r1⟩ := Dp.reads I d x v hd rx
  obtain ⟨bs, r2⟩ := Dp.reads I e y u he ry
  exact SeqAt.ne_plain r1 r2 (dp_plain hd) (dp_plain he) (by omega) ⟨.bl _, H, I, rfl, q⟩
end
def gEq (a b : D) : Option D := if min a.depth b.depth ≤ 100 then some (.bool (PyData.eqv a b)) else none
def gNe (a b : D) : Option D := if min a.depth b.depth ≤ 100 then some (.bool (!PyData.eqv a b)) else none
theorem eq_ok {K : PySem.W.Frag} : R2ok K (rEqP K) (kS gEq) := kS_ok fun H v w a b d ha hb e => by
  unfold gEq at e
  split at e
  · rename_i hz
    cases e
    exact ⟨_, rfl, fun Q q => ⟨a, b, ha, hb, hz, q⟩⟩
  · cases e
theorem ne_ok {K : PySem.W.Frag} : R2ok K (rNeP K) (kS gNe) := kS_ok fun H v w a b d ha hb e => by
  unfold gNe at e
  split at e
  · rename_i hz
    cases e
    exact ⟨_, rfl, fun Q q => ⟨a, b, ha, hb, hz, q⟩⟩
  · cases e

/-! ### in, not in -/
def rInP (K : PySem.W.Frag) : R2 := fun x y H Q => ∃ d ds, Dp K H x d ∧ (Dp K H y (.list ds) ∨ Dp K H y (.tuple ds)) ∧ min (PyData.depthAll ds) d.depth ≤ 100 ∧ Q (.bl (ds.any fun z => PyData.eqv z d)) H
def rNiP (K : PySem.W.Frag) : R2 := fun x y H Q => ∃ d ds, Dp K H x d ∧ (Dp K H y (.list ds) ∨ Dp K H y (.tuple ds)) ∧ min (PyData.depthAll ds) d.depth ≤ 100 ∧ Q (.bl (!ds.any fun z => PyData.eqv z d)) H
def rInC : R2 := fun x y H Q => ∃ (c : Nat) (z : Str), x = .str ⟨#[c]⟩ ∧ y = .str z ∧ Q (.bl (decide (c ∈ z.cps.toList))) H
def rNiC : R2 := fun x y H Q => ∃ (c : Nat) (z : Str), x = .str ⟨#[c]⟩ ∧ y = .str z ∧ Q (.bl (!decide (c ∈ z.cps.toList))) H
theorem plain_list {ds : List D} (h : (PyData.list ds).plain = true) : PyData.plainAll ds = true := by simpa only [PyData.plain] using h
theorem plain_tup {ds : List D} (h : (PyData.tuple ds).plain = true) : PyData.plainAll ds = true := by simpa only [PyData.plain] using h
section
variable {X : Cx}
theorem op_inP (hu : X.A.units + 200 < cLine) : OpR X (compareOp .In) (rInP X.K) := by
  intro pins s σ H x y v u Q I rx ry ⟨d, ds, hd, he, hz, q⟩
  obtain ⟨as, r1⟩ := Dp.reads I d x v hd rx
  rcases he with he | he
  · obtain ⟨bs, r2⟩ := Dp.reads I _ y u he ry
    exact SeqAt.in_list_data r2 r1 (plain_list (dp_plain he)) (dp_plain hd) (by omega) ⟨.bl _, H, I, rfl, q⟩
  · obtain ⟨bs, r2⟩ := Dp.reads I _ y u he ry
    exact SeqAt.in_tuple_data r2 r1 (plain_tup (dp_plain he)) (dp_plain hd) (by omega) ⟨.bl _, H, I, rfl, q⟩
theorem op_niP (hu : X.A.units + 200 < cLine) : OpR X (compareOp .NotIn) (rNiP X.K) := by
  intro pins s σ H x y v u Q I rx ry ⟨d, ds, hd, he, hz, q⟩
  obtain ⟨as, r1⟩ := Dp.reads I d x v hd rx
  rcases he with he | he
  · obtain ⟨bs, r2⟩ := Dp.reads I _ y u he ry
    exact SeqAt.notIn_list_data r2 r1 (plain_list (dp_plain he)) (dp_plain hd) (by omega) ⟨.bl _, H, I, rfl, q⟩
  · obtain ⟨bs, r2⟩ := Dp.reads I _ y u he ry
    exact SeqAt.notIn_tuple_data r2 r1 (plain_tup (dp_plain he)) (dp_plain hd) (by omega) ⟨.bl _, H, I, rfl, q⟩
end
/-- one sign -/
def oneSign (x : Str) : Option Nat := match x.cps.toList with
  | [c] => some c
  | _ => none
theorem oneSign_ok {x : Str} {c : Nat} (h : oneSign x = some c) : x = ⟨#[c]⟩ := by
  unfold oneSign at h
  split at h
  · rename_i c' e
    cases h
    obtain ⟨a⟩ := x
    have : a = #[c] := by
      have e2 : a.toList = [c] := e
      rw [← Array.toArray_toList (xs := a), e2]
    rw [this]
  · cases h
def gIn (a b : D) : Option D := match b with
  | .list ds => if min (PyData.depthAll ds) a.depth ≤ 100 then some (.bool (ds.any fun z => PyData.eqv z a)) else none
  | .tuple ds => if min (PyData.depthAll ds) a.depth ≤ 100 then some (.bool (ds.any fun z => PyData.eqv z a)) else none
  | .str z => match a with
    | .str x => match oneSign x with
      | some c => some (.bool (decide (c ∈ z.cps.toList)))
      | none => none
    | _ => none
  | _ => none
def gNi (a b : D) : Option D := match gIn a b with
  | some (.bool b) => some (.bool (!b))
  | _ => none
theorem in_ok {K : PySem.W.Frag} : R2ok K (fun x y H Q => rInP K x y H Q ∨ rInC x y H Q) (kS gIn) := kS_ok fun H v w a b d ha hb e => by
  unfold gIn at e
  split at e
  · split at e
    · rename_i hz
      cases e
      exact ⟨_, rfl, fun Q q => .inl ⟨a, _, ha, .inl hb, hz, q⟩⟩
    · cases e
  · split at e
    · rename_i hz
      cases e
      exact ⟨_, rfl, fun Q q => .inl ⟨a, _, ha, .inr hb, hz, q⟩⟩
    · cases e
  · split at e
    · split at e
      · rename_i hc
        cases e
        have h1 := oneSign_ok hc
        subst h1
        exact ⟨_, rfl, fun Q q => .inr ⟨_, _, dp_str ha, dp_str hb, q⟩⟩
      · cases e
    · cases e
  · cases e
theorem ni_ok {K : PySem.W.Frag} : R2ok K (fun x y H Q => rNiP K x y H Q ∨ rNiC x y H Q) (kS gNi) := kS_ok fun H v w a b d ha hb e => by
  unfold gNi gIn at e
  split at e
  · rename_i k ee
    cases e
    split at ee
    · split at ee
      · rename_i hz
        cases ee
        exact ⟨_, rfl, fun Q q => .inl ⟨a, _, ha, .inl hb, hz, q⟩⟩
      · cases ee
    · split at ee
      · rename_i hz
        cases ee
        exact ⟨_, rfl, fun Q q => .inl ⟨a, _, ha, .inr hb, hz, q⟩⟩
      · cases ee
    · split at ee
      · split at ee
        · rename_i hc
          cases ee
          have h1 := oneSign_ok hc
          subst h1
          exact ⟨_, rfl, fun Q q => .inr ⟨_, _, dp_str ha, dp_str hb, q⟩⟩
        · cases ee
      · cases ee
    · cases ee
  · cases e

/-! ### order, arithmetic -/
def rLtS : R2 := fun x y H Q => ∃ i j, x = .str i ∧ y = .str j ∧ Q (.bl (decide (i.cps.toList < j.cps.toList))) H
def gLt (a b : D) : Option D := match a, b with
  | .int i, .int j => some (.bool (decide (i < j)))
  | .str x, .str y => some (.bool (decide (x.cps.toList < y.cps.toList)))
  | _, _ => none
def gI (f : Int → Int → D) (a b : D) : Option D := match a, b with
  | .int i, .int j => some (f i j)
  | _, _ => none
theorem lt_ok {K : PySem.W.Frag} : R2ok K (fun x y H Q => rI0 (fun i j => .bl (decide (i < j))) x y H Q ∨ rLtS x y H Q) (kS gLt) := kS_ok fun H v w a b d ha hb e => by
  unfold gLt at e
  split at e
  · cases e; exact ⟨_, rfl, fun Q q => .inl ⟨_, _, dp_int ha, dp_int hb, q⟩⟩
  · cases e; exact ⟨_, rfl, fun Q q => .inr ⟨_, _, dp_str ha, dp_str hb, q⟩⟩
  · cases e
theorem gI_ok {K : PySem.W.Frag} {f : Int → Int → V} {fd : Int → Int → D} (h : ∀ i j, scV (fd i j) = some (f i j)) : R2ok K (rI0 f) (kS (gI fd)) := kS_ok fun H v w a b d ha hb e => by
  unfold gI at e
  split at e
  · cases e; exact ⟨_, h _ _, fun Q q => ⟨_, _, dp_int ha, dp_int hb, q⟩⟩
  · cases e
def gIC (C : Int → Int → Prop) [∀ i j, Decidable (C i j)] (f : Int → Int → D) (a b : D) : Option D := match a, b with
  | .int i, .int j => if C i j then some (f i j) else none
  | _, _ => none
theorem gIC_ok {K : PySem.W.Frag} {C C' : Int → Int → Prop} [∀ i j, Decidable (C' i j)] {f : Int → Int → V} {fd : Int → Int → D} (hC : ∀ i j, C' i j → C i j) (h : ∀ i j, scV (fd i j) = some (f i j)) : R2ok K (rI C f) (kS (gIC C' fd)) := kS_ok fun H v w a b d ha hb e => by
  unfold gIC at e
  split at e
  · split at e
    · rename_i hc
      cases e
      exact ⟨_, h _ _, fun Q q => ⟨_, _, dp_int ha, dp_int hb, hC _ _ hc, q⟩⟩
    · cases e
  · cases e
/-- the sizes that are asked of a product -/
abbrev cMul (i j : Int) : Prop := i.natAbs < 18446744073709551616 ∨ j.natAbs < 18446744073709551616
abbrev cDiv (_ j : Int) : Prop := 0 < j ∧ j < 1073741824
abbrev cMod (_ j : Int) : Prop := 0 < j
abbrev cPow (i j : Int) : Prop := 0 ≤ j ∧ j ≤ 1000 ∧ i.natAbs < 18446744073709551616
def gMul := gIC cMul fun i j => .int (i * j)
def gDiv := gIC cDiv fun i j => .int (i / j)
def gMod := gIC cMod fun i j => .int (i % j)
def gPow := gIC cPow fun i j => .int (i ^ j.toNat)
def gSub := gI fun i j => .int (i - j)
def gLe := gI fun i j => .bool (decide (i ≤ j))
def gGe := gI fun i j => .bool (decide (j ≤ i))
def gGt := gI fun i j => .bool (decide (j < i))
theorem mul_ok {K : PySem.W.Frag} : R2ok K (rI CMul fun i j => .int (i * j)) (kS gMul) := gIC_ok (fun i j h => by unfold CMul; have h' : i.natAbs < 18446744073709551616 ∨ j.natAbs < 18446744073709551616 := h; omega) fun _ _ => rfl
theorem div_ok {K : PySem.W.Frag} : R2ok K (rI CDiv fun i j => .int (i / j)) (kS gDiv) := gIC_ok (fun i j h => h) fun _ _ => rfl
theorem mod_ok {K : PySem.W.Frag} : R2ok K (rI (fun _ j => 0 < j) fun i j => .int (i % j)) (kS gMod) := gIC_ok (fun i j h => h) fun _ _ => rfl
theorem pow_ok {K : PySem.W.Frag} : R2ok K (rI CPow fun i j => .int (i ^ j.toNat)) (kS gPow) := gIC_ok (fun i j h => ⟨h.1, by have := h.2.1; omega, h.2.2⟩) fun _ _ => rfl
theorem sub_ok {K : PySem.W.Frag} : R2ok K (rI0 fun i j => .int (i - j)) (kS gSub) := gI_ok fun _ _ => rfl
theorem le_ok {K : PySem.W.Frag} : R2ok K (rI0 fun i j => .bl (decide (i ≤ j))) (kS gLe) := gI_ok fun _ _ => rfl
theorem ge_ok {K : PySem.W.Frag} : R2ok K (rI0 fun i j => .bl (decide (j ≤ i))) (kS gGe) := gI_ok fun _ _ => rfl
theorem gt_ok {K : PySem.W.Frag} : R2ok K (rI0 fun i j => .bl (decide (j < i))) (kS gGt) := gI_ok fun _ _ => rfl

/-! ### + -/
def rCatS (K : PySem.W.Frag) : R2 := fun x y H Q => ∃ a b xs ys, x = .ref a ∧ y = .ref b ∧ SqL K H a xs ∧ SqL K H b ys ∧ xs.length + ys.length ≤ sizeLine ∧ ∀ p, H p = none → Q (.ref p) (upd H p (.lst (xs ++ ys)))
section
variable {X : Cx}
theorem op_catS : OpR X (binaryOp .Add) (rCatS X.K) := by
  intro pins s σ H x y v u Q I rx ry ⟨a, b, xs, ys, e1, e2, ha, hb, hz, q⟩
  subst e1 e2
  cases rx
  cases ry
  obtain ⟨is1, r1, ⟨⟨c1, d1, t1, sl1⟩, n1, g1, k1, _, m1⟩, z1⟩ := I.list ha
  obtain ⟨is2, r2, ⟨⟨c2, d2, t2, sl2⟩, n2, g2, k2, _, m2⟩, z2⟩ := I.list hb
  simp only at k1 m1 k2 m2
  subst k1 m1 k2 m2
  have l1 := r1.length
  have l2 := r2.length
  have ea : is1.toArray ++ is2.toArray = (is1 ++ is2).toArray := by simp
  refine concat_meets ⟨_, g1, rfl⟩ ⟨_, g2, rfl⟩ noFill_list_add seq_list_add PySem.F.slot_list_add PySem.F.entry_list_add (PySem.F.args_list_add_2 _ _)
    (list_addW a b is1.toArray is2.toArray n1 n2 d1 d2 sl1 sl2 (by simp only [List.size_toArray]; omega)) ⟨g1, g2, ?_⟩
  rw [ea]
  exact ⟨.ref _, _, I.lnew (t' := s.toks) (r1.append r2) (by rw [List.length_append]; omega), rfl, q _ I.fresh⟩
end
def kAdd : K2 := fun x y env => match x.rd env, y.rd env with
  | some (.int i), some (.int j) => some (.dat (.int (i + j)), env)
  | some (.str a), some (.str b) => if a.length + b.length ≤ 1000000 then some (.dat (.str (a ++ b)), env) else none
  | some (.list a), some (.list b) => if a.length + b.length ≤ 1000000 then some (.new (.l (a ++ b)), env) else none
  | some (.tuple a), some (.tuple b) => if a.length + b.length ≤ 1000000 then some (.dat (.tuple (a ++ b)), env) else none
  | _, _ => none
def rAddA (K : PySem.W.Frag) : R2 := fun x y H Q => rI0 (fun i j => .int (i + j)) x y H Q ∨ (∃ i j, x = .str i ∧ y = .str j ∧ i.length + j.length ≤ sizeLine ∧ Q (.str (i ++ j)) H) ∨ rCatS K x y H Q ∨ rCatA K x y H Q
theorem op_addA {X : Cx} : OpR X (binaryOp .Add) (rAddA X.K) := op_add.or (op_add_str.or (op_catS.or op_catA))
theorem add_ok {K : PySem.W.Frag} : R2ok K (rAddA K) kAdd := by
  intro B σ Fq Hq envp F H env v w x y val env' Q hK p rx ry e q
  subst hK
  unfold kAdd at e
  split at e
  · rename_i e1 e2
    cases e
    exact .inl ⟨_, _, rx.rdI p.sr e1, ry.rdI p.sr e2, q _ F H p (.int _)⟩
  · rename_i e1 e2
    split at e
    · rename_i hz
      cases e
      exact .inr (.inl ⟨_, _, rx.rdS p.sr e1, ry.rdS p.sr e2, Nat.le_trans hz mil, q _ F H p (.str _)⟩)
    · cases e
  · rename_i e1 e2
    split at e
    · rename_i hz
      cases e
      obtain ⟨a, xs, rfl, h1, h2⟩ := rx.rdL p.sr e1
      obtain ⟨b, ys, rfl, h3, h4⟩ := ry.rdL p.sr e2
      refine .inr (.inr (.inl ⟨a, b, xs, ys, rfl, rfl, h1, h3, by rw [dpa_length h2, dpa_length h4]; exact Nat.le_trans hz mil, fun z hz => ?_⟩))
      exact q _ F _ (p.allocN hz) (VR.newAt p hz (dpa_append h2 h4))
    · cases e
  · rename_i e1 e2
    split at e
    · rename_i hz
      cases e
      have t1 := rx.rdD p.sr e1 (fun _ z => by cases z)
      have t2 := ry.rdD p.sr e2 (fun _ z => by cases z)
      obtain ⟨a, xs, rfl, h1, h2⟩ := rx.rdT p.sr e1
      obtain ⟨b, ys, rfl, h3, h4⟩ := ry.rdT p.sr e2
      refine .inr (.inr (.inr ⟨a, b, xs, ys, rfl, rfl, h1, h3, by rw [dpa_length h2, dpa_length h4]; exact Nat.le_trans hz mil, fun zx => ?_, fun nx zy => ?_, fun nx ny z hz => ?_⟩))
      · subst zx
        cases h2
        exact q _ F H p t2
      · subst zy
        cases h4
        rw [List.append_nil] at q
        exact q _ F H p t1
      · exact q _ _ _ (p.alloc hz) (.tup (SqT.of upd_same) (dpa_mono (Ex.new (p.sr.fnone hz)) (dpa_append h2 h4)))
    · cases e
  · cases e

/-! ### is None, is True -/
def rIsA : R2 := fun x y H Q => (y = .non ∧ Q (.bl (decide (x = .non))) H) ∨ rIsB x y H Q
def rNotA : R2 := fun x y H Q => (y = .non ∧ Q (.bl (!decide (x = .non))) H) ∨ rNotB x y H Q
theorem op_isA {X : Cx} : OpR X (compareOp .Is) rIsA := op_isN.or op_isBl
theorem op_notA {X : Cx} : OpR X (compareOp .IsNot) rNotA := op_notN.or op_notBl
def isNone : D → Bool
  | .none => true
  | _ => false
def gIs (a b : D) : Option D := match b, a with
  | .none, a => some (.bool (isNone a))
  | .bool k, .bool j => some (.bool (decide (j = k)))
  | _, _ => none
def gIsNot (a b : D) : Option D := match gIs a b with
  | some (.bool b) => some (.bool (!b))
  | _ => none
theorem isNone_ok {K : PySem.W.Frag} {H : Hp} {v : V} {a : D} (h : Dp K H v a) : decide (v = V.non) = isNone a := by
  cases h <;> simp [isNone]
theorem is_ok {K : PySem.W.Frag} : R2ok K rIsA (kS gIs) := kS_ok fun H v w a b d ha hb e => by
  unfold gIs at e
  split at e
  · cases e
    cases hb
    exact ⟨_, rfl, fun Q q => .inl ⟨rfl, by rw [isNone_ok ha]; exact q⟩⟩
  · cases e
    cases hb
    cases ha
    exact ⟨_, rfl, fun Q q => .inr ⟨_, _, rfl, rfl, q⟩⟩
  · cases e
theorem isnot_ok {K : PySem.W.Frag} : R2ok K rNotA (kS gIsNot) := kS_ok fun H v w a b d ha hb e => by
  unfold gIsNot gIs at e
  split at e
  · rename_i k ee
    cases e
    split at ee
    · cases ee
      cases hb
      exact ⟨_, rfl, fun Q q => .inl ⟨rfl, by rw [isNone_ok ha]; exact q⟩⟩
    · cases ee
      cases hb
      cases ha
      exact ⟨_, rfl, fun Q q => .inr ⟨_, _, rfl, rfl, q⟩⟩
    · cases ee
  · cases e

/-! ### the rules by name -/
section
variable {X : Cx} {a b : Expr} {f g : DE} {pos : Pos}
theorem je_add (ha : JE X a f) (hb : JE X b g) : JE X (.BinOp a .Add b pos) (d2 f g kAdd) := je_op op_addA add_ok ha hb
theorem je_sub (ha : JE X a f) (hb : JE X b g) : JE X (.BinOp a .Sub b pos) (d2 f g (kS gSub)) := je_op op_sub sub_ok ha hb
theorem je_mul (ha : JE X a f) (hb : JE X b g) : JE X (.BinOp a .Mult b pos) (d2 f g (kS gMul)) := je_op op_mul mul_ok ha hb
theorem je_div (ha : JE X a f) (hb : JE X b g) : JE X (.BinOp a .FloorDiv b pos) (d2 f g (kS gDiv)) := je_op op_fdiv div_ok ha hb
theorem je_mod (ha : JE X a f) (hb : JE X b g) : JE X (.BinOp a .Mod b pos) (d2 f g (kS gMod)) := je_op op_mod mod_ok ha hb
theorem je_pow (ha : JE X a f) (hb : JE X b g) : JE X (.BinOp a .Pow b pos) (d2 f g (kS gPow)) := je_op op_pow pow_ok ha hb
def dNeg (f : DE) : DE := fun env => (f env).bind fun r => match r.1.rd r.2 with
  | some (.int i) => some (.dat (.int (-i)), r.2)
  | _ => none
theorem je_neg (ha : JE X a f) : JE X (.UnaryOp .USub a pos) (dNeg f) := by
  refine PE.imp (pe_un un_neg ha) fun σ H Q ⟨B, F, env, val, env', hK, s, e, q⟩ => ?_
  simp only [dNeg, Option.bind_eq_some_iff] at e
  obtain ⟨⟨x, env1⟩, e1, e2⟩ := e
  refine ⟨B, F, env, x, env1, hK, s, e1, fun v F1 H1 p1 r1 => ?_⟩
  split at e2
  · rename_i i h
    cases e2
    exact ⟨i, r1.rdI p1.sr h, q _ F1 H1 p1 (.int _)⟩
  · cases e2
theorem je_eq (hu : X.A.units + 200 < cLine) (ha : JE X a f) (hb : JE X b g) : JE X (.Compare a [.Eq] [b] pos) (d2 f g (kS gEq)) := je_cmp (op_eqP hu) eq_ok ha hb (nomark _)
theorem jt_eq (hu : X.A.units + 200 < cLine) (ha : JE X a f) (hb : JE X b g) : JT X (.Compare a [.Eq] [b] pos) (dB (d2 f g (kS gEq))) := jt_cmp (op_eqP hu) eq_ok ha hb (nomark _)
theorem je_ne (hu : X.A.units + 200 < cLine) (ha : JE X a f) (hb : JE X b g) : JE X (.Compare a [.NotEq] [b] pos) (d2 f g (kS gNe)) := je_cmp (op_neP hu) ne_ok ha hb (nomark _)
theorem jt_ne (hu : X.A.units + 200 < cLine) (ha : JE X a f) (hb : JE X b g) : JT X (.Compare a [.NotEq] [b] pos) (dB (d2 f g (kS gNe))) := jt_cmp (op_neP hu) ne_ok ha hb (nomark _)
theorem je_lt (ha : JE X a f) (hb : JE X b g) : JE X (.Compare a [.Lt] [b] pos) (d2 f g (kS gLt)) := je_cmp (op_lt.or op_lt_str) lt_ok ha hb (nomark _)
theorem jt_lt (ha : JE X a f) (hb : JE X b g) : JT X (.Compare a [.Lt] [b] pos) (dB (d2 f g (kS gLt))) := jt_cmp (op_lt.or op_lt_str) lt_ok ha hb (nomark _)
theorem je_le (ha : JE X a f) (hb : JE X b g) : JE X (.Compare a [.LtE] [b] pos) (d2 f g (kS gLe)) := je_cmp op_le le_ok ha hb (nomark _)
theorem jt_le (ha : JE X a f) (hb : JE X b g) : JT X (.Compare a [.LtE] [b] pos) (dB (d2 f g (kS gLe))) := jt_cmp op_le le_ok ha hb (nomark _)
theorem je_ge (ha : JE X a f) (hb : JE X b g) : JE X (.Compare a [.GtE] [b] pos) (d2 f g (kS gGe)) := je_cmp op_ge ge_ok ha hb (nomark _)
theorem jt_ge (ha : JE X a f) (hb : JE X b g) : JT X (.Compare a [.GtE] [b] pos) (dB (d2 f g (kS gGe))) := jt_cmp op_ge ge_ok ha hb (nomark _)
theorem je_gt (ha : JE X a f) (hb : JE X b g) : JE X (.Compare a [.Gt] [b] pos) (d2 f g (kS gGt)) := je_cmp op_gt gt_ok ha hb (nomark _)
theorem jt_gt (ha : JE X a f) (hb : JE X b g) : JT X (.Compare a [.Gt] [b] pos) (dB (d2 f g (kS gGt))) := jt_cmp op_gt gt_ok ha hb (nomark _)
theorem je_in (hu : X.A.units + 200 < cLine) (ha : JE X a f) (hb : JE X b g) (hm : behindInMarks .In b = false := by rfl) : JE X (.Compare a [.In] [b] pos) (d2 f g (kS gIn)) := je_cmp ((op_inP hu).or op_in_sign) in_ok ha hb hm
theorem jt_in (hu : X.A.units + 200 < cLine) (ha : JE X a f) (hb : JE X b g) (hm : behindInMarks .In b = false := by rfl) : JT X (.Compare a [.In] [b] pos) (dB (d2 f g (kS gIn))) := jt_cmp ((op_inP hu).or op_in_sign) in_ok ha hb hm
theorem je_ni (hu : X.A.units + 200 < cLine) (ha : JE X a f) (hb : JE X b g) (hm : behindInMarks .NotIn b = false := by rfl) : JE X (.Compare a [.NotIn] [b] pos) (d2 f g (kS gNi)) := je_cmp ((op_niP hu).or op_notIn_sign) ni_ok ha hb hm
theorem jt_ni (hu : X.A.units + 200 < cLine) (ha : JE X a f) (hb : JE X b g) (hm : behindInMarks .NotIn b = false := by rfl) : JT X (.Compare a [.NotIn] [b] pos) (dB (d2 f g (kS gNi))) := jt_cmp ((op_niP hu).or op_notIn_sign) ni_ok ha hb hm
theorem je_is (ha : JE X a f) (hb : JE X b g) : JE X (.Compare a [.Is] [b] pos) (d2 f g (kS gIs)) := je_cmp op_isA is_ok ha hb (nomark _)
theorem jt_is (ha : JE X a f) (hb : JE X b g) : JT X (.Compare a [.Is] [b] pos) (dB (d2 f g (kS gIs))) := jt_cmp op_isA is_ok ha hb (nomark _)
theorem je_isnot (ha : JE X a f) (hb : JE X b g) : JE X (.Compare a [.IsNot] [b] pos) (d2 f g (kS gIsNot)) := je_cmp op_notA isnot_ok ha hb (nomark _)
theorem jt_isnot (ha : JE X a f) (hb : JE X b g) : JT X (.Compare a [.IsNot] [b] pos) (dB (d2 f g (kS gIsNot))) := jt_cmp op_notA isnot_ok ha hb (nomark _)
variable {c : Expr} {h : DE}
/-- a op b op' c, by scalars -/
def dCh (f g h : DE) (k k' : D → D → Option D) : DE := fun env => (f env).bind fun r => (g r.2).bind fun q => (r.1.rd q.2).bind fun x => (q.1.rd q.2).bind fun y => match k x y with
  | some (.bool true) => (h q.2).bind fun t => (q.1.rd t.2).bind fun y => (t.1.rd t.2).bind fun z => (k' y z).bind fun d => some (.dat d, t.2)
  | some (.bool false) => some (.dat (.bool false), q.2)
  | _ => none
theorem rdCh {K : PySem.W.Frag} {r r' : R2} {k k' : D → D → Option D} (ok : ∀ (H : Hp) (v w : V) (a b d : D), Dp K H v a → Dp K H w b → k a b = some d → ∃ u, scV d = some u ∧ ∀ Q : VK, Q u H → r v w H Q)
    (ok' : ∀ (H : Hp) (v w : V) (a b d : D), Dp K H v a → Dp K H w b → k' a b = some d → ∃ u, scV d = some u ∧ ∀ Q : VK, Q u H → r' v w H Q) {σ : St} {H : Hp} {Q : VK} (hh : rdE K (dCh f g h k k') σ H Q) : tChain r r' (rdE K f) (rdE K g) (rdE K h) σ H Q := by
  obtain ⟨B, F, env, val, env', hK, s, e, q⟩ := hh
  subst hK
  simp only [dCh, Option.bind_eq_some_iff] at e
  obtain ⟨⟨x, env1⟩, e1, ⟨y, env2⟩, e2, dx, e3, dy, e4, e5⟩ := e
  refine ⟨B, F, env, x, env1, rfl, s, e1, fun v F1 H1 p1 r1 => ⟨B, F1, env1, y, env2, rfl, p1.sr, e2, fun w F2 H2 p2 r2 => ?_⟩⟩
  have p12 := p1.trans p2
  have r1' := r1.step p2
  split at e5
  · rename_i ek
    obtain ⟨u, hu, kk⟩ := ok H2 v w dx dy _ (r1'.rd p2.sr e3) (r2.rd p2.sr e4) ek
    cases hu
    simp only [Option.bind_eq_some_iff] at e5
    obtain ⟨⟨z, env3⟩, e6, dy', e7, dz, e8, d, e9, e10⟩ := e5
    cases e10
    refine kk _ ⟨true, rfl, ?_⟩
    rw [if_pos rfl]
    refine ⟨B, F2, env2, z, env3, rfl, p2.sr, e6, fun w' F3 H3 p3 r3 => ?_⟩
    obtain ⟨u', hu', kk'⟩ := ok' H3 w w' dy' dz d ((r2.step p3).rd p3.sr e7) (r3.rd p3.sr e8) e9
    exact kk' Q (q u' F3 H3 (p12.trans p3) (scV_ok hu' F3))
  · rename_i ek
    obtain ⟨u, hu, kk⟩ := ok H2 v w dx dy _ (r1'.rd p2.sr e3) (r2.rd p2.sr e4) ek
    cases hu
    cases e5
    refine kk _ ⟨false, rfl, ?_⟩
    rw [if_neg Bool.false_ne_true]
    exact q _ F2 H2 p12 (.bl false)
  · cases e5
theorem le_ok' {K : PySem.W.Frag} : ∀ (H : Hp) (v w : V) (a b d : D), Dp K H v a → Dp K H w b → gLe a b = some d → ∃ u, scV d = some u ∧ ∀ Q : VK, Q u H → rI0 (fun i j => .bl (decide (i ≤ j))) v w H Q := fun H v w a b d ha hb e => by
  unfold gLe gI at e
  split at e
  · cases e; exact ⟨_, rfl, fun Q q => ⟨_, _, dp_int ha, dp_int hb, q⟩⟩
  · cases e
theorem lt_ok' {K : PySem.W.Frag} : ∀ (H : Hp) (v w : V) (a b d : D), Dp K H v a → Dp K H w b → gI (fun i j => .bool (decide (i < j))) a b = some d → ∃ u, scV d = some u ∧ ∀ Q : VK, Q u H → rI0 (fun i j => .bl (decide (i < j))) v w H Q := fun H v w a b d ha hb e => by
  unfold gI at e
  split at e
  · cases e; exact ⟨_, rfl, fun Q q => ⟨_, _, dp_int ha, dp_int hb, q⟩⟩
  · cases e
def gLtI := gI fun i j => .bool (decide (i < j))
theorem je_lele (ha : JE X a f) (hb : JE X b g) (hc : JE X c h) (hm : lastMarks [.LtE, .LtE] [b, c] = false := by with_unfolding_all rfl) : JE X (.Compare a [.LtE, .LtE] [b, c] pos) (dCh f g h gLe gLe) :=
  PE.imp (pe_chain op_le op_le ha hb hc hm) fun _ _ _ => rdCh le_ok' le_ok'
theorem jt_lele (ha : JE X a f) (hb : JE X b g) (hc : JE X c h) (hm : lastMarks [.LtE, .LtE] [b, c] = false := by with_unfolding_all rfl) : JT X (.Compare a [.LtE, .LtE] [b, c] pos) (dB (dCh f g h gLe gLe)) :=
  PT.imp (pt_chain op_le op_le ha hb hc hm) fun σ H Q z => rdCh le_ok' le_ok' (rdB_test z)
theorem je_lelt (ha : JE X a f) (hb : JE X b g) (hc : JE X c h) (hm : lastMarks [.LtE, .Lt] [b, c] = false := by with_unfolding_all rfl) : JE X (.Compare a [.LtE, .Lt] [b, c] pos) (dCh f g h gLe gLtI) :=
  PE.imp (pe_chain op_le op_lt ha hb hc hm) fun _ _ _ => rdCh le_ok' lt_ok'
theorem jt_lelt (ha : JE X a f) (hb : JE X b g) (hc : JE X c h) (hm : lastMarks [.LtE, .Lt] [b, c] = false := by with_unfolding_all rfl) : JT X (.Compare a [.LtE, .Lt] [b, c] pos) (dB (dCh f g h gLe gLtI)) :=
  PT.imp (pt_chain op_le op_lt ha hb hc hm) fun σ H Q z => rdCh le_ok' lt_ok' (rdB_test z)
end
end EW

/-! EW 4: subscripts, slices, built-in functions, methods that give a value. -/
namespace EW
open PySem PySem.Spec PyProof.Rows L2

theorem atI_dpa {K : PySem.W.Frag} {H : Hp} {vs : List V} {ds : List D} (h : DpAll K H vs ds) {i : Int} {d : D} (e : atI ds i = some d) : ∃ v, atI vs i = some v ∧ Dp K H v d := by
  unfold atI at e ⊢
  rw [dpa_length h]
  cases q : ixN ds.length i with
  | none => rw [q] at e; cases e
  | some j =>
    rw [q] at e
    exact dpa_get' h (i := j) e
def kIx : K2 := fun x y env => match x.rd env, y.rd env with
  | some (.list ds), some (.int i) => (atI ds i).bind fun d => some (.dat d, env)
  | some (.tuple ds), some (.int i) => (atI ds i).bind fun d => some (.dat d, env)
  | some (.str z), some (.int i) => if z.length ≤ 1000000 then (atI z.cps.toList i).bind fun c => some (.dat (.str ⟨#[c]⟩), env) else none
  | _, _ => none
theorem ix_ok {K : PySem.W.Frag} : R2ok K (rIx K) kIx := by
  intro B σ Fq Hq envp F H env v w x y val env' Q hK p rx ry e q
  subst hK
  unfold kIx at e
  split at e
  · rename_i ds i e1 e2
    simp only [Option.bind_eq_some_iff] at e
    obtain ⟨d, e3, e4⟩ := e
    cases e4
    obtain ⟨a, vs, rfl, h1, h2⟩ := rx.rdL p.sr e1
    obtain ⟨u, h3, h4⟩ := atI_dpa h2 e3
    exact .inl ⟨a, vs, i, u, rfl, ry.rdI p.sr e2, h1, h3, q u F H p h4⟩
  · rename_i ds i e1 e2
    simp only [Option.bind_eq_some_iff] at e
    obtain ⟨d, e3, e4⟩ := e
    cases e4
    obtain ⟨a, vs, rfl, h1, h2⟩ := rx.rdT p.sr e1
    obtain ⟨u, h3, h4⟩ := atI_dpa h2 e3
    exact .inr (.inl ⟨a, vs, i, u, rfl, ry.rdI p.sr e2, h1, h3, q u F H p h4⟩)
  · rename_i z i e1 e2
    split at e
    · rename_i hz
      simp only [Option.bind_eq_some_iff] at e
      obtain ⟨c, e3, e4⟩ := e
      cases e4
      exact .inr (.inr ⟨z, i, c, rx.rdS p.sr e1, ry.rdI p.sr e2, Nat.le_trans hz mil, e3, q _ F H p (.str _)⟩)
    · cases e
  · cases e
theorem je_ix {X : Cx} {a b : Expr} {f g : DE} {pos : Pos} (ha : JE X a f) (hb : JE X b g) (hs : PlainIx b := by exact fun _ _ => rfl) : JE X (.Subscript a b pos) (d2 f g kIx) :=
  PE.imp (pe_ix ix_seq ha hb hs) fun _ _ _ => rd2 ix_ok

/-! ### slices -/
abbrev DO := Env → Option (Option Int × Env)
def rdO (K : PySem.W.Frag) (f : DO) : TO := fun σ H Q => ∃ (B : Bs) (F : Hp) (env : Env) (o : Option Int) (env' : Env), B.K = K ∧ SR B F H σ env ∧ f env = some (o, env') ∧ ∀ F' H', Post B σ F H env F' H' env' → Q o H'
abbrev JO (X : Cx) (e : Option Expr) (f : DO) : Prop := PO X e (rdO X.K f)
theorem PO.imp {X : Cx} {e : Option Expr} {t t' : TO} (h : PO X e t) (i : ∀ σ H Q, t' σ H Q → t σ H Q) : PO X e t' := ⟨fun pins s σ H Q I q => h.run pins s σ H Q I (i σ H Q q)⟩
def oNo : DO := fun env => some (none, env)
def oSo (f : DE) : DO := fun env => (f env).bind fun r => match r.1.rd r.2 with
  | some (.int i) => some (some i, r.2)
  | _ => none
theorem jo_no {X : Cx} : JO X none oNo := PO.imp po_none fun σ H Q ⟨B, F, env, o, env', hK, s, e, q⟩ => by
  cases e
  exact q F H (.refl s)
theorem jo_so {X : Cx} {e : Expr} {f : DE} (h : JE X e f) : JO X (some e) (oSo f) := PO.imp (po_some h) fun σ H Q ⟨B, F, env, o, env', hK, s, e, q⟩ => by
  simp only [oSo, Option.bind_eq_some_iff] at e
  obtain ⟨⟨x, env1⟩, e1, e2⟩ := e
  refine ⟨B, F, env, x, env1, hK, s, e1, fun v F1 H1 p1 r1 => ?_⟩
  split at e2
  · rename_i i h
    cases e2
    exact ⟨i, r1.rdI p1.sr h, q F1 H1 p1⟩
  · cases e2
def cutG {α : Type} (xs : List α) (lo hi : Option Int) : List α := (xs.drop (HT.sIx xs.length 0 lo)).take (HT.sIx xs.length xs.length hi - HT.sIx xs.length 0 lo)
theorem cut_dpa {K : PySem.W.Frag} {H : Hp} {vs : List V} {ds : List D} (h : DpAll K H vs ds) (lo hi : Option Int) : DpAll K H (cutV vs lo hi) (cutG ds lo hi) := by
  unfold cutV cutG
  rw [dpa_length h]
  exact dpa_take _ (dpa_drop _ h)
def kSl (x : Val) (lo hi : Option Int) (env : Env) : Option (Val × Env) := match x.rd env with
  | some (.list ds) => some (.new (.l (cutG ds lo hi)), env)
  | some (.tuple ds) => some (.dat (.tuple (cutG ds lo hi)), env)
  | some (.str z) => if z.length ≤ 1000000 then some (.dat (.str (cutS z lo hi)), env) else none
  | _ => none
def dSl (f : DE) (lo hi : DO) : DE := fun env => (f env).bind fun r => (lo r.2).bind fun l => (hi l.2).bind fun u => kSl r.1 l.1 u.1 u.2
theorem cutV_whole {xs : List V} {lo hi : Option Int} (h : HT.sIx xs.length 0 lo = 0 ∧ HT.sIx xs.length xs.length hi = xs.length) : cutV xs lo hi = xs := by
  unfold cutV
  rw [h.1, h.2]
  simp
theorem je_sl {X : Cx} {e : Expr} {lo hi : Option Expr} {f : DE} {g h : DO} {pos p2 : Pos} (he : JE X e f) (hl : JO X lo g) (hh : JO X hi h) : JE X (.Subscript e (.Slice lo hi none p2) pos) (dSl f g h) := by
  refine PE.imp (pe_slice (sl_list.or (sl_tupA.or sl_str)) he hl hh) fun σ H Q ⟨B, F, env, val, env', hK, s, e, q⟩ => ?_
  simp only [dSl, Option.bind_eq_some_iff] at e
  obtain ⟨⟨x, env1⟩, e1, ⟨l, env2⟩, e2, ⟨u, env3⟩, e3, e4⟩ := e
  refine ⟨B, F, env, x, env1, hK, s, e1, fun v F1 H1 p1 r1 => ⟨B, F1, env1, l, env2, hK, p1.sr, e2, fun F2 H2 p2 => ⟨B, F2, env2, u, env3, hK, p2.sr, e3, fun F3 H3 p3 => ?_⟩⟩⟩
  have p13 := (p1.trans p2).trans p3
  have r3 := (r1.step p2).step p3
  unfold kSl at e4
  rw [← hK]
  split at e4
  · rename_i ds ed
    cases e4
    obtain ⟨a, vs, rfl, h1, h2⟩ := r3.rdL p3.sr ed
    exact .inl ⟨a, vs, rfl, h1, fun z hz => q _ F3 _ (p13.allocN hz) (VR.newAt p13 hz (cut_dpa h2 l u))⟩
  · rename_i ds ed
    cases e4
    have tt := r3.rdD p3.sr ed (fun _ z => by cases z)
    obtain ⟨a, vs, rfl, h1, h2⟩ := r3.rdT p3.sr ed
    refine .inr (.inl ⟨a, vs, rfl, h1, fun hw => ?_, fun _ z hz => ?_⟩)
    · refine q _ F3 H3 p13 ?_
      have hw' : cutG ds l u = ds := by
        unfold cutG
        rw [← dpa_length h2, hw.1, hw.2, dpa_length h2]
        simp
      rw [hw']
      exact tt
    · exact q _ _ _ (p13.alloc hz) (.tup (SqT.of upd_same) (dpa_mono (Ex.new (p13.sr.fnone hz)) (cut_dpa h2 l u)))
  · rename_i z ed
    split at e4
    · rename_i hz
      cases e4
      exact .inr (.inr ⟨z, r3.rdS p3.sr ed, Nat.le_trans hz mil, q _ F3 H3 p13 (.str _)⟩)
    · cases e4
  · cases e4

/-! ### x[::-1] -/
/-- what a step of -1 gives of a tuple -/
theorem tup_rev {prog : Program} {w : World} {A : Around} {E : Value → Shared → Prop} {s : Shared} {t sl : Addr} {items : Array Value} {k : Tok} {Q : Value → Shared → Prop} (ht : IsTup s.heap t items)
    (hs : s.heap.IsSliceOf sl .none .none (.int (-1) k)) (h : Q (.ref s.heap.objs.size) { s with heap := s.heap.push { cls := .type "tuple", data := .seq items.toList.reverse.toArray } })
    (hsz : items.size ≤ sizeLine) : wpAny (model prog w) A (getItem (.ref t) (.ref sl)) Q E s := by
  obtain ⟨os, hos, hcs, hds⟩ := id hs
  have hTs : s.TypeIs (.ref sl) "slice" := ⟨os, hos, hcs⟩
  have hT : sizeOk (.seq items.toList.reverse.toArray) := by
    show items.toList.reverse.toArray.size ≤ sizeLine
    rw [List.size_toArray, List.length_reverse, Array.length_toList]
    exact hsz
  unfold getItem
  try with_reducible refine wpAny_holding ?_
  first | refine wpAny_bind (wpAny_pure ?_) | skip
  refine wpAny_bind (wpAny_sequenceKey ht.typeIs (by decide) ?_)
  refine wpAny_bind (wpAny_callSpecial?_slot (name := Str.ofString "__getitem__") ht.typeIs PyProof.Rows.slot_tuple_getitem
    (wpAny_call_entry PyProof.Rows.slot_tuple_getitem ht.typeIs entry_tuple_getitem ?_ (args_tuple_getitem _ _)))
  show wpAny _ _ (Builtin.Tuple.tupleItemsOf (.ref t) >>= _) _ _ s
  refine wpAny_bind (tupleItemsOf_ ht ?_)
  refine wpAny_bind (wpAny_typeOf hTs ?_)
  rw [if_pos (by decide)]
  have hap : ∀ {n : Nat} {R : Int × Int × Nat → Shared → Prop}, R ((n : Int) - 1, -1, n) s → wpAny (model prog w) A.in1 (Builtin.Slice.sliceApplied (.ref sl) (pure (n : Int))) R E s := by
    intro n R hR
    unfold Builtin.Slice.sliceApplied Builtin.Slice.sliceFields
    refine wpAny_bind (wpAny_bind (wpAny_field hos hds (x := .none) rfl (wpAny_bind (wpAny_field hos hds (x := .none) rfl (wpAny_bind (wpAny_field hos hds (x := .int (-1) k) rfl (wpAny_pure ?_)))))))
    refine wpAny_bind (slicePart_int ?_)
    show wpAny _ _ (if ((-1 : Int) == 0) = true then _ else _) _ _ s
    rw [if_neg (by decide)]
    refine wpAny_bind (slicePart_none (wpAny_bind (slicePart_none (wpAny_bind (wpAny_pure ?_)))))
    show wpAny _ _ (match Builtin.Slice.sliceAdjust none none (-1) (n : Int) with | (lo, hi) => pure (lo, (-1 : Int), Builtin.Slice.slicePlaces lo hi (-1))) _ _ s
    have e1 : Builtin.Slice.sliceAdjust none none (-1) (n : Int) = ((n : Int) - 1, -1) := by
      unfold Builtin.Slice.sliceAdjust
      simp
    have e2 : Builtin.Slice.slicePlaces ((n : Int) - 1) (-1) (-1) = n := by
      unfold Builtin.Slice.slicePlaces
      have h1 : ¬ ((-1 : Int) > 0) := by decide
      simp only [h1, if_false]
      have e3 : (- -1 : Int) = 1 := by decide
      rw [e3, Int.ediv_one]
      split <;> omega
    rw [e1]
    show wpAny _ _ (pure ((n : Int) - 1, (-1 : Int), Builtin.Slice.slicePlaces ((n : Int) - 1) (-1) (-1))) _ _ s
    rw [e2]
    exact wpAny_pure hR
  refine wpAny_bind (hap ?_)
  have hno : ¬ (((((items.size : Nat) : Int) - 1) == 0 && (-1 : Int) == 1 && items.size == items.size) = true) := by simp
  show wpAny _ _ (if ((((items.size : Nat) : Int) - 1) == 0 && (-1 : Int) == 1 && items.size == items.size) = true then _ else _) _ _ s
  rw [if_neg hno]
  have pick : ((List.range items.size).filterMap fun (m : Nat) => items[(((items.size : Nat) : Int) - 1 + (m : Int) * -1).toNat]?).toArray = items.toList.reverse.toArray := by
    congr 1
    apply List.ext_getElem?
    intro i
    have e : ∀ m, m < items.size → items[(((items.size : Nat) : Int) - 1 + (m : Int) * -1).toNat]? = items.toList.reverse[m]? := fun m hm => by
      have e3 : (((items.size : Nat) : Int) - 1 + (m : Int) * -1).toNat = items.size - 1 - m := by omega
      rw [e3, List.getElem?_reverse (by simpa using hm)]
      simp
    have e4 : ((List.range items.size).filterMap fun (m : Nat) => items[(((items.size : Nat) : Int) - 1 + (m : Int) * -1).toNat]?) = items.toList.reverse := by
      have e5 : ((List.range items.size).filterMap fun (m : Nat) => items[(((items.size : Nat) : Int) - 1 + (m : Int) * -1).toNat]?) = (List.range items.size).filterMap fun m => items.toList.reverse[m]? := by
        have go : ∀ l : List Nat, (∀ m ∈ l, m < items.size) → (l.filterMap fun (m : Nat) => items[(((items.size : Nat) : Int) - 1 + (m : Int) * -1).toNat]?) = l.filterMap fun m => items.toList.reverse[m]? := by
          intro l
          induction l with
          | nil => intro _; rfl
          | cons x l ih =>
            intro hl
            rw [List.filterMap_cons, List.filterMap_cons, e x (hl x List.mem_cons_self), ih fun m hm => hl m (List.mem_cons_of_mem _ hm)]
        exact go _ fun m hm => List.mem_range.mp hm
      rw [e5]
      have e6 : items.size = items.toList.reverse.length := by simp
      rw [e6]
      generalize items.toList.reverse = l
      clear e e5 e6
      induction l with
      | nil => rfl
      | cons x l ih =>
        rw [List.length_cons, List.range_succ_eq_map, List.filterMap_cons]
        simp only [List.getElem?_cons_zero, List.filterMap_map]
        congr 1
    rw [e4]
  rw [pick]
  first
    | exact wpAny_bind (m := Builtin.Tuple.tupleExact _) (wpAny_newObj_type (wpAny_pure ⟨_, rfl, wpAny_pure h⟩) hT)
    | exact wpAny_bind (m := Builtin.Tuple.tupleExact _) (wpAny_newObj_type (wpAny_bind (wpAny_pure (wpAny_pure ⟨_, rfl, wpAny_pure h⟩))) hT)
    | exact wpAny_bind (wpAny_bind (m := Builtin.Tuple.tupleExact _) (wpAny_newObj_type (wpAny_pure (wpAny_pure ⟨_, rfl, wpAny_pure h⟩)) hT))
    | exact wpAny_bind (wpAny_bind (m := Builtin.Tuple.tupleExact _) (wpAny_newObj_type (wpAny_pure ⟨_, rfl, wpAny_pure h⟩) hT))
/-- what a step of -1 gives of a text -/
theorem str_rev {prog : Program} {w : World} {A : Around} {E : Value → Shared → Prop} {s : Shared} {z : Str} {t k : Tok} {sl : Addr} {Q : Value → Shared → Prop} (hs : s.heap.IsSliceOf sl .none .none (.int (-1) k)) (hz : z.length ≤ sizeLine)
    (h : Q (.str ⟨z.cps.toList.reverse.toArray⟩ s.toks) { s with toks := s.toks + 1 }) : wpAny (model prog w) A (getItem (.str z t) (.ref sl)) Q E s := by
  obtain ⟨os, hos, hcs, hds⟩ := hs
  refine wpAny_getItem_str_slice (l := none) (u := none) (st := some (-1, k)) ⟨os, hos, hcs, hds⟩ rfl ?_
  have e1 : ((Builtin.Str.strSliceIndices none none (-1) z.length).filterMap (z.cps[·]?)) = z.cps.toList.reverse := by
    rw [PyProof.Rows.picked_rev]
    have go : ∀ (a : Array Nat), ((List.range a.size).map fun k => a.size - 1 - k).filterMap (a[·]?) = a.toList.reverse := by
      intro a
      have e4 : ((List.range a.size).map fun k => a.size - 1 - k).filterMap (a[·]?) = (List.range a.toList.reverse.length).filterMap fun m => a.toList.reverse[m]? := by
        rw [List.filterMap_map]
        have e5 : a.toList.reverse.length = a.size := by simp
        rw [e5]
        have go2 : ∀ l : List Nat, (∀ m ∈ l, m < a.size) → l.filterMap ((fun x => a[x]?) ∘ fun k => a.size - 1 - k) = l.filterMap fun m => a.toList.reverse[m]? := by
          intro l
          induction l with
          | nil => intro _; rfl
          | cons x l ih =>
            intro hl
            have hx := hl x List.mem_cons_self
            have e6 : ((fun x => a[x]?) ∘ fun k => a.size - 1 - k) x = a.toList.reverse[x]? := by
              show a[a.size - 1 - x]? = _
              rw [List.getElem?_reverse (by simpa using hx)]
              simp
            rw [List.filterMap_cons, List.filterMap_cons, e6, ih fun m hm => hl m (List.mem_cons_of_mem _ hm)]
        exact go2 _ fun m hm => List.mem_range.mp hm
      rw [e4]
      generalize a.toList.reverse = l
      induction l with
      | nil => rfl
      | cons x l ih =>
        rw [List.length_cons, List.range_succ_eq_map, List.filterMap_cons]
        simp only [List.getElem?_cons_zero, List.filterMap_map]
        congr 1
    exact go z.cps
  show Made.post (if ((-1 : Int) == 1 && (Builtin.Str.strSliceIndices none none (-1) z.length).length == z.length) = true then Made.val (.str z t)
    else Made.str ⟨((Builtin.Str.strSliceIndices none none (-1) z.length).filterMap (z.cps[·]?)).toArray⟩) Q s
  have c : ¬ ((-1 : Int) == 1 && (Builtin.Str.strSliceIndices none none (-1) z.length).length == z.length) = true := by simp
  rw [if_neg c, e1]
  refine ⟨?_, h⟩
  show z.cps.toList.reverse.toArray.size ≤ sizeLine
  rw [List.size_toArray, List.length_reverse]
  exact hz
def tRevA (K : PySem.W.Frag) (te : TE) : TE := fun σ H Q => te σ H fun x H1 => (∃ a xs, x = .ref a ∧ SqL K H1 a xs ∧ ∀ p, H1 p = none → Q (.ref p) (upd H1 p (.lst xs.reverse))) ∨
  (∃ a xs, x = .ref a ∧ SqT K H1 a xs ∧ ∀ p, H1 p = none → Q (.ref p) (upd H1 p (.tup xs.reverse))) ∨ ∃ z : Str, x = .str z ∧ z.length ≤ sizeLine ∧ Q (.str ⟨z.cps.toList.reverse.toArray⟩) H1
theorem pe_revA {X : Cx} {e : Expr} {te : TE} {k : Nat} {p1 p2 p3 pos : Pos} (he : PE X e te) : PE X (.Subscript e (.Slice none none (some (.UnaryOp .USub (.Constant (.int 1) k p1) p2)) p3) pos) (tRevA X.K te) := by
  refine ⟨fun pins s σ H Q I h => ?_⟩
  refine Subscript_ (thn (he.run pins s σ H _ I h) fun v s1 ⟨x, H1, I1, r1, q1⟩ => ?_)
  have hst : PO X (some (.UnaryOp .USub (.Constant (.int 1) k p1) p2)) (tPart (tUn (rU fun i => .int (-i)) (tC (.int 1)))) := po_some (pe_un un_neg pe_int)
  refine wpAny_Slice (thn (po_none.run pins s1 σ H1 (fun o H2 => o = none ∧ H2 = H1) I1 ⟨rfl, rfl⟩) fun vl s2 ⟨l, H2, I2, pl, el, e2⟩ => ?_)
  subst el e2
  refine thn (po_none.run pins s2 σ H2 (fun o H3 => o = none ∧ H3 = H2) I2 ⟨rfl, rfl⟩) fun vu s3 ⟨u, H3, I3, pu, eu, e3⟩ => ?_
  subst eu e3
  refine thn (hst.run pins s3 σ H3 (fun o H4 => o = some (-1) ∧ H4 = H3) I3 ⟨1, rfl, -1, rfl, rfl, rfl⟩) fun vs s4 ⟨o, H4, I4, ps, eo, e4⟩ => ?_
  subst eo e4
  have I5 : Inv X pins σ H4 { s4 with heap := s4.heap.push { cls := .type "slice", data := .fields #[vl, vu, vs] } } := I4.kept (t' := s4.toks) fun b ob q => Heap.get?_push_of_some _ q
  rcases q1 with ⟨a, xs, ex, hx, q⟩ | ⟨a, xs, ex, hx, q⟩ | ⟨z, ex, hz, q⟩
  · subst ex
    cases r1
    obtain ⟨its, r, ht, hz⟩ := I5.list hx
    have hlen := r.length
    show wpAny (model X.prog X.w) X.A (subscriptTail e (.Slice none none (some (.UnaryOp .USub (.Constant (.int 1) k p1) p2)) p3) (.ref a) (.ref s4.heap.objs.size)) (EP X pins σ Q) X.xe { s4 with heap := s4.heap.push { cls := .type "slice", data := .fields #[vl, vu, vs] } }
    refine tail_any (ops := [.ref a, .ref s4.heap.objs.size]) ht.isList.typeIs (PySem.slot_list_getitem.lookup) ?_ (by with_unfolding_all rfl)
    refine wpAny_getItem_list_slice ht.isList (Heap.IsSliceOf.new _ vl vu vs) pl pu ps (by decide) ?_ (by rw [List.size_toArray]; omega)
    rw [PySem.W.krv_pick]
    refine ⟨.ref _, _, I5.laid (t' := s4.toks) (o := .lst xs.reverse) (fun b ob q => Heap.get?_push_of_some _ q) (Nat.le_refl _) ?_, rfl, q _ (I5.hok.fresh (Nat.le_refl _))⟩
    exact ⟨by rw [List.length_reverse]; exact hz, _, 0, r.reverse, Heap.get?_push_size _ rfl⟩
  · subst ex
    cases r1
    obtain ⟨its, r, ht, hz⟩ := I5.tuple hx
    have hlen := r.length
    show wpAny (model X.prog X.w) X.A (subscriptTail e (.Slice none none (some (.UnaryOp .USub (.Constant (.int 1) k p1) p2)) p3) (.ref a) (.ref s4.heap.objs.size)) (EP X pins σ Q) X.xe { s4 with heap := s4.heap.push { cls := .type "slice", data := .fields #[vl, vu, vs] } }
    refine tail_any (ops := [.ref a, .ref s4.heap.objs.size]) ht.typeIs (PyProof.Rows.slot_tuple_getitem.lookup) ?_ (by with_unfolding_all rfl)
    cases pl
    cases pu
    obtain ⟨kk, rfl⟩ : ∃ kk, vs = .int (-1) kk := by cases ps; exact ⟨_, rfl⟩
    refine tup_rev (k := kk) ht (Heap.IsSliceOf.new _ .none .none (.int (-1) kk)) ?_ (by rw [List.size_toArray]; omega)
    refine ⟨.ref _, _, I5.laid (t' := s4.toks) (o := .tup xs.reverse) (fun b ob q => Heap.get?_push_of_some _ q) (Nat.le_refl _) ?_, rfl, q _ (I5.hok.fresh (Nat.le_refl _))⟩
    exact ⟨by rw [List.length_reverse]; exact hz, _, r.reverse, IsTup.new _ _⟩
  · subst ex
    obtain ⟨t, rfl⟩ := r1
    show wpAny (model X.prog X.w) X.A (subscriptTail e (.Slice none none (some (.UnaryOp .USub (.Constant (.int 1) k p1) p2)) p3) (.str z t) (.ref s4.heap.objs.size)) (EP X pins σ Q) X.xe { s4 with heap := s4.heap.push { cls := .type "slice", data := .fields #[vl, vu, vs] } }
    refine tail_any (ops := [.str z t, .ref s4.heap.objs.size]) (typeIs_str _ _ _) (PySem.F.slot_str_getitem.lookup) ?_ (by with_unfolding_all rfl)
    cases pl
    cases pu
    obtain ⟨kk, rfl⟩ : ∃ kk, vs = .int (-1) kk := by cases ps; exact ⟨_, rfl⟩
    exact str_rev (Heap.IsSliceOf.new _ .none .none (.int (-1) kk)) hz ⟨.str _, H4, I5.tok _, ⟨_, rfl⟩, q⟩
def revS (z : Str) : Str := ⟨z.cps.toList.reverse.toArray⟩
def dRev (f : DE) : DE := fun env => (f env).bind fun r => match r.1.rd r.2 with
  | some (.list ds) => some (.new (.l ds.reverse), r.2)
  | some (.tuple ds) => some (.dat (.tuple ds.reverse), r.2)
  | some (.str z) => if z.length ≤ 1000000 then some (.dat (.str (revS z)), r.2) else none
  | _ => none
theorem je_rev {X : Cx} {e : Expr} {f : DE} {k : Nat} {p1 p2 p3 pos : Pos} (he : JE X e f) : JE X (.Subscript e (.Slice none none (some (.UnaryOp .USub (.Constant (.int 1) k p1) p2)) p3) pos) (dRev f) := by
  refine PE.imp (pe_revA he) fun σ H Q ⟨B, F, env, val, env', hK, s, e, q⟩ => ?_
  simp only [dRev, Option.bind_eq_some_iff] at e
  obtain ⟨⟨x, env1⟩, e1, e2⟩ := e
  refine ⟨B, F, env, x, env1, hK, s, e1, fun v F1 H1 p1 r1 => ?_⟩
  rw [← hK]
  split at e2
  · rename_i ds ed
    cases e2
    obtain ⟨a, vs, rfl, h1, h2⟩ := r1.rdL p1.sr ed
    exact .inl ⟨a, vs, rfl, h1, fun z hz => q _ F1 _ (p1.allocN hz) (VR.newAt p1 hz (dpa_reverse h2))⟩
  · rename_i ds ed
    cases e2
    obtain ⟨a, vs, rfl, h1, h2⟩ := r1.rdT p1.sr ed
    exact .inr (.inl ⟨a, vs, rfl, h1, fun z hz => q _ _ _ (p1.alloc hz) (.tup (SqT.of upd_same) (dpa_mono (Ex.new (p1.sr.fnone hz)) (dpa_reverse h2)))⟩)
  · rename_i z ed
    split at e2
    · rename_i hz
      cases e2
      exact .inr (.inr ⟨z, r1.rdS p1.sr ed, Nat.le_trans hz mil, q _ F1 H1 p1 (.str _)⟩)
    · cases e2
  · cases e2
end EW


/-! EW 5: built-in functions. -/
namespace EW
open PySem PySem.Spec PyProof.Rows L2

abbrev KA := List Val → Env → Option (Val × Env)
def dCall (g : DA) (k : KA) : DE := fun env => (g env).bind fun r => k r.1 r.2
abbrev RC := List V → Hp → VK → Prop
def RCok (K : PySem.W.Frag) (r : RC) (k : KA) : Prop :=
  ∀ (B : Bs) (σ : St) (Fq Hq : Hp) (envp : Env) (F H : Hp) (env : Env) (vs : List V) (xs : List Val) (val : Val) (env' : Env) (Q : VK), B.K = K → Post B σ Fq Hq envp F H env → VRs B σ Hq F H env vs xs →
    k xs env = some (val, env') → (∀ u F' H', Post B σ Fq Hq envp F' H' env' → VR B σ Hq F' H' env' u val → Q u H') → r vs H Q
theorem rdCall {K : PySem.W.Frag} {r : RC} {k : KA} (ok : RCok K r k) {g : DA} {σ : St} {H : Hp} {Q : VK} (h : rdE K (dCall g k) σ H Q) : tCB r (rdA K g) σ H Q := by
  obtain ⟨B, F, env, val, env', hK, s, e, q⟩ := h
  simp only [dCall, Option.bind_eq_some_iff] at e
  obtain ⟨⟨xs, env1⟩, e1, e2⟩ := e
  exact ⟨B, F, env, xs, env1, hK, s, e1, fun vs F1 H1 p1 r1 => ok B σ F H env F1 H1 env1 vs xs val env' Q hK p1 r1 e2 q⟩
section
variable {X : Cx} {x : Str} {p pos : Pos} {e : Expr} {es : List Expr} {g : DA} {id T : String} {r : RC} {k : KA}
theorem je_callB (hc : CallR X (.builtin id) r) (ok : RCok X.K r k) (hg : Gl X x) (hm : X.mg x = none) (ha : JA X (e :: es) g) (hv : bootBuiltins x = some (.builtin id) := by decide +kernel) (hn : x ≠ "__name__" := by decide) (hdb : (x == ("__debug__" : Str)) = false := by decide)
    (he : starEach (e :: es) X.env = (false, eval e X.env) :: starEach es X.env := by rfl) (hpl : (backTo pos (starEach es X.env)).any (·.1) = false := by rfl) : JE X (.Call (.Name x p) (e :: es) [] pos) (dCall g k) :=
  PE.imp (pe_callB hc hg hm hv ha hn hdb he hpl) fun _ _ _ => rdCall ok
theorem je_callTy (hc : CallR X (.type T) r) (ok : RCok X.K r k) (hg : Gl X x) (hm : X.mg x = none) (ha : JA X (e :: es) g) (hv : bootBuiltins x = some (.type T) := by decide +kernel) (hn : x ≠ "__name__" := by decide) (hdb : (x == ("__debug__" : Str)) = false := by decide)
    (he : starEach (e :: es) X.env = (false, eval e X.env) :: starEach es X.env := by rfl) (hpl : (backTo pos (starEach es X.env)).any (·.1) = false := by rfl) : JE X (.Call (.Name x p) (e :: es) [] pos) (dCall g k) :=
  PE.imp (pe_callTy hc hg hm hv ha hn hdb he hpl) fun _ _ _ => rdCall ok
end
/-- one value read -/
def k1 (h : D → Env → Option (Val × Env)) : KA := fun xs env => match xs with
  | [x] => (x.rd env).bind fun d => h d env
  | _ => none
/-- two values read -/
def k2 (h : D → D → Env → Option (Val × Env)) : KA := fun xs env => match xs with
  | [x, y] => (x.rd env).bind fun d => (y.rd env).bind fun e => h d e env
  | _ => none
theorem k1_ok {K : PySem.W.Frag} {r : RC} {h : D → Env → Option (Val × Env)}
    (ok : ∀ (B : Bs) (σ : St) (Fq Hq : Hp) (envp : Env) (F H : Hp) (env : Env) (v : V) (x : Val) (d : D) (val : Val) (env' : Env) (Q : VK), B.K = K → Post B σ Fq Hq envp F H env → VR B σ Hq F H env v x → x.rd env = some d →
      h d env = some (val, env') → (∀ u F' H', Post B σ Fq Hq envp F' H' env' → VR B σ Hq F' H' env' u val → Q u H') → r [v] H Q) : RCok K r (k1 h) := by
  intro B σ Fq Hq envp F H env vs xs val env' Q hK p rs e q
  unfold k1 at e
  split at e
  · simp only [Option.bind_eq_some_iff] at e
    obtain ⟨d, e1, e2⟩ := e
    cases rs with
    | cons r1 _ r2 =>
      cases r2
      exact ok B σ Fq Hq envp F H env _ _ d val env' Q hK p r1 e1 e2 q
  · cases e
theorem k2_ok {K : PySem.W.Frag} {r : RC} {h : D → D → Env → Option (Val × Env)}
    (ok : ∀ (B : Bs) (σ : St) (Fq Hq : Hp) (envp : Env) (F H : Hp) (env : Env) (v w : V) (x y : Val) (d e : D) (val : Val) (env' : Env) (Q : VK), B.K = K → Post B σ Fq Hq envp F H env → VR B σ Hq F H env v x → VR B σ Hq F H env w y → x.rd env = some d → y.rd env = some e →
      h d e env = some (val, env') → (∀ u F' H', Post B σ Fq Hq envp F' H' env' → VR B σ Hq F' H' env' u val → Q u H') → r [v, w] H Q) : RCok K r (k2 h) := by
  intro B σ Fq Hq envp F H env vs xs val env' Q hK p rs e q
  unfold k2 at e
  split at e
  · simp only [Option.bind_eq_some_iff] at e
    obtain ⟨d, e1, d', e2, e3⟩ := e
    cases rs with
    | cons r1 _ r2 =>
      cases r2 with
      | cons r3 _ r4 =>
        cases r4
        exact ok B σ Fq Hq envp F H env _ _ _ _ d d' val env' Q hK p r1 r3 e1 e2 e3 q
  · cases e

/-! ### lists of one kind -/
def asInts : List D → Option (List Int)
  | [] => some []
  | .int i :: ds => (asInts ds).map (i :: ·)
  | _ => none
def asBools : List D → Option (List Bool)
  | [] => some []
  | .bool i :: ds => (asBools ds).map (i :: ·)
  | _ => none
def asStrs : List D → Option (List Str)
  | [] => some []
  | .str i :: ds => (asStrs ds).map (i :: ·)
  | _ => none
theorem asInts_ok : ∀ {ds : List D} {xs : List Int}, asInts ds = some xs → ds = xs.map PyData.int
  | [], xs, h => by cases h; rfl
  | d :: ds, xs, h => by
    cases d <;> first | cases h; done | skip
    simp only [asInts, Option.map_eq_some_iff] at h
    obtain ⟨ys, h1, rfl⟩ := h
    rw [asInts_ok h1]
    rfl
theorem asBools_ok : ∀ {ds : List D} {xs : List Bool}, asBools ds = some xs → ds = xs.map PyData.bool
  | [], xs, h => by cases h; rfl
  | d :: ds, xs, h => by
    cases d <;> first | cases h; done | skip
    simp only [asBools, Option.map_eq_some_iff] at h
    obtain ⟨ys, h1, rfl⟩ := h
    rw [asBools_ok h1]
    rfl
theorem asStrs_ok : ∀ {ds : List D} {xs : List Str}, asStrs ds = some xs → ds = xs.map PyData.str
  | [], xs, h => by cases h; rfl
  | d :: ds, xs, h => by
    cases d <;> first | cases h; done | skip
    simp only [asStrs, Option.map_eq_some_iff] at h
    obtain ⟨ys, h1, rfl⟩ := h
    rw [asStrs_ok h1]
    rfl
theorem asInts_map (xs : List Int) : asInts (xs.map PyData.int) = some xs := by
  induction xs with
  | nil => rfl
  | cons x xs ih => simp [asInts, ih]
theorem asBools_map (xs : List Bool) : asBools (xs.map PyData.bool) = some xs := by
  induction xs with
  | nil => rfl
  | cons x xs ih => simp [asBools, ih]
theorem asStrs_map (xs : List Str) : asStrs (xs.map PyData.str) = some xs := by
  induction xs with
  | nil => rfl
  | cons x xs ih => simp [asStrs, ih]

/-! ### len, all, any, abs, max, min, int, sum, divmod -/
def hLen (d : D) (env : Env) : Option (Val × Env) := match d with
  | .list ds => some (.dat (.int ds.length), env)
  | .tuple ds => some (.dat (.int ds.length), env)
  | .str z => if z.length ≤ 1000000 then some (.dat (.int z.length), env) else none
  | _ => none
def hAll (d : D) (env : Env) : Option (Val × Env) := match d with
  | .list ds => (asBools ds).bind fun bs => some (.dat (.bool (bs.all id)), env)
  | _ => none
def hAny (d : D) (env : Env) : Option (Val × Env) := match d with
  | .list ds => (asBools ds).bind fun bs => some (.dat (.bool (bs.any id)), env)
  | _ => none
def hAbs (d : D) (env : Env) : Option (Val × Env) := match d with
  | .int i => some (.dat (.int (if i < 0 then -i else i)), env)
  | _ => none
def hInt (d : D) (env : Env) : Option (Val × Env) := match d with
  | .int i => some (.dat (.int i), env)
  | .bool k => some (.dat (.int (if k then 1 else 0)), env)
  | _ => none
def hMax2 (d e : D) (env : Env) : Option (Val × Env) := match d, e with
  | .int i, .int j => some (.dat (.int (if j > i then j else i)), env)
  | _, _ => none
def hMin2 (d e : D) (env : Env) : Option (Val × Env) := match d, e with
  | .int i, .int j => some (.dat (.int (if j < i then j else i)), env)
  | _, _ => none
def hSum (d : D) (env : Env) : Option (Val × Env) := match d with
  | .list ds => (asInts ds).bind fun ns => some (.dat (.int ns.sum), env)
  | _ => none
def hDivmod (d e : D) (env : Env) : Option (Val × Env) := match d, e with
  | .int i, .int j => if 0 < j ∧ j < 1073741824 then some (.dat (.tuple [.int (i / j), .int (i % j)]), env) else none
  | _, _ => none
def imax : List Int → Int
  | [] => 0
  | [x] => x
  | x :: y :: r => max x (imax (y :: r))
def imin : List Int → Int
  | [] => 0
  | [x] => x
  | x :: y :: r => min x (imin (y :: r))
theorem imax_le : ∀ (xs : List Int) (m : Int), m ∈ xs → (∀ y ∈ xs, y ≤ m) → m = imax xs
  | [], m, h, _ => by simp at h
  | [x], m, h, _ => by simp at h; subst h; rfl
  | x :: y :: r, m, h, k => by
    have hx := k x (by simp)
    have im : imax (y :: r) ∈ y :: r := by
      clear h k hx
      induction r generalizing y with
      | nil => simp [imax]
      | cons z r ih =>
        simp only [imax]
        by_cases q : y ≤ imax (z :: r)
        · rw [Int.max_eq_right q]; exact List.mem_cons_of_mem _ (ih z)
        · rw [Int.max_eq_left (by omega)]; exact List.mem_cons_self
    have ii := k _ (List.mem_cons_of_mem _ im)
    simp only [imax]
    rcases List.mem_cons.mp h with e | e
    · subst e; omega
    · have := imax_le (y :: r) m e fun z hz => k z (List.mem_cons_of_mem _ hz)
      omega
theorem imin_le : ∀ (xs : List Int) (m : Int), m ∈ xs → (∀ y ∈ xs, m ≤ y) → m = imin xs
  | [], m, h, _ => by simp at h
  | [x], m, h, _ => by simp at h; subst h; rfl
  | x :: y :: r, m, h, k => by
    have hx := k x (by simp)
    have im : imin (y :: r) ∈ y :: r := by
      clear h k hx
      induction r generalizing y with
      | nil => simp [imin]
      | cons z r ih =>
        simp only [imin]
        by_cases q : imin (z :: r) ≤ y
        · rw [Int.min_eq_right q]; exact List.mem_cons_of_mem _ (ih z)
        · rw [Int.min_eq_left (by omega)]; exact List.mem_cons_self
    have ii := k _ (List.mem_cons_of_mem _ im)
    simp only [imin]
    rcases List.mem_cons.mp h with e | e
    · subst e; omega
    · have := imin_le (y :: r) m e fun z hz => k z (List.mem_cons_of_mem _ hz)
      omega
def hMax1 (d : D) (env : Env) : Option (Val × Env) := match d with
  | .list ds => (asInts ds).bind fun ns => if ns = [] then none else some (.dat (.int (imax ns)), env)
  | _ => none
def hMin1 (d : D) (env : Env) : Option (Val × Env) := match d with
  | .list ds => (asInts ds).bind fun ns => if ns = [] then none else some (.dat (.int (imin ns)), env)
  | _ => none
section
variable {X : Cx} {x : Str} {p pos : Pos} {e : Expr} {es : List Expr} {g : DA}
theorem cr_lenA : CallR X (.builtin "len") (fun xs H Q => (∃ p ys, xs = [.ref p] ∧ (SqL X.K H p ys ∨ SqT X.K H p ys) ∧ Q (.int ys.length) H) ∨ ∃ z, xs = [.str z] ∧ z.length ≤ sizeLine ∧ Q (.int z.length) H) := call_len_seq.or call_len_str
theorem len_ok {K : PySem.W.Frag} : RCok K (fun xs H Q => (∃ p ys, xs = [.ref p] ∧ (SqL K H p ys ∨ SqT K H p ys) ∧ Q (.int ys.length) H) ∨ ∃ z, xs = [.str z] ∧ z.length ≤ sizeLine ∧ Q (.int z.length) H) (k1 hLen) := k1_ok <| by
  intro B σ Fq Hq envp F H env v x d val env' Q hK p r e1 e2 q
  subst hK
  unfold hLen at e2
  split at e2
  · cases e2
    obtain ⟨a, vs, rfl, h1, h2⟩ := r.rdL p.sr e1
    exact .inl ⟨a, vs, rfl, .inl h1, q _ F H p (by rw [dpa_length h2]; exact .int _)⟩
  · cases e2
    obtain ⟨a, vs, rfl, h1, h2⟩ := r.rdT p.sr e1
    exact .inl ⟨a, vs, rfl, .inr h1, q _ F H p (by rw [dpa_length h2]; exact .int _)⟩
  · split at e2
    · rename_i hz
      cases e2
      exact .inr ⟨_, by rw [r.rdS p.sr e1], Nat.le_trans hz mil, q _ F H p (.int _)⟩
    · cases e2
  · cases e2
theorem all_ok {K : PySem.W.Frag} : RCok K (rAll K) (k1 hAll) := k1_ok <| by
  intro B σ Fq Hq envp F H env v x d val env' Q hK p r e1 e2 q
  subst hK
  unfold hAll at e2
  split at e2
  · simp only [Option.bind_eq_some_iff] at e2
    obtain ⟨bs, e3, e4⟩ := e2
    cases e4
    have e5 := asBools_ok e3
    subst e5
    obtain ⟨a, vs, rfl, h1, h2⟩ := r.rdL p.sr e1
    rw [dpa_bools h2] at h1
    exact ⟨a, bs, rfl, h1, q _ F H p (.bl _)⟩
  · cases e2
theorem any_ok {K : PySem.W.Frag} : RCok K (rAny K) (k1 hAny) := k1_ok <| by
  intro B σ Fq Hq envp F H env v x d val env' Q hK p r e1 e2 q
  subst hK
  unfold hAny at e2
  split at e2
  · simp only [Option.bind_eq_some_iff] at e2
    obtain ⟨bs, e3, e4⟩ := e2
    cases e4
    have e5 := asBools_ok e3
    subst e5
    obtain ⟨a, vs, rfl, h1, h2⟩ := r.rdL p.sr e1
    rw [dpa_bools h2] at h1
    exact ⟨a, bs, rfl, h1, q _ F H p (.bl _)⟩
  · cases e2
theorem sum_ok {K : PySem.W.Frag} : RCok K (rSum K) (k1 hSum) := k1_ok <| by
  intro B σ Fq Hq envp F H env v x d val env' Q hK p r e1 e2 q
  subst hK
  unfold hSum at e2
  split at e2
  · simp only [Option.bind_eq_some_iff] at e2
    obtain ⟨bs, e3, e4⟩ := e2
    cases e4
    have e5 := asInts_ok e3
    subst e5
    obtain ⟨a, vs, rfl, h1, h2⟩ := r.rdL p.sr e1
    rw [dpa_ints h2] at h1
    exact ⟨a, bs, rfl, h1, q _ F H p (.int _)⟩
  · cases e2
theorem max1_ok {K : PySem.W.Frag} : RCok K (rMax K) (k1 hMax1) := k1_ok <| by
  intro B σ Fq Hq envp F H env v x d val env' Q hK p r e1 e2 q
  subst hK
  unfold hMax1 at e2
  split at e2
  · simp only [Option.bind_eq_some_iff] at e2
    obtain ⟨bs, e3, e4⟩ := e2
    split at e4
    · cases e4
    · rename_i hne
      cases e4
      have e5 := asInts_ok e3
      subst e5
      obtain ⟨a, vs, rfl, h1, h2⟩ := r.rdL p.sr e1
      rw [dpa_ints h2] at h1
      exact ⟨a, bs, rfl, h1, List.length_pos_iff.mpr hne, fun m hm hl => q _ F H p (by rw [imax_le bs m hm hl]; exact .int _)⟩
  · cases e2
theorem min1_ok {K : PySem.W.Frag} : RCok K (rMin K) (k1 hMin1) := k1_ok <| by
  intro B σ Fq Hq envp F H env v x d val env' Q hK p r e1 e2 q
  subst hK
  unfold hMin1 at e2
  split at e2
  · simp only [Option.bind_eq_some_iff] at e2
    obtain ⟨bs, e3, e4⟩ := e2
    split at e4
    · cases e4
    · rename_i hne
      cases e4
      have e5 := asInts_ok e3
      subst e5
      obtain ⟨a, vs, rfl, h1, h2⟩ := r.rdL p.sr e1
      rw [dpa_ints h2] at h1
      exact ⟨a, bs, rfl, h1, List.length_pos_iff.mpr hne, fun m hm hl => q _ F H p (by rw [imin_le bs m hm hl]; exact .int _)⟩
  · cases e2
theorem abs_ok {K : PySem.W.Frag} : RCok K (fun xs H Q => ∃ i, xs = [.int i] ∧ Q (.int (if i < 0 then -i else i)) H) (k1 hAbs) := k1_ok <| by
  intro B σ Fq Hq envp F H env v x d val env' Q hK p r e1 e2 q
  subst hK
  unfold hAbs at e2
  split at e2
  · rename_i i
    cases e2
    exact ⟨i, by rw [r.rdI p.sr e1], q _ F H p (.int _)⟩
  · cases e2
theorem int_ok {K : PySem.W.Frag} : RCok K (fun xs H Q => (∃ i, xs = [.int i] ∧ Q (.int i) H) ∨ ∃ k, xs = [.bl k] ∧ Q (.int (if k then 1 else 0)) H) (k1 hInt) := k1_ok <| by
  intro B σ Fq Hq envp F H env v x d val env' Q hK p r e1 e2 q
  subst hK
  unfold hInt at e2
  split at e2
  · rename_i i
    cases e2
    exact .inl ⟨i, by rw [r.rdI p.sr e1], q _ F H p (.int _)⟩
  · rename_i i
    cases e2
    exact .inr ⟨i, by rw [r.rdB p.sr e1], q _ F H p (.int _)⟩
  · cases e2
theorem max2_ok {K : PySem.W.Frag} : RCok K (fun xs H Q => ∃ i j, xs = [.int i, .int j] ∧ Q (.int (if j > i then j else i)) H) (k2 hMax2) := k2_ok <| by
  intro B σ Fq Hq envp F H env v w x y d e val env' Q hK p r r' e1 e2 e3 q
  subst hK
  unfold hMax2 at e3
  split at e3
  · rename_i i j
    cases e3
    exact ⟨i, j, by rw [r.rdI p.sr e1, r'.rdI p.sr e2], q _ F H p (.int _)⟩
  · cases e3
theorem min2_ok {K : PySem.W.Frag} : RCok K (fun xs H Q => ∃ i j, xs = [.int i, .int j] ∧ Q (.int (if j < i then j else i)) H) (k2 hMin2) := k2_ok <| by
  intro B σ Fq Hq envp F H env v w x y d e val env' Q hK p r r' e1 e2 e3 q
  subst hK
  unfold hMin2 at e3
  split at e3
  · rename_i i j
    cases e3
    exact ⟨i, j, by rw [r.rdI p.sr e1, r'.rdI p.sr e2], q _ F H p (.int _)⟩
  · cases e3
theorem divmod_ok {K : PySem.W.Frag} : RCok K (fun xs H Q => ∃ i j, xs = [.int i, .int j] ∧ CDiv i j ∧ ∀ p, H p = none → Q (.ref p) (upd H p (.tup [.int (i / j), .int (i % j)]))) (k2 hDivmod) := k2_ok <| by
  intro B σ Fq Hq envp F H env v w x y d e val env' Q hK p r r' e1 e2 e3 q
  subst hK
  unfold hDivmod at e3
  split at e3
  · rename_i i j
    split at e3
    · rename_i hj
      cases e3
      refine ⟨i, j, by rw [r.rdI p.sr e1, r'.rdI p.sr e2], hj, fun z hz => q _ _ _ (p.alloc hz) (.tup (SqT.of upd_same) (.cons (.int _) (.cons (.int _) .nil)))⟩
    · cases e3
  · cases e3
end

/-! ### tuple(x), list(x), sorted(x) -/
def sgs (z : Str) : List D := z.cps.toList.map fun c => .str ⟨#[c]⟩
def hTuple (d : D) (env : Env) : Option (Val × Env) := match d with
  | .list ds => some (.dat (.tuple ds), env)
  | .tuple ds => some (.dat (.tuple ds), env)
  | .str z => if z.length ≤ 1000000 then some (.dat (.tuple (sgs z)), env) else none
  | _ => none
def hList (d : D) (env : Env) : Option (Val × Env) := match d with
  | .list ds => some (.new (.l ds), env)
  | .tuple ds => some (.new (.l ds), env)
  | .str z => if z.length ≤ 1000000 then some (.new (.l (sgs z)), env) else none
  | _ => none
def sgV (z : Str) : List V := z.cps.toList.map fun c => V.str ⟨#[c]⟩
theorem sgs_dpa {K : PySem.W.Frag} {H : Hp} (z : Str) : DpAll K H (sgV z) (sgs z) := by
  unfold sgV sgs
  induction z.cps.toList with
  | nil => exact .nil
  | cons c l ih => exact .cons (.str _) ih
theorem vals_of_get : ∀ {xs : List V} {us : List Value}, xs.length = us.length → (∀ (i : Nat) (x : V) (u : Value), xs[i]? = some x → us[i]? = some u → RelV x u) → Vals xs us
  | [], [], _, _ => .nil
  | [], _ :: _, h, _ => by simp at h
  | _ :: _, [], h, _ => by simp at h
  | x :: xs, u :: us, h, k => .cons (k 0 x u rfl rfl) (vals_of_get (by simpa using h) fun i y w hy hw => k (i + 1) y w (by simpa using hy) (by simpa using hw))
theorem sgV_vals {z : Str} {acc : Array Value} (h : ItemsOf (SignAt z) acc z.cps.size) : Vals (sgV z) acc.toList := by
  refine vals_of_get ?_ fun i x u hx hu => ?_
  · have := h.1
    simp [sgV, this]
  · unfold sgV at hx
    rw [List.getElem?_map, Option.map_eq_some_iff] at hx
    obtain ⟨c, hc, rfl⟩ := hx
    have hi : i < z.cps.size := by
      have := (List.getElem?_eq_some_iff.mp hc).1
      simpa using this
    have := h.2 i u (by simpa using hu)
    obtain ⟨c', t, h1, h2⟩ := this
    have hc' : z.cps[i]? = some c := by simpa using hc
    rw [hc'] at h1
    cases h1
    exact ⟨t, h2⟩
def rTupS : RC := fun xs H Q => ∃ z, xs = [.str z] ∧ z.length ≤ sizeLine ∧ ∀ p, H p = none → Q (.ref p) (upd H p (.tup (sgV z)))
def rLstS : RC := fun xs H Q => ∃ z, xs = [.str z] ∧ z.length ≤ sizeLine ∧ ∀ p, H p = none → Q (.ref p) (upd H p (.lst (sgV z)))
section
variable {X : Cx}
theorem call_tupS (hc : X.calm = true) : CallR X (.type "tuple") rTupS := by
  intro pins s σ H xs us Q I r h
  obtain ⟨z, rfl, hz, q⟩ := h
  obtain ⟨u, rfl, t, rfl⟩ := vals1 r
  refine call_tuple_str (I.ok.hd hc) z t (fun h' tk acc kp ha => ?_) (by exact hz)
  have I1 : Inv X pins σ H { s with heap := h', toks := tk } := I.kept kp
  have hl : (sgV z).length ≤ sizeLine := by unfold sgV; rw [List.length_map, Array.length_toList]; exact hz
  have I2 : Inv X pins σ (upd H h'.objs.size (.tup (sgV z))) { s with heap := h'.push { cls := .type "tuple", data := .seq acc }, toks := tk } :=
    I1.laid (t' := tk) (fun b o e => Heap.get?_push_of_some _ e) (Nat.le_refl _) (show ObjOk X.prog X.w _ _ _ (.tup (sgV z)) from ⟨hl, acc.toList, sgV_vals ha, IsTup.new _ _⟩)
  exact ⟨.ref h'.objs.size, _, I2, rfl, q _ (I1.hok.fresh (Nat.le_refl _))⟩
theorem call_lstS (hc : X.calm = true) : CallR X (.type "list") rLstS := by
  intro pins s σ H xs us Q I r h
  obtain ⟨z, rfl, hz, q⟩ := h
  obtain ⟨u, rfl, t, rfl⟩ := vals1 r
  refine PySem.call_list_str (I.ok.hd hc) z t (fun h' tk acc c' kp e ha => ?_) (by exact hz)
  have hl : (sgV z).length ≤ sizeLine := by unfold sgV; rw [List.length_map, Array.length_toList]; exact hz
  exact ⟨.ref s.heap.objs.size, _, I.laid (t' := tk) kp (Nat.le_refl _) (show ObjOk X.prog X.w _ h' _ (.lst (sgV z)) from ⟨hl, acc.toList, c', sgV_vals ha, e⟩), rfl, q _ (I.hok.fresh (Nat.le_refl _))⟩
end
def rTup (K : PySem.W.Frag) : RC := fun xs H Q => (∃ p ys, xs = [.ref p] ∧ ((SqL K H p ys ∧ ∀ l, H l = none → Q (.ref l) (upd H l (.tup ys))) ∨ (SqT K H p ys ∧ Q (.ref p) H))) ∨ rTupS xs H Q
def rLst (K : PySem.W.Frag) : RC := fun xs H Q => (∃ p ys, xs = [.ref p] ∧ (SqL K H p ys ∨ SqT K H p ys) ∧ ∀ l, H l = none → Q (.ref l) (upd H l (.lst ys))) ∨ rLstS xs H Q
theorem cr_tup {X : Cx} (hc : X.calm = true) : CallR X (.type "tuple") (rTup X.K) := call_tuple_of.or (call_tupS hc)
theorem cr_lst {X : Cx} (hc : X.calm = true) : CallR X (.type "list") (rLst X.K) := call_list_of.or (call_lstS hc)
theorem tuple_ok {K : PySem.W.Frag} : RCok K (rTup K) (k1 hTuple) := k1_ok <| by
  intro B σ Fq Hq envp F H env v x d val env' Q hK p r e1 e2 q
  subst hK
  unfold hTuple at e2
  split at e2
  · cases e2
    obtain ⟨a, vs, rfl, h1, h2⟩ := r.rdL p.sr e1
    exact .inl ⟨a, vs, rfl, .inl ⟨h1, fun z hz => q _ _ _ (p.alloc hz) (.tup (SqT.of upd_same) (dpa_mono (Ex.new (p.sr.fnone hz)) h2))⟩⟩
  · cases e2
    have tt := r.rdD p.sr e1 (fun _ z => by cases z)
    obtain ⟨a, vs, rfl, h1, h2⟩ := r.rdT p.sr e1
    exact .inl ⟨a, vs, rfl, .inr ⟨h1, q _ F H p tt⟩⟩
  · rename_i z
    split at e2
    · rename_i hz
      cases e2
      exact .inr ⟨z, by rw [r.rdS p.sr e1], Nat.le_trans hz mil, fun y hy => q _ _ _ (p.alloc hy) (.tup (SqT.of upd_same) (sgs_dpa z))⟩
    · cases e2
  · cases e2
theorem list_ok {K : PySem.W.Frag} : RCok K (rLst K) (k1 hList) := k1_ok <| by
  intro B σ Fq Hq envp F H env v x d val env' Q hK p r e1 e2 q
  subst hK
  unfold hList at e2
  split at e2
  · cases e2
    obtain ⟨a, vs, rfl, h1, h2⟩ := r.rdL p.sr e1
    exact .inl ⟨a, vs, rfl, .inl h1, fun z hz => q _ F _ (p.allocN hz) (VR.newAt p hz h2)⟩
  · cases e2
    obtain ⟨a, vs, rfl, h1, h2⟩ := r.rdT p.sr e1
    exact .inl ⟨a, vs, rfl, .inr h1, fun z hz => q _ F _ (p.allocN hz) (VR.newAt p hz h2)⟩
  · rename_i z
    split at e2
    · rename_i hz
      cases e2
      exact .inr ⟨z, by rw [r.rdS p.sr e1], Nat.le_trans hz mil, fun y hy => q _ F _ (p.allocN hy) (VR.newAt p hy (sgs_dpa z))⟩
    · cases e2
  · cases e2
/-! sorted -/
open PySem.W (AllAlike Sortable EachIs dataLe sorted_data)
def alikeA (ds : List D) : Bool := ds.all fun a => ds.all fun b => PySem.W.alike a b
def sortOk (ds : List D) : Bool := (ds.all fun d => match d with | .tuple (_ :: _) => true | _ => false) || ds.all fun d => match d with | .tuple _ => false | .none => false | _ => true
def sortD (ds : List D) : List D := ds.mergeSort (dataLe false id)
def hSorted (d : D) (env : Env) : Option (Val × Env) := match d with
  | .list ds => if alikeA ds = true ∧ sortOk ds = true ∧ PyData.depthAll ds ≤ 100 ∧ ds.length ≤ 1000000 then some (.new (.l (sortD ds)), env) else none
  | _ => none
def rSortD (K : PySem.W.Frag) : RC := fun xs H Q => ∃ a vs ds, xs = [.ref a] ∧ SqL K H a vs ∧ DpAll K H vs ds ∧ alikeA ds = true ∧ sortOk ds = true ∧ PyData.depthAll ds ≤ 100 ∧ ds.length ≤ 1000000 ∧
  ∀ p, H p = none → Q (.ref p) (upd H p (.lst (((vs.zip ds).mergeSort (dataLe false Prod.snd)).map Prod.fst)))
theorem dpa_mem {K : PySem.W.Frag} {H : Hp} : ∀ {vs : List V} {ds : List D}, DpAll K H vs ds → ∀ z ∈ vs.zip ds, Dp K H z.1 z.2
  | _, _, .nil, z, h => by simp at h
  | _, _, .cons h a, z, m => by
    rw [List.zip_cons_cons] at m
    rcases List.mem_cons.mp m with e | m
    · subst e; exact h
    · exact dpa_mem a z m
theorem dpa_of_mem {K : PySem.W.Frag} {H : Hp} : ∀ {zs : List (V × D)}, (∀ z ∈ zs, Dp K H z.1 z.2) → DpAll K H (zs.map Prod.fst) (zs.map Prod.snd)
  | [], _ => .nil
  | z :: zs, h => .cons (h z List.mem_cons_self) (dpa_of_mem fun y hy => h y (List.mem_cons_of_mem _ hy))
theorem zip_snd {α β : Type} : ∀ {xs : List α} {ys : List β}, xs.length = ys.length → (xs.zip ys).map Prod.snd = ys
  | [], [], _ => rfl
  | [], _ :: _, h => by simp at h
  | _ :: _, [], h => by simp at h
  | x :: xs, y :: ys, h => by simp [zip_snd (xs := xs) (ys := ys) (by simpa using h)]
theorem sortZ {K : PySem.W.Frag} {H : Hp} {vs : List V} {ds : List D} (h : DpAll K H vs ds) : DpAll K H (((vs.zip ds).mergeSort (dataLe false Prod.snd)).map Prod.fst) (sortD ds) := by
  have e : sortD ds = ((vs.zip ds).mergeSort (dataLe false Prod.snd)).map Prod.snd := by
    unfold sortD
    rw [List.map_mergeSort (r := dataLe false Prod.snd) (s := dataLe false id) (f := Prod.snd) fun a _ b _ => rfl, zip_snd (dpa_length h)]
  rw [e]
  exact dpa_of_mem fun z hz => dpa_mem h z ((List.mergeSort_perm _ _).mem_iff.mp hz)
theorem eachZ {K : PySem.W.Frag} {H : Hp} {R : Value → V × D → Prop} : ∀ {us : List Value} {vs : List V} {ds : List D}, Vals vs us → DpAll K H vs ds → (∀ u v d, RelV v u → Dp K H v d → R u (v, d)) → EachIs R us (vs.zip ds)
  | _, _, _, .nil, .nil, _ => .nil
  | _, _, _, .cons r rs, .cons h hs, k => .cons (k _ _ _ r h) (eachZ rs hs k)
theorem valsZ : ∀ {us : List Value} {zs : List (V × D)}, EachIs (fun u z => RelV z.1 u) us zs → Vals (zs.map Prod.fst) us
  | _, _, .nil => .nil
  | _, _, .cons h t => .cons h (valsZ t)
theorem depth_mem : ∀ {ds : List D} {d : D}, d ∈ ds → d.depth ≤ PyData.depthAll ds
  | x :: xs, d, m => by
    simp only [PyData.depthAll]
    rcases List.mem_cons.mp m with e | m
    · subst e; exact Nat.le_max_left _ _
    · exact Nat.le_trans (depth_mem m) (Nat.le_max_right _ _)
theorem sortOk_ok {ds : List D} (h : sortOk ds = true) : Sortable ds := by
  unfold sortOk at h
  rw [Bool.or_eq_true] at h
  rcases h with h | h
  · refine .inl fun d hd => ?_
    have := List.all_eq_true.mp h d hd
    split at this
    · exact ⟨_, _, rfl⟩
    · cases this
  · refine .inr fun d hd => ?_
    have := List.all_eq_true.mp h d hd
    split at this
    · cases this
    · cases this
    · rename_i h1 h2
      exact ⟨fun z => h2 z, fun xs z => h1 xs z⟩
theorem call_sortD {X : Cx} (hu : X.A.units + 200 < cLine) : CallR X (.builtin "sorted") (rSortD X.K) := by
  intro pins s σ H xs us Q I r h
  obtain ⟨a, vs, ds, rfl, hs, hd, h1, h2, h3, h4, q⟩ := h
  obtain ⟨its, rv, hl, hz⟩ := I.list hs
  rw [Vals.ref1 r]
  have hdl := dpa_length hd
  have hvl := rv.length
  have eS := zip_snd hdl
  refine sorted_data (R := fun u z => RelV z.1 u) (enc := Prod.snd) (bs := vs.zip ds) hl.isList (eachZ rv hd fun u v d r _ => r) (eachZ rv hd fun u v d r h => Dp.reads I d v u h r) ?_ ?_ ?_ ?_ ?_
  · rw [eS]
    exact fun d hd d' hd' => List.all_eq_true.mp (List.all_eq_true.mp h1 d hd) d' hd'
  · rw [eS]; exact sortOk_ok h2
  · rw [List.length_zip, hdl, Nat.min_self]; exact Nat.le_trans h4 mil
  · intro b hb
    have : b.2 ∈ ds := by rw [← eS]; exact List.mem_map.mpr ⟨b, hb, rfl⟩
    have := depth_mem this
    omega
  · intro out ho he
    obtain ⟨ep, he'⟩ := PyProof.Rows.sortedAll_at s.heap its out.toArray
    have hlen : (((vs.zip ds).mergeSort (dataLe false Prod.snd)).map Prod.fst).length ≤ sizeLine := by
      rw [List.length_map, List.length_mergeSort, List.length_zip, hdl, Nat.min_self]; exact Nat.le_trans h4 mil
    exact ⟨.ref _, upd H (s.heap.objs.size + 1) (.lst _), I.laid (t' := s.toks) (fun _ _ => PyProof.Rows.sortedAll_old) (Nat.le_succ _) ⟨hlen, out, ep, valsZ he, he'⟩, rfl, q _ (I.hok.fresh (Nat.le_succ _))⟩
theorem sorted_ok {K : PySem.W.Frag} : RCok K (rSortD K) (k1 hSorted) := k1_ok <| by
  intro B σ Fq Hq envp F H env v x d val env' Q hK p r e1 e2 q
  subst hK
  unfold hSorted at e2
  split at e2
  · rename_i ds
    split at e2
    · rename_i hh
      cases e2
      obtain ⟨a, vs, rfl, h1, h2⟩ := r.rdL p.sr e1
      exact ⟨a, vs, ds, rfl, h1, dpa_mono p.sr.fh h2, hh.1, hh.2.1, hh.2.2.1, hh.2.2.2, fun z hz => q _ F _ (p.allocN hz) (VR.newAt p hz (sortZ h2))⟩
    · cases e2
  · cases e2
end EW

/-! EW 6: writes, statements, the call of a def. -/
namespace EW
open PySem PySem.Spec PyProof.Rows L2

def Cell.ob : Cell → Option Ob
  | .own o => some o
  | .par _ o => some o
  | .dat _ => none
def Cell.put : Cell → Ob → Cell
  | .own _, o => .own o
  | .par k _, o => .par k o
  | c, _ => c
theorem Cell.ob_holds {c : Cell} {o : Ob} (h : c.ob = some o) : c.holds = true := by cases c <;> first | rfl | cases h
theorem Cell.put_holds {c : Cell} {o : Ob} : (c.put o).holds = c.holds := by cases c <;> rfl
section
variable {B : Bs} {F F' H H' Fq Hq pre : Hp} {σ : St} {env env' envp : Env} {a p : Addr} {o : HO} {v w : V} {i j : Nat} {c c' : Cell} {ob ob' : Ob}
theorem CR.at (h : CR B F H v c) (e : c.ob = some ob) : ∃ a ho, v = .ref a ∧ F a = none ∧ H a = some ho ∧ ObR B.K F ob ho := by
  cases c with
  | dat d => cases e
  | own o => cases e; obtain ⟨a, ho, h1, h2, h3, h4, _⟩ := h; exact ⟨a, ho, h1, h2, h3, h4⟩
  | par k o => cases e; obtain ⟨a, ho, h1, h2, h3, h4, _⟩ := h; exact ⟨a, ho, h1, h2, h3, h4⟩
theorem CR.put (h : CR B F H (.ref a) c) (e : c.ob = some ob) {ho' : HO} (h1 : H' a = some ho') (h2 : ObR B.K F ob' ho') : CR B F H' (.ref a) (c.put ob') := by
  cases c with
  | dat d => cases e
  | own o => obtain ⟨a', ho, e1, g1, _, _, g4⟩ := h; cases e1; exact ⟨a, ho', rfl, g1, h1, h2, g4⟩
  | par k o => obtain ⟨a', ho, e1, g1, _, _, g4⟩ := h; cases e1; exact ⟨a, ho', rfl, g1, h1, h2, g4⟩
/-- the thing in slot i is written -/
theorem Post.write (q : Post B σ Fq Hq envp F H env) (he : env[i]? = some (some c)) (hv : σ[i]? = some (some (.ref a))) (hc : c.ob = some ob) (r : ObR B.K F ob' o) : Post B σ Fq Hq envp F (upd H a o) (env.set i (some (c.put ob'))) := by
  have hOA : OA σ env a := ⟨i, c, he, Cell.ob_holds hc, hv⟩
  have hq := q.sr.oa hOA
  have cr : CR B F H (.ref a) c := by
    obtain ⟨v, h1, h2⟩ := q.sr.sl i c he
    rw [hv] at h1; cases h1; exact h2
  have cr2 : CR B F (upd H a o) (.ref a) (c.put ob') := cr.put hc upd_same r
  have look : ∀ (j : Nat) (cj : Cell), (env.set i (some (c.put ob')))[j]? = some (some cj) → (j = i ∧ cj = c.put ob') ∨ (i ≠ j ∧ env[j]? = some (some cj)) := fun j cj e => by
    by_cases h : i = j
    · subst h; rw [set_get he] at e; cases e; exact .inl ⟨rfl, rfl⟩
    · rw [set_ne h] at e; exact .inr ⟨h, e⟩
  refine ⟨⟨by rw [List.length_set]; exact q.sr.len, q.sr.ff, q.sr.fh.upd hq.1, fun b u e n => ?_, fun k b hb => ?_, q.sr.new, fun j cj e => ?_, fun j k cj ck e1 e2 e3 e4 e5 => ?_⟩, q.ff, fun b u e n => ?_, fun b hb => ?_, q.nw, fun b z => ?_, fun j cj e => ?_⟩
  · have hb := q.sr.old b u e n
    by_cases z : b = a
    · subst z
      cases c with
      | dat d => cases hc
      | own o' => obtain ⟨a', _, e1, _, _, _, g⟩ := cr; cases e1; rw [g] at e; cases e
      | par k o' => obtain ⟨a', _, e1, _, _, _, g⟩ := cr; cases e1; exact absurd g (n k)
    · rw [upd_ne z]; exact hb
  · by_cases z : b = a
    · subst z; rw [upd_same]; simp
    · rw [upd_ne z]; exact q.sr.pt k b hb
  · rcases look j cj e with ⟨rfl, rfl⟩ | ⟨h, e⟩
    · exact ⟨_, hv, cr2⟩
    · obtain ⟨v, h1, h2⟩ := q.sr.sl j cj e
      refine ⟨v, h1, h2.mono (Ex.refl F) fun hh b eb => ⟨rfl, upd_ne fun z => h ?_⟩⟩
      subst z
      exact q.sr.ds i j c cj he e (Cell.ob_holds hc) hh (by rw [hv, h1, eb])
  · have g : ∀ (j : Nat) (cj : Cell), (env.set i (some (c.put ob')))[j]? = some (some cj) → cj.holds = true → ∃ cj', env[j]? = some (some cj') ∧ cj'.holds = true := fun j cj e h => by
      rcases look j cj e with ⟨rfl, rfl⟩ | ⟨_, e⟩
      · exact ⟨c, he, Cell.ob_holds hc⟩
      · exact ⟨cj, e, h⟩
    obtain ⟨c1, f1, f2⟩ := g j cj e1 e3
    obtain ⟨c2, f3, f4⟩ := g k ck e2 e4
    exact q.sr.ds j k c1 c2 f1 f3 f2 f4 e5
  · have : b ≠ a := fun z => n (q.oa b (z ▸ hOA))
    rw [upd_ne this]; exact q.hh b u e n
  · by_cases z : b = a
    · subst z; rw [upd_same]; simp
    · rw [upd_ne z]; exact q.kp b hb
  · obtain ⟨j, cj, e1, e2, e3⟩ := z
    rcases look j cj e1 with ⟨rfl, rfl⟩ | ⟨_, e⟩
    · exact q.oa b ⟨j, c, he, Cell.ob_holds hc, e3⟩
    · exact q.oa b ⟨j, cj, e, e2, e3⟩
  · obtain ⟨c1, h1⟩ := q.sm j cj e
    by_cases z : i = j
    · subst z; exact ⟨_, set_get h1⟩
    · exact ⟨c1, by rw [set_ne z]; exact h1⟩
/-- a value comes into slot i -/
theorem SR.store (s : SR B F H σ env) (hi : i < env.length) (cr : CR B F H v c) (fr : c.holds = true → ∀ a, v = .ref a → ∀ j cj, j ≠ i → env[j]? = some (some cj) → cj.holds = true → σ[j]? ≠ some (some (.ref a))) :
    SR B F H (σ.set i (some v)) (env.set i (some c)) := by
  have hi2 : i < σ.length := by rw [s.len]; exact hi
  have look : ∀ (j : Nat) (cj : Cell), (env.set i (some c))[j]? = some (some cj) → (j = i ∧ cj = c) ∨ (i ≠ j ∧ env[j]? = some (some cj)) := fun j cj e => by
    by_cases h : i = j
    · subst h; rw [List.getElem?_set_self hi] at e; cases e; exact .inl ⟨rfl, rfl⟩
    · rw [set_ne h] at e; exact .inr ⟨h, e⟩
  refine ⟨by rw [List.length_set, List.length_set]; exact s.len, s.ff, s.fh, s.old, s.pt, s.new, fun j cj e => ?_, fun j k cj ck e1 e2 e3 e4 e5 => ?_⟩
  · rcases look j cj e with ⟨rfl, rfl⟩ | ⟨h, e⟩
    · exact ⟨v, by rw [List.getElem?_set_self hi2], cr⟩
    · obtain ⟨w, h1, h2⟩ := s.sl j cj e
      exact ⟨w, by rw [List.getElem?_set_ne h]; exact h1, h2⟩
  · rcases look j cj e1 with ⟨rfl, rfl⟩ | ⟨h1, f1⟩
    · rcases look k ck e2 with ⟨rfl, rfl⟩ | ⟨h2, f2⟩
      · rfl
      · exfalso
        obtain ⟨a, ea, _⟩ := cr.there e3
        rw [List.getElem?_set_self hi2, List.getElem?_set_ne h2] at e5
        exact fr e3 a ea k ck (fun z => h2 z.symm) f2 e4 (by rw [← e5, ea])
    · rcases look k ck e2 with ⟨rfl, rfl⟩ | ⟨h2, f2⟩
      · exfalso
        obtain ⟨a, ea, _⟩ := cr.there e4
        rw [List.getElem?_set_self hi2, List.getElem?_set_ne h1] at e5
        exact fr e4 a ea j cj (fun z => h1 z.symm) f1 e3 (by rw [e5, ea])
      · rw [List.getElem?_set_ne h1, List.getElem?_set_ne h2] at e5
        exact s.ds j k cj ck f1 f2 e3 e4 e5
theorem SR.storeD (s : SR B F H σ env) (hi : i < env.length) {d : D} (h : Dp B.K F v d) : SR B F H (σ.set i (some v)) (env.set i (some (.dat d))) := s.store hi (c := .dat d) h fun z => by cases z
theorem SR.storeN (s : SR B F H σ env) (hi : i < env.length) (h : VR B σ pre F H env v (.new ob)) : SR B F H (σ.set i (some v)) (env.set i (some (.own ob))) := by
  obtain ⟨p, ho, rfl, h1, h2, h3, h4, h5, h6⟩ := h
  refine s.store hi (c := .own ob) ⟨p, ho, rfl, h1, h2, h3, h6⟩ fun _ a ea j cj _ e1 e2 e3 => h5 ?_
  cases ea
  exact ⟨j, cj, e1, e2, e3⟩
end

/-! ### statements -/
inductive Out where
  | nx (env : Env)
  | rt (v : Val) (env : Env)
  | bk (env : Env)
  | ct (env : Env)
abbrev DS := Env → Option Out
/-- what a statement's outcome lets one conclude -/
def OutQ (B : Bs) (F : Hp) (D : Ends) : Out → Prop
  | .nx env' => ∀ σ' F' H', SR B F' H' σ' env' → Ex F F' → D.nx σ' H'
  | .rt val env' => ∀ v σ' F' H' pre, SR B F' H' σ' env' → VR B σ' pre F' H' env' v val → D.rt v H'
  | .bk env' => ∀ σ' F' H', SR B F' H' σ' env' → Ex F F' → D.bk σ' H'
  | .ct env' => ∀ σ' F' H', SR B F' H' σ' env' → Ex F F' → D.ct σ' H'
theorem OutQ.up {B : Bs} {F F1 : Hp} {D : Ends} {o : Out} (q : OutQ B F D o) (x : Ex F F1) : OutQ B F1 D o := by
  cases o with
  | nx e => exact fun σ' F' H' s y => q σ' F' H' s (x.trans y)
  | rt v e => exact q
  | bk e => exact fun σ' F' H' s y => q σ' F' H' s (x.trans y)
  | ct e => exact fun σ' F' H' s y => q σ' F' H' s (x.trans y)
def rdS (K : PySem.W.Frag) (f : DS) : TS := fun D σ H => ∃ (B : Bs) (F : Hp) (env : Env) (out : Out), B.K = K ∧ SR B F H σ env ∧ f env = some out ∧ OutQ B F D out
abbrev JS (X : Cx) (st : Stmt) (f : DS) : Prop := PS X st (rdS X.K f)
abbrev JSs (X : Cx) (st : List Stmt) (f : DS) : Prop := PSs X st (rdS X.K f)
theorem PS.imp {X : Cx} {st : Stmt} {t t' : TS} (h : PS X st t) (i : ∀ D σ H, t' D σ H → t D σ H) : PS X st t' := ⟨fun pins s σ H D I q => h.run pins s σ H D I (i D σ H q)⟩
theorem PSs.imp {X : Cx} {st : List Stmt} {t t' : TS} (h : PSs X st t) (i : ∀ D σ H, t' D σ H → t D σ H) : PSs X st t' := ⟨fun pins s σ H D I q => h.run pins s σ H D I (i D σ H q)⟩
def sNx : DS := fun env => some (.nx env)
def sSeq (f g : DS) : DS := fun env => (f env).bind fun o => match o with
  | .nx e => g e
  | o => some o
def sRet (f : DE) : DS := fun env => (f env).map fun r => .rt r.1 r.2
def sRetN : DS := fun env => some (.rt (.dat .none) env)
def sIf (c : DT) (f g : DS) : DS := fun env => (c env).bind fun r => if r.1 = true then f r.2 else g r.2
def sBk : DS := fun env => some (.bk env)
def sCt : DS := fun env => some (.ct env)
def sNo : DS := fun _ => none
def sEx (f : DE) : DS := fun env => (f env).map fun r => .nx r.2
section
variable {X : Cx} {st : Stmt} {rest : List Stmt} {f g : DS} {e : Expr} {fe : DE} {pos : Pos}
theorem js_nil : JSs X [] sNx := PSs.imp pss_nil fun D σ H ⟨B, F, env, out, hK, s, e, q⟩ => by
  cases e
  exact q σ F H s (Ex.refl F)
theorem js_seq (h1 : JS X st f) (h2 : JSs X rest g) : JSs X (st :: rest) (sSeq f g) := PSs.imp (pss_cons h1 h2) fun D σ H ⟨B, F, env, out, hK, s, e, q⟩ => by
  simp only [sSeq, Option.bind_eq_some_iff] at e
  obtain ⟨o1, e1, e2⟩ := e
  refine ⟨B, F, env, o1, hK, s, e1, ?_⟩
  cases o1 with
  | nx env1 => exact fun σ' F' H' s' x => ⟨B, F', env1, out, hK, s', e2, q.up x⟩
  | rt v env1 => cases e2; exact q
  | bk env1 => cases e2; exact q
  | ct env1 => cases e2; exact q
theorem js_one (h1 : JS X st f) : JSs X [st] f := PSs.imp (pss_one h1) fun D σ H h => h
theorem js_pass : JS X (.Pass pos) sNx := PS.imp ps_pass fun D σ H ⟨B, F, env, out, hK, s, e, q⟩ => by
  cases e
  exact q σ F H s (Ex.refl F)
theorem js_bk : JS X (.Break pos) sBk := PS.imp ps_break fun D σ H ⟨B, F, env, out, hK, s, e, q⟩ => by
  cases e
  exact q σ F H s (Ex.refl F)
theorem js_ct : JS X (.Continue pos) sCt := PS.imp ps_continue fun D σ H ⟨B, F, env, out, hK, s, e, q⟩ => by
  cases e
  exact q σ F H s (Ex.refl F)
theorem js_no : JS X st sNo := ⟨fun _ _ _ _ _ _ h => by obtain ⟨B, F, env, out, hK, s, e, q⟩ := h; cases e⟩
theorem jss_no : JSs X rest sNo := ⟨fun _ _ _ _ _ _ h => by obtain ⟨B, F, env, out, hK, s, e, q⟩ := h; cases e⟩
theorem js_ret (h : JE X e fe) : JS X (.Return (some e) pos) (sRet fe) := PS.imp (ps_ret h) fun D σ H ⟨B, F, env, out, hK, s, e, q⟩ => by
  simp only [sRet, Option.map_eq_some_iff] at e
  obtain ⟨⟨x, env1⟩, e1, e2⟩ := e
  subst e2
  exact ⟨B, F, env, x, env1, hK, s, e1, fun v F1 H1 p1 r1 => q v σ F1 H1 H p1.sr r1⟩
theorem js_retN : JS X (.Return none pos) sRetN := PS.imp ps_retN fun D σ H ⟨B, F, env, out, hK, s, e, q⟩ => by
  cases e
  exact q .non σ F H H s .non
theorem js_if {c : Expr} {a b : List Stmt} {tc : DT} (hc : JT X c tc) (ha : JSs X a f) (hb : JSs X b g) : JS X (.If c a b pos) (sIf tc f g) := PS.imp (ps_if hc ha hb) fun D σ H ⟨B, F, env, out, hK, s, e, q⟩ => by
  simp only [sIf, Option.bind_eq_some_iff] at e
  obtain ⟨⟨x, env1⟩, e1, e2⟩ := e
  refine ⟨B, F, env, x, env1, hK, s, e1, fun F1 H1 p1 => ?_⟩
  cases x with
  | true => exact ⟨B, F1, env1, out, hK, p1.sr, e2, q.up p1.ff⟩
  | false => exact ⟨B, F1, env1, out, hK, p1.sr, e2, q.up p1.ff⟩
theorem js_ex (h : JE X e fe) (hs : swapsWith e none pos.line X.env = pure false := by rfl) : JS X (.Expr e pos) (sEx fe) := PS.imp (ps_expr h hs) fun D σ H ⟨B, F, env, out, hK, s, e, q⟩ => by
  simp only [sEx, Option.map_eq_some_iff] at e
  obtain ⟨⟨x, env1⟩, e1, e2⟩ := e
  subst e2
  exact ⟨B, F, env, x, env1, hK, s, e1, fun v F1 H1 p1 r1 => q σ F1 H1 p1.sr p1.ff⟩
end

/-! ### targets -/
abbrev DG := Val → Env → Option Env
abbrev DGs := List D → Env → Option Env
def rdG (K : PySem.W.Frag) (g : DG) : TG := fun v σ H Q => ∃ (B : Bs) (F pre : Hp) (env : Env) (val : Val) (env' : Env), B.K = K ∧ SR B F H σ env ∧ (∀ p, pre p = none → B.H0 p = none) ∧ VR B σ pre F H env v val ∧ g val env = some env' ∧ ∀ σ' F' H', SR B F' H' σ' env' → Ex F F' → Q σ' H'
def rdGs (K : PySem.W.Frag) (g : DGs) : TGs := fun vs σ H Q => ∃ (B : Bs) (F : Hp) (env : Env) (ds : List D) (env' : Env), B.K = K ∧ SR B F H σ env ∧ DpAll K F vs ds ∧ g ds env = some env' ∧ ∀ σ' F' H', SR B F' H' σ' env' → Ex F F' → Q σ' H'
abbrev JG (X : Cx) (e : Expr) (g : DG) : Prop := PG X e (rdG X.K g)
abbrev JGs (X : Cx) (es : List Expr) (g : DGs) : Prop := PGs X es (rdGs X.K g)
theorem PG.imp {X : Cx} {e : Expr} {t t' : TG} (h : PG X e t) (i : ∀ v σ H Q, t' v σ H Q → t v σ H Q) : PG X e t' := ⟨fun pins s σ H v u Q I r q => h.run pins s σ H v u Q I r (i v σ H Q q)⟩
theorem PGs.imp {X : Cx} {e : List Expr} {t t' : TGs} (h : PGs X e t) (i : ∀ v σ H Q, t' v σ H Q → t v σ H Q) : PGs X e t' := ⟨fun pins s σ H v u Q I r q => h.run pins s σ H v u Q I r (i v σ H Q q)⟩
/-- how a value comes into a slot: frozen, or as a thing of one's own -/
def inSlot (own : Bool) (x : Val) (env : Env) : Option (Cell × Env) := if own = true then match x with
  | .new ob => some (.own ob, env)
  | _ => none
  else (x.frz env).map fun r => (.dat r.1, r.2)
def gNm (own : Bool) (i : Nat) : DG := fun x env => (inSlot own x env).bind fun r => if i < r.2.length then some (r.2.set i (some r.1)) else none
theorem store_in {B : Bs} {F H pre : Hp} {σ : St} {env env1 : Env} {v : V} {x : Val} {own : Bool} {i : Nat} {c : Cell} (s : SR B F H σ env) (hp : ∀ p, pre p = none → B.H0 p = none) (r : VR B σ pre F H env v x) (e : inSlot own x env = some (c, env1)) (hi : i < env1.length) :
    ∃ F', SR B F' H (σ.set i (some v)) (env1.set i (some c)) ∧ Ex F F' := by
  unfold inSlot at e
  split at e
  · cases x with
    | new ob => cases e; exact ⟨F, s.storeN hi r, Ex.refl F⟩
    | dat d => cases e
    | slot j => cases e
  · simp only [Option.map_eq_some_iff] at e
    obtain ⟨⟨d, env2⟩, e1, e2⟩ := e
    cases e2
    have rr : VR B σ H F H env v x ∨ ∃ ob, x = .new ob := by
      cases x with
      | new ob => exact .inr ⟨ob, rfl⟩
      | dat d => exact .inl r
      | slot j => exact .inl r
    rcases rr with rr | ⟨ob, rfl⟩
    · obtain ⟨F', p, hd, x1, _⟩ := frz_post (.refl s) rr e1
      exact ⟨F', p.sr.storeD hi hd, x1⟩
    · cases ob with
      | d kvs => cases e1
      | l ds =>
        cases e1
        obtain ⟨p, ho, rfl, h1, h2, h3, h4, h5, h6⟩ := r
        cases ho <;> first | exact h3.elim | skip
        rename_i xs
        exact ⟨upd F p (.lst xs), (s.freeze h1 h2 h6 h5).storeD hi (.lst (SqL.of upd_same) (dpa_mono (Ex.new h1) h3)), Ex.new h1⟩
section
variable {X : Cx} {pos : Pos}
theorem jg_nm (own : Bool) {i : Nat} {x : Str} (hN : X.N.Nodup) (hi : X.N[i]? = some x := by rfl) (hx : Loc X.env.scope x := by first | exact Or.inl rfl | exact Or.inr rfl) (hf : X.fn x = true ∨ X.env.scope.names.lookup x = some .local := by first | exact .inl rfl | exact .inr rfl) : JG X (.Name x pos) (gNm own i) :=
  PG.imp (pg_name hN hi hx hf) fun v σ H Q ⟨B, F, pre, env, val, env', hK, s, hp, r, e, q⟩ => by
    simp only [gNm, Option.bind_eq_some_iff] at e
    obtain ⟨⟨c, env1⟩, e1, e2⟩ := e
    split at e2
    · rename_i hl
      cases e2
      obtain ⟨F', s', x1⟩ := store_in s hp r e1 hl
      exact q _ F' H s' x1
    · cases e2
def gsNil : DGs := fun ds env => if ds = [] then some env else none
def gsCons (g : DG) (h : DGs) : DGs := fun ds env => match ds with
  | d :: ds => (g (.dat d) env).bind fun env1 => h ds env1
  | _ => none
theorem jgs_nil : JGs X [] gsNil := PGs.imp pgs_nil fun vs σ H Q ⟨B, F, env, ds, env', hK, s, ha, e, q⟩ => by
  unfold gsNil at e
  split at e
  · rename_i h
    subst h
    cases e
    cases ha
    exact ⟨rfl, q σ F H s (Ex.refl F)⟩
  · cases e
theorem jgs_cons {e : Expr} {es : List Expr} {g : DG} {h : DGs} (h1 : JG X e g) (h2 : JGs X es h) (hs : (assignEach (e :: es) X.env).map (·.2) = assign e X.env :: (assignEach es X.env).map (·.2) := by rfl) : JGs X (e :: es) (gsCons g h) :=
  PGs.imp (pgs_cons h1 h2 hs) fun vs σ H Q ⟨B, F, env, ds, env', hK, s, ha, e, q⟩ => by
    unfold gsCons at e
    cases ha with
    | nil => cases e
    | cons hd ht =>
      simp only [Option.bind_eq_some_iff] at e
      obtain ⟨env1, e1, e2⟩ := e
      refine ⟨_, _, rfl, B, F, H, env, .dat _, env1, hK, s, fun p hp => s.h0 hp, by show Dp B.K F _ _; rw [hK]; exact hd, e1, fun σ1 F1 H1 s1 x1 => ?_⟩
      exact ⟨B, F1, env1, _, env', hK, s1, dpa_mono x1 ht, e2, fun σ2 F2 H2 s2 x2 => q σ2 F2 H2 s2 (x1.trans x2)⟩
def gTp (n : Nat) (g : DGs) : DG := fun x env => match x.rd env with
  | some (.tuple ds) => if ds.length = n then g ds env else none
  | _ => none
theorem jg_tup {es : List Expr} {k : Nat} {g : DGs} {n : Nat} (hc : X.calm = true) (h : JGs X es g) (hn : (assignEach es X.env).length = n := by rfl) (hst : (assignEach es X.env).findIdx? (·.1) = none := by rfl) : JG X (.Tuple es k pos) (gTp n g) :=
  PG.imp (pg_tup hc h hn hst) fun v σ H Q ⟨B, F, pre, env, val, env', hK, s, hp, r, e, q⟩ => by
    unfold gTp at e
    split at e
    · rename_i ds e1
      split at e
      · rename_i hl
        obtain ⟨a, vs, rfl, h1, h2⟩ := r.rdT s e1
        rw [hK] at h1 h2
        exact ⟨a, vs, rfl, h1, by rw [dpa_length h2]; exact hl, B, F, env, ds, env', hK, s, h2, e, q⟩
      · cases e
    · cases e
/-- o[i] = .. , o a list in a slot -/
def gIx (fo fi : DE) : DG := fun x env => (fo env).bind fun r => (fi r.2).bind fun q => (x.frz q.2).bind fun z => match r.1, q.1.rd q.2 with
  | .slot i, some (.int k) => match z.2[i]? with
    | some (some c) => match c.ob with
      | some (.l ds) => (ixN ds.length k).map fun j => z.2.set i (some (c.put (.l (ds.set j z.1))))
      | _ => none
    | _ => none
  | _, _ => none
theorem jg_ix {o i : Expr} {fo fi : DE} (ho : JE X o fo) (hi : JE X i fi) (ha : ∀ v, assign (.Subscript o i pos) X.env v = (do
      let ov ← holding [v] (eval o X.env)
      let iv ← holding [v, ov] (eval i X.env)
      standAt pos
      holding [v, ov, iv] (setItem ov iv v)
      release [v, ov, iv] []) := by intro _; rfl) : JG X (.Subscript o i pos) (gIx fo fi) :=
  PG.imp (pg_sub ho hi set_list ha) fun v σ H Q ⟨B, F, pre, env, val, env', hK, s, hp, r, e, q⟩ => by
    simp only [gIx, Option.bind_eq_some_iff] at e
    obtain ⟨⟨x, env1⟩, e1, ⟨y, env2⟩, e2, ⟨d, env3⟩, e3, e4⟩ := e
    refine ⟨B, F, env, x, env1, hK, s, e1, fun u F1 H1 p1 r1 => ⟨B, F1, env1, y, env2, hK, p1.sr, e2, fun w F2 H2 p2 r2 => ?_⟩⟩
    have p12 := p1.trans p2
    have rv : VR B σ (fun p => if B.H0 p = none then none else some (.lst [])) F2 H2 env2 v val := (VR.step (VR.ahead r (fun p hp' => by simp [hp p hp'])) p12)
    have rx := r1.step p2
    split at e4
    · rename_i x0 y0 j k ej e5
      simp only at ej
      subst ej
      split at e4
      · rename_i c ec
        split at e4
        · rename_i ds eo
          simp only [Option.map_eq_some_iff] at e4
          obtain ⟨jj, e6, e7⟩ := e4
          subst e7
          -- the value stands still
          have fz : ∃ F3, SR B F3 H2 σ env3 ∧ Dp B.K F3 v d ∧ Ex F2 F3 := by
            cases val with
            | new ob =>
              cases ob with
              | d kvs => cases e3
              | l zs =>
                cases e3
                obtain ⟨p, ho, rfl, h1, h2, h3, h4, h5, h6⟩ := rv
                cases ho <;> first | exact h3.elim | skip
                rename_i xs
                exact ⟨upd F2 p (.lst xs), p2.sr.freeze h1 h2 h6 h5, .lst (SqL.of upd_same) (dpa_mono (Ex.new h1) h3), Ex.new h1⟩
            | dat d' => cases e3; exact ⟨F2, p2.sr, rv, Ex.refl F2⟩
            | slot jx =>
              obtain ⟨F3, q3, hd, x3, _⟩ := frz_post (.refl p2.sr) (show VR B σ H2 F2 H2 env2 v (.slot jx) from rv) e3
              exact ⟨F3, q3.sr, hd, x3⟩
          obtain ⟨F3, s3, hd, x3⟩ := fz
          have hs : σ[j]? = some (some u) := rx.1
          obtain ⟨u', hu', cr⟩ := s3.sl j c ec
          rw [hs] at hu'
          cases hu'
          obtain ⟨a, ho, rfl, g1, g2, g3⟩ := cr.at eo
          cases ho <;> first | exact g3.elim | skip
          rename_i xs
          have g3' : DpAll B.K F3 xs ds := g3
          refine ⟨a, xs, k, jj, rfl, r2.rdI p2.sr e5, g2, by rw [dpa_length g3']; exact e6, ?_⟩
          refine q σ F3 _ ((Post.refl s3).write (ob' := .l (ds.set jj d)) (o := .lst (xs.set jj v)) ec hs eo (dpa_set jj g3' hd)).sr ?_
          exact (p1.ff.trans p2.ff).trans x3
        · cases e4
      · cases e4
    · cases e4
/-- target = value -/
def sAs (f : DE) (g : DG) : DS := fun env => (f env).bind fun r => (g r.1 r.2).map .nx
theorem js_as {tg e : Expr} {f : DE} {g : DG} (he : JE X e f) (hg : JG X tg g) (hs : swapsWithSole [tg] e pos.line X.env = pure false := by rfl) (hw : swappedStores [tg] e X.env = pure none := by rfl)
    (h1 : (assignEach [tg] X.env).map (·.2) = [assign tg X.env] := by rfl) : JS X (.Assign [tg] e pos) (sAs f g) :=
  PS.imp (ps_asg he hg hs hw h1) fun D σ H ⟨B, F, env, out, hK, s, e, q⟩ => by
    simp only [sAs, Option.bind_eq_some_iff, Option.map_eq_some_iff] at e
    obtain ⟨⟨x, env1⟩, e1, env2, e2, rfl⟩ := e
    exact ⟨B, F, env, x, env1, hK, s, e1, fun v F1 H1 p1 r1 => ⟨B, F1, H, env1, x, env2, hK, p1.sr, fun p hp => s.h0 hp, r1, e2, fun σ' F' H' s' x => q σ' F' H' s' (p1.ff.trans x)⟩⟩
theorem js_set {x : Str} {i : Nat} {e : Expr} {f : DE} {pos' : Pos} (own : Bool) (he : JE X e f) (hN : X.N.Nodup) (hi : X.N[i]? = some x := by rfl) (hx : Loc X.env.scope x := by first | exact Or.inl rfl | exact Or.inr rfl) (hs : swapsWith e (some (.Name x pos')) pos.line X.env = pure false := by rfl)
    (hf : X.fn x = true ∨ X.env.scope.names.lookup x = some .local := by first | exact .inl rfl | exact .inr rfl) : JS X (.Assign [.Name x pos'] e pos) (sAs f (gNm own i)) :=
  PS.imp (ps_set hN hi hx he hs hf) fun D σ H ⟨B, F, env, out, hK, s, e, q⟩ => by
    simp only [sAs, gNm, Option.bind_eq_some_iff, Option.map_eq_some_iff] at e
    obtain ⟨⟨y, env1⟩, e1, env2, ⟨⟨c, env3⟩, e2, e3⟩, rfl⟩ := e
    refine ⟨B, F, env, y, env1, hK, s, e1, fun v F1 H1 p1 r1 => ?_⟩
    split at e3
    · rename_i hl
      cases e3
      obtain ⟨F', s', x⟩ := store_in p1.sr (fun p hp => s.h0 hp) r1 e2 hl
      exact q _ F' H1 s' (p1.ff.trans x)
    · cases e3
end
/-! several values at once into names -/
def inSlots : List Bool → List Val → Env → Option (List Cell × Env)
  | [], [], env => some ([], env)
  | o :: os, x :: xs, env => (inSlot o x env).bind fun a => (inSlots os xs a.2).bind fun b => some (a.1 :: b.1, b.2)
  | _, _, _ => none
def cv : Cell → Val
  | .dat d => .dat d
  | .own ob => .new ob
  | .par _ ob => .new ob
theorem prep1 {B : Bs} {σ : St} {Fq Hq F H : Hp} {envp env env' : Env} {v : V} {x : Val} {o : Bool} {c : Cell} (q : Post B σ Fq Hq envp F H env) (h : VR B σ Hq F H env v x) (e : inSlot o x env = some (c, env')) :
    ∃ F', Post B σ Fq Hq envp F' H env' ∧ VR B σ Hq F' H env' v (cv c) ∧ Ex F F' ∧ ((∃ k ob, c = .par k ob) → False) ∧ (∀ ob, c = .own ob → x = .new ob) ∧
      ∀ w y, VR B σ Hq F H env w y → (∀ o o', x = .new o → y = .new o' → v ≠ w) → VR B σ Hq F' H env' w y := by
  unfold inSlot at e
  split at e
  · cases x with
    | new ob => cases e; exact ⟨F, q, h, Ex.refl F, (fun ⟨_, _, z⟩ => by cases z), (fun ob z => by cases z; rfl), fun _ _ z _ => z⟩
    | dat d => cases e
    | slot j => cases e
  · simp only [Option.map_eq_some_iff] at e
    obtain ⟨⟨d, env2⟩, e1, e2⟩ := e
    cases e2
    obtain ⟨F', p, hd, x1, tr⟩ := frz_post q h e1
    exact ⟨F', p, hd, x1, (fun ⟨_, _, z⟩ => by cases z), (fun ob z => by cases z), tr⟩
theorem preps {B : Bs} {σ : St} {Fq Hq H : Hp} {envp : Env} : ∀ (xs : List Val) {os : List Bool} {vs : List V} {F : Hp} {env env' : Env} {cs : List Cell}, Post B σ Fq Hq envp F H env → VRs B σ Hq F H env vs xs → inSlots os xs env = some (cs, env') →
    ∃ F', Post B σ Fq Hq envp F' H env' ∧ VRs B σ Hq F' H env' vs (cs.map cv) ∧ Ex F F' ∧ (∀ (k : Nat) (ob : Ob), (cs.map cv)[k]? = some (.new ob) → xs[k]? = some (.new ob)) ∧ (∀ c ∈ cs, (∃ k ob, c = .par k ob) → False) ∧
      ∀ w y, VR B σ Hq F H env w y → (∀ (k : Nat) (u : V) (o o' : Ob), vs[k]? = some u → xs[k]? = some (.new o) → y = .new o' → u ≠ w) → VR B σ Hq F' H env' w y := by
  intro xs
  induction xs with
  | nil =>
    intro os vs F env env' cs q h e
    cases h
    cases os with
    | nil => cases e; exact ⟨F, q, .nil, Ex.refl F, (fun k ob z => by simp at z), (fun c z => by simp at z), fun _ _ z _ => z⟩
    | cons _ _ => cases e
  | cons x xs ih =>
    intro os vs F env env' cs q h e
    cases os with
    | nil => cases e
    | cons o os =>
      cases h with
      | @cons v _ vs _ h dd hs =>
        simp only [inSlots, Option.bind_eq_some_iff] at e
        obtain ⟨⟨c, env1⟩, e1, ⟨cs1, env2⟩, e2, e3⟩ := e
        cases e3
        obtain ⟨F1, q1, hv, x1, np, ow, tr⟩ := prep1 q h e1
        obtain ⟨F2, q2, hvs, x2, nx, np2, tr2⟩ := ih q1 (hs.tr tr dd) e2
        have kn : ∀ ob, cv c = .new ob → x = .new ob := fun ob z => by
          cases c with
          | dat d => cases z
          | own ob' => cases z; exact ow _ rfl
          | par k ob' => exact (np ⟨_, _, rfl⟩).elim
        refine ⟨F2, q2, .cons (tr2 v (cv c) hv fun k u o o' a b e => (dd k u o' o a b (kn _ e)).symm) (fun k w o o' a b e => dd k w o o' a (nx k o' b) (kn _ e)) hvs, x1.trans x2, fun k ob z => ?_, fun c' hc' => ?_, fun w y hw dn => ?_⟩
        · cases k with
          | zero => simp at z; simp [kn ob z]
          | succ k => simpa using nx k ob (by simpa using z)
        · rcases List.mem_cons.mp hc' with e | e
          · subst e; exact np
          · exact np2 c' e
        · refine tr2 w y (tr w y hw fun o o' a b => dn 0 v o o' rfl (by rw [a]; rfl) b) fun k u o o' a b e => dn (k + 1) u o o' (by simpa using a) (by simpa using b) e
def putsE : List Nat → List Cell → Env → Env
  | i :: is, c :: cs, env => putsE is cs (env.set i (some c))
  | _, _, env => env
def putsS : List Nat → List V → St → St
  | i :: is, v :: vs, σ => putsS is vs (σ.set i (some v))
  | _, _, σ => σ
theorem stores {B : Bs} {F H pre : Hp} : ∀ (cs : List Cell) {is : List Nat} {vs : List V} {σ : St} {env : Env}, SR B F H σ env → VRs B σ pre F H env vs (cs.map cv) → (∀ c ∈ cs, (∃ k ob, c = .par k ob) → False) → (∀ i ∈ is, i < env.length) → is.length = cs.length →
    SR B F H (putsS is vs σ) (putsE is cs env) := by
  intro cs
  induction cs with
  | nil =>
    intro is vs σ env s h _ _ _
    cases h
    cases is <;> exact s
  | cons c cs ih =>
    intro is vs σ env s h np hi hl
    cases is with
    | nil => simp at hl
    | cons i is =>
      cases h with
      | @cons v _ vs _ h dd hs =>
        have hi0 := hi i List.mem_cons_self
        have s1 : SR B F H (σ.set i (some v)) (env.set i (some c)) := by
          cases c with
          | dat d => exact s.storeD hi0 h
          | own ob => exact s.storeN hi0 h
          | par k ob => exact (np _ List.mem_cons_self ⟨_, _, rfl⟩).elim
        refine ih s1 ?_ (fun c hc => np c (List.mem_cons_of_mem _ hc)) (fun j hj => by rw [List.length_set]; exact hi j (List.mem_cons_of_mem _ hj)) (by simpa using hl)
        -- the rest are still fresh
        have hol : ∀ p, OA (σ.set i (some v)) (env.set i (some c)) p → OA σ env p ∨ (c.holds = true ∧ v = .ref p) := fun p ⟨j, cj, e1, e2, e3⟩ => by
          by_cases z : i = j
          · subst z
            rw [List.getElem?_set_self hi0] at e1
            rw [List.getElem?_set_self (by rw [s.len]; exact hi0)] at e3
            cases e1; cases e3
            exact .inr ⟨e2, rfl⟩
          · rw [set_ne z] at e1
            rw [List.getElem?_set_ne z] at e3
            exact .inl ⟨j, cj, e1, e2, e3⟩
        have np' : ∀ c' ∈ cs, (∃ k ob, c' = .par k ob) → False := fun c' hc' => np c' (List.mem_cons_of_mem _ hc')
        clear ih hl hi
        have go : ∀ {ws : List V} {ds : List Cell}, VRs B σ pre F H env ws (ds.map cv) → (∀ c' ∈ ds, (∃ k ob, c' = .par k ob) → False) → Ds v (cv c) ws (ds.map cv) → VRs B (σ.set i (some v)) pre F H (env.set i (some c)) ws (ds.map cv) := by
          intro ws ds
          induction ds generalizing ws with
          | nil => intro h _ _; cases h; exact .nil
          | cons d ds ih2 =>
            intro h nd dd
            cases h with
            | @cons w _ ws _ h d2 hs =>
              refine .cons ?_ d2 (ih2 hs (fun c' hc' => nd c' (List.mem_cons_of_mem _ hc')) fun k u o o' a b e => dd (k + 1) u o o' (by simpa using a) (by simpa using b) e)
              cases d with
              | dat d' => exact h
              | par k ob => exact (nd _ List.mem_cons_self ⟨_, _, rfl⟩).elim
              | own ob =>
                obtain ⟨p, ho, rfl, h1, h2, h3, h4, h5, h6⟩ := h
                refine ⟨p, ho, rfl, h1, h2, h3, h4, fun z => ?_, h6⟩
                rcases hol p z with z | ⟨z1, z2⟩
                · exact h5 z
                · cases c with
                  | dat _ => cases z1
                  | own ob' => exact dd 0 (.ref p) ob' ob rfl rfl rfl z2
                  | par k' ob' => exact (np _ List.mem_cons_self ⟨_, _, rfl⟩).elim
        exact go hs np' dd
def sPar (is : List Nat) (os : List Bool) (g : DA) : DS := fun env => (g env).bind fun r => (inSlots os r.1 r.2).bind fun a => if (∀ i ∈ is, i < a.2.length) ∧ is.length = a.1.length then some (.nx (putsE is a.1 a.2)) else none
theorem inSlots_length : ∀ {os : List Bool} {xs : List Val} {env env' : Env} {cs : List Cell}, inSlots os xs env = some (cs, env') → cs.length = xs.length
  | [], [], _, _, _, e => by cases e; rfl
  | [], _ :: _, _, _, _, e => by cases e
  | _ :: _, [], _, _, _, e => by cases e
  | o :: os, x :: xs, env, env', cs, e => by
    simp only [inSlots, Option.bind_eq_some_iff] at e
    obtain ⟨⟨c, env1⟩, e1, ⟨cs1, env2⟩, e2, e3⟩ := e
    cases e3
    exact congrArg Nat.succ (inSlots_length e2)
theorem par_sr {B : Bs} {F H F1 H1 : Hp} {σ : St} {env env1 env2 : Env} {is : List Nat} {os : List Bool} {vs : List V} {xs : List Val} {cs : List Cell} (p1 : Post B σ F H env F1 H1 env1) (r1 : VRs B σ H F1 H1 env1 vs xs) (e : inSlots os xs env1 = some (cs, env2))
    (hi : ∀ i ∈ is, i < env2.length) (hl : is.length = cs.length) : ∃ F', SR B F' H1 (putsS is vs σ) (putsE is cs env2) ∧ Ex F F' := by
  obtain ⟨F', q, h, _, _, np, _⟩ := preps xs p1 r1 e
  exact ⟨F', stores cs q.sr h np hi hl, q.ff⟩
section
variable {X : Cx} {g : DA} {pos : Pos}
theorem js_par2 {i j : Nat} {x y : Str} {a b : Expr} {px py pt : Pos} {kt k2 pt2} (oi oj : Bool) (hc : X.calm = true) (hN : X.N.Nodup) (ha : JA X [a, b] g) (hi : X.N[i]? = some x := by rfl) (hj : X.N[j]? = some y := by rfl) (hij : i ≠ j := by decide)
    (hx : X.env.scope.names.lookup x = some .local := by rfl) (hy : X.env.scope.names.lookup y = some .local := by rfl)
    (hw : swappedStores [.Tuple [.Name x px, .Name y py] kt pt] (.Tuple [a, b] k2 pt2) X.env = pure (some [x, y]) := by rfl)
    (hs : swapsWithSole [.Tuple [.Name x px, .Name y py] kt pt] (.Tuple [a, b] k2 pt2) pos.line X.env = pure false := by rfl) :
    JS X (.Assign [.Tuple [.Name x px, .Name y py] kt pt] (.Tuple [a, b] k2 pt2) pos) (sPar [i, j] [oi, oj] g) :=
  PS.imp (ps_par hc hN hi hj hij hx hy ha hw hs) fun D σ H ⟨B, F, env, out, hK, s, e, q⟩ => by
    simp only [sPar, Option.bind_eq_some_iff] at e
    obtain ⟨⟨xs, env1⟩, e1, ⟨cs, env2⟩, e2, e3⟩ := e
    split at e3
    · rename_i hh
      cases e3
      refine ⟨B, F, env, xs, env1, hK, s, e1, fun vs F1 H1 p1 r1 => ?_⟩
      obtain ⟨F', s', x'⟩ := par_sr p1 r1 e2 hh.1 hh.2
      have hl := r1.length
      rw [← inSlots_length e2, ← hh.2] at hl
      match vs, hl with
      | [v, w], _ => exact ⟨v, w, rfl, q _ F' H1 s' x'⟩
    · cases e3
theorem js_par3 {i j l : Nat} {x y z : Str} {a b c : Expr} {px py pz pt : Pos} {kt k2 pt2} (oi oj ol : Bool) (hc : X.calm = true) (hN : X.N.Nodup) (ha : JA X [a, b, c] g) (hi : X.N[i]? = some x := by rfl) (hj : X.N[j]? = some y := by rfl) (hl : X.N[l]? = some z := by rfl) (hij : i ≠ j := by decide) (hil : i ≠ l := by decide) (hjl : j ≠ l := by decide)
    (hx : X.env.scope.names.lookup x = some .local := by rfl) (hy : X.env.scope.names.lookup y = some .local := by rfl) (hz : X.env.scope.names.lookup z = some .local := by rfl)
    (hw : swappedStores [.Tuple [.Name x px, .Name y py, .Name z pz] kt pt] (.Tuple [a, b, c] k2 pt2) X.env = pure (some [x, y, z]) := by rfl)
    (hs : swapsWithSole [.Tuple [.Name x px, .Name y py, .Name z pz] kt pt] (.Tuple [a, b, c] k2 pt2) pos.line X.env = pure false := by rfl) :
    JS X (.Assign [.Tuple [.Name x px, .Name y py, .Name z pz] kt pt] (.Tuple [a, b, c] k2 pt2) pos) (sPar [i, j, l] [oi, oj, ol] g) :=
  PS.imp (ps_par3 hc hN hi hj hl hij hil hjl hx hy hz ha hw hs) fun D σ H ⟨B, F, env, out, hK, s, e, q⟩ => by
    simp only [sPar, Option.bind_eq_some_iff] at e
    obtain ⟨⟨xs, env1⟩, e1, ⟨cs, env2⟩, e2, e3⟩ := e
    split at e3
    · rename_i hh
      cases e3
      refine ⟨B, F, env, xs, env1, hK, s, e1, fun vs F1 H1 p1 r1 => ?_⟩
      obtain ⟨F', s', x'⟩ := par_sr p1 r1 e2 hh.1 hh.2
      have hl := r1.length
      rw [← inSlots_length e2, ← hh.2] at hl
      match vs, hl with
      | [v, w, u], _ => exact ⟨v, w, u, rfl, q _ F' H1 s' x'⟩
    · cases e3
/-- the same by way of the tuple: cells among the names, or more than three -/
def gNms : List Nat → TGs
  | [] => gNil
  | i :: is => gCons (gName i) (gNms is)
theorem pgsn_nil : PGs X [] (gNms []) := pgs_nil
theorem pgsn_cons {x : Str} {i : Nat} {p : Pos} {es : List Expr} {is : List Nat} (hN : X.N.Nodup) (h : PGs X es (gNms is)) (hi : X.N[i]? = some x := by rfl) (hx : Loc X.env.scope x := by first | exact Or.inl rfl | exact Or.inr rfl)
    (hf : X.fn x = true ∨ X.env.scope.names.lookup x = some .local := by first | exact .inl rfl | exact .inr rfl) (hs : (assignEach (.Name x p :: es) X.env).map (·.2) = assign (.Name x p) X.env :: (assignEach es X.env).map (·.2) := by rfl) : PGs X (.Name x p :: es) (gNms (i :: is)) := pgs_cons (pg_name hN hi hx hf) h hs
theorem gNms_of : ∀ {is : List Nat} {vs : List V} {σ : St} {H : Hp} {Q : St → Hp → Prop}, is.length = vs.length → Q (putsS is vs σ) H → gNms is vs σ H Q
  | [], [], _, _, _, _, q => ⟨rfl, q⟩
  | [], _ :: _, _, _, _, h, _ => by simp at h
  | _ :: _, [], _, _, _, h, _ => by simp at h
  | i :: is, v :: vs, σ, H, Q, h, q => ⟨v, vs, rfl, gNms_of (is := is) (vs := vs) (by simpa using h) q⟩
theorem js_parG {ts es : List Expr} {is : List Nat} {n : Nat} {pt pt2 : Pos} {kt k2} (os : List Bool) (hc : X.calm = true) (ht : PGs X ts (gNms is)) (ha : JA X es g) (hlen : is.length = n := by rfl) (hz : n ≤ 1000 := by decide) (hn : (assignEach ts X.env).length = n := by rfl) (hst : (assignEach ts X.env).findIdx? (·.1) = none := by rfl)
    (hw : swappedStores [.Tuple ts kt pt] (.Tuple es k2 pt2) X.env = pure none := by rfl) (hs : swapsWithSole [.Tuple ts kt pt] (.Tuple es k2 pt2) pos.line X.env = pure false := by rfl)
    (h1 : (assignEach [.Tuple ts kt pt] X.env).map (·.2) = [assign (.Tuple ts kt pt) X.env] := by rfl) :
    JS X (.Assign [.Tuple ts kt pt] (.Tuple es k2 pt2) pos) (sPar is os g) :=
  PS.imp (ps_asg (pe_tup ha) (pg_tup hc ht hn hst) hs hw h1) fun D σ H ⟨B, F, env, out, hK, s, e, q⟩ => by
    simp only [sPar, Option.bind_eq_some_iff] at e
    obtain ⟨⟨xs, env1⟩, e1, ⟨cs, env2⟩, e2, e3⟩ := e
    split at e3
    · rename_i hh
      cases e3
      refine ⟨B, F, env, xs, env1, hK, s, e1, fun vs F1 H1 p1 r1 => ?_⟩
      obtain ⟨F', q1, h, _, _, np, _⟩ := preps xs p1 r1 e2
      have hl := r1.length
      have hl2 := inSlots_length e2
      have hlv : is.length = vs.length := by rw [hl, ← hl2]; exact hh.2
      refine ⟨?_, fun p hp => ?_⟩
      · rw [← hlv, hlen]; exact small_line hz
      · have q2 := q1.allocN (o := .tup vs) hp
        have hv : VRs B σ H F' (upd H1 p (.tup vs)) env2 vs (cs.map cv) := h.step (Post.lay q1.sr hp)
        refine ⟨p, vs, rfl, SqT.of upd_same, by rw [← hlv]; exact hlen, gNms_of hlv ?_⟩
        exact q _ F' _ (stores cs q2.sr hv np hh.1 hh.2) q1.ff
    · cases e3
end
end EW

/-! EW 7: methods of lists and texts; what a def promises; calls of defs. -/
namespace EW
open PySem PySem.Spec PyProof.Rows L2

abbrev KM := Val → List Val → Env → Option (Val × Env)
abbrev RM := V → List V → Hp → VK → Prop
def isTy (T : String) (x : Val) (env : Env) : Bool := match x.rd env with
  | some (.list _) => T == "list"
  | some (.str _) => T == "str"
  | _ => false
def dM (T : String) (fo : DE) (g : DA) (k : KM) : DE := fun env => (fo env).bind fun r => if isTy T r.1 r.2 = true then (g r.2).bind fun q => k r.1 q.1 q.2 else none
def RMok (K : PySem.W.Frag) (r : RM) (k : KM) : Prop :=
  ∀ (B : Bs) (σ : St) (Fq Hq : Hp) (envp : Env) (F H : Hp) (env : Env) (v : V) (x : Val) (vs : List V) (xs : List Val) (val : Val) (env' : Env) (Q : VK), B.K = K → Post B σ Fq Hq envp F H env → VR B σ Hq F H env v x → VRs B σ Hq F H env vs xs → Ds v x vs xs →
    k x xs env = some (val, env') → (∀ u F' H', Post B σ Fq Hq envp F' H' env' → VR B σ Hq F' H' env' u val → Q u H') → r v vs H Q
theorem isTy_tyV {B : Bs} {σ : St} {F H pre : Hp} {env : Env} {v : V} {x : Val} {T : String} (s : SR B F H σ env) (r : VR B σ pre F H env v x) (h : isTy T x env = true) : tyV B.K T v H := by
  unfold isTy at h
  split at h
  · rename_i ds e
    obtain ⟨a, vs, rfl, h1, _⟩ := r.rdL s e
    exact .inl ⟨eq_of_beq h, vs, h1⟩
  · rename_i z e
    rw [r.rdS s e]
    exact eq_of_beq h
  · cases h
theorem rdM {K : PySem.W.Frag} {T : String} {r : RM} {k : KM} (ok : RMok K r k) {fo : DE} {g : DA} {σ : St} {H : Hp} {Q : VK} (h : rdE K (dM T fo g k) σ H Q) : tBM K T r (rdE K fo) (rdA K g) σ H Q := by
  obtain ⟨B, F, env, val, env', hK, s, e, q⟩ := h
  simp only [dM, Option.bind_eq_some_iff] at e
  obtain ⟨⟨x, env1⟩, e1, e2⟩ := e
  split at e2
  · rename_i hty
    simp only [Option.bind_eq_some_iff] at e2
    obtain ⟨⟨xs, env2⟩, e2, e3⟩ := e2
    refine ⟨B, F, env, x, env1, hK, s, e1, fun v F1 H1 p1 r1 => ⟨by rw [← hK]; exact isTy_tyV p1.sr r1 hty, B, F1, env1, xs, env2, hK, p1.sr, e2, fun vs F2 H2 p2 r2 => ?_⟩⟩
    refine ok B σ F H env F2 H2 env2 v x vs xs val env' Q hK (p1.trans p2) (r1.step p2) (r2.ahead fun p hp => p1.fresh hp) (fun kk w o o' a b c => ?_) e3 q
    subst c
    obtain ⟨p, ho, rfl, _, h2, _⟩ := r1
    obtain ⟨w', hw, rw'⟩ := r2.get b
    rw [a] at hw
    cases hw
    obtain ⟨p', ho', rfl, _, _, _, h4, _⟩ := rw'
    intro z
    cases z
    rw [h2] at h4
    cases h4
  · cases e2
section
variable {X : Cx} {o e : Expr} {es : List Expr} {fo : DE} {g : DA} {name : Str} {apos cpos : Pos} {T id : String} {r : RM} {k : KM}
theorem je_m (pa : PlainAttrs T) (slot : Slot T name id) (hty : typeOf (.builtin id) = pure (.type "method_descriptor")) (hm : MtR X id r) (ok : RMok X.K r k) (ho : JE X o fo) (ha : JA X (e :: es) g)
    (hbase : attributeBase o name X.env (eval o X.env) = eval o X.env := by rfl)
    (hfew : ((backTo cpos (starEach (e :: es) X.env)).all (fun x => !x.1) && (backToKw cpos (keywordEach [] X.env)).all (fun x => x.1.isSome)
      && decide ((e :: es).length + ([] : List Keyword).length + (if ([] : List Keyword).isEmpty then 0 else 1) < 30)) = true := by rfl)
    (hline : (apos.endLine == cpos.line) = true := by rfl) (hs : starEach (e :: es) X.env = (false, eval e X.env) :: starEach es X.env := by rfl) (hplain : (backTo cpos (starEach es X.env)).any (·.1) = false := by rfl) :
    JE X (.Call (.Attribute o name apos) (e :: es) [] cpos) (dM T fo g k) := PE.imp (pe_bm pa slot hty hm ho ha hbase hfew hline hs hplain) fun _ _ _ => rdM ok
end
/-- the list in slot x -/
def slotL (x : Val) (env : Env) : Option (Nat × Cell × List D) := match x with
  | .slot i => match env[i]? with
    | some (some c) => match c.ob with
      | some (.l ds) => some (i, c, ds)
      | _ => none
    | _ => none
  | _ => none
theorem slotL_ok {B : Bs} {σ : St} {F H pre : Hp} {env : Env} {v : V} {x : Val} {i : Nat} {c : Cell} {ds : List D} (s : SR B F H σ env) (r : VR B σ pre F H env v x) (e : slotL x env = some (i, c, ds)) :
    ∃ a vs, v = .ref a ∧ F a = none ∧ H a = some (.lst vs) ∧ DpAll B.K F vs ds ∧ env[i]? = some (some c) ∧ σ[i]? = some (some (.ref a)) ∧ c.ob = some (.l ds) := by
  cases x with
  | dat d => cases e
  | new ob => cases e
  | slot j =>
    simp only [slotL] at e
    split at e
    · rename_i c' ec
      split at e
      · rename_i ds' eo
        cases e
        obtain ⟨h1, _⟩ := r
        obtain ⟨v', hv, cr⟩ := s.sl _ _ ec
        rw [h1] at hv
        cases hv
        obtain ⟨a, ho, rfl, g1, g2, g3⟩ := cr.at eo
        cases ho <;> first | exact g3.elim | skip
        exact ⟨a, _, rfl, g1, g2, g3, ec, h1, eo⟩
      · cases e
    · cases e
def kApp : KM := fun x xs env => (frzs xs env).bind fun q => match q.1 with
  | [d] => (slotL x q.2).bind fun z => if z.2.2.length ≤ 1000000 then some (.dat .none, q.2.set z.1 (some (z.2.1.put (.l (z.2.2 ++ [d]))))) else none
  | _ => none
theorem mil2 {n : Nat} (h : n ≤ 1000000) : n < sizeLine := Nat.lt_of_le_of_lt h (by decide)
theorem VR.slotStep {B : Bs} {σ : St} {pre F H F' H' : Hp} {env env' : Env} {v : V} {i : Nat} (h : VR B σ pre F H env v (.slot i)) (sm : ∀ (i : Nat) (c : Cell), env[i]? = some (some c) → ∃ c' : Cell, env'[i]? = some (some c')) : VR B σ pre F' H' env' v (.slot i) := by
  obtain ⟨h1, c, h2⟩ := h
  exact ⟨h1, sm i c h2⟩
theorem frz_sm {x : Val} {env env' : Env} {d : D} (e : x.frz env = some (d, env')) : ∀ (i : Nat) (c : Cell), env[i]? = some (some c) → ∃ c' : Cell, env'[i]? = some (some c') := by
  intro i c h
  cases x with
  | dat d' => cases e; exact ⟨c, h⟩
  | new ob => cases ob <;> cases e; exact ⟨c, h⟩
  | slot j =>
    simp only [Val.frz] at e
    split at e
    · cases e; exact ⟨c, h⟩
    · cases e
      by_cases z : j = i
      · subst z; exact ⟨_, set_get h⟩
      · exact ⟨c, by rw [set_ne z]; exact h⟩
    · cases e
theorem frzs_sm : ∀ (xs : List Val) {env env' : Env} {ds : List D}, frzs xs env = some (ds, env') → ∀ (i : Nat) (c : Cell), env[i]? = some (some c) → ∃ c' : Cell, env'[i]? = some (some c')
  | [], _, _, _, e, i, c, h => by cases e; exact ⟨c, h⟩
  | x :: xs, env, env', ds, e, i, c, h => by
    simp only [frzs, Option.bind_eq_some_iff] at e
    obtain ⟨⟨d, env1⟩, e1, ⟨ds1, env2⟩, e2, e3⟩ := e
    cases e3
    obtain ⟨c1, h1⟩ := frz_sm e1 i c h
    exact frzs_sm xs e2 i c1 h1
theorem slotL_slot {x : Val} {env : Env} {z : Nat × Cell × List D} (e : slotL x env = some z) : ∃ i, x = .slot i := by
  cases x with
  | slot i => exact ⟨i, rfl⟩
  | dat d => cases e
  | new o => cases e
theorem app_ok {K : PySem.W.Frag} : RMok K rAppend kApp := by
  intro B σ Fq Hq envp F H env v x vs xs val env' Q hK p r rs dd e q
  simp only [kApp, Option.bind_eq_some_iff] at e
  obtain ⟨⟨ds, env1⟩, e1, e2⟩ := e
  split at e2
  · rename_i d ed
    simp only [Option.bind_eq_some_iff] at e2
    obtain ⟨⟨i, c, zs⟩, e3, e4⟩ := e2
    split at e4
    · rename_i hz
      cases e4
      obtain ⟨j, rfl⟩ := slotL_slot e3
      obtain ⟨F1, p1, ha, x1⟩ := frzs_post xs p rs e1
      have r1 : VR B σ Hq F1 H env1 v (.slot j) := r.slotStep (frzs_sm xs e1)
      obtain ⟨a, ys, rfl, g1, g2, g3, g4, g5, g6⟩ := slotL_ok p1.sr r1 e3
      simp only at ed
      subst ed
      match vs, ha with
      | [w], .cons hw .nil =>
        refine ⟨a, ys, w, rfl, rfl, g2, by rw [dpa_length g3]; exact mil2 hz, ?_⟩
        exact q .non F1 _ (p1.write (ob' := .l (zs ++ [d])) (o := .lst (ys ++ [w])) g4 g5 g6 (dpa_append g3 (.cons hw .nil))) .non
    · cases e4
  · cases e2
def kExt : KM := fun x xs env => match xs with
  | [.new (.l ws)] => (slotL x env).bind fun z => if z.2.2.length + ws.length ≤ 1000000 then some (.dat .none, env.set z.1 (some (z.2.1.put (.l (z.2.2 ++ ws))))) else none
  | _ => none
theorem ext_ok {K : PySem.W.Frag} : RMok K rExtend kExt := by
  intro B σ Fq Hq envp F H env v x vs xs val env' Q hK p r rs dd e q
  unfold kExt at e
  split at e
  · rename_i ws
    simp only [Option.bind_eq_some_iff] at e
    obtain ⟨⟨i, c, zs⟩, e3, e4⟩ := e
    split at e4
    · rename_i hz
      cases e4
      obtain ⟨a, ys, rfl, g1, g2, g3, g4, g5, g6⟩ := slotL_ok p.sr r e3
      cases rs with
      | cons r1 _ r2 =>
        cases r2
        obtain ⟨b, ho, rfl, k1, k2, k3, k4⟩ := r1
        cases ho <;> first | exact k3.elim | skip
        rename_i us
        have k3' : DpAll B.K F us ws := k3
        refine ⟨a, b, ys, us, rfl, rfl, g2, k2, by rw [dpa_length g3, dpa_length k3']; exact Nat.le_trans hz mil, ?_⟩
        exact q .non F _ (p.write (ob' := .l (zs ++ ws)) (o := .lst (ys ++ us)) g4 g5 g6 (dpa_append g3 k3')) .non
    · cases e4
  · cases e
def kPopAt : KM := fun x xs env => match xs with
  | [y] => match y.rd env with
    | some (.int k) => (slotL x env).bind fun z => if -(2 ^ 63) ≤ k ∧ k < 2 ^ 63 then (seqIndex? k z.2.2.length).bind fun j => (z.2.2[j]?).map fun d => (.dat d, env.set z.1 (some (z.2.1.put (.l (z.2.2.eraseIdx j))))) else none
    | _ => none
  | _ => none
theorem popAt_ok {K : PySem.W.Frag} : RMok K rPopAt kPopAt := by
  intro B σ Fq Hq envp F H env v x vs xs val env' Q hK p r rs dd e q
  unfold kPopAt at e
  split at e
  · rename_i y
    split at e
    · rename_i k ek
      simp only [Option.bind_eq_some_iff] at e
      obtain ⟨⟨i, c, zs⟩, e3, e4⟩ := e
      split at e4
      · rename_i hz
        simp only [Option.bind_eq_some_iff, Option.map_eq_some_iff] at e4
        obtain ⟨j, e5, d, e6, e7⟩ := e4
        cases e7
        obtain ⟨a, ys, rfl, g1, g2, g3, g4, g5, g6⟩ := slotL_ok p.sr r e3
        cases rs with
        | cons r1 _ r2 =>
          cases r2
          obtain ⟨w, h1, h2⟩ := dpa_get' g3 e6
          refine ⟨a, ys, k, j, w, rfl, by rw [r1.rdI p.sr ek], g2, hz.1, hz.2, by rw [dpa_length g3]; exact e5, h1, ?_⟩
          exact q w F _ (p.write (ob' := .l (zs.eraseIdx j)) (o := .lst (ys.eraseIdx j)) g4 g5 g6 (dpa_eraseIdx j g3)) h2
      · cases e4
    · cases e
  · cases e
def kJoin : KM := fun x xs env => match x.rd env, xs with
  | some (.str a), [y] => match y.rd env with
    | some (.list ds) => (asStrs ds).bind fun ys => if (ys.map (·.length)).sum + ys.length * a.length ≤ 1000000 then some (.dat (.str (Txt.join a ys)), env) else none
    | some (.tuple ds) => (asStrs ds).bind fun ys => if (ys.map (·.length)).sum + ys.length * a.length ≤ 1000000 then some (.dat (.str (Txt.join a ys)), env) else none
    | _ => none
  | _, _ => none
def rJoin (K : PySem.W.Frag) : RM := fun x xs H Q => ∃ a p, ∃ ys : List Str, x = .str a ∧ xs = [.ref p] ∧ (SqL K H p (ys.map V.str) ∨ SqT K H p (ys.map V.str)) ∧ (ys.map (·.length)).sum + ys.length * a.length ≤ 16777216 ∧ Q (.str (Txt.join a ys)) H
theorem join_ok {K : PySem.W.Frag} : RMok K (rJoin K) kJoin := by
  intro B σ Fq Hq envp F H env v x vs xs val env' Q hK p r rs dd e q
  subst hK
  unfold kJoin at e
  split at e
  · rename_i a y ea
    cases rs with
    | cons r1 _ r2 =>
      cases r2
      split at e
      · rename_i ds ed
        simp only [Option.bind_eq_some_iff] at e
        obtain ⟨ys, e3, e4⟩ := e
        split at e4
        · rename_i hz
          cases e4
          have e5 := asStrs_ok e3
          subst e5
          obtain ⟨b, us, rfl, h1, h2⟩ := r1.rdL p.sr ed
          rw [dpa_strs h2] at h1
          exact ⟨a, b, ys, r.rdS p.sr ea, rfl, .inl h1, by omega, q _ F H p (.str _)⟩
        · cases e4
      · rename_i ds ed
        simp only [Option.bind_eq_some_iff] at e
        obtain ⟨ys, e3, e4⟩ := e
        split at e4
        · rename_i hz
          cases e4
          have e5 := asStrs_ok e3
          subst e5
          obtain ⟨b, us, rfl, h1, h2⟩ := r1.rdT p.sr ed
          rw [dpa_strs h2] at h1
          exact ⟨a, b, ys, r.rdS p.sr ea, rfl, .inr h1, by omega, q _ F H p (.str _)⟩
        · cases e4
      · cases e
  · cases e
def occ (a b : Str) : Option Nat := match Builtin.Str.occurrences a b 0 a.length 1 with
  | i :: _ => some i
  | [] => none
def kIndexS : KM := fun x xs env => match x.rd env, xs with
  | some (.str a), [y] => match y.rd env with
    | some (.str b) => (occ a b).map fun i => (.dat (.int (i : Nat)), env)
    | _ => none
  | _, _ => none
def rIndexS : RM := fun x xs H Q => ∃ a b i rest, x = .str a ∧ xs = [.str b] ∧ Builtin.Str.occurrences a b 0 a.length 1 = i :: rest ∧ Q (.int (i : Nat)) H
theorem indexS_ok {K : PySem.W.Frag} : RMok K rIndexS kIndexS := by
  intro B σ Fq Hq envp F H env v x vs xs val env' Q hK p r rs dd e q
  unfold kIndexS at e
  split at e
  · rename_i a y ea
    cases rs with
    | cons r1 _ r2 =>
      cases r2
      split at e
      · rename_i b eb
        simp only [Option.map_eq_some_iff] at e
        obtain ⟨i, e3, e4⟩ := e
        cases e4
        unfold occ at e3
        split at e3
        · rename_i j rest eo
          cases e3
          exact ⟨a, b, i, rest, r.rdS p.sr ea, by rw [r1.rdS p.sr eb], eo, q _ F H p (.int _)⟩
        · cases e3
      · cases e
  · cases e
section
variable {X : Cx} {o e : Expr} {fo : DE} {g : DA} {apos cpos : Pos}
theorem ty_md (id : String) (h : typeOf (.builtin id) = pure (.type "method_descriptor")) : typeOf (.builtin id) = pure (.type "method_descriptor") := h
end
end EW

/-! EW 8: what a def promises; calls of defs; a def's body. -/
namespace EW
open PySem PySem.Spec PyProof.Rows L2

inductive Res where
  | dat (d : D)
  | new (o : Ob)
def Res.val : Res → Val
  | .dat d => .dat d
  | .new o => .new o
/-- what a def gives: of the thing that it may change (the first argument, if any) and the data -/
abbrev Sem := Option Ob → List D → Option (Res × Option Ob)
inductive PotR (K : PySem.W.Frag) (F H : Hp) : List V → Option Ob → Prop
  | no : PotR K F H [] none
  | at {a : Addr} {ho : HO} {o : Ob} : F a = none → H a = some ho → ObR K F o ho → PotR K F H [.ref a] (some o)
def ResR (K : PySem.W.Frag) (H F' H' : Hp) (u : V) : Res → Prop
  | .dat d => Dp K F' u d
  | .new o => ∃ p ho, u = .ref p ∧ F' p = none ∧ H' p = some ho ∧ ObR K F' o ho ∧ H p = none
structure PostF (K : PySem.W.Frag) (F H : Hp) (pv : List V) (ob' : Option Ob) (res : Res) (u : V) (F' H' : Hp) : Prop where
  ff : Ex F F'
  fh : Ex F' H'
  old : ∀ a o, H a = some o → V.ref a ∉ pv → H' a = some o
  kp : ∀ a, H a ≠ none → H' a ≠ none
  nw : ∀ a, F' a ≠ none → F a ≠ none ∨ H a = none
  pot : PotR K F' H' pv ob'
  res : ResR K H F' H' u res
def spF (K : PySem.W.Frag) (n : Nat) (sem : Sem) : Sp := fun vs H Q _ => vs.length = n ∧ ∃ (F : Hp) (pv dv : List V) (ds : List D) (ob ob' : Option Ob) (res : Res), vs = pv ++ dv ∧ Ex F H ∧ PotR K F H pv ob ∧ DpAll K F dv ds ∧ sem ob ds = some (res, ob') ∧
  ∀ u F' H', PostF K F H pv ob' res u F' H' → Q u H'
structure FnG (P : Program) (w : World) (K : PySem.W.Frag) (mg : Str → Option Value) (base : Heap) (k : Nat) (f : Addr) (fd : FuncData) (ps : List Str) (sp : Sp) : Prop where
  len : ∀ vs H Q E, sp vs H Q E → vs.length = ps.length
  run : ∀ (A : Around) (outer : List PySem.Env) (s : Shared) (H : Hp) (args : Args) (us : List Value) (vs : List V) (Q : VK), Room k A → A.guards = some [] → Env0 P w K mg base A outer s H → BindsTo s fd args (ps.zip us) → Vals vs us → sp vs H Q E0 →
    codeAny (model P w) A (.call (.ref f) args) (L2.CR CX0 outer P w H s Q E0) s
/-- what holds of a context -/
structure Ok (X : Cx) (k : Nat) : Prop where
  calm : X.calm = true
  room : Room k X.A
  gd : X.A.guards = some []
  nd : X.N.Nodup
theorem Ok.un {X : Cx} {k : Nat} (o : Ok X k) : X.A.units + 200 < cLine := by have := o.room.un; omega
theorem Ok.blk {X : Cx} {k : Nat} (o : Ok X k) (s : Shared) (H : Hp) (scope : Scope) (cenv : PySem.Env) (fp : List Addr) : Ok (X.blk s H scope cenv fp) k := ⟨o.calm, o.room, o.gd, o.nd⟩
/-- a def of the module that keeps its promise -/
structure Good (P : Program) (w : World) (K : PySem.W.Frag) (mg : Str → Option Value) (base : Heap) (k : Nat) (x : Str) (params : Arguments) (ps : List Str) (sem : Sem) : Prop where
  ex : ∃ (f : Addr) (fd : FuncData), mg x = some (.ref f) ∧ PySem.W.keepIn K (.ref f) = true ∧ (∀ (s : Shared) (us : List Value), us.length = ps.length → BindsTo s fd ⟨us, []⟩ (ps.zip us)) ∧
    (∀ (ks : List Str) (g : List Value → List Value), (∀ (body : List Stmt) (scope : Scope) (kV doc pm : Value) (an : Option Addr) (cdv ct : Value) (ws : List Value), ws.length = ks.length → bindArgs (PySem.W.fnOf x x params body scope .none kV doc pm an cdv ct) ⟨[], ks.zip ws⟩ = pure (ps.zip (g ws))) →
      ∀ (s : Shared) (ws : List Value), ws.length = ks.length → BindsTo s fd ⟨[], ks.zip ws⟩ (ps.zip (g ws))) ∧ FnG P w K mg base k f fd ps (spF K ps.length sem)

/-! ### a call -/
section
variable {X : Cx} {k : Nat} {x : Str} {params : Arguments} {ps : List Str} {sem : Sem} {p pos : Pos} {e : Expr} {es : List Expr} {g : DA}
theorem run_fnG {pins : List (Addr × Obj)} {σ : St} {H : Hp} {s : Shared} {Q : VK} {args : Args} {us : List Value} {vs : List V} {f : Addr} {fd : FuncData} {sp : Sp} (F : FnG X.prog X.w X.K X.mg X.base k f fd ps sp) (ok : Ok X k)
    (I : Inv X pins σ H s) (r : Vals vs us) (hb : us.length = ps.length → BindsTo s fd args (ps.zip us)) (h : sp vs H Q E0) : wpAny (model X.prog X.w) X.A (call (.ref f) args.pos args.kw) (EP X pins σ Q) X.xe s := by
  have hl : us.length = ps.length := by rw [← r.length]; exact F.len _ _ _ _ h
  refine wpAny_call (codeAny_mono (F.run X.A X.stack s H args us vs Q ok.room ok.gd I.env0 (hb hl) r h) fun r s' hq => ?_)
  cases r with
  | error e => exact False.elim hq
  | ok fl =>
    cases fl with
    | ret u => exact I.after hq
    | next => exact False.elim hq
    | brk => exact False.elim hq
    | cont => exact False.elim hq
end
def dF (n : Nat) (mt : Bool) (sem : Sem) (g : DA) : DE := fun env => (g env).bind fun r => if r.1.length = n then (if mt = true then match r.1 with
    | .slot i :: xs => (frzs xs r.2).bind fun q => match q.2[i]? with
      | some (some c) => c.ob.bind fun ob => (sem (some ob) q.1).bind fun z => z.2.map fun ob' => (z.1.val, q.2.set i (some (c.put ob')))
      | _ => none
    | .new ob :: xs => (frzs xs r.2).bind fun q => (sem (some ob) q.1).bind fun z => z.2.map fun _ => (z.1.val, q.2)
    | _ => none
  else (frzs r.1 r.2).bind fun q => (sem none q.1).bind fun z => match z.2 with
    | none => some (z.1.val, q.2)
    | some _ => none) else none
section
variable {B : Bs} {σ : St} {Fq Hq F H F' H' : Hp} {envp env : Env} {v u : V} {dv : List V} {res : Res}
/-- what a call leaves -/
theorem PostF.post0 (q : Post B σ Fq Hq envp F H env) (r : PostF B.K F H [] none res u F' H') : Post B σ Fq Hq envp F' H' env ∧ VR B σ Hq F' H' env u res.val := by
  have nO : ∀ a, OA σ env a → F' a = none := fun a z => by
    have := q.sr.oa z
    cases e : F' a with
    | none => rfl
    | some o =>
      rcases r.nw a (by rw [e]; simp) with y | y
      · exact absurd this.1 y
      · exact absurd y this.2
  have p2 : Post B σ F H env F' H' env := by
    refine ⟨⟨q.sr.len, q.sr.ff.trans r.ff, r.fh, fun a o e n => r.old a o (q.sr.old a o e n) (by simp), fun k a ha => r.kp a (q.sr.pt k a ha), fun a ha => ?_, fun i c e => ?_, q.sr.ds⟩, r.ff, fun a o e _ => r.old a o e (by simp), r.kp, fun a ha => ?_, fun _ z => z, fun _ c z => ⟨c, z⟩⟩
    · rcases r.nw a ha with z | z
      · exact q.sr.new a z
      · exact .inr (q.sr.h0 z)
    · obtain ⟨w, h1, h2⟩ := q.sr.sl i c e
      refine ⟨w, h1, h2.mono r.ff fun hh a ea => ?_⟩
      have z : OA σ env a := ⟨i, c, e, hh, by rw [h1, ea]⟩
      have := q.sr.oa z
      refine ⟨by rw [nO a z, this.1], ?_⟩
      obtain ⟨o, ho⟩ := Option.ne_none_iff_exists'.mp this.2
      rw [ho]; exact r.old a o ho (by simp)
    · rcases r.nw a ha with z | z
      · exact .inl z
      · exact .inr (.inl z)
  refine ⟨q.trans p2, ?_⟩
  cases res with
  | dat d => exact r.res
  | new o =>
    obtain ⟨p, ho, rfl, h1, h2, h3, h4⟩ := r.res
    exact ⟨p, ho, rfl, h1, h2, h3, q.fresh h4, fun z => (q.sr.oa z).2 h4, q.sr.h0 h4⟩
theorem PostF.postN {p : Addr} {ob' : Option Ob} (q : Post B σ Fq Hq envp F H env) (hq : Hq p = none) (nO0 : ¬ OA σ env p) (h0 : B.H0 p = none) (hP : ∀ k, B.P k ≠ some p) (hHp : H p ≠ none) (r : PostF B.K F H [.ref p] ob' res u F' H') : Post B σ Fq Hq envp F' H' env ∧ VR B σ Hq F' H' env u res.val := by
  have nO : ∀ a, OA σ env a → F' a = none := fun a z => by
    have := q.sr.oa z
    cases e : F' a with
    | none => rfl
    | some o =>
      rcases r.nw a (by rw [e]; simp) with y | y
      · exact absurd this.1 y
      · exact absurd y this.2
  have ne : ∀ b, b ≠ p → V.ref b ∉ [V.ref p] := fun b h z => h (by simpa using z)
  refine ⟨⟨⟨q.sr.len, q.sr.ff.trans r.ff, r.fh, fun a o e n => r.old a o (q.sr.old a o e n) (ne a (ne_of_none e h0)), fun k a ha => r.kp a (q.sr.pt k a ha), fun a ha => ?_, fun i c e => ?_, q.sr.ds⟩, q.ff.trans r.ff, fun a o e n => r.old a o (q.hh a o e n) (ne a (ne_of_none e hq)), fun a ha => r.kp a (q.kp a ha), fun a ha => ?_, q.oa, q.sm⟩, ?_⟩
  · rcases r.nw a ha with z | z
    · exact q.sr.new a z
    · exact .inr (q.sr.h0 z)
  · obtain ⟨w, h1, h2⟩ := q.sr.sl i c e
    refine ⟨w, h1, h2.mono r.ff fun hh a ea => ?_⟩
    have z : OA σ env a := ⟨i, c, e, hh, by rw [h1, ea]⟩
    have := q.sr.oa z
    refine ⟨by rw [nO a z, this.1], ?_⟩
    obtain ⟨o, ho⟩ := Option.ne_none_iff_exists'.mp this.2
    rw [ho]
    refine r.old a o ho (ne a fun y => nO0 ?_)
    rw [← y]; exact z
  · rcases r.nw a ha with z | z
    · exact q.nw a z
    · exact .inr (.inl (q.fresh z))
  · cases res with
    | dat d => exact r.res
    | new o =>
      obtain ⟨p', ho, rfl, h1, h2, h3, h4⟩ := r.res
      exact ⟨p', ho, rfl, h1, h2, h3, q.fresh h4, fun z => (q.sr.oa z).2 h4, q.sr.h0 h4⟩
theorem PostF.post1 {i : Nat} {c : Cell} {a : Addr} {ob ob' : Ob} (q : Post B σ Fq Hq envp F H env) (he : env[i]? = some (some c)) (hv : σ[i]? = some (some (.ref a))) (hc : c.ob = some ob) (r : PostF B.K F H [.ref a] (some ob') res u F' H') :
    Post B σ Fq Hq envp F' H' (env.set i (some (c.put ob'))) ∧ VR B σ Hq F' H' (env.set i (some (c.put ob'))) u res.val := by
  have hOA : OA σ env a := ⟨i, c, he, Cell.ob_holds hc, hv⟩
  have cr : CR B F H (.ref a) c := by
    obtain ⟨v, h1, h2⟩ := q.sr.sl i c he
    rw [hv] at h1; cases h1; exact h2
  obtain ⟨ho', g1, g2, g3⟩ : ∃ ho', F' a = none ∧ H' a = some ho' ∧ ObR B.K F' ob' ho' := by
    cases r.pot with
    | «at» x y z => exact ⟨_, x, y, z⟩
  have nO : ∀ b, OA σ env b → F' b = none := fun b z => by
    have := q.sr.oa z
    cases e : F' b with
    | none => rfl
    | some o =>
      rcases r.nw b (by rw [e]; simp) with y | y
      · exact absurd this.1 y
      · exact absurd y this.2
  have cr2 : CR B F' H' (.ref a) (c.put ob') := by
    cases c with
    | dat d => cases hc
    | own o => obtain ⟨a', ho, e1, _, _, _, k4⟩ := cr; cases e1; exact ⟨a, ho', rfl, g1, g2, g3, k4⟩
    | par k o => obtain ⟨a', ho, e1, _, _, _, k4⟩ := cr; cases e1; exact ⟨a, ho', rfl, g1, g2, g3, k4⟩
  have look : ∀ (j : Nat) (cj : Cell), (env.set i (some (c.put ob')))[j]? = some (some cj) → (j = i ∧ cj = c.put ob') ∨ (i ≠ j ∧ env[j]? = some (some cj)) := fun j cj e => by
    by_cases h : i = j
    · subst h; rw [set_get he] at e; cases e; exact .inl ⟨rfl, rfl⟩
    · rw [set_ne h] at e; exact .inr ⟨h, e⟩
  have ne : ∀ b, b ≠ a → V.ref b ∉ [V.ref a] := fun b h z => h (by simpa using z)
  have back : ∀ b, OA σ (env.set i (some (c.put ob'))) b → OA σ env b := fun b ⟨j, cj, e1, e2, e3⟩ => by
    rcases look j cj e1 with ⟨rfl, rfl⟩ | ⟨_, e⟩
    · exact ⟨j, c, he, Cell.ob_holds hc, e3⟩
    · exact ⟨j, cj, e, e2, e3⟩
  have p2 : Post B σ F H env F' H' (env.set i (some (c.put ob'))) := by
    refine ⟨⟨by rw [List.length_set]; exact q.sr.len, q.sr.ff.trans r.ff, r.fh, fun b o e n => r.old b o (q.sr.old b o e n) (ne b fun z => ?_), fun k b hb => r.kp b (q.sr.pt k b hb), fun b hb => ?_, fun j cj e => ?_, fun j k cj ck e1 e2 e3 e4 e5 => ?_⟩, r.ff, fun b o e n => r.old b o e (ne b fun z => n (z ▸ hOA)), r.kp, fun b hb => ?_, back, fun j cj e => ?_⟩
    · subst z
      cases c with
      | dat d => cases hc
      | own o' => obtain ⟨a', _, e1, _, _, _, g⟩ := cr; cases e1; rw [g] at e; cases e
      | par k o' => obtain ⟨a', _, e1, _, _, _, g⟩ := cr; cases e1; exact absurd g (n k)
    · rcases r.nw b hb with z | z
      · exact q.sr.new b z
      · exact .inr (q.sr.h0 z)
    · rcases look j cj e with ⟨rfl, rfl⟩ | ⟨h, e⟩
      · exact ⟨_, hv, cr2⟩
      · obtain ⟨w, h1, h2⟩ := q.sr.sl j cj e
        refine ⟨w, h1, h2.mono r.ff fun hh b eb => ?_⟩
        have z : OA σ env b := ⟨j, cj, e, hh, by rw [h1, eb]⟩
        have zz := q.sr.oa z
        refine ⟨by rw [nO b z, zz.1], ?_⟩
        obtain ⟨o, ho⟩ := Option.ne_none_iff_exists'.mp zz.2
        rw [ho]
        refine r.old b o ho (ne b fun y => h ?_)
        subst y
        exact q.sr.ds i j c cj he e (Cell.ob_holds hc) hh (by rw [hv, h1, eb])
    · have g : ∀ (j : Nat) (cj : Cell), (env.set i (some (c.put ob')))[j]? = some (some cj) → cj.holds = true → ∃ cj', env[j]? = some (some cj') ∧ cj'.holds = true := fun j cj e h => by
        rcases look j cj e with ⟨rfl, rfl⟩ | ⟨_, e⟩
        · exact ⟨c, he, Cell.ob_holds hc⟩
        · exact ⟨cj, e, h⟩
      obtain ⟨c1, f1, f2⟩ := g j cj e1 e3
      obtain ⟨c2, f3, f4⟩ := g k ck e2 e4
      exact q.sr.ds j k c1 c2 f1 f3 f2 f4 e5
    · rcases r.nw b hb with z | z
      · exact .inl z
      · exact .inr (.inl z)
    · by_cases z : i = j
      · subst z; exact ⟨_, set_get he⟩
      · exact ⟨cj, by rw [set_ne z]; exact e⟩
  refine ⟨q.trans p2, ?_⟩
  cases res with
  | dat d => exact r.res
  | new o =>
    obtain ⟨p, ho, rfl, h1, h2, h3, h4⟩ := r.res
    exact ⟨p, ho, rfl, h1, h2, h3, q.fresh h4, fun z => (q.sr.oa (back p z)).2 h4, q.sr.h0 h4⟩
end
section
variable {X : Cx} {k : Nat} {x : Str} {params : Arguments} {ps : List Str} {sem : Sem} {p pos : Pos} {e : Expr} {es : List Expr} {g : DA}
theorem rdF {K : PySem.W.Frag} {mt : Bool} {sem : Sem} {g : DA} {σ : St} {H : Hp} {Q : VK} {n : Nat} (h : rdE K (dF n mt sem g) σ H Q) : rdA K g σ H fun vs H1 => spF K n sem vs H1 Q E0 := by
  obtain ⟨B, F, env, val, env', hK, s, e, q⟩ := h
  simp only [dF, Option.bind_eq_some_iff] at e
  obtain ⟨⟨xs, env1⟩, e1, e2⟩ := e
  split at e2
  case isFalse => cases e2
  rename_i hn
  refine ⟨B, F, env, xs, env1, hK, s, e1, fun vs F1 H1 p1 r1 => ⟨by rw [r1.length]; exact hn, ?_⟩⟩
  clear hn
  subst hK
  split at e2
  · simp only at e2
    split at e2
    · rename_i i ys
      simp only [Option.bind_eq_some_iff] at e2
      obtain ⟨⟨ds, env2⟩, e3, e4⟩ := e2
      split at e4
      · rename_i c ec
        simp only [Option.bind_eq_some_iff, Option.map_eq_some_iff] at e4
        obtain ⟨ob, e5, ⟨res, o2⟩, e6, ob', e7, e8⟩ := e4
        cases e8
        cases r1 with
        | @cons v _ vs _ r1 _ rs =>
          obtain ⟨F2, p2, ha, x2⟩ := frzs_post ys p1 rs e3
          obtain ⟨h1, _⟩ := r1
          simp only at ec e7
          subst e7
          obtain ⟨v', hv, cr⟩ := p2.sr.sl i c ec
          rw [h1] at hv
          cases hv
          obtain ⟨a, ho, rfl, g1, g2, g3⟩ := cr.at e5
          refine ⟨F2, [.ref a], vs, ds, some ob, some ob', res, rfl, p2.sr.fh, .at g1 g2 g3, ha, e6, fun u F' H' pf => ?_⟩
          obtain ⟨z1, z2⟩ := pf.post1 p2 ec h1 e5
          exact q u F' H' z1 z2
      · cases e4
    · rename_i ob ys
      simp only [Option.bind_eq_some_iff, Option.map_eq_some_iff] at e2
      obtain ⟨⟨ds, env2⟩, e3, ⟨res, o2⟩, e6, ob', e7, e8⟩ := e2
      cases e8
      simp only at e7
      subst e7
      cases r1 with
      | @cons v _ vs _ r1 dd rs =>
        obtain ⟨F2, p2, ha, x2, tr⟩ := frzs_postT ys p1 rs e3
        obtain ⟨p, ho, rfl, g1, g2, g3, g4, g5, g6⟩ := tr _ _ r1 fun k w o o' a b c => by cases c; exact (dd k w _ o a b rfl).symm
        have hP : ∀ k, B.P k ≠ some p := fun k z => s.pt k p z g4
        refine ⟨F2, [.ref p], vs, ds, some ob, some ob', res, rfl, p2.sr.fh, .at g1 g2 g3, ha, e6, fun u F' H' pf => ?_⟩
        obtain ⟨z1, z2⟩ := pf.postN p2 g4 g5 g6 hP (by rw [g2]; simp)
        exact q u F' H' z1 z2
    · cases e2
  · simp only [Option.bind_eq_some_iff] at e2
    obtain ⟨⟨ds, env2⟩, e3, ⟨res, o2⟩, e4, e5⟩ := e2
    split at e5
    · rename_i eo
      simp only at eo
      subst eo
      cases e5
      obtain ⟨F2, p2, ha, x2⟩ := frzs_post xs p1 r1 e3
      refine ⟨F2, [], vs, ds, none, none, res, rfl, p2.sr.fh, .no, ha, e4, fun u F' H' pf => ?_⟩
      obtain ⟨z1, z2⟩ := pf.post0 p2
      exact q u F' H' z1 z2
    · cases e5
theorem je_call (mt : Bool) (G : Good X.prog X.w X.K X.mg X.base k x params ps sem) (ok : Ok X k) (ha : JA X (e :: es) g) (hg : Gl X x := by rfl) (hdb : (x == ("__debug__" : Str)) = false := by decide)
    (he : starEach (e :: es) X.env = (false, eval e X.env) :: starEach es X.env := by rfl) (hpl : (backTo pos (starEach es X.env)).any (·.1) = false := by rfl) :
    JE X (.Call (.Name x p) (e :: es) [] pos) (dF ps.length mt sem g) := by
  obtain ⟨f, fd, hm, hk, hb, _, F⟩ := G.ex
  refine ⟨fun pins s σ H Q I h => ?_⟩
  refine wpAny_Call_Name_kw (ld_glob I hg hm ?_ hdb)
  refine PySem.W.callWith_K (h₀ := X.base) I.ok.mod.kin hk (thn (ha.run pos pins s σ H _ I (rdF h)) fun us s1 ⟨vs, H1, I1, r, q⟩ => ⟨I1.kIn, ?_⟩) he hpl
  exact run_fnG (args := ⟨us, []⟩) F ok I1 r (fun hl => hb _ us hl) q
/-! keywords alone -/
abbrev JK (X : Cx) (kws : List Keyword) (g : DA) : Prop := PK X kws (rdA X.K g)
theorem PK.imp {kws : List Keyword} {t t' : TA} (h : PK X kws t) (i : ∀ σ H Q, t' σ H Q → t σ H Q) : PK X kws t' := ⟨fun pos pins s σ H Q I q => h.run pos pins s σ H Q I (i σ H Q q)⟩
theorem rdNil {K : PySem.W.Frag} {σ : St} {H : Hp} {Q : List V → Hp → Prop} (h : rdA K aNil σ H Q) : tNil σ H Q := by
  obtain ⟨B, F, env, val, env', hK, s, e, k⟩ := h
  cases e
  exact k [] F H (.refl s) .nil
theorem rdCons {K : PySem.W.Frag} {f : DE} {g : DA} {σ : St} {H : Hp} {Q : List V → Hp → Prop} (h : rdA K (aCons f g) σ H Q) : tCons (rdE K f) (rdA K g) σ H Q := by
  obtain ⟨B, F, env, val, env', hK, s, e, k⟩ := h
  simp only [aCons, Option.bind_eq_some_iff] at e
  obtain ⟨⟨x, env1⟩, e1, ⟨xs, env2⟩, e2, e3⟩ := e
  cases e3
  refine ⟨B, F, env, x, env1, hK, s, e1, fun v F1 H1 p1 r1 => ⟨B, F1, env1, xs, env2, hK, p1.sr, e2, fun vs F2 H2 p2 r2 => ?_⟩⟩
  refine k (v :: vs) F2 H2 (p1.trans p2) (.cons (r1.step p2) (fun kk w o o' a b c => ?_) (r2.ahead fun p hp => p1.fresh hp))
  subst c
  obtain ⟨p, ho, rfl, _, h2, _⟩ := r1
  obtain ⟨w', hw, rw'⟩ := r2.get b
  rw [a] at hw
  cases hw
  obtain ⟨p', ho', rfl, _, _, _, h4, _⟩ := rw'
  intro z
  cases z
  rw [h2] at h4
  cases h4
theorem jk_nil : JK X [] aNil := PK.imp pk_nil fun _ _ _ => rdNil
theorem jk_cons {nm : Option Str} {kpos : Pos} {kws : List Keyword} {f : DE} (ha : JE X e f) (hr : JK X kws g) : JK X (⟨nm, e, kpos⟩ :: kws) (aCons f g) := PK.imp (pk_cons ha hr) fun _ _ _ => rdCons
def permL {α : Type} (d : α) (perm : List Nat) (xs : List α) : List α := perm.map fun i => xs.getD i d
def dFK (n m : Nat) (perm : List Nat) (sem : Sem) (g : DA) : DE := fun env => (g env).bind fun r => if r.1.length = m ∧ perm.length = n ∧ (∀ i ∈ perm, i < m) then
  (frzs r.1 r.2).bind fun q => (sem none (permL .none perm q.1)).bind fun z => match z.2 with
    | none => some (z.1.val, q.2)
    | some _ => none
  else none
theorem perm_dpa {K : PySem.W.Frag} {F : Hp} {vs : List V} {ds : List D} (h : DpAll K F vs ds) : ∀ (perm : List Nat), (∀ i ∈ perm, i < vs.length) → DpAll K F (permL .non perm vs) (permL .none perm ds)
  | [], _ => .nil
  | i :: is, k => by
    have hi := k i List.mem_cons_self
    obtain ⟨d, e, hd⟩ := dpa_get h (List.getElem?_eq_getElem hi)
    refine .cons ?_ (perm_dpa h is fun j hj => k j (List.mem_cons_of_mem _ hj))
    show Dp K F (vs.getD i .non) (ds.getD i .none)
    rw [List.getD_eq_getElem?_getD, List.getD_eq_getElem?_getD, e, List.getElem?_eq_getElem hi]
    exact hd
theorem perm_vals {vs : List V} {us : List Value} (h : Vals vs us) : ∀ (perm : List Nat), (∀ i ∈ perm, i < vs.length) → Vals (permL .non perm vs) (permL .none perm us)
  | [], _ => .nil
  | i :: is, k => by
    have hi := k i List.mem_cons_self
    obtain ⟨u, e, hu⟩ := h.get (List.getElem?_eq_getElem hi)
    refine .cons ?_ (perm_vals h is fun j hj => k j (List.mem_cons_of_mem _ hj))
    show L2.RelV (vs.getD i .non) (us.getD i .none)
    rw [List.getD_eq_getElem?_getD, List.getD_eq_getElem?_getD, e, List.getElem?_eq_getElem hi]
    exact hu
theorem je_callK {kws : List Keyword} {ks : List Str} (perm : List Nat) (G : Good X.prog X.w X.K X.mg X.base k x params ps sem) (ok : Ok X k) (hkw : JK X kws g)
    (hb : ∀ (body : List Stmt) (scope : Scope) (kV doc pm : Value) (an : Option Addr) (cdv ct : Value) (ws : List Value), ws.length = ks.length → bindArgs (PySem.W.fnOf x x params body scope .none kV doc pm an cdv ct) ⟨[], ks.zip ws⟩ = pure (ps.zip (permL .none perm ws)))
    (hg : Gl X x := by rfl) (hdb : (x == ("__debug__" : Str)) = false := by decide)
    (hall : (backToKw pos (keywordEach kws X.env)).all (·.1.isSome) = true := by rfl) (hks : (backToKw pos (keywordEach kws X.env)).filterMap (·.1) = ks := by rfl)
    (hpl : ((backTo pos (starEach [] X.env)).any (·.1) || (backToKw pos (keywordEach kws X.env)).any (·.1.isNone)) = false := by rfl) :
    JE X (.Call (.Name x p) [] kws pos) (dFK ps.length ks.length perm sem g) := by
  obtain ⟨f, fd, hm, hk, _, hb2, F⟩ := G.ex
  refine ⟨fun pins s σ H Q I h => ?_⟩
  refine wpAny_Call_Name_kw (ld_glob I hg hm ?_ hdb)
  obtain ⟨B, F0, env, val, env', hK, s0, e, q⟩ := h
  simp only [dFK, Option.bind_eq_some_iff] at e
  obtain ⟨⟨xs, env1⟩, e1, e2⟩ := e
  split at e2
  case isFalse => cases e2
  rename_i hn
  simp only [Option.bind_eq_some_iff] at e2
  obtain ⟨⟨ds, env2⟩, e3, ⟨res, o2⟩, e4, e5⟩ := e2
  split at e5
  case h_2 => cases e5
  rename_i eo
  simp only at eo
  subst eo
  cases e5
  have hA : rdA X.K g σ H fun vs H1 => vs.length = ks.length ∧ spF X.K ps.length sem (permL .non perm vs) H1 Q E0 := by
    refine ⟨B, F0, env, xs, env1, hK, s0, e1, fun vs F1 H1 p1 r1 => ⟨by rw [r1.length]; exact hn.1, by rw [permL, List.length_map]; exact hn.2.1, ?_⟩⟩
    obtain ⟨F2, p2, ha, x2⟩ := frzs_post xs p1 r1 e3
    rw [← hK]
    refine ⟨F2, [], _, permL .none perm ds, none, none, res, rfl, p2.sr.fh, .no, perm_dpa ha perm fun i hi => by rw [r1.length, hn.1]; exact hn.2.2 i hi, e4, fun u F' H' pf => ?_⟩
    obtain ⟨z1, z2⟩ := pf.post0 p2
    exact q u F' H' z1 z2
  refine PySem.W.callWith_KW0 (h₀ := X.base) I.ok.mod.kin hk hall (thn (hkw.run pos pins s σ H _ I hA) fun us s1 ⟨vs, H1, I1, r, hl, q⟩ => ⟨I1.kIn, ?_⟩) hpl
  rw [hks]
  exact run_fnG (args := ⟨[], ks.zip us⟩) F ok I1 (perm_vals r perm fun i hi => by rw [hl]; exact hn.2.2 i hi) (fun _ => hb2 ks _ hb _ us (by rw [← r.length]; exact hl)) q
end

/-! ### a def -/
def potP (pv : List V) (k : Nat) : Option Addr := match k, pv with
  | 0, .ref a :: _ => some a
  | _, _ => none
def startE (n : Nat) (ob : Option Ob) (ds : List D) : Env := match ob with
  | none => ds.map (fun d => some (.dat d)) ++ List.replicate (n - ds.length) none
  | some o => some (.par 0 o) :: ds.map (fun d => some (.dat d)) ++ List.replicate (n - (ds.length + 1)) none
def Val.res (env : Env) : Val → Option Res
  | .dat d => some (.dat d)
  | .new o => some (.new o)
  | .slot i => match env[i]? with
    | some (some (.own o)) => some (.new o)
    | some (some (.dat d)) => some (.dat d)
    | _ => none
def potOf (ob : Option Ob) (env : Env) : Option (Option Ob) := match ob with
  | none => some none
  | some _ => match env[(0 : Nat)]? with
    | some (some (.par 0 o)) => some (some o)
    | _ => none
def fnSem (n : Nat) (f : DS) : Sem := fun ob ds => (f (startE n ob ds)).bind fun out => match out with
  | .rt val env' => (val.res env').bind fun r => (potOf ob env').map fun o => (r, o)
  | .nx env' => (potOf ob env').map fun o => (.dat .none, o)
  | _ => none
theorem start_get {N : List Str} {vs : List V} (h : vs.length ≤ N.length) {i : Nat} (hi : i < vs.length) : (L2.start N vs)[i]? = some (vs[i]?) := by
  unfold L2.start
  rw [List.getElem?_append_left (by rw [List.length_map]; exact hi), List.getElem?_map, List.getElem?_eq_getElem hi]
  rfl
theorem start_none {N : List Str} {vs : List V} {i : Nat} {v : V} (h : (L2.start N vs)[i]? = some (some v)) : i < vs.length := by
  unfold L2.start at h
  by_cases q : i < vs.length
  · exact q
  · rw [List.getElem?_append_right (by rw [List.length_map]; omega)] at h
    have := List.mem_of_getElem? h
    rw [List.mem_replicate] at this
    cases this.2
theorem dats_get {ds : List D} {n i : Nat} {c : Cell} (h : (ds.map (fun d => some (Cell.dat d)) ++ List.replicate n none)[i]? = some (some c)) : ∃ d, ds[i]? = some d ∧ c = .dat d := by
  by_cases q : i < ds.length
  · rw [List.getElem?_append_left (by rw [List.length_map]; exact q), List.getElem?_map, List.getElem?_eq_getElem q] at h
    cases h
    exact ⟨_, List.getElem?_eq_getElem q, rfl⟩
  · rw [List.getElem?_append_right (by rw [List.length_map]; omega)] at h
    have := List.mem_of_getElem? h
    rw [List.mem_replicate] at this
    cases this.2
theorem start_sr {K : PySem.W.Frag} {F H : Hp} {N : List Str} {pv dv : List V} {ob : Option Ob} {ds : List D} (hl : (pv ++ dv).length ≤ N.length) (x : Ex F H) (hp : PotR K F H pv ob) (ha : DpAll K F dv ds) :
    SR ⟨K, H, F, potP pv⟩ F H (L2.start N (pv ++ dv)) (startE N.length ob ds) := by
  have hdl := dpa_length ha
  have P0 : ∀ k a, potP pv k = some a → pv = [.ref a] := fun k a e => by
    cases hp with
    | no => cases k <;> cases e
    | «at» => cases k <;> cases e; rfl
  refine ⟨?_, Ex.refl F, x, fun _ _ e _ => e, fun k a e => ?_, fun a e => .inl e, fun i c e => ?_, fun i j c c' e1 e2 e3 e4 _ => ?_⟩
  · unfold L2.start startE
    cases hp with
    | no =>
      simp only [List.nil_append] at hl ⊢
      rw [List.length_append, List.length_append, List.length_map, List.length_map, List.length_replicate, List.length_replicate]
      omega
    | «at» =>
      simp only [List.cons_append, List.nil_append, List.length_cons] at hl ⊢
      rw [List.length_append, List.length_map, List.length_replicate]
      simp only [List.length_cons, List.length_append, List.length_map, List.length_replicate]
      omega
  · have := P0 k a e
    subst this
    cases hp with
    | «at» h1 h2 h3 => rw [h2]; simp
  · unfold startE at e
    cases hp with
    | no =>
      obtain ⟨d, hd, rfl⟩ := dats_get e
      obtain ⟨v, hv, r⟩ := dpa_get' ha hd
      have hi : i < dv.length := (List.getElem?_eq_some_iff.mp hv).1
      refine ⟨v, ?_, r⟩
      rw [List.nil_append] at hl ⊢
      rw [start_get hl hi, hv]
    | @«at» a ho o h1 h2 h3 =>
      cases i with
      | zero =>
        simp at e
        subst e
        exact ⟨.ref a, rfl, a, ho, rfl, h1, h2, h3, rfl⟩
      | succ i =>
        obtain ⟨d, hd, rfl⟩ := dats_get (i := i) (by simpa using e)
        obtain ⟨v, hv, r⟩ := dpa_get' ha hd
        have hi : i < dv.length := (List.getElem?_eq_some_iff.mp hv).1
        refine ⟨v, ?_, r⟩
        rw [start_get hl (by simp; omega)]
        simpa using hv
  · have key : ∀ (i : Nat) (c : Cell), (startE N.length ob ds)[i]? = some (some c) → c.holds = true → i = 0 := fun i c e h => by
      unfold startE at e
      cases ob with
      | none =>
        obtain ⟨d, hd, rfl⟩ := dats_get e
        cases h
      | some o =>
        cases i with
        | zero => rfl
        | succ i =>
          obtain ⟨d, hd, rfl⟩ := dats_get (i := i) (by simpa using e)
          cases h
    rw [key i c e1 e3, key j c' e2 e4]
/-- what is left behind at the end -/
theorem end_post {K : PySem.W.Frag} {F H F' H' : Hp} {pv : List V} {ob ob' : Option Ob} {σ' : St} {env' : Env} {res : Res} {u : V} (hp : PotR K F H pv ob)
    (s : SR ⟨K, H, F, potP pv⟩ F' H' σ' env') (e : potOf ob env' = some ob') (r : ResR K H F' H' u res) : PostF K F H pv ob' res u F' H' := by
  refine ⟨s.ff, s.fh, fun a o ha n => s.old a o ha fun k z => n ?_, fun a ha => ?_, fun a ha => s.new a ha, ?_, r⟩
  · cases hp with
    | no => cases k <;> cases z
    | «at» => cases k <;> cases z; simp
  · by_cases q : ∃ k, potP pv k = some a
    · obtain ⟨k, q⟩ := q; exact s.pt k a q
    · obtain ⟨o, ho⟩ := Option.ne_none_iff_exists'.mp ha
      rw [s.old a o ho fun k z => q ⟨k, z⟩]; simp
  · cases hp with
    | no => cases e; exact .no
    | @«at» a ho o h1 h2 h3 =>
      simp only [potOf] at e
      split at e
      · rename_i o' ec
        cases e
        obtain ⟨v, hv, b, ho', rfl, g1, g2, g3, g4⟩ := s.sl 0 _ ec
        cases g4
        exact .at g1 g2 g3
      · cases e
section
variable {P : Program} {w : World} {K : PySem.W.Frag} {mg : Str → Option Value} {base : Heap} {x : Str} {params : Arguments} {body : List Stmt} {scope : Scope} {k : Nat} {N ps : List Str} {fs : DS}
/-- a def's body, in a context in which no exception leaves -/
abbrev cxN (P : Program) (w : World) (K : PySem.W.Frag) (mg : Str → Option Value) (base : Heap) (N : List Str) (qual : Str) (scope : Scope) (f : Addr) (cd : Value) (A : Around) (outer : List PySem.Env) (s : Shared) (H : Hp) : Cx := (cxOf CX0 P w K mg base N qual scope f cd A outer s H E0).nox
theorem fnG_of {f : Addr} {fd : FuncData} (F : FunD K x x params body scope [] [] f fd) (S : FnScope N ps scope)
    (hbody : ∀ (cdv : Value) (A : Around) (outer : List PySem.Env) (s : Shared) (H : Hp), Ok (cxN P w K mg base N x scope f cdv A outer s H) k → JSs (cxN P w K mg base N x scope f cdv A outer s H) body fs) :
    FnG P w K mg base (k + 1) f fd ps (spF K ps.length (fnSem N.length fs)) := by
  obtain ⟨oc, od, dV, kV, doc, pm, an, cdv, ct, osl, rfl, lk, hcd, _, _⟩ := F.ex
  refine ⟨fun vs H Q E h => h.1, fun A outer s H args us vs Q hr hg e0 hb r hsp => ?_⟩
  have hl : vs.length = ps.length := hsp.1
  have KX : K.In s.heap := e0.mod.kin.keeps fun b o e => (e0.bs b o e).1
  have lim : s.heap.NoLimit := e0.mod.nolimit.keeps fun b o e => (e0.bs b o e).1
  have hkind : ∀ y ∈ ps.zip us, scope.names.lookup y.1 = some .local ∨ (scope.names.lookup y.1 = some .cell ∧ ((cellsFrom (s.heap.objs.size + 1) scope.names []).lookup y.1).isSome = true) := fun ⟨n, v⟩ hy => by
    rcases S.par n (List.of_mem_zip hy).1 with q | q
    · exact .inl q
    · exact .inr ⟨q, PySem.W.cellsFrom_some _ _ _ (.inl q)⟩
  refine codeAny_call_function hr.depth (KX _ _ lk) rfl S.co S.gen rfl (PySem.W.codeRec_of KX hcd) (hb _ _ _ _ ?_)
  refine wpAny_newFunctionEnv_cells S.kind hkind fun env he s1 x1 => ?_
  subst he
  refine ⟨lim.keeps x1.toInCall.keep, codeAny_func ?_⟩
  have ht := (hbody cdv A outer s H ⟨rfl, hr.deeper _, hg, S.nd⟩).nox
  have I := inv_start (CX := CX0) (P := P) (w := w) (mg := mg) (base := base) (qual := x) (E := E0) S hr.hd e0 hl r x1
  have hNl : vs.length ≤ N.length := by
    have := congrArg List.length S.pre
    rw [List.length_take] at this
    omega
  obtain ⟨_, F0, pv, dv, ds, ob, ob', res, rfl, x0, hp, ha, es, hq⟩ := hsp
  have sr := start_sr (N := N) hNl x0 hp ha
  simp only [fnSem, Option.bind_eq_some_iff] at es
  obtain ⟨out, e1, e2⟩ := es
  refine wpAny_mono (ht.run [] s1 (L2.start N (pv ++ dv)) H { nx := fun _ H' => Q .non H', rt := Q } I ⟨_, F0, _, out, rfl, sr, e1, ?_⟩) (fun fl s' hs => ?_) fun e s' hs => hs
  · cases out with
    | rt val env' =>
      simp only [Option.bind_eq_some_iff, Option.map_eq_some_iff] at e2
      obtain ⟨r0, e3, o0, e4, e5⟩ := e2
      cases e5
      intro v σ' F' H' pre s' vr
      refine hq v F' H' (end_post hp s' e4 ?_)
      cases val with
      | dat d => cases e3; exact vr
      | new o => cases e3; obtain ⟨p, ho, rfl, h1, h2, h3, h4, h5, h6⟩ := vr; exact ⟨p, ho, rfl, h1, h2, h3, h6⟩
      | slot i =>
        obtain ⟨h1, c, h2⟩ := vr
        simp only [Val.res, h2] at e3
        obtain ⟨v', hv, cr⟩ := s'.sl i c h2
        rw [h1] at hv
        cases hv
        cases c with
        | dat d => cases e3; exact cr
        | own o => cases e3; obtain ⟨a, ho, rfl, g1, g2, g3, g4⟩ := cr; exact ⟨a, ho, rfl, g1, g2, g3, g4⟩
        | par kk o => cases e3
    | nx env' =>
      simp only [Option.map_eq_some_iff] at e2
      obtain ⟨o0, e4, e5⟩ := e2
      cases e5
      intro σ' F' H' s' _
      exact hq .non F' H' (end_post hp s' e4 .non)
    | bk env' => cases e2
    | ct env' => cases e2
  · have fin : ∀ {σ' : St} {H' : Hp} {v : V} {u : Value}, Inv (cxOf CX0 P w K mg base N x scope f cdv A outer s H E0) [] σ' H' s' → RelV v u → Q v H' → CE outer P w H s Q u s' :=
      fun {σ' H' v u} J rv q => ⟨v, H', J.os, J.bare, J.base, J.hok, rv, q⟩
    cases fl with
    | ret u =>
      obtain ⟨v, σ', H', J, rv, q⟩ := hs
      exact fin J rv q
    | next =>
      obtain ⟨σ', H', J, q⟩ := hs
      exact fin (v := V.non) (u := Value.none) J rfl q
    | brk =>
      obtain ⟨_, _, _, q⟩ := hs
      exact False.elim q
    | cont =>
      obtain ⟨_, _, _, q⟩ := hs
      exact False.elim q
theorem good_of {f : Addr} {fd : FuncData} (F : FunD K x x params body scope [] [] f fd) (hm : mg x = some (.ref f)) (S : FnScope N ps scope)
    (hb : ∀ (kV doc pm : Value) (an : Option Addr) (cdv ct : Value) (us : List Value), us.length = ps.length → bindArgs (PySem.W.fnOf x x params body scope .none kV doc pm an cdv ct) ⟨us, []⟩ = pure (ps.zip us))
    (hbody : ∀ (cdv : Value) (A : Around) (outer : List PySem.Env) (s : Shared) (H : Hp), Ok (cxN P w K mg base N x scope f cdv A outer s H) k → JSs (cxN P w K mg base N x scope f cdv A outer s H) body fs) :
    Good P w K mg base (k + 1) x params ps (fnSem N.length fs) := by
  refine ⟨f, fd, hm, F.kp, F.bindsA hb, fun ks g h => ?_, fnG_of F S hbody⟩
  obtain ⟨oc, od, dV, kV, doc, pm, an, cdv, ct, osl, rfl, lk, hcd, hD, hK⟩ := F.ex
  rcases hD with ⟨_, rfl⟩ | ⟨e, _⟩
  · exact fun s ws hl => .of_eq (h body scope kV doc pm an cdv ct ws hl)
  · exact absurd rfl e
theorem Good.mono {j : Nat} {sem : Sem} (G : Good P w K mg base j x params ps sem) (h : j ≤ k) : Good P w K mg base k x params ps sem := by
  obtain ⟨f, fd, a, b, c, d, F⟩ := G.ex
  exact ⟨f, fd, a, b, c, d, F.len, fun A outer s H args us vs Q hr => F.run A outer s H args us vs Q (hr.mono h)⟩
end
end EW

set_option maxHeartbeats 2000000
/-! EW 9: what is walked: lists, tuples, texts, ranges, enumerate, zip. -/
namespace EW
open PySem PySem.Spec PyProof.Rows L2

/-! ### sources -/
inductive Sc where
  | l (a : Addr)
  | t (a : Addr)
  | s (z : Str) (k : Tok)
def Sc.val : Sc → Value
  | .l a => .ref a
  | .t a => .ref a
  | .s z k => .str z k
def Sc.obj : Sc → Obj
  | .l a => { cls := .type "list_iterator", data := .fields #[.ref a, .int 0 0] }
  | .t a => { cls := .type "tuple_iterator", data := .fields #[.ref a, .int 0 0] }
  | .s z k => { cls := .type (strIterType z), data := .fields #[.str z k, .int 0 0] }
def Sc.src : Sc → List Addr
  | .l a => [a]
  | .t a => [a]
  | .s _ _ => []
def Sc.at (sc : Sc) (it : Addr) (i : Nat) (h : Heap) : Prop := match sc with
  | .l a => h.IsListIter it a i
  | .t a => h.IsTupleIter it a i
  | .s z k => h.IsStrIter it (strIterType z) z k i
def Sc.ok (sc : Sc) (K : PySem.W.Frag) (H : Hp) (xs : List V) : Prop := match sc with
  | .l a => SqL K H a xs
  | .t a => SqT K H a xs
  | .s z _ => xs = sgV z
theorem Sc.at_obj {sc : Sc} {it : Addr} {h : Heap} (e : h.get? it = some sc.obj) : sc.at it 0 h := by
  cases sc with
  | l a => exact ⟨_, e, rfl, rfl⟩
  | t a => exact ⟨_, e, rfl, rfl⟩
  | s z k => exact ⟨_, e, rfl, rfl⟩
theorem Sc.at_ex {sc : Sc} {it : Addr} {i : Nat} {h : Heap} (st : sc.at it i h) : ∃ o, h.get? it = some o ∧ ∀ v, o.data ≠ .cell v := by
  cases sc with
  | l a => obtain ⟨o, e, c, d⟩ := st; exact ⟨o, e, fun v z => by rw [d] at z; cases z⟩
  | t a => obtain ⟨o, e, c, d⟩ := st; exact ⟨o, e, fun v z => by rw [d] at z; cases z⟩
  | s z k => obtain ⟨o, e, c, d⟩ := st; exact ⟨o, e, fun v z => by rw [d] at z; cases z⟩
theorem Sc.at_keep {sc : Sc} {it : Addr} {i : Nat} {h h' : Heap} (st : sc.at it i h) (k : ∀ o, h.get? it = some o → h'.get? it = some o) : sc.at it i h' := by
  cases sc with
  | l a => exact st.at fun o e => k o e
  | t a => exact st.at fun o e => k o e
  | s z t => obtain ⟨o, ho, r⟩ := st; exact ⟨o, k o ho, r⟩
/-- a source in a state, as the library's rules for iterators take it -/
theorem Sc.draws {X : Cx} {pins : List (Addr × Obj)} {σ : St} {H : Hp} {s : Shared} {sc : Sc} {xs : List V} {A : Around} (hA : A.handled = none) (I : Inv X pins σ H s) (h : sc.ok X.K H xs) (it : Addr) (hn : it ∉ sc.src) :
    ∃ P St, Draws X.prog X.w A it (it :: sc.src) xs.length P St ∧ (∀ i, sc.at it i s.heap → St i s.heap) ∧ (∀ i h, St i h → sc.at it i h) ∧ ∀ i v, P i v → ∃ x, xs[i]? = some x ∧ L2.RelV x v := by
  cases sc with
  | l a =>
    obtain ⟨its, rv, p, hz⟩ := I.list h
    have hl := rv.length
    refine ⟨fun i v => its.toArray[i]? = some v, fun i h => h.IsListIter it a i ∧ h.IsList a its.toArray, by rw [hl, ← List.size_toArray]; exact Draws.list hA it a (fun z => hn (by simp [Sc.src, z])) its.toArray, fun i st => ⟨st, p.isList⟩, fun i h st => st.1, fun i v hv => ?_⟩
    obtain ⟨x, hx⟩ : ∃ x, xs[i]? = some x := by
      have hi : i < its.length := by
        have := (Array.getElem?_eq_some_iff.mp hv).1
        simpa using this
      exact ⟨xs[i]'(by omega), List.getElem?_eq_getElem (by omega)⟩
    obtain ⟨u, hu, ru⟩ := rv.get hx
    have hv' : its.toArray[i]? = some v := hv
    have : its.toArray[i]? = its[i]? := by simp
    rw [this, hu] at hv'
    cases hv'
    exact ⟨x, hx, ru⟩
  | t a =>
    obtain ⟨its, rv, p, hz⟩ := I.tuple h
    have hl := rv.length
    refine ⟨fun i v => its.toArray[i]? = some v, fun i h => h.IsTupleIter it a i ∧ h.IsTuple a its.toArray, by rw [hl, ← List.size_toArray]; exact Draws.tuple hA it a (fun z => hn (by simp [Sc.src, z])) its.toArray, fun i st => ⟨st, p⟩, fun i h st => st.1, fun i v hv => ?_⟩
    obtain ⟨x, hx⟩ : ∃ x, xs[i]? = some x := by
      have hi : i < its.length := by
        have := (Array.getElem?_eq_some_iff.mp hv).1
        simpa using this
      exact ⟨xs[i]'(by omega), List.getElem?_eq_getElem (by omega)⟩
    obtain ⟨u, hu, ru⟩ := rv.get hx
    have hv' : its.toArray[i]? = some v := hv
    have : its.toArray[i]? = its[i]? := by simp
    rw [this, hu] at hv'
    cases hv'
    exact ⟨x, hx, ru⟩
  | s z k =>
    have e : xs = sgV z := h
    subst e
    have hl : (sgV z).length = z.cps.size := by unfold sgV; simp
    refine ⟨fun i v => ∃ c u, z.cps[i]? = some c ∧ v = .str ⟨#[c]⟩ u, fun i h => h.IsStrIter it (strIterType z) z k i, by rw [hl]; exact Draws.text hA it z k, fun i st => st, fun i h st => st, fun i v hv => ?_⟩
    obtain ⟨c, u, hc, rfl⟩ := hv
    refine ⟨.str ⟨#[c]⟩, ?_, u, rfl⟩
    unfold sgV
    rw [List.getElem?_map]
    have : z.cps.toList[i]? = some c := by simpa using hc
    rw [this]
    rfl
theorem Sc.begins {X : Cx} {pins : List (Addr × Obj)} {σ : St} {H : Hp} {s : Shared} {sc : Sc} {xs : List V} (I : Inv X pins σ H s) (h : sc.ok X.K H xs) : ∃ Hb : Heap → Prop, Begins sc.val sc.obj Hb ∧ Hb s.heap ∧ ∀ b ∈ sc.src, b < s.heap.objs.size := by
  cases sc with
  | l a =>
    obtain ⟨its, rv, p, hz⟩ := I.list h
    refine ⟨_, begins_list a its.toArray, p.isList, fun b hb => ?_⟩
    obtain ⟨o, e, _⟩ := p.isList
    have : b = a := by simpa [Sc.src] using hb
    rw [this]; exact Heap.lt_size e
  | t a =>
    obtain ⟨its, rv, p, hz⟩ := I.tuple h
    refine ⟨_, begins_tuple a its.toArray, p, fun b hb => ?_⟩
    obtain ⟨o, e, _⟩ := id p
    have : b = a := by simpa [Sc.src] using hb
    rw [this]; exact Heap.lt_size e
  | s z k => exact ⟨_, begins_text z k, trivial, fun b hb => by simp [Sc.src] at hb⟩

/-! ### plain walks -/
def J1 (sc : Sc) (K : PySem.W.Frag) (xs : List V) : It := ⟨fun i H => sc.ok K H xs ∧ i < xs.length, fun i H v H' => H' = H ∧ xs[i]? = some v, fun i H => sc.ok K H xs ∧ xs.length ≤ i⟩
theorem strIter_ok (z : Str) : strIterType z = "str_ascii_iterator" ∨ strIterType z = "str_iterator" := by
  unfold strIterType
  split
  · exact .inl rfl
  · exact .inr rfl
theorem turn_weaken {P : Program} {w : World} {K : PySem.W.Frag} {tg : Expr} {J J' : It} {fp : List Addr} {it : Addr} {tn : Nat → Heap → Prop} (T : Turn P w K tg J fp it tn) (g : ∀ i H, J'.go i H → J.go i H) (st : ∀ i H, J'.stop i H → J.stop i H)
    (y : ∀ i H v H', J'.go i H → J.yld i H v H' → J'.yld i H v H') : Turn P w K tg J' fp it tn where
  mem := T.mem
  obj := T.obj
  keep := T.keep
  item := fun X hP hw hK hc i pins s σ H E I hf ht hg => thn (T.item X hP hw hK hc i pins s σ H E I hf ht (g i H hg)) fun r s1 ⟨u, e, h⟩ => ⟨u, e, thn h fun _ s2 ⟨x, H', a, b, c, d⟩ => ⟨x, H', a, b, y i H x H' hg c, d⟩⟩
  done := fun X hP hw hK hc i pins s σ H E I hf ht hs => T.done X hP hw hK hc i pins s σ H E I hf ht (st i H hs)
  self := T.self
theorem turn_src {P : Program} {w : World} {K : PySem.W.Frag} {tg : Expr} (sc : Sc) (xs : List V) (it : Addr) : Turn P w K tg (J1 sc K xs) [it] it (fun i h => sc.at it i h) := by
  cases sc with
  | l a =>
    refine turn_weaken (turn_list a it) (fun i H ⟨h1, h2⟩ => ⟨xs, xs[i], h1, List.getElem?_eq_getElem h2⟩) (fun i H ⟨h1, h2⟩ => ⟨xs, h1, h2⟩) fun i H v H' ⟨h1, _⟩ ⟨e, h⟩ => ⟨e, h xs h1⟩
  | t a =>
    refine turn_weaken (turn_tuple a it) (fun i H ⟨h1, h2⟩ => ⟨xs, xs[i], h1, List.getElem?_eq_getElem h2⟩) (fun i H ⟨h1, h2⟩ => ⟨xs, h1, h2⟩) fun i H v H' ⟨h1, _⟩ ⟨e, h⟩ => ⟨e, h xs h1⟩
  | s z k =>
    have hl : (sgV z).length = z.cps.size := by unfold sgV; simp
    refine turn_weaken (turn_str it z k (strIterType z) (strIter_ok z)) (fun i H ⟨h1, h2⟩ => ?_) (fun i H ⟨h1, h2⟩ => ?_) fun i H v H' ⟨h1, h2⟩ ⟨e, c, hc, hv⟩ => ⟨e, ?_⟩
    · have h1 : xs = sgV z := h1
      show i < z.cps.size
      rw [h1, hl] at h2; exact h2
    · have h1 : xs = sgV z := h1
      show z.cps.size ≤ i
      rw [h1, hl] at h2; exact h2
    · have h1 : xs = sgV z := h1
      subst h1 hv
      unfold sgV
      rw [List.getElem?_map]
      have : z.cps.toList[i]? = some c := by simpa using hc
      rw [this]
      rfl

/-! ### enumerate -/
def J2 (sc : Sc) (K : PySem.W.Frag) (xs : List V) : It := ⟨fun i H => sc.ok K H xs ∧ i < xs.length, fun i H v H' => ∃ T x, v = .ref T ∧ H T = none ∧ H' = upd H T (.tup [.int (i : Nat), x]) ∧ xs[i]? = some x, fun i H => sc.ok K H xs ∧ i = xs.length⟩
theorem turn_enumS {P : Program} {w : World} {K : PySem.W.Frag} {elts : List Expr} {kk : Nat} {tpos : Pos} (sc : Sc) (xs : List V) (e it : Addr) (h1 : e ≠ it) (h2 : e ∉ it :: sc.src) (h3 : it ∉ sc.src) :
    Turn P w K (.Tuple elts kk tpos) (J2 sc K xs) [e, it] e (fun i h => (∃ old, IsEnum h e it (0 + ((i : Nat) : Int)) old) ∧ sc.at it i h) where
  mem := by simp
  obj := fun i h st b hb => by
    obtain ⟨⟨old, he⟩, hi⟩ := st
    have e' : b = e ∨ b = it := by simpa using hb
    rcases e' with z | z
    · rw [z]; exact ⟨_, he, fun v q => nomatch q⟩
    · rw [z]; exact Sc.at_ex hi
  keep := fun i h h' st k => let ⟨⟨old, he⟩, hi⟩ := st; ⟨⟨old, k e (by simp) _ he⟩, Sc.at_keep hi fun o q => k it (by simp) o q⟩
  item := by
    intro X hP hw hK hc i pins s σ H E I hf st hg
    subst hP hw hK
    obtain ⟨hg1, hg2⟩ := hg
    obtain ⟨Pd, Sd, D, d1, d2, d3⟩ := Sc.draws (A := X.A.in1) (I.ok.hd hc) I hg1 it h3
    have W := GoesN.enumFrom (elts := elts) (x1 := kk) (pos := tpos) 0 D e h1 h2 (by simp)
    refine W.goes i s (fun u s2 => ∃ x H', Inv X pins σ H' s2 ∧ L2.RelV x u ∧ (J2 sc X.K xs).yld i H x H' ∧ ((∃ old, IsEnum s2.heap e it (0 + ((i + 1 : Nat) : Int)) old) ∧ sc.at it (i + 1) s2.heap) ∧ ∀ b ∈ [e, it], H' b = none) E hg2 ⟨st.1, d1 i st.2⟩ fun v h' tk hY st' hk _ => ?_
    obtain ⟨T, t, u, rfl, hT, hu, hTup⟩ := hY
    obtain ⟨x, hx, ru⟩ := d3 i u hu
    have new : ObjOk X.prog X.w (upd H T (.tup [.int (i : Nat), x])) h' T (.tup [.int (i : Nat), x]) :=
      ⟨by show 2 ≤ sizeLine; decide, [.int (0 + (i : Int)) t, u], .cons ⟨t, by rw [Int.zero_add]⟩ (.cons ru .nil), hTup⟩
    have I1 := I.turnedNew (t' := tk) (ch := [e, it]) (fun b o hb q => hk b o hb q) hf hT new
    refine ⟨.ref T, _, I1, rfl, ⟨T, x, rfl, I.hok.fresh hT, rfl, hx⟩, ⟨st'.1, d2 _ _ st'.2⟩, fun b hb => ?_⟩
    obtain ⟨o, ho⟩ : ∃ o, s.heap.get? b = some o := by
      have e' : b = e ∨ b = it := by simpa using hb
      rcases e' with z | z
      · rw [z]; obtain ⟨old, he⟩ := st.1; exact ⟨_, he⟩
      · rw [z]; obtain ⟨o, ho, _⟩ := Sc.at_ex st.2; exact ⟨o, ho⟩
    rw [upd_ne (Nat.ne_of_lt (Nat.lt_of_lt_of_le (Heap.lt_size ho) hT))]
    exact (hf b hb).1
  done := by
    intro X hP hw hK hc i pins s σ H E I hf st hg
    subst hP hw hK
    obtain ⟨hg1, hg2⟩ := hg
    subst hg2
    obtain ⟨Pd, Sd, D, d1, d2, d3⟩ := Sc.draws (A := X.A.in1) (I.ok.hd hc) I hg1 it h3
    have W := GoesN.enumFrom (elts := elts) (x1 := kk) (pos := tpos) 0 D e h1 h2 (by simp)
    refine W.stops s (fun s1 => Inv X pins σ H s1) E ⟨st.1, d1 _ st.2⟩ fun h' tk hk _ => ?_
    obtain ⟨q, _⟩ := hf e (by simp)
    exact I.turnedL (t' := tk) (ch := [e, it]) (fun b o hb q => hk b o hb q) hf
  self := fun A i s Q E st h => let ⟨⟨_, he⟩, _⟩ := st; wpAny_pyIter_enum he h

/-! ### zip -/
def J3 (sc1 sc2 : Sc) (K : PySem.W.Frag) (xs ys : List V) : It := ⟨fun i H => (sc1.ok K H xs ∧ sc2.ok K H ys) ∧ i < min xs.length ys.length, fun i H v H' => ∃ T x y, v = .ref T ∧ H T = none ∧ H' = upd H T (.tup [x, y]) ∧ xs[i]? = some x ∧ ys[i]? = some y, fun i H => (sc1.ok K H xs ∧ sc2.ok K H ys) ∧ i = min xs.length ys.length⟩
theorem turn_zipS {P : Program} {w : World} {K : PySem.W.Frag} {elts : List Expr} {kk : Nat} {tpos : Pos} (sc1 sc2 : Sc) (xs ys : List V) {z TI TO i1 i2 : Addr} (S : ZipSep2 z TI TO i1 i2 (i1 :: sc1.src) (i2 :: sc2.src)) (n1 : i1 ∉ sc1.src) (n2 : i2 ∉ sc2.src) :
    Turn P w K (.Tuple elts kk tpos) (J3 sc1 sc2 K xs ys) [z, TI, TO, i1, i2] z (fun i h => IsZip h z TI TO .none ∧ IsTupOf2 h TI (.ref i1) (.ref i2) ∧ (∃ a1 a2, IsTupOf2 h TO a1 a2) ∧ sc1.at i1 i h ∧ sc2.at i2 i h) where
  mem := by simp
  obj := fun i h st b hb => by
    obtain ⟨hz, hTI, ⟨a1, a2, hTO⟩, h1, h2⟩ := st
    have e' : b = z ∨ b = TI ∨ b = TO ∨ b = i1 ∨ b = i2 := by simpa using hb
    rcases e' with q | q | q | q | q
    · rw [q]; exact ⟨_, hz, fun v q => nomatch q⟩
    · rw [q]; exact ⟨_, hTI, fun v q => nomatch q⟩
    · rw [q]; exact ⟨_, hTO, fun v q => nomatch q⟩
    · rw [q]; exact Sc.at_ex h1
    · rw [q]; exact Sc.at_ex h2
  keep := fun i h h' st k => by
    obtain ⟨hz, hTI, ⟨a1, a2, hTO⟩, h1, h2⟩ := st
    exact ⟨k z (by simp) _ hz, k TI (by simp) _ hTI, ⟨a1, a2, k TO (by simp) _ hTO⟩, Sc.at_keep h1 fun o q => k i1 (by simp) o q, Sc.at_keep h2 fun o q => k i2 (by simp) o q⟩
  item := by
    intro X hP hw hK hc i pins s σ H E I hf st hg
    subst hP hw hK
    obtain ⟨⟨hg1, hg2⟩, hg3⟩ := hg
    obtain ⟨Pd, Sd, D, d1, d2, d3⟩ := Sc.draws (A := X.A.in1) (I.ok.hd hc) I hg1 i1 n1
    obtain ⟨Pd', Sd', D', d1', d2', d3'⟩ := Sc.draws (A := X.A.in1) (I.ok.hd hc) I hg2 i2 n2
    have W := GoesN.zip2 (elts := elts) (x1 := kk) (pos := tpos) S D D'
    obtain ⟨hz, hTI, hTO, h1, h2⟩ := st
    refine W.goes i s (fun u s2 => ∃ x H', Inv X pins σ H' s2 ∧ L2.RelV x u ∧ (J3 sc1 sc2 X.K xs ys).yld i H x H' ∧ (IsZip s2.heap z TI TO .none ∧ IsTupOf2 s2.heap TI (.ref i1) (.ref i2) ∧ (∃ a1 a2, IsTupOf2 s2.heap TO a1 a2) ∧ sc1.at i1 (i + 1) s2.heap ∧ sc2.at i2 (i + 1) s2.heap) ∧ ∀ b ∈ [z, TI, TO, i1, i2], H' b = none) E hg3 ⟨hz, hTI, hTO, d1 i h1, d1' i h2⟩ fun v h' tk hY st' hk _ => ?_
    obtain ⟨T, u, u', rfl, hT, hu, hu', hTup⟩ := hY
    obtain ⟨x, hx, ru⟩ := d3 i u hu
    obtain ⟨y, hy, ru'⟩ := d3' i u' hu'
    have new : ObjOk X.prog X.w (upd H T (.tup [x, y])) h' T (.tup [x, y]) :=
      ⟨by show 2 ≤ sizeLine; decide, [u, u'], .cons ru (.cons ru' .nil), hTup⟩
    have I1 := I.turnedNew (t' := tk) (ch := [z, TI, TO, i1, i2]) (fun b o hb q => hk b o (fun m => hb (by
      have e' : b = z ∨ b = TO ∨ b = i1 ∨ b = i2 := by simpa using m
      rcases e' with q | q | q | q <;> simp [q])) q) hf hT new
    obtain ⟨k1, k2, k3, k4, k5⟩ := st'
    refine ⟨.ref T, _, I1, rfl, ⟨T, x, y, rfl, I.hok.fresh hT, rfl, hx, hy⟩, ⟨k1, k2, k3, d2 _ _ k4, d2' _ _ k5⟩, fun b hb => ?_⟩
    obtain ⟨o, ho⟩ : ∃ o, s.heap.get? b = some o := by
      have e' : b = z ∨ b = TI ∨ b = TO ∨ b = i1 ∨ b = i2 := by simpa using hb
      rcases e' with q | q | q | q | q
      · rw [q]; exact ⟨_, hz⟩
      · rw [q]; exact ⟨_, hTI⟩
      · rw [q]; obtain ⟨a1, a2, hTO⟩ := hTO; exact ⟨_, hTO⟩
      · rw [q]; obtain ⟨o, ho, _⟩ := Sc.at_ex h1; exact ⟨o, ho⟩
      · rw [q]; obtain ⟨o, ho, _⟩ := Sc.at_ex h2; exact ⟨o, ho⟩
    rw [upd_ne (Nat.ne_of_lt (Nat.lt_of_lt_of_le (Heap.lt_size ho) hT))]
    exact (hf b hb).1
  done := by
    intro X hP hw hK hc i pins s σ H E I hf st hg
    subst hP hw hK
    obtain ⟨⟨hg1, hg2⟩, hg3⟩ := hg
    subst hg3
    obtain ⟨Pd, Sd, D, d1, d2, d3⟩ := Sc.draws (A := X.A.in1) (I.ok.hd hc) I hg1 i1 n1
    obtain ⟨Pd', Sd', D', d1', d2', d3'⟩ := Sc.draws (A := X.A.in1) (I.ok.hd hc) I hg2 i2 n2
    have W := GoesN.zip2 (elts := elts) (x1 := kk) (pos := tpos) S D D'
    obtain ⟨hz, hTI, hTO, h1, h2⟩ := st
    refine W.stops s (fun s1 => Inv X pins σ H s1) E ⟨hz, hTI, hTO, d1 _ h1, d1' _ h2⟩ fun h' tk hk _ => ?_
    exact I.turnedL (t' := tk) (ch := [z, TI, TO, i1, i2]) (fun b o hb q => hk b o (fun m => hb (by
      have e' : b = z ∨ b = TO ∨ b = i1 ∨ b = i2 := by simpa using m
      rcases e' with q | q | q | q <;> simp [q])) q) hf
  self := fun A i s Q E st h => wpAny_pyIter_zip st.1 h

/-! ### readings of what is walked -/
structure ItOk (K : PySem.W.Frag) (J : It) (F : Hp) (ds : List D) : Prop where
  go : ∀ (F1 H1 : Hp) (i : Nat), Ex F F1 → Ex F1 H1 → i < ds.length → J.go i H1
  stop : ∀ (F1 H1 : Hp), Ex F F1 → Ex F1 H1 → J.stop ds.length H1
  yld : ∀ (F1 H1 : Hp) (i : Nat) (x : V) (H2 : Hp), Ex F F1 → Ex F1 H1 → i < ds.length → J.yld i H1 x H2 → ∃ d, ds[i]? = some d ∧ ((H2 = H1 ∧ Dp K F1 x d) ∨ ∃ p xs es, x = .ref p ∧ H1 p = none ∧ H2 = upd H1 p (.tup xs) ∧ d = .tuple es ∧ DpAll K F1 xs es)
abbrev DI := Env → Option (List D × Env)
def rdI (K : PySem.W.Frag) (f : DI) : TI := fun σ H R => ∃ (B : Bs) (F : Hp) (env : Env) (ds : List D) (env' : Env), B.K = K ∧ SR B F H σ env ∧ f env = some (ds, env') ∧ ∀ J F' H', Post B σ F H env F' H' env' → ItOk K J F' ds → R J H'
abbrev JI (X : Cx) (tg e : Expr) (f : DI) : Prop := PI X tg e (rdI X.K f)
/-- the items of a value that is walked -/
def itemsD : D → Option (List D)
  | .list ds => some ds
  | .tuple ds => some ds
  | .str z => if z.length ≤ 1000000 then some (sgs z) else none
  | _ => none
theorem src_of {X : Cx} {pins : List (Addr × Obj)} {σ : St} {H F : Hp} {s : Shared} {v : V} {u : Value} {d : D} {ds : List D} (h : Dp X.K F v d) (r : L2.RelV v u) (e : itemsD d = some ds) : ∃ (sc : Sc) (xs : List V), u = sc.val ∧ (∀ H1, Ex F H1 → sc.ok X.K H1 xs) ∧ DpAll X.K F xs ds := by
  cases h with
  | lst h1 h2 => cases e; cases r; exact ⟨.l _, _, rfl, fun H1 x => ex_l x h1, h2⟩
  | tup h1 h2 => cases e; cases r; exact ⟨.t _, _, rfl, fun H1 x => ex_t x h1, h2⟩
  | str z =>
    simp only [itemsD] at e
    split at e
    · cases e
      obtain ⟨k, rfl⟩ := r
      exact ⟨.s z k, _, rfl, fun _ _ => rfl, sgs_dpa z⟩
    · cases e
  | non => cases e
  | bl b => cases e
  | int i => cases e
theorem itok1 {K : PySem.W.Frag} {F : Hp} {sc : Sc} {xs : List V} {ds : List D} (h : ∀ H1, Ex F H1 → sc.ok K H1 xs) (ha : DpAll K F xs ds) : ItOk K (J1 sc K xs) F ds := by
  have hl := dpa_length ha
  refine ⟨fun F1 H1 i x1 x2 hi => ⟨h H1 (x1.trans x2), by omega⟩, fun F1 H1 x1 x2 => ⟨h H1 (x1.trans x2), by omega⟩, fun F1 H1 i x H2 x1 x2 hlt ⟨e, hx⟩ => ?_⟩
  obtain ⟨d, hd, r⟩ := dpa_get ha hx
  exact ⟨d, hd, .inl ⟨e, dp_mono x1 r⟩⟩
def dsEnum (ds : List D) : List D := ds.zipIdx.map fun p => .tuple [.int (p.2 : Nat), p.1]
theorem dsEnum_get {ds : List D} {i : Nat} : (dsEnum ds)[i]? = (ds[i]?).map fun d => .tuple [.int (i : Nat), d] := by
  unfold dsEnum
  rw [List.getElem?_map, List.getElem?_zipIdx]
  cases ds[i]? <;> simp
theorem dsEnum_length {ds : List D} : (dsEnum ds).length = ds.length := by unfold dsEnum; simp
theorem itok2 {K : PySem.W.Frag} {F : Hp} {sc : Sc} {xs : List V} {ds : List D} (h : ∀ H1, Ex F H1 → sc.ok K H1 xs) (ha : DpAll K F xs ds) : ItOk K (J2 sc K xs) F (dsEnum ds) := by
  have hl := dpa_length ha
  refine ⟨fun F1 H1 i x1 x2 hi => ⟨h H1 (x1.trans x2), by rw [dsEnum_length] at hi; omega⟩, fun F1 H1 x1 x2 => ⟨h H1 (x1.trans x2), by rw [dsEnum_length]; omega⟩, fun F1 H1 i x H2 x1 x2 hlt ⟨T, y, e1, e2, e3, hy⟩ => ?_⟩
  obtain ⟨d, hd, r⟩ := dpa_get ha hy
  refine ⟨_, by rw [dsEnum_get, hd]; rfl, .inr ⟨T, _, _, e1, e2, e3, rfl, .cons (.int _) (.cons (dp_mono x1 r) .nil)⟩⟩
def dsZip (ds es : List D) : List D := (ds.zip es).map fun p => .tuple [p.1, p.2]
theorem dsZip_length {ds es : List D} : (dsZip ds es).length = min ds.length es.length := by unfold dsZip; simp
theorem itok3 {K : PySem.W.Frag} {F : Hp} {sc1 sc2 : Sc} {xs ys : List V} {ds es : List D} (h1 : ∀ H1, Ex F H1 → sc1.ok K H1 xs) (h2 : ∀ H1, Ex F H1 → sc2.ok K H1 ys) (ha : DpAll K F xs ds) (hb : DpAll K F ys es) : ItOk K (J3 sc1 sc2 K xs ys) F (dsZip ds es) := by
  have hl := dpa_length ha
  have hl2 := dpa_length hb
  refine ⟨fun F1 H1 i x1 x2 hi => ⟨⟨h1 H1 (x1.trans x2), h2 H1 (x1.trans x2)⟩, by rw [dsZip_length] at hi; omega⟩, fun F1 H1 x1 x2 => ⟨⟨h1 H1 (x1.trans x2), h2 H1 (x1.trans x2)⟩, by rw [dsZip_length]; omega⟩, fun F1 H1 i x H2 x1 x2 hlt ⟨T, y, y2, e1, e2, e3, hy, hy2⟩ => ?_⟩
  obtain ⟨d, hd, r⟩ := dpa_get ha hy
  obtain ⟨d2, hd2, r2⟩ := dpa_get hb hy2
  refine ⟨.tuple [d, d2], ?_, .inr ⟨T, _, _, e1, e2, e3, rfl, .cons (dp_mono x1 r) (.cons (dp_mono x1 r2) .nil)⟩⟩
  unfold dsZip
  rw [List.getElem?_map, List.getElem?_zip_eq_some (z := (d, d2)) |>.mpr ⟨hd, hd2⟩]
  rfl
def iIt (f : DE) : DI := fun env => (f env).bind fun r => (r.1.frz r.2).bind fun z => (itemsD z.1).map fun ds => (ds, z.2)
def iEn (f : DE) : DI := fun env => (f env).bind fun r => (r.1.frz r.2).bind fun z => (itemsD z.1).map fun ds => (dsEnum ds, z.2)
def iZp (f g : DE) : DI := fun env => (f env).bind fun r => (g r.2).bind fun q => (frzs [r.1, q.1] q.2).bind fun z => match z.1 with
  | [a, b] => (itemsD a).bind fun ds => (itemsD b).map fun es => (dsZip ds es, z.2)
  | _ => none
section
variable {X : Cx} {tg e e2 : Expr} {f g : DE}
theorem ji_it (he : JE X e f) : JI X tg e (iIt f) := by
  refine ⟨fun pins s σ H R I h => ?_⟩
  obtain ⟨B, F, env, ds, env', hK, s0, e0, q⟩ := h
  simp only [iIt, Option.bind_eq_some_iff, Option.map_eq_some_iff] at e0
  obtain ⟨⟨x, env1⟩, e1, ⟨d, env2⟩, e2, ds', e3, e4⟩ := e0
  cases e4
  have hq : rdE X.K f σ H fun v H1 => ∃ F1, Post B σ F H env F1 H1 env2 ∧ Dp X.K F1 v d := ⟨B, F, env, x, env1, hK, s0, e1, fun v F1 H1 p1 r1 => by
    obtain ⟨F2, p2, hd, _⟩ := frz_post p1 r1 e2
    rw [← hK]
    exact ⟨F2, p2, hd⟩⟩
  refine thn (he.run pins s σ H _ I hq) fun u s1 ⟨v, H1, I1, r1, F1, p1, hd⟩ => ?_
  obtain ⟨sc, xs, rfl, ok, ha⟩ := src_of (X := X) (pins := pins) (σ := σ) (H := H1) (s := s1) hd r1 e3
  obtain ⟨Hb, Bg, hb, _⟩ := Sc.begins I1 (ok H1 p1.sr.fh)
  refine Bg.iter X.prog X.w X.A X.xe s1 _ hb ?_
  exact pi_one (tk := s1.toks) I1 sc.obj (turn_src sc xs _) (Sc.at_obj (Heap.get?_push_size _ Bg.free)) (q _ F1 H1 p1 (itok1 ok ha))
theorem meets_enum1 {v : Value} {o : Obj} {H : Heap → Prop} (B : Begins v o H) :
    Meets (Builtin.«enumerate.__new__» ⟨[.type "enumerate", v], []⟩) (fun _ R s => H s.heap ∧
      R (.ok (.ret (.ref (s.heap.push o).objs.size))) { s with heap := (s.heap.push o).push { cls := .type "enumerate", data := .fields #[.none, .bool false, .ref s.heap.objs.size, rawInt 0, .none, .none] } }) :=
  .of_wp fun prog w A R s h => by
    obtain ⟨hp, g, d, tk, os⟩ := s; obtain ⟨h1, h⟩ := h
    have hsub := sub_enumerate
    have q1 : ∀ {A' : Around} {E : Value → Shared → Prop} {Q : Value → Shared → Prop}, Q (.ref hp.objs.size) ⟨hp.push o, g, d, tk, os⟩ → wpAny (model prog w) A' (pyIter v) Q E ⟨hp, g, d, tk, os⟩ :=
      fun q => B.iter prog w _ _ ⟨hp, g, d, tk, os⟩ _ h1 q
    wp_walk using q1
    refine wpAny_stack_any fun st => wpAny_pure ?_
    split
    · rename_i c _ _ _ _ _
      cases (c == Value.type "enumerate")
      · wp_walk using q1
        exact ⟨_, rfl, h⟩
      · wp_walk using q1
        exact ⟨_, rfl, h⟩
    · wp_walk using q1
      exact ⟨_, rfl, h⟩
theorem enum_begins1 {prog : Program} {w : World} {A : Around} {E : Value → Shared → Prop} {s : Shared} {v : Value} {o : Obj} {H : Heap → Prop} {Q : Value → Shared → Prop} (B : Begins v o H) (h1 : H s.heap)
    (h : ∀ h', IsEnum h' (s.heap.objs.size + 1) s.heap.objs.size 0 .none → h'.get? s.heap.objs.size = some o → (∀ b o, s.heap.get? b = some o → h'.get? b = some o) → Q (.ref (s.heap.objs.size + 1)) { s with heap := h' }) :
    wpAny (model prog w) A (call (.type "enumerate") [v]) Q E s := by
  refine callType_new F.called_enumerate (by decide) (F.typeCall_enumerate_1 _) (F.newCall_enumerate_1 _) (fun obj => F.args_object_init_2 obj _) F.entry_enumerate_new
    (meets_enum1 B) ⟨h1, ?_⟩
  have hz : (s.heap.push o).objs.size = s.heap.objs.size + 1 := Heap.size_push ..
  show _ ∧ _
  rw [hz]
  have he : IsEnum ((s.heap.push o).push { cls := .type "enumerate", data := .fields #[.none, .bool false, .ref s.heap.objs.size, rawInt 0, .none, .none] }) (s.heap.objs.size + 1) s.heap.objs.size 0 .none := by
    have := Heap.get?_push_size (s.heap.push o) (o := { cls := .type "enumerate", data := .fields #[.none, .bool false, .ref s.heap.objs.size, rawInt 0, .none, .none] }) rfl
    rw [hz] at this; exact this
  exact ⟨⟨_, he, rfl⟩, h _ he (Heap.get?_push_of_some _ (Heap.get?_push_size _ B.free)) fun b o x => Heap.get?_push_of_some _ (Heap.get?_push_of_some _ x)⟩
theorem ji_en {p pos tpos : Pos} {elts : List Expr} {kk : Nat} (hm : X.mg "enumerate" = none) (he : JE X e f) (hg : Gl X "enumerate" := by rfl) (hs : starEach [e] X.env = [(false, eval e X.env)] := by rfl) : JI X (.Tuple elts kk tpos) (.Call (.Name "enumerate" p) [e] [] pos) (iEn f) := by
  refine ⟨fun pins s σ H R I h => ?_⟩
  obtain ⟨B, F, env, ds, env', hK, s0, e0, q⟩ := h
  simp only [iEn, Option.bind_eq_some_iff, Option.map_eq_some_iff] at e0
  obtain ⟨⟨x, env1⟩, e1, ⟨d, env2⟩, e2, ds', e3, e4⟩ := e0
  cases e4
  have hq : rdE X.K f σ H fun v H1 => ∃ F1, Post B σ F H env F1 H1 env2 ∧ Dp X.K F1 v d := ⟨B, F, env, x, env1, hK, s0, e1, fun v F1 H1 p1 r1 => by
    obtain ⟨F2, p2, hd, _⟩ := frz_post p1 r1 e2
    rw [← hK]
    exact ⟨F2, p2, hd⟩⟩
  have ha0 : PA X [e] (tCons (rdE X.K f) tNil) := pa_cons he pa_nil (by rw [hs]; rfl)
  refine Call_ (ld_blt I hg hm boot_enumerate (PyProof.Rows.callWith_type1 (thn (ha0.run pos pins s σ H (fun vs H1 => ∃ v, vs = [v] ∧ ∃ F1, Post B σ F H env F1 H1 env2 ∧ Dp X.K F1 v d) I ?_) fun us s1 ⟨vs, H1, I1, r1, v, ev, F1, p1, hd⟩ => ?_) hs rfl))
  · obtain ⟨B', F', env'', val, envx, a, b, c, dd⟩ := hq
    exact ⟨B', F', env'', val, envx, a, b, c, fun v F1 H1 p r => ⟨v, rfl, dd v F1 H1 p r⟩⟩
  · subst ev
    cases r1 with
    | cons r rr =>
      cases rr
      obtain ⟨sc, xs, rfl, ok, ha⟩ := src_of (X := X) (pins := pins) (σ := σ) (H := H1) (s := s1) hd r e3
      obtain ⟨Hb, Bg, hb, hlt⟩ := Sc.begins I1 (ok H1 p1.sr.fh)
      refine enum_begins1 Bg hb fun h' hE hit hk => wpAny_pyIter_enum hE ?_
      have I2 : Inv X pins σ H1 { s1 with heap := h' } := I1.kept (t' := s1.toks) hk
      have n1 : s1.heap.objs.size ∉ sc.src := fun m => absurd (hlt _ m) (Nat.lt_irrefl _)
      have n2 : s1.heap.objs.size + 1 ∉ s1.heap.objs.size :: sc.src := fun m => by
        rcases List.mem_cons.mp m with z | z
        · exact absurd z (Nat.succ_ne_self _)
        · exact absurd (hlt _ z) (Nat.not_lt.mpr (Nat.le_succ _))
      refine ⟨s1.heap.objs.size + 1, [s1.heap.objs.size + 1, s1.heap.objs.size], _, _, H1, rfl, I2, turn_enumS sc xs (s1.heap.objs.size + 1) s1.heap.objs.size (Nat.succ_ne_self _) n2 n1, ⟨⟨.none, hE⟩, Sc.at_obj hit⟩, fun b hb => ?_, q _ F1 H1 p1 (itok2 ok ha)⟩
      have e' : b = s1.heap.objs.size + 1 ∨ b = s1.heap.objs.size := by simpa using hb
      have hle : s1.heap.objs.size ≤ b := by
        rcases e' with z | z
        · rw [z]; exact Nat.le_add_right _ _
        · rw [z]; exact Nat.le_refl _
      exact I1.fpOk hle (I1.hok.fresh hle)
theorem ji_zp {p pos tpos : Pos} {elts : List Expr} {kk : Nat} (hm : X.mg "zip" = none) (he : JE X e f) (he2 : JE X e2 g) (hg : Gl X "zip" := by rfl)
    (hs : starEach [e, e2] X.env = (false, eval e X.env) :: starEach [e2] X.env := by rfl) (hs2 : starEach [e2] X.env = [(false, eval e2 X.env)] := by rfl) (hpl : (backTo pos (starEach [e2] X.env)).any (·.1) = false := by rfl) : JI X (.Tuple elts kk tpos) (.Call (.Name "zip" p) [e, e2] [] pos) (iZp f g) := by
  refine ⟨fun pins s σ H R I h => ?_⟩
  obtain ⟨B, F, env, ds, env', hK, s0, e0, q⟩ := h
  simp only [iZp, Option.bind_eq_some_iff] at e0
  obtain ⟨⟨x, env1⟩, e1, ⟨y, env2⟩, e2', ⟨zs, env3⟩, e3, e4⟩ := e0
  split at e4
  case h_2 => cases e4
  rename_i a b ezs
  simp only at ezs
  subst ezs
  simp only [Option.bind_eq_some_iff, Option.map_eq_some_iff] at e4
  obtain ⟨d1, e5, d2, e6, e7⟩ := e4
  cases e7
  have hq : rdA X.K (aCons f (aCons g aNil)) σ H fun vs H1 => ∃ F1, Post B σ F H env F1 H1 env' ∧ DpAll X.K F1 vs [a, b] := ⟨B, F, env, [x, y], env2, hK, s0, by simp [aCons, aNil, e1, e2'], fun vs F1 H1 p1 r1 => by
    obtain ⟨F2, p2, hd, _⟩ := frzs_post _ p1 r1 e3
    rw [← hK]
    exact ⟨F2, p2, hd⟩⟩
  have ha0 : JA X [e, e2] (aCons f (aCons g aNil)) := ja_cons he (ja_cons he2 ja_nil (by rw [hs2]; rfl)) hs
  refine Call_ (ld_blt I hg hm PyProof.Rows.boot_zip (PyProof.Rows.callWith_type1 (thn (ha0.run pos pins s σ H _ I hq) fun us s1 ⟨vs, H1, I1, r1, F1, p1, hd⟩ => ?_) hs hpl))
  cases hd with
  | cons h1 hd =>
  cases hd with
  | cons h2 hd =>
  cases hd
  cases r1 with
  | cons r r1 =>
  cases r1 with
  | cons r' r1 =>
  cases r1
  obtain ⟨sc1, xs, rfl, ok1, ha1⟩ := src_of (X := X) (pins := pins) (σ := σ) (H := H1) (s := s1) h1 r e5
  obtain ⟨sc2, ys, rfl, ok2, ha2⟩ := src_of (X := X) (pins := pins) (σ := σ) (H := H1) (s := s1) h2 r' e6
  obtain ⟨Hb1, Bg1, hb1, hlt1⟩ := Sc.begins I1 (ok1 H1 p1.sr.fh)
  obtain ⟨Hb2, Bg2, hb2, hlt2⟩ := Sc.begins I1 (ok2 H1 p1.sr.fh)
  refine zip_begins2 Bg1 Bg2 hb1 hb2 fun h' hz hTI hTO h1' h2' hsz hk => wpAny_pyIter_zip hz ?_
  have I2 : Inv X pins σ H1 { s1 with heap := h' } := I1.kept (t' := s1.toks) hk
  have S := zip_sep2 (N := s1.heap.objs.size) hlt1 hlt2
  have n1 : s1.heap.objs.size ∉ sc1.src := fun m => absurd (hlt1 _ m) (Nat.lt_irrefl _)
  have n2 : s1.heap.objs.size + 1 ∉ sc2.src := fun m => absurd (hlt2 _ m) (Nat.not_lt.mpr (Nat.le_succ _))
  refine ⟨s1.heap.objs.size + 4, [s1.heap.objs.size + 4, s1.heap.objs.size + 2, s1.heap.objs.size + 3, s1.heap.objs.size, s1.heap.objs.size + 1], _, _, H1, rfl, I2, turn_zipS sc1 sc2 xs ys S n1 n2, ⟨hz, hTI, ⟨_, _, hTO⟩, Sc.at_obj h1', Sc.at_obj h2'⟩, fun c hcm => ?_, q _ F1 H1 p1 (itok3 ok1 ok2 ha1 ha2)⟩
  have e' : c = s1.heap.objs.size + 4 ∨ c = s1.heap.objs.size + 2 ∨ c = s1.heap.objs.size + 3 ∨ c = s1.heap.objs.size ∨ c = s1.heap.objs.size + 1 := by simpa using hcm
  have hle : s1.heap.objs.size ≤ c := by
    rcases e' with z | z | z | z | z
    · rw [z]; exact Nat.le_add_right _ _
    · rw [z]; exact Nat.le_add_right _ _
    · rw [z]; exact Nat.le_add_right _ _
    · rw [z]; exact Nat.le_refl _
    · rw [z]; exact Nat.le_add_right _ _
  exact I1.fpOk hle (I1.hok.fresh hle)
/-! ranges -/
def rngD (lo : Int) (n : Nat) : List D := (List.range n).map fun (i : Nat) => .int (lo + i)
def iR1 (f : DE) : DI := fun env => (f env).bind fun r => match r.1.rd r.2 with
  | some (.int j) => if -1000000 ≤ j ∧ j ≤ 1000000 then some (rngD 0 j.toNat, r.2) else none
  | _ => none
def iR2 (f g : DE) : DI := fun env => (f env).bind fun r => (g r.2).bind fun q => match r.1.rd q.2, q.1.rd q.2 with
  | some (.int i), some (.int j) => if -1000000 ≤ i ∧ i ≤ 1000000 ∧ -1000000 ≤ j ∧ j ≤ 1000000 then some (rngD i (j - i).toNat, q.2) else none
  | _, _ => none
theorem itokR {K : PySem.W.Frag} {F : Hp} {lo : Int} {n : Nat} : ItOk K (Itr lo n) F (rngD lo n) := by
  have hl : (rngD lo n).length = n := by unfold rngD; simp
  refine ⟨fun F1 H1 i x1 x2 hi => by rw [hl] at hi; exact hi, fun F1 H1 x1 x2 => by show n ≤ _; rw [hl]; exact Nat.le_refl _, fun F1 H1 i x H2 x1 x2 hlt ⟨e, hx⟩ => ?_⟩
  subst hx
  refine ⟨.int (lo + i), ?_, .inl ⟨e, .int _⟩⟩
  unfold rngD
  rw [List.getElem?_map, List.getElem?_range (by rw [hl] at hlt; exact hlt)]
  rfl
theorem ji_r1 {p pos : Pos} (hm : X.mg "range" = none) (he : JE X e f) (hg : Gl X "range" := by rfl) (hs : starEach [e] X.env = [(false, eval e X.env)] := by rfl) : JI X tg (.Call (.Name "range" p) [e] [] pos) (iR1 f) := by
  have h0 := pi_range1 (tg := tg) (p := p) (pos := pos) hg hm (pa_cons he pa_nil (by rw [hs]; rfl)) hs
  refine ⟨fun pins s σ H R I h => h0.run pins s σ H R I ?_⟩
  obtain ⟨B, F, env, ds, env', hK, s0, e0, q⟩ := h
  simp only [iR1, Option.bind_eq_some_iff] at e0
  obtain ⟨⟨x, env1⟩, e1, e2⟩ := e0
  split at e2
  · rename_i j ej
    split at e2
    · rename_i hj
      cases e2
      refine ⟨B, F, env, x, env1, hK, s0, e1, fun v F1 H1 p1 r1 => ⟨j, by rw [r1.rdI p1.sr ej], by omega, by omega, q _ F1 H1 p1 itokR⟩⟩
    · cases e2
  · cases e2
theorem ji_r2 {p pos : Pos} (hm : X.mg "range" = none) (he : JE X e f) (he2 : JE X e2 g) (hg : Gl X "range" := by rfl) (hs : starEach [e, e2] X.env = [(false, eval e X.env), (false, eval e2 X.env)] := by rfl) (hs2 : starEach [e2] X.env = [(false, eval e2 X.env)] := by rfl) : JI X tg (.Call (.Name "range" p) [e, e2] [] pos) (iR2 f g) := by
  have h0 := pi_range2 (tg := tg) (p := p) (pos := pos) hg hm (pa_cons he (pa_cons he2 pa_nil (by rw [hs2]; rfl)) (by rw [hs, hs2])) hs hs2
  refine ⟨fun pins s σ H R I h => h0.run pins s σ H R I ?_⟩
  obtain ⟨B, F, env, ds, env', hK, s0, e0, q⟩ := h
  simp only [iR2, Option.bind_eq_some_iff] at e0
  obtain ⟨⟨x, env1⟩, e1, ⟨y, env2⟩, e2, e3⟩ := e0
  split at e3
  · rename_i i j ei ej
    split at e3
    · rename_i hj
      cases e3
      refine ⟨B, F, env, x, env1, hK, s0, e1, fun v F1 H1 p1 r1 => ⟨B, F1, env1, y, env2, hK, p1.sr, e2, fun w F2 H2 p2 r2 => ⟨i, j, by rw [(r1.step p2).rdI p2.sr ei, r2.rdI p2.sr ej], ⟨by omega, by omega, by omega, by omega⟩, q _ F2 H2 (p1.trans p2) itokR⟩⟩⟩
    · cases e3
  · cases e3
end
end EW

set_option maxHeartbeats 1000000
/-! EW 10: loops and comprehensions. -/
namespace EW
open PySem PySem.Spec PyProof.Rows L2

def loopF (g : DG) (body : DS) : List D → Env → Option Out
  | [], env => some (.nx env)
  | d :: ds, env => (g (.dat d) env).bind fun e1 => (body e1).bind fun o => match o with
    | .nx e => loopF g body ds e
    | .ct e => loopF g body ds e
    | .bk e => some (.nx e)
    | .rt v e => some (.rt v e)
def sFor (fi : DI) (g : DG) (body : DS) : DS := fun env => (fi env).bind fun r => loopF g body r.1 r.2
/-- what a turn of an iterator gives -/
theorem turn_of {K : PySem.W.Frag} {J : It} {B : Bs} {F0 F H H' : Hp} {σ : St} {env : Env} {ds : List D} {i : Nat} {x : V} (hK : B.K = K) (ok : ItOk K J F0 ds) (x0 : Ex F0 F) (s : SR B F H σ env) (hi : i < ds.length) (y : J.yld i H x H') :
    ∃ d F', ds[i]? = some d ∧ Post B σ F H env F' H' env ∧ Dp B.K F' x d := by
  obtain ⟨d, e, h⟩ := ok.yld F H i x H' x0 s.fh hi y
  refine ⟨d, ?_⟩
  rcases h with ⟨rfl, h⟩ | ⟨p, xs, es, rfl, hp, rfl, rfl, h⟩
  · exact ⟨F, e, .refl s, by rw [hK]; exact h⟩
  · refine ⟨upd F p (.tup xs), e, (Post.refl s).alloc hp, ?_⟩
    rw [hK]
    exact .tup (SqT.of upd_same) (dpa_mono (Ex.new (s.fnone hp)) h)
section
variable {X : Cx} {tg iter c : Expr} {body : List Stmt} {fi : DI} {g : DG} {fb : DS} {tc : DT} {pos : Pos}
theorem js_for (hp : PassesOwn (model X.prog X.w) X.A X.env X.xe) (hc : X.calm = true) (hi : JI X tg iter fi) (hg : JG X tg g) (hb : JSs X body fb)
    (hs : ∀ x, foldedSetIterable iter X.env x = pure x := by intro _; rfl) : JS X (.For tg iter body [] pos) (sFor fi g fb) :=
  PS.imp (ps_for hp hc hi hg hb hs) fun D σ H ⟨B, F, env, out, hK, s, e, q⟩ => by
    simp only [sFor, Option.bind_eq_some_iff] at e
    obtain ⟨⟨ds, env1⟩, e1, e2⟩ := e
    refine ⟨B, F, env, ds, env1, hK, s, e1, fun J F0 H0 p0 ok => ?_⟩
    refine ⟨fun i m σ H => i ≤ ds.length ∧ m = ds.length - i ∧ ∃ F1 env2, SR B F1 H σ env2 ∧ Ex F0 F1 ∧ loopF g fb (ds.drop i) env2 = some out, ⟨_, Nat.zero_le _, rfl, F0, env1, p0.sr, Ex.refl F0, e2⟩, fun i m σ1 H1 ⟨hi, hm, F1, env2, s1, x1, e3⟩ => ?_⟩
    by_cases hlt : i < ds.length
    · refine .inr ⟨ok.go F1 H1 i x1 s1.fh hlt, ?_⟩
      rw [List.drop_eq_getElem_cons hlt] at e3
      simp only [loopF, Option.bind_eq_some_iff] at e3
      obtain ⟨env3, e4, o, e5, e6⟩ := e3
      refine ⟨fun σ' H' => ∃ F2 env4, SR B F2 H' σ' env4 ∧ Ex F0 F2 ∧ loopF g fb (ds.drop (i + 1)) env4 = some out, fun σ' H' ⟨F2, env4, a, b, c⟩ => ⟨_, by omega, by omega, rfl, F2, env4, a, b, c⟩, fun x H' y => ?_⟩
      obtain ⟨d, F2, ed, p2, hd⟩ := turn_of hK ok x1 s1 hlt y
      rw [List.getElem?_eq_getElem hlt] at ed
      cases ed
      refine ⟨B, F2, H', env2, .dat _, env3, hK, p2.sr, fun p hp => p2.sr.h0 hp, hd, e4, fun σ2 F3 H3 s3 x3 => ⟨B, F3, env3, o, hK, s3, e5, ?_⟩⟩
      have x03 : Ex F0 F3 := (x1.trans p2.ff).trans x3
      cases o with
      | nx e => exact fun σ' F' H' s' y => ⟨F', e, s', x03.trans y, e6⟩
      | ct e => exact fun σ' F' H' s' y => ⟨F', e, s', x03.trans y, e6⟩
      | bk e => cases e6; exact fun σ' F' H' s' y => q σ' F' H' s' ((p0.ff.trans x03).trans y)
      | rt v e => cases e6; exact q
    · have : i = ds.length := by omega
      subst this
      rw [List.drop_length] at e3
      cases e3
      exact .inl ⟨ok.stop F1 H1 x1 s1.fh, q σ1 F1 H1 s1 (p0.ff.trans x1)⟩
def loopW (c : DT) (body : DS) : Nat → Env → Option Out
  | 0, _ => none
  | n + 1, env => (c env).bind fun r => if r.1 = true then (body r.2).bind fun o => match o with
    | .nx e => loopW c body n e
    | .ct e => loopW c body n e
    | .bk e => some (.nx e)
    | .rt v e => some (.rt v e)
  else some (.nx r.2)
def fuel : Nat := 1000000
def sWh (c : DT) (body : DS) : DS := loopW c body fuel
theorem js_while (hp : PassesOwn (model X.prog X.w) X.A X.env X.xe) (hc : JT X c tc) (hb : JSs X body fb) : JS X (.While c body [] pos) (sWh tc fb) :=
  PS.imp (ps_while hp hc hb) fun D σ H ⟨B, F, env, out, hK, s, e, q⟩ => by
    refine ⟨fun m σ H => ∃ F1 env1, SR B F1 H σ env1 ∧ Ex F F1 ∧ loopW tc fb m env1 = some out, ⟨fuel, F, env, s, Ex.refl F, e⟩, fun m σ1 H1 ⟨F1, env1, s1, x1, e1⟩ => ?_⟩
    cases m with
    | zero => cases e1
    | succ m =>
      simp only [loopW, Option.bind_eq_some_iff] at e1
      obtain ⟨⟨b, env2⟩, e2, e3⟩ := e1
      refine ⟨B, F1, env1, b, env2, hK, s1, e2, fun F2 H2 p2 => ?_⟩
      have x2 := x1.trans p2.ff
      cases b with
      | false => cases e3; exact q σ1 F2 H2 p2.sr x2
      | true =>
        simp only [if_true, Option.bind_eq_some_iff] at e3
        obtain ⟨o, e4, e5⟩ := e3
        refine ⟨fun σ' H' => ∃ F3 env3, SR B F3 H' σ' env3 ∧ Ex F F3 ∧ loopW tc fb m env3 = some out, fun σ' H' h => ⟨m, Nat.lt_succ_self m, h⟩, B, F2, env2, o, hK, p2.sr, e4, ?_⟩
        cases o with
        | nx e => exact fun σ' F' H' s' y => ⟨F', e, s', x2.trans y, e5⟩
        | ct e => exact fun σ' F' H' s' y => ⟨F', e, s', x2.trans y, e5⟩
        | bk e => cases e5; exact fun σ' F' H' s' y => q σ' F' H' s' (x2.trans y)
        | rt v e => cases e5; exact q
end
end EW

/-! EW 11: comprehensions. -/
namespace EW
open PySem PySem.Spec PyProof.Rows L2

theorem wipe_get : ∀ (vs : List Nat) (σ : St) (i : Nat), (wipe σ vs)[i]? = if i ∈ vs then (if i < σ.length then some none else none) else σ[i]?
  | [], σ, i => by simp [wipe]
  | v :: vs, σ, i => by
    unfold wipe
    rw [List.getElem?_set, wipe_length, wipe_get vs σ i]
    by_cases h : v = i
    · subst h; simp
    · have h' : ¬ i = v := fun z => h z.symm
      simp [h, h']
def wipeE (env : Env) : List Nat → Env
  | [] => env
  | v :: vs => (wipeE env vs).set v none
theorem wipeE_length (env : Env) : ∀ vs : List Nat, (wipeE env vs).length = env.length
  | [] => rfl
  | v :: vs => by unfold wipeE; rw [List.length_set, wipeE_length env vs]
theorem wipeE_get : ∀ (vs : List Nat) (env : Env) (i : Nat), (wipeE env vs)[i]? = if i ∈ vs then (if i < env.length then some none else none) else env[i]?
  | [], env, i => by simp [wipeE]
  | v :: vs, env, i => by
    unfold wipeE
    rw [List.getElem?_set, wipeE_length, wipeE_get vs env i]
    by_cases h : v = i
    · subst h; simp
    · have h' : ¬ i = v := fun z => h z.symm
      simp [h, h']
def restE (env0 env1 : Env) : List Nat → Env
  | [] => env1
  | v :: vs => (restE env0 env1 vs).set v (env0.getD v none)
theorem restE_length (env0 env1 : Env) : ∀ vs : List Nat, (restE env0 env1 vs).length = env1.length
  | [] => rfl
  | v :: vs => by unfold restE; rw [List.length_set, restE_length env0 env1 vs]
theorem restE_get {env0 env1 : Env} (hl : env0.length = env1.length) : ∀ (vs : List Nat) (i : Nat), (restE env0 env1 vs)[i]? = if i ∈ vs then env0[i]? else env1[i]?
  | [], i => by simp [restE]
  | v :: vs, i => by
    unfold restE
    rw [List.getElem?_set, restE_length, restE_get hl vs i]
    by_cases h : v = i
    · subst h
      simp only [if_true, List.mem_cons, true_or]
      split
      · rename_i hlt
        rw [List.getD_eq_getElem?_getD]
        have : v < env0.length := by omega
        rw [List.getElem?_eq_getElem this]
        rfl
      · rename_i hlt
        rw [List.getElem?_eq_none (by omega)]
    · have h' : ¬ i = v := fun z => h z.symm
      simp [h, h']
theorem wipe_ext {σ σ' : St} {vs : List Nat} (hl : σ'.length = σ.length) (h : ∀ i, i ∉ vs → σ'[i]? = σ[i]?) : wipe σ' vs = wipe σ vs := by
  apply List.ext_getElem?
  intro i
  rw [wipe_get, wipe_get, hl]
  split
  · rfl
  · rename_i z
    exact h i z
section
variable {B : Bs} {F F0 F1 F2 H H0 H1 H2 : Hp} {σ σ' σ2 : St} {env env' env0 env1 env2 : Env} {vs : List Nat}
theorem wipeE_some {i : Nat} {c : Cell} (h : (wipeE env vs)[i]? = some (some c)) : i ∉ vs ∧ env[i]? = some (some c) := by
  rw [wipeE_get] at h
  split at h
  · split at h <;> cases h
  · rename_i z; exact ⟨z, h⟩
theorem SR.wipe (s : SR B F H σ env) (vs : List Nat) : SR B F H (wipe σ vs) (wipeE env vs) := by
  have g : ∀ i, i ∉ vs → (L2.wipe σ vs)[i]? = σ[i]? := fun i h => by rw [wipe_get, if_neg h]
  refine ⟨by rw [wipe_length, wipeE_length]; exact s.len, s.ff, s.fh, s.old, s.pt, s.new, fun i c e => ?_, fun i j c c' e1 e2 e3 e4 e5 => ?_⟩
  · obtain ⟨h1, h2⟩ := wipeE_some e
    rw [g i h1]
    exact s.sl i c h2
  · obtain ⟨h1, h2⟩ := wipeE_some e1
    obtain ⟨h3, h4⟩ := wipeE_some e2
    rw [g i h1, g j h3] at e5
    exact s.ds i j c c' h2 h4 e3 e4 e5
theorem OA.unwipe {a : Addr} (z : OA (wipe σ vs) (wipeE env vs) a) : OA σ env a := by
  obtain ⟨i, c, e1, e2, e3⟩ := z
  obtain ⟨h1, h2⟩ := wipeE_some e1
  rw [wipe_get, if_neg h1] at e3
  exact ⟨i, c, h2, e2, e3⟩
/-- within a comprehension: the outer slots come back -/
theorem Post.unwipe (s0 : SR B F0 H0 σ env0) (p : Post B (wipe σ vs) F0 H0 (wipeE env0 vs) F1 H1 env1) : Post B σ F0 H0 env0 F1 H1 (restE env0 env1 vs) := by
  have hlen : env0.length = env1.length := by
    have := p.sr.len
    rw [wipe_length, s0.len] at this
    exact this
  have look : ∀ (i : Nat) (c : Cell), (restE env0 env1 vs)[i]? = some (some c) → (i ∈ vs ∧ env0[i]? = some (some c)) ∨ (i ∉ vs ∧ env1[i]? = some (some c)) := fun i c e => by
    rw [restE_get hlen] at e
    split at e
    · rename_i z; exact .inl ⟨z, e⟩
    · rename_i z; exact .inr ⟨z, e⟩
  have g : ∀ i, i ∉ vs → (L2.wipe σ vs)[i]? = σ[i]? := fun i h => by rw [wipe_get, if_neg h]
  -- a held slot that is hidden within
  have hid : ∀ (i : Nat) (c : Cell) (a : Addr), i ∈ vs → env0[i]? = some (some c) → c.holds = true → σ[i]? = some (some (.ref a)) → ¬ OA (L2.wipe σ vs) (wipeE env0 vs) a := fun i c a hi he hh hs z => by
    obtain ⟨j, cj, e1, e2, e3⟩ := z
    obtain ⟨h1, h2⟩ := wipeE_some e1
    rw [g j h1] at e3
    have := s0.ds i j c cj he h2 hh e2 (by rw [hs, e3])
    subst this
    exact h1 hi
  have keepc : ∀ (i : Nat) (c : Cell), i ∈ vs → env0[i]? = some (some c) → c.holds = true → ∀ a, σ[i]? = some (some (.ref a)) → F1 a = F0 a ∧ H1 a = H0 a := fun i c hi he hh a hs => by
    have nz := hid i c a hi he hh hs
    have zz := s0.oa ⟨i, c, he, hh, hs⟩
    obtain ⟨o, ho⟩ := Option.ne_none_iff_exists'.mp zz.2
    refine ⟨?_, by rw [ho, p.hh a o ho nz]⟩
    rw [zz.1]
    cases e : F1 a with
    | none => rfl
    | some u =>
      rcases p.nw a (by rw [e]; simp) with y | y | y
      · exact absurd zz.1 y
      · exact absurd y zz.2
      · exact absurd y nz
  refine ⟨⟨by rw [restE_length, ← hlen]; exact s0.len, p.sr.ff, p.sr.fh, p.sr.old, p.sr.pt, p.sr.new, fun i c e => ?_, fun i j c c' e1 e2 e3 e4 e5 => ?_⟩, p.ff, fun a o e n => p.hh a o e fun z => n z.unwipe, p.kp, fun a h => ?_, fun a z => ?_, fun i c e => ?_⟩
  · rcases look i c e with ⟨hi, he⟩ | ⟨hi, he⟩
    · obtain ⟨v, hv, cr⟩ := s0.sl i c he
      exact ⟨v, hv, cr.mono p.ff fun hh a ea => keepc i c hi he hh a (by rw [hv, ea])⟩
    · obtain ⟨v, hv, cr⟩ := p.sr.sl i c he
      rw [g i hi] at hv
      exact ⟨v, hv, cr⟩
  · rcases look i c e1 with ⟨hi, he⟩ | ⟨hi, he⟩
    · rcases look j c' e2 with ⟨hj, he'⟩ | ⟨hj, he'⟩
      · exact s0.ds i j c c' he he' e3 e4 e5
      · exfalso
        obtain ⟨v, hv, cr⟩ := p.sr.sl j c' he'
        obtain ⟨a, ea, _⟩ := cr.there e4
        have z1 : OA (L2.wipe σ vs) env1 a := ⟨j, c', he', e4, by rw [hv, ea]⟩
        rw [g j hj, ea] at hv
        exact hid i c a hi he e3 (by rw [e5, hv]) (p.oa a z1)
    · rcases look j c' e2 with ⟨hj, he'⟩ | ⟨hj, he'⟩
      · exfalso
        obtain ⟨v, hv, cr⟩ := p.sr.sl i c he
        obtain ⟨a, ea, _⟩ := cr.there e3
        have z1 : OA (L2.wipe σ vs) env1 a := ⟨i, c, he, e3, by rw [hv, ea]⟩
        rw [g i hi, ea] at hv
        exact hid j c' a hj he' e4 (by rw [← e5, hv]) (p.oa a z1)
      · exact p.sr.ds i j c c' he he' e3 e4 (by rw [g i hi, g j hj]; exact e5)
  · rcases p.nw a h with z | z | z
    · exact .inl z
    · exact .inr (.inl z)
    · exact .inr (.inr z.unwipe)
  · obtain ⟨i, c, e1, e2, e3⟩ := z
    rcases look i c e1 with ⟨hi, he⟩ | ⟨hi, he⟩
    · exact ⟨i, c, he, e2, e3⟩
    · exact (p.oa a ⟨i, c, he, e2, by rw [g i hi]; exact e3⟩).unwipe
  · by_cases hi : i ∈ vs
    · exact ⟨c, by rw [restE_get hlen, if_pos hi]; exact e⟩
    · obtain ⟨c', h⟩ := p.sm i c (by rw [wipeE_get, if_neg hi]; exact e)
      exact ⟨c', by rw [restE_get hlen, if_neg hi]; exact h⟩
theorem VR.unwipe {v : V} {ob : Ob} (s0 : SR B F0 H0 σ env0) (p : Post B (wipe σ vs) F0 H0 (wipeE env0 vs) F1 H1 env1) (h : VR B (wipe σ vs) H0 F1 H1 env1 v (.new ob)) : VR B σ H0 F1 H1 (restE env0 env1 vs) v (.new ob) := by
  have q := p.unwipe s0
  obtain ⟨a, ho, rfl, h1, h2, h3, h4, h5, h6⟩ := h
  exact ⟨a, ho, rfl, h1, h2, h3, h4, fun z => (s0.oa (q.oa a z)).2 h4, h6⟩
/-- the block's own names hold data alone -/
def noHeld (env : Env) (vs : List Nat) : Prop := ∀ i ∈ vs, ∀ c, env[i]? = some (some c) → c.holds = false
structure Agr (vs : List Nat) (σ : St) (env : Env) (σ' : St) (env' : Env) : Prop where
  l1 : σ'.length = σ.length
  l2 : env'.length = env.length
  ag : ∀ i, i ∉ vs → σ'[i]? = σ[i]? ∧ env'[i]? = env[i]?
theorem Agr.refl : Agr vs σ env σ env := ⟨rfl, rfl, fun _ _ => ⟨rfl, rfl⟩⟩
theorem Agr.trans (a : Agr vs σ env σ' env') (b : Agr vs σ' env' σ2 env2) : Agr vs σ env σ2 env2 := ⟨b.l1.trans a.l1, b.l2.trans a.l2, fun i h => ⟨(b.ag i h).1.trans (a.ag i h).1, (b.ag i h).2.trans (a.ag i h).2⟩⟩
/-- a turn's step, its own names forgotten again -/
theorem Post.unstore (n1 : ∀ i ∈ vs, ∀ c : Cell, env[i]? ≠ some (some c)) (n2 : noHeld env2 vs) (a : Agr vs σ env σ2 env2) (p : Post B σ2 F1 H1 env2 F2 H2 env') : Post B σ F1 H1 env F2 H2 (wipeE env' vs) := by
  have fw : ∀ b, OA σ2 env2 b → OA σ env b := fun b ⟨i, c, e1, e2, e3⟩ => by
    have hi : i ∉ vs := fun z => by have := n2 i z c e1; rw [e2] at this; cases this
    obtain ⟨g1, g2⟩ := a.ag i hi
    exact ⟨i, c, by rw [← g2]; exact e1, e2, by rw [← g1]; exact e3⟩
  have bw : ∀ b, OA σ env b → OA σ2 env2 b := fun b ⟨i, c, e1, e2, e3⟩ => by
    have hi : i ∉ vs := fun z => n1 i z c e1
    obtain ⟨g1, g2⟩ := a.ag i hi
    exact ⟨i, c, by rw [g2]; exact e1, e2, by rw [g1]; exact e3⟩
  refine ⟨⟨by rw [wipeE_length, ← p.sr.len, a.l1], p.sr.ff, p.sr.fh, p.sr.old, p.sr.pt, p.sr.new, fun i c e => ?_, fun i j c c' e1 e2 e3 e4 e5 => ?_⟩, p.ff, fun b o e n => p.hh b o e fun z => n (fw b z), p.kp, fun b h => ?_, fun b z => ?_, fun i c e => ?_⟩
  · obtain ⟨h1, h2⟩ := wipeE_some e
    rw [← (a.ag i h1).1]
    exact p.sr.sl i c h2
  · obtain ⟨h1, h2⟩ := wipeE_some e1
    obtain ⟨h3, h4⟩ := wipeE_some e2
    exact p.sr.ds i j c c' h2 h4 e3 e4 (by rw [(a.ag i h1).1, (a.ag j h3).1]; exact e5)
  · rcases p.nw b h with z | z | z
    · exact .inl z
    · exact .inr (.inl z)
    · exact .inr (.inr (fw b z))
  · obtain ⟨i, c, e1, e2, e3⟩ := z
    obtain ⟨h1, h2⟩ := wipeE_some e1
    exact fw b (p.oa b ⟨i, c, h2, e2, by rw [(a.ag i h1).1]; exact e3⟩)
  · by_cases hi : i ∈ vs
    · exact absurd e (n1 i hi c)
    · obtain ⟨c', h⟩ := p.sm i c (by rw [(a.ag i hi).2]; exact e)
      exact ⟨c', by rw [wipeE_get, if_neg hi]; exact h⟩
/-- a fresh object is written -/
theorem Post.writeN {Fq Hq : Hp} {envp : Env} {p : Addr} {o : HO} (q : Post B σ Fq Hq envp F H env) (h1 : F p = none) (h2 : H p ≠ none) (h3 : Hq p = none) (h4 : ¬ OA σ env p) (h5 : B.H0 p = none) (h6 : ∀ k, B.P k ≠ some p) : Post B σ Fq Hq envp F (upd H p o) env := by
  refine ⟨⟨q.sr.len, q.sr.ff, q.sr.fh.upd h1, fun a u e n => ?_, fun k a ha => ?_, q.sr.new, fun i c e => ?_, q.sr.ds⟩, q.ff, fun a u e n => ?_, fun a ha => ?_, q.nw, q.oa, q.sm⟩
  · rw [upd_ne (ne_of_none e h5)]; exact q.sr.old a u e n
  · by_cases z : a = p
    · subst z; exact absurd ha (h6 k)
    · rw [upd_ne z]; exact q.sr.pt k a ha
  · obtain ⟨v, hv, cr⟩ := q.sr.sl i c e
    refine ⟨v, hv, cr.mono (Ex.refl F) fun hh a ea => ⟨rfl, upd_ne fun z => h4 ?_⟩⟩
    subst z
    exact ⟨i, c, e, hh, by rw [hv, ea]⟩
  · rw [upd_ne (ne_of_none e h3)]; exact q.hh a u e n
  · by_cases z : a = p
    · subst z; exact absurd h3 ha
    · rw [upd_ne z]; exact q.kp a ha
end

/-! ### a comprehension's targets -/
abbrev DC := D → Env → Option Env
abbrev DCs := List D → Env → Option Env
def rdC (K : PySem.W.Frag) (g : DC) (vs : List Nat) : TG := fun v σ H Q => ∃ (B : Bs) (F : Hp) (env : Env) (d : D) (env' : Env), B.K = K ∧ SR B F H σ env ∧ noHeld env vs ∧ Dp K F v d ∧ g d env = some env' ∧ ∀ σ', SR B F H σ' env' → noHeld env' vs → Agr vs σ env σ' env' → Q σ' H
def rdCs (K : PySem.W.Frag) (g : DCs) (vs : List Nat) : TGs := fun ws σ H Q => ∃ (B : Bs) (F : Hp) (env : Env) (ds : List D) (env' : Env), B.K = K ∧ SR B F H σ env ∧ noHeld env vs ∧ DpAll K F ws ds ∧ g ds env = some env' ∧ ∀ σ', SR B F H σ' env' → noHeld env' vs → Agr vs σ env σ' env' → Q σ' H
abbrev JC (X : Cx) (e : Expr) (g : DC) (vs : List Nat) : Prop := PG X e (rdC X.K g vs)
abbrev JCs (X : Cx) (es : List Expr) (g : DCs) (vs : List Nat) : Prop := PGs X es (rdCs X.K g vs)
def cNm (i : Nat) : DC := fun d env => if i < env.length then some (env.set i (some (.dat d))) else none
def csNil : DCs := fun ds env => if ds = [] then some env else none
def csCons (g : DC) (h : DCs) : DCs := fun ds env => match ds with
  | d :: ds => (g d env).bind fun env1 => h ds env1
  | _ => none
def cTp (n : Nat) (g : DCs) : DC := fun d env => match d with
  | .tuple ds => if ds.length = n then g ds env else none
  | _ => none
section
variable {X : Cx} {pos : Pos} {vs : List Nat}
theorem jc_nm {i : Nat} {x : Str} (hN : X.N.Nodup) (hv : i ∈ vs) (hi : X.N[i]? = some x := by rfl) (hx : Loc X.env.scope x := by first | exact Or.inl rfl | exact Or.inr rfl) (hf : X.fn x = true ∨ X.env.scope.names.lookup x = some .local := by first | exact .inr rfl | exact .inl rfl) : JC X (.Name x pos) (cNm i) vs :=
  PG.imp (pg_name hN hi hx hf) fun v σ H Q ⟨B, F, env, d, env', hK, s, nh, hd, e, q⟩ => by
    unfold cNm at e
    split at e
    · rename_i hl
      cases e
      refine q _ (s.storeD hl (by rw [hK]; exact hd)) (fun j hj c e => ?_) ⟨by rw [List.length_set], by rw [List.length_set], fun j hj => ?_⟩
      · by_cases z : i = j
        · subst z; rw [List.getElem?_set_self hl] at e; cases e; rfl
        · rw [set_ne z] at e; exact nh j hj c e
      · have z : i ≠ j := fun z => hj (z ▸ hv)
        exact ⟨List.getElem?_set_ne z, set_ne z⟩
    · cases e
theorem jcs_nil : JCs X [] csNil vs := PGs.imp pgs_nil fun ws σ H Q ⟨B, F, env, ds, env', hK, s, nh, ha, e, q⟩ => by
  unfold csNil at e
  split at e
  · rename_i h
    subst h
    cases e
    cases ha
    exact ⟨rfl, q σ s nh Agr.refl⟩
  · cases e
theorem jcs_cons {e : Expr} {es : List Expr} {g : DC} {h : DCs} (h1 : JC X e g vs) (h2 : JCs X es h vs) (hs : (assignEach (e :: es) X.env).map (·.2) = assign e X.env :: (assignEach es X.env).map (·.2) := by rfl) : JCs X (e :: es) (csCons g h) vs :=
  PGs.imp (pgs_cons h1 h2 hs) fun ws σ H Q ⟨B, F, env, ds, env', hK, s, nh, ha, e, q⟩ => by
    unfold csCons at e
    cases ha with
    | nil => cases e
    | cons hd ht =>
      simp only [Option.bind_eq_some_iff] at e
      obtain ⟨env1, e1, e2⟩ := e
      refine ⟨_, _, rfl, B, F, env, _, env1, hK, s, nh, hd, e1, fun σ1 s1 nh1 a1 => ?_⟩
      exact ⟨B, F, env1, _, env', hK, s1, nh1, ht, e2, fun σ2 s2 nh2 a2 => q σ2 s2 nh2 (a1.trans a2)⟩
theorem jc_tup {es : List Expr} {k : Nat} {g : DCs} {n : Nat} (hc : X.calm = true) (h : JCs X es g vs) (hn : (assignEach es X.env).length = n := by rfl) (hst : (assignEach es X.env).findIdx? (·.1) = none := by rfl) : JC X (.Tuple es k pos) (cTp n g) vs :=
  PG.imp (pg_tup hc h hn hst) fun v σ H Q ⟨B, F, env, d, env', hK, s, nh, hd, e, q⟩ => by
    unfold cTp at e
    split at e
    · rename_i ds
      split at e
      · rename_i hl
        cases hd with
        | tup h1 h2 => exact ⟨_, _, rfl, ex_t s.fh h1, by rw [dpa_length h2]; exact hl, B, F, env, ds, env', hK, s, nh, h2, e, q⟩
      · cases e
    · cases e
end
/-! tests -/
abbrev JTs (X : Cx) (es : List Expr) (f : DT) : Prop := PTs X es (rdT X.K f)
def tYs : DT := fun env => some (true, env)
theorem jts_nil {X : Cx} : JTs X [] tYs := ⟨fun pins s σ H Q I ⟨B, F, env, b, env', hK, s0, e, q⟩ => by
  cases e
  exact pts_nil.run pins s σ H Q I (q F H (.refl s0))⟩
theorem jts_one {X : Cx} {c : Expr} {f : DT} (h : JT X c f) : JTs X [c] f := pts_one h

/-! ### list comprehensions -/
def loopC (vs : List Nat) (g : DC) (tt : DT) (fe : DE) : List D → List D → Env → Option (List D × Env)
  | [], acc, env => some (acc, env)
  | d :: ds, acc, env => (g d env).bind fun e1 => (tt e1).bind fun r => if r.1 = true then
      (fe r.2).bind fun q => (q.1.frz q.2).bind fun z => if acc.length ≤ 1000000 then loopC vs g tt fe ds (acc ++ [z.1]) (wipeE z.2 vs) else none
    else loopC vs g tt fe ds acc (wipeE r.2 vs)
def dLc (vs : List Nat) (fi : DI) (g : DC) (tt : DT) (fe : DE) : DE := fun env => (fi env).bind fun r => (loopC vs g tt fe r.1 [] (wipeE r.2 vs)).map fun z => (.new (.l z.1), restE r.2 z.2 vs)
theorem noHeld_none {env : Env} {vs : List Nat} (n1 : ∀ i ∈ vs, ∀ c : Cell, env[i]? ≠ some (some c)) : noHeld env vs := fun i hi c e => absurd e (n1 i hi c)
theorem wiped_none {env : Env} {vs : List Nat} : ∀ i ∈ vs, ∀ c : Cell, (wipeE env vs)[i]? ≠ some (some c) := fun i hi c e => (wipeE_some e).1 hi
theorem rdLc {K : PySem.W.Frag} {vs : List Nat} {fi : DI} {g : DC} {tt : DT} {fe : DE} {σ : St} {H : Hp} {Q : VK} (h : rdE K (dLc vs fi g tt fe) σ H Q) : tLc (rdI K fi) (rdC K g vs) (rdT K tt) (rdE K fe) vs σ H Q := by
  obtain ⟨B, F, env, val, env', hK, s, e, q⟩ := h
  simp only [dLc, Option.bind_eq_some_iff, Option.map_eq_some_iff] at e
  obtain ⟨⟨ds, env0⟩, e1, ⟨fin, env9⟩, e2, e3⟩ := e
  cases e3
  refine ⟨B, F, env, ds, env0, hK, s, e1, fun J F0 H0 p0 ok => fun Dd hD => ?_⟩
  have sw := p0.sr.wipe vs
  have fD : F0 Dd = none := p0.sr.fnone hD
  have h0D : B.H0 Dd = none := p0.sr.h0 hD
  have pD : ∀ k, B.P k ≠ some Dd := fun k z => p0.sr.pt k Dd z hD
  refine ⟨fun i m H => i ≤ ds.length ∧ m = ds.length - i ∧ ∃ F1 env1 acc accV, Post B (wipe σ vs) F0 H0 (wipeE env0 vs) F1 H env1 ∧ (∀ j ∈ vs, ∀ c : Cell, env1[j]? ≠ some (some c)) ∧ F1 Dd = none ∧ ¬ OA (wipe σ vs) env1 Dd ∧ H Dd = some (.lst accV) ∧ DpAll B.K F1 accV acc ∧
    loopC vs g tt fe (ds.drop i) acc env1 = some (fin, env9), ⟨_, Nat.zero_le _, rfl, F0, wipeE env0 vs, [], [], (Post.refl sw).allocN hD, wiped_none, fD, fun z => (sw.oa z).2 hD, upd_same, .nil, e2⟩, fun i m H1 ⟨hi, hm, F1, env1, acc, accV, p1, n1, f1, o1, h1, a1, e4⟩ => ?_⟩
  by_cases hlt : i < ds.length
  · refine .inr ⟨ok.go F1 H1 i p1.ff p1.sr.fh hlt, ?_⟩
    rw [List.drop_eq_getElem_cons hlt] at e4
    simp only [loopC, Option.bind_eq_some_iff] at e4
    obtain ⟨env2, e5, ⟨b, env3⟩, e6, e7⟩ := e4
    refine ⟨fun H' => ∃ F2 env4 acc2 accV2, Post B (wipe σ vs) F0 H0 (wipeE env0 vs) F2 H' env4 ∧ (∀ j ∈ vs, ∀ c : Cell, env4[j]? ≠ some (some c)) ∧ F2 Dd = none ∧ ¬ OA (wipe σ vs) env4 Dd ∧ H' Dd = some (.lst accV2) ∧ DpAll B.K F2 accV2 acc2 ∧
      loopC vs g tt fe (ds.drop (i + 1)) acc2 env4 = some (fin, env9), fun H' h => ⟨_, by omega, by omega, rfl, h⟩, fun x H' y => ?_⟩
    obtain ⟨d, F2, ed, p2, hd⟩ := turn_of hK ok p1.ff p1.sr hlt y
    rw [List.getElem?_eq_getElem hlt] at ed
    cases ed
    have p12 := p1.trans p2
    have hD1 : H1 Dd ≠ none := by rw [h1]; simp
    have f2 : F2 Dd = none := by
      cases e : F2 Dd with
      | none => rfl
      | some u =>
        rcases p2.nw Dd (by rw [e]; simp) with z | z | z
        · exact absurd f1 z
        · exact absurd z hD1
        · exact absurd z o1
    have h2 : H' Dd = some (.lst accV) := p2.hh Dd _ h1 o1
    refine ⟨B, F2, env1, _, env2, hK, p2.sr, noHeld_none n1, by rw [← hK]; exact hd, e5, fun σ2 s2 nh2 ag2 => ⟨?_, ?_⟩⟩
    · rw [wipe_ext ag2.l1 fun j hj => (ag2.ag j hj).1]
      apply List.ext_getElem?
      intro j
      rw [wipe_get, wipe_get, wipe_length]
      split <;> rfl
    · refine ⟨B, F2, env2, b, env3, hK, s2, e6, fun F3 H3 p3 => ?_⟩
      have oa2 : ∀ a, OA σ2 env2 a → OA (wipe σ vs) env1 a := fun a z => (Post.unstore n1 nh2 ag2 (.refl s2)).oa a (by
        obtain ⟨j, c, x1, x2, x3⟩ := z
        have hj : j ∉ vs := fun z => by have := nh2 j z c x1; rw [x2] at this; cases this
        exact ⟨j, c, by rw [wipeE_get, if_neg hj]; exact x1, x2, by rw [← (ag2.ag j hj).1]; exact x3⟩)
      have nO2 : ¬ OA σ2 env2 Dd := fun z => o1 (oa2 Dd z)
      cases b with
      | false =>
        have q3 := p12.trans (Post.unstore n1 nh2 ag2 p3)
        refine ⟨F3, wipeE env3 vs, acc, accV, q3, wiped_none, ?_, fun z => ?_, p3.hh Dd _ h2 nO2, dpa_mono (p2.ff.trans p3.ff) a1, e7⟩
        · cases e : F3 Dd with
          | none => rfl
          | some u =>
            rcases p3.nw Dd (by rw [e]; simp) with z | z | z
            · exact absurd f2 z
            · rw [h2] at z; cases z
            · exact absurd z nO2
        · exact o1 ((Post.unstore n1 nh2 ag2 p3).oa Dd z)
      | true =>
        simp only [if_true, Option.bind_eq_some_iff] at e7 ⊢
        obtain ⟨⟨xv, env4⟩, e8, ⟨dv, env5⟩, e9, e10⟩ := e7
        split at e10
        case isFalse => cases e10
        rename_i hacc
        refine ⟨B, F3, env3, xv, env4, hK, p3.sr, e8, fun v F4 H4 p4 r4 => ?_⟩
        have r4' : VR B σ2 H3 F4 H4 env4 v xv := r4
        obtain ⟨F5, p5, hd5, x5, _⟩ := frz_post p4 r4' e9
        have p35 := p3.trans p5
        have h4 : H4 Dd = some (.lst accV) := p35.hh Dd _ h2 nO2
        have f5 : F5 Dd = none := by
          cases e : F5 Dd with
          | none => rfl
          | some u =>
            rcases p35.nw Dd (by rw [e]; simp) with z | z | z
            · exact absurd f2 z
            · rw [h2] at z; cases z
            · exact absurd z nO2
        have u5 := Post.unstore n1 nh2 ag2 p35
        have q5 := p12.trans u5
        have o5 : ¬ OA (wipe σ vs) (wipeE env5 vs) Dd := fun z => o1 (u5.oa Dd z)
        refine ⟨accV, h4, by rw [dpa_length a1]; exact mil2 hacc, F5, wipeE env5 vs, acc ++ [dv], accV ++ [v], q5.writeN f5 (by rw [h4]; simp) hD o5 h0D pD, wiped_none, f5, o5, upd_same, dpa_append (dpa_mono (p2.ff.trans p35.ff) a1) (.cons hd5 .nil), e10⟩
  · have : i = ds.length := by omega
    subst this
    rw [List.drop_length] at e4
    cases e4
    refine .inl ⟨ok.stop F1 H1 p1.ff p1.sr.fh, ?_⟩
    refine q (.ref Dd) F1 H1 (p0.trans (p1.unwipe p0.sr)) ?_
    have vr : VR B (wipe σ vs) H0 F1 H1 env9 (.ref Dd) (.new (.l fin)) := ⟨Dd, .lst accV, rfl, f1, h1, a1, hD, o1, h0D⟩
    exact (VR.unwipe p0.sr p1 vr).ahead fun p hp => p0.fresh hp
section
variable {X : Cx} {elt tg iter : Expr} {ifs : List Expr} {scope : Scope} {own : List (Str × Nat)} {pos spos : Pos} {fi : DI} {g : DC} {tt : DT} {fe : DE} {k : Nat}
theorem je_lc (ok : Ok X k) (hi : JI X tg iter fi) (bk : BlkOk X.N X.env.scope scope own) (hg : ∀ (s : Shared) (H : Hp) (C : Addr) (cl : List (Str × Addr)) (fp : List Addr), Ok (X.blk s H scope (compEnvC scope cl C X.env) fp) k → JC (X.blk s H scope (compEnvC scope cl C X.env) fp) tg g (own.map (·.2)))
    (ht : ∀ (s : Shared) (H : Hp) (C : Addr) (cl : List (Str × Addr)) (fp : List Addr), Ok (X.blk s H scope (compEnvC scope cl C X.env) fp) k → JTs (X.blk s H scope (compEnvC scope cl C X.env) fp) ifs tt)
    (he : ∀ (s : Shared) (H : Hp) (C : Addr) (cl : List (Str × Addr)) (fp : List Addr), Ok (X.blk s H scope (compEnvC scope cl C X.env) fp) k → JE (X.blk s H scope (compEnvC scope cl C X.env) fp) elt fe) (hs : ∀ x, foldedSetIterable iter X.env x = pure x := by intro _; rfl) :
    JE X (.ListComp elt [⟨tg, iter, ifs, 0⟩] scope pos) (dLc (own.map (·.2)) fi g tt fe) :=
  PE.imp (pe_lc ok.calm ok.nd hi bk (fun s H C cl fp => hg s H C cl fp (ok.blk ..)) (fun s H C cl fp => ht s H C cl fp (ok.blk ..)) (fun s H C cl fp => he s H C cl fp (ok.blk ..)) hs) fun _ _ _ => rdLc
theorem js_setLc {i : Nat} {y : Str} {py : Pos} (ow : Bool) (ok : Ok X k) (hi : JI X tg iter fi) (bk : BlkOk X.N X.env.scope scope own) (hg : ∀ (s : Shared) (H : Hp) (C : Addr) (cl : List (Str × Addr)) (fp : List Addr), Ok (X.blk s H scope (compEnvC scope cl C X.env) fp) k → JC (X.blk s H scope (compEnvC scope cl C X.env) fp) tg g (own.map (·.2)))
    (ht : ∀ (s : Shared) (H : Hp) (C : Addr) (cl : List (Str × Addr)) (fp : List Addr), Ok (X.blk s H scope (compEnvC scope cl C X.env) fp) k → JTs (X.blk s H scope (compEnvC scope cl C X.env) fp) ifs tt)
    (he : ∀ (s : Shared) (H : Hp) (C : Addr) (cl : List (Str × Addr)) (fp : List Addr), Ok (X.blk s H scope (compEnvC scope cl C X.env) fp) k → JE (X.blk s H scope (compEnvC scope cl C X.env) fp) elt fe)
    (hy : X.N[i]? = some y := by rfl) (hyl : X.env.scope.names.lookup y = some .local := by rfl)
    (hsw : swapsWith (.ListComp elt [⟨tg, iter, ifs, 0⟩] scope pos) (some (.Name y py)) spos.line X.env = pure true := by rfl) (hs : ∀ x, foldedSetIterable iter X.env x = pure x := by intro _; rfl) :
    JS X (.Assign [.Name y py] (.ListComp elt [⟨tg, iter, ifs, 0⟩] scope pos) spos) (sAs (dLc (own.map (·.2)) fi g tt fe) (gNm ow i)) :=
  PS.imp (ps_setLc ok.calm ok.nd hy hyl hsw hi bk (fun s H C cl fp => hg s H C cl fp (ok.blk ..)) (fun s H C cl fp => ht s H C cl fp (ok.blk ..)) (fun s H C cl fp => he s H C cl fp (ok.blk ..)) hs) fun D σ H ⟨B, F, env, out, hK, s, e, q⟩ => by
    simp only [sAs, gNm, Option.bind_eq_some_iff, Option.map_eq_some_iff] at e
    obtain ⟨⟨y, env1⟩, e1, env2, ⟨⟨c, env3⟩, e2, e3⟩, rfl⟩ := e
    refine rdLc ⟨B, F, env, y, env1, hK, s, e1, fun v F1 H1 p1 r1 => ?_⟩
    split at e3
    · rename_i hl
      cases e3
      obtain ⟨F', s', x⟩ := store_in p1.sr (fun p hp => s.h0 hp) r1 e2 hl
      exact q _ F' H1 s' (p1.ff.trans x)
    · cases e3
end
end EW

/-! EW 12: isinstance, repr, list(range(..)), raise; a law's end. -/
namespace EW
open PySem PySem.Spec PyProof.Rows L2

/-! ### isinstance -/
def rIsD (K : PySem.W.Frag) (T : String) (t : D → Bool) : RC := fun xs H Q => ∃ v d, xs = [v, .ty T] ∧ Dp K H v d ∧ Q (.bl (t d)) H
def IsiRule (T : String) (t : D → Bool) : Prop := ∀ {prog : Program} {w : World} {A : Around} {E : Value → Shared → Prop} {s : Shared} {v : Value} {d : PyData} {as : List Addr} {Q : Value → Shared → Prop}, Reads s.heap v d as →
  (∀ tk, s.toks ≤ tk → Q (.bool (t d)) { s with toks := tk }) → wpAny (model prog w) A (call (.builtin "isinstance") [v, .type T]) Q E s
theorem isi_int : IsiRule "int" PyData.isInt := fun r h => PySem.W.isinstance_int_data r h
theorem isi_bool : IsiRule "bool" PyData.isBool := fun r h => PySem.W.isinstance_bool_data r h
theorem isi_str : IsiRule "str" PyData.isStr := fun r h => PySem.W.isinstance_str_data r h
theorem isi_tuple : IsiRule "tuple" PyData.isTuple := fun r h => PySem.W.isinstance_tuple_data r h
theorem isi_list : IsiRule "list" PyData.isList := fun r h => PySem.W.isinstance_list_data r h
theorem isi_dict : IsiRule "dict" PyData.isDict := fun r h => PySem.W.isinstance_dict_data r h
section
variable {X : Cx} {e e2 : Expr} {f g : DE} {p q pos : Pos} {k : Nat}
theorem call_isD {T : String} {t : D → Bool} (h : IsiRule T t) : CallR X (.builtin "isinstance") (rIsD X.K T t) := by
  intro pins s σ H xs us Q I r hq
  obtain ⟨v, d, rfl, hd, q⟩ := hq
  obtain ⟨u1, u2, rfl, r1, r2⟩ := vals2 r
  obtain rfl : u2 = Value.type T := r2
  obtain ⟨as, rr⟩ := Dp.reads I d v u1 hd r1
  exact h rr fun tk _ => ⟨.bl _, H, I.tok tk, rfl, q⟩
def dIsi (t : D → Bool) (f : DE) : DE := fun env => (f env).bind fun r => (r.1.rd r.2).map fun d => (.dat (.bool (t d)), r.2)
theorem je_isi {T : String} {t : D → Bool} {x : Str} (rule : IsiRule T t) (hm : X.mg "isinstance" = none) (hmT : X.mg x = none) (he : JE X e f) (hvT : bootBuiltins x = some (.type T) := by decide +kernel) (hg : Gl X "isinstance" := by rfl) (hgT : Gl X x := by rfl) (hn : x ≠ "__name__" := by decide) (hdb : (x == ("__debug__" : Str)) = false := by decide)
    (hs : starEach [e, .Name x q] X.env = (false, eval e X.env) :: starEach [.Name x q] X.env := by rfl) (hpl : (backTo pos (starEach [.Name x q] X.env)).any (·.1) = false := by rfl) : JE X (.Call (.Name "isinstance" p) [e, .Name x q] [] pos) (dIsi t f) := by
  have hT : PE X (.Name x q) (tC (.ty T)) := ⟨fun pins s σ H Q I h => ld_blt I hgT hmT hvT ⟨.ty T, H, I, rfl, h⟩ hn hdb⟩
  refine PE.imp (pe_callB (call_isD rule) hg hm (by decide +kernel) (pa_cons he (pa_cons hT pa_nil) hs) (he := hs) (hpl := hpl)) fun σ H Q ⟨B, F, env, val, env', hK, s, e0, q0⟩ => ?_
  simp only [dIsi, Option.bind_eq_some_iff, Option.map_eq_some_iff] at e0
  obtain ⟨⟨y, env1⟩, e1, d, e2, e3⟩ := e0
  cases e3
  exact ⟨B, F, env, y, env1, hK, s, e1, fun v F1 H1 p1 r1 => ⟨v, d, rfl, by rw [← hK]; exact r1.rd p1.sr e2, q0 _ F1 H1 p1 (.bl _)⟩⟩

/-! ### repr -/
mutual
theorem dp_nodict {K : PySem.W.Frag} {H : Hp} : ∀ {v : V} {d : D}, Dp K H v d → d.hasDict = false
  | _, _, .non => rfl
  | _, _, .bl _ => rfl
  | _, _, .int _ => rfl
  | _, _, .str _ => rfl
  | _, _, .lst _ a => by simp only [PyData.hasDict]; exact dpa_nodict a
  | _, _, .tup _ a => by simp only [PyData.hasDict]; exact dpa_nodict a
theorem dpa_nodict {K : PySem.W.Frag} {H : Hp} : ∀ {vs : List V} {ds : List D}, DpAll K H vs ds → PyData.hasDictAll ds = false
  | _, _, .nil => rfl
  | _, _, .cons h a => by simp only [PyData.hasDictAll, dp_nodict h, dpa_nodict a, Bool.or_false]
end
def boxed : D → Bool
  | .list _ => true
  | .tuple _ => true
  | _ => false
def hRepr (d : D) (env : Env) : Option (Val × Env) := if boxed d = true ∧ d.showable = true ∧ d.depth ≤ 100 ∧ d.shown.length ≤ 1000000 then some (.dat (.str d.shown), env) else none
def rReprD (K : PySem.W.Frag) : RC := fun xs H Q => ∃ v d, xs = [v] ∧ Dp K H v d ∧ (boxed d = true ∧ d.showable = true ∧ d.depth ≤ 100 ∧ d.shown.length ≤ 1000000) ∧ Q (.str d.shown) H
theorem call_reprD (ok : Ok X k) : CallR X (.builtin "repr") (rReprD X.K) := by
  intro pins s σ H xs us Q I r hq
  obtain ⟨v, d, rfl, hd, ⟨h1, h2, h3, h4⟩, q⟩ := hq
  obtain ⟨u, rfl, ru⟩ := vals1 r
  obtain ⟨as, rr⟩ := Dp.reads I d v u hd ru
  obtain ⟨a, rfl⟩ : ∃ a, u = .ref a := by
    cases rr <;> first | exact ⟨_, rfl⟩ | cases h1
  have := ok.un
  exact repr_of_reads' rr h2 (PySem.PyData.noDict_hsm (dp_nodict hd)) ok.gd (by omega) (fun _ _ e => e) (fun h' u tk hk => ⟨.str _, H, I.kept hk, ⟨u, rfl⟩, q⟩) (Nat.le_trans h4 mil)
theorem repr_ok {K : PySem.W.Frag} : RCok K (rReprD K) (k1 hRepr) := k1_ok <| by
  intro B σ Fq Hq envp F H env v x d val env' Q hK p r e1 e2 q
  subst hK
  unfold hRepr at e2
  split at e2
  · rename_i hh
    cases e2
    exact ⟨v, d, rfl, r.rd p.sr e1, hh, q _ F H p (.str _)⟩
  · cases e2

/-! ### list(range(..)) -/
theorem rng_dpa {K : PySem.W.Frag} {H : Hp} (a b : Int) : DpAll K H (rgV a b) (rngD a (b - a).toNat) := by
  unfold rgV rngD
  generalize List.range (b - a).toNat = l
  induction l with
  | nil => exact .nil
  | cons x l ih => exact .cons (.int _) ih
def dLr (fi : DI) : DE := fun env => (fi env).map fun r => (.new (.l r.1), r.2)
theorem je_lr1 {p1 : Pos} (ok : Ok X k) (hm : X.mg "list" = none) (hm2 : X.mg "range" = none) (he : JE X e f) (hg : Gl X "list" := by rfl) (hg2 : Gl X "range" := by rfl) (na : starEach [e] X.env = (false, eval e X.env) :: starEach [] X.env := by rfl)
    (na2 : starEach [.Call (.Name "range" q) [e] [] p1] X.env = (false, eval (.Call (.Name "range" q) [e] [] p1) X.env) :: starEach [] X.env := by rfl) : JE X (.Call (.Name "list" p) [.Call (.Name "range" q) [e] [] p1] [] pos) (dLr (iR1 f)) :=
  PE.imp (pe_listRg ok.calm hg hm (prg_1 hg2 hm2 he na) na2) fun σ H Q ⟨B, F, env, val, env', hK, s, e0, q0⟩ => by
    simp only [dLr, iR1, Option.map_eq_some_iff, Option.bind_eq_some_iff] at e0
    obtain ⟨⟨ds, env1⟩, ⟨⟨x, env2⟩, e1, e2⟩, e3⟩ := e0
    cases e3
    split at e2
    · rename_i j ej
      split at e2
      · rename_i hj
        cases e2
        refine ⟨B, F, env, x, _, hK, s, e1, fun v F1 H1 p1 r1 => ⟨j, r1.rdI p1.sr ej, ⟨by omega, by omega, by omega, by omega, by omega⟩, fun z hz => q0 _ F1 _ (p1.allocN hz) (VR.newAt p1 hz ?_)⟩⟩
        have := rng_dpa (K := B.K) (H := F1) 0 j
        rw [Int.sub_zero] at this
        exact this
      · cases e2
    · cases e2
theorem je_lr2 {p1 : Pos} (ok : Ok X k) (hm : X.mg "list" = none) (hm2 : X.mg "range" = none) (he : JE X e f) (he2 : JE X e2 g) (hg : Gl X "list" := by rfl) (hg2 : Gl X "range" := by rfl) (na : starEach [e, e2] X.env = (false, eval e X.env) :: starEach [e2] X.env := by rfl) (nb : starEach [e2] X.env = (false, eval e2 X.env) :: starEach [] X.env := by rfl) (hp : (backTo p1 (starEach [e2] X.env)).any (·.1) = false := by rfl)
    (na2 : starEach [.Call (.Name "range" q) [e, e2] [] p1] X.env = (false, eval (.Call (.Name "range" q) [e, e2] [] p1) X.env) :: starEach [] X.env := by rfl) : JE X (.Call (.Name "list" p) [.Call (.Name "range" q) [e, e2] [] p1] [] pos) (dLr (iR2 f g)) :=
  PE.imp (pe_listRg ok.calm hg hm (prg_2 hg2 hm2 he he2 na nb hp) na2) fun σ H Q ⟨B, F, env, val, env', hK, s, e0, q0⟩ => by
    simp only [dLr, iR2, Option.map_eq_some_iff, Option.bind_eq_some_iff] at e0
    obtain ⟨⟨ds, env1⟩, ⟨⟨x, env2⟩, e1, ⟨y, env3⟩, e2, e4⟩, e3⟩ := e0
    cases e3
    split at e4
    · rename_i i j ei ej
      split at e4
      · rename_i hj
        cases e4
        refine ⟨B, F, env, x, env2, hK, s, e1, fun v F1 H1 p1 r1 => ⟨B, F1, env2, y, _, hK, p1.sr, e2, fun w F2 H2 p2 r2 => ⟨i, j, (r1.step p2).rdI p2.sr ei, r2.rdI p2.sr ej, ⟨by omega, by omega, by omega, by omega, by omega⟩, fun z hz => q0 _ F2 _ ((p1.trans p2).allocN hz) (VR.newAt (p1.trans p2) hz (rng_dpa i j))⟩⟩⟩
      · cases e4
    · cases e4
end

/-! ### a law's end -/
theorem law_callG {P : Program} {w : World} {K : PySem.W.Frag} {mg mb : Str → Option Value} {k : Nat} {fa a : Addr} {fd : FuncData} {x : Str} {sp : Sp} {s₁ : Shared} {vs : List Value} {ns : List Int}
    (KX : K.In s₁.heap) (hns : s₁.heap.Ns mainGlobals mg) (hb : s₁.heap.Ns builtinsNs mb) (hbb : ∀ x : Str, x ≠ "__name__" → mb x = bootBuiltins x) (hlim : s₁.heap.NoLimit) (hg : s₁.gens = #[])
    (ha : s₁.heap.get? a = some { cls := .type "list", data := .seq vs.toArray }) (hi : IntsAre vs ns) (hl : ns.length ≤ sizeLine) (hr : Room k callerA)
    (F : ∀ base : Heap, K.In base → base.Ns mainGlobals mg → FnG P w K mg base k fa fd [x] sp) (hbind : ∀ (s : Shared) (u : Value), BindsTo s fd ⟨[u], []⟩ [(x, u)])
    (hsp : ∀ H : Hp, Only H → SqL K H a (ns.map V.int) → sp [.ref a] H (fun v _ => v = .bl true) E0) :
    codeAny (model P w) callerA (.call (.ref fa) ⟨[.ref a], []⟩) (fun r s' => r = .ok (.ret (.bool true)) ∧ OldK s₁.heap s'.heap ∧ s'.os = s₁.os ∧ AllBare s'.gens) s₁ := by
  have rv := vals_ints hi
  have lenV := hi.length
  -- H: at most the script is told
  have main : ∀ H : Hp, Only H → SqL K H a (ns.map V.int) → HOk P w H s₁.heap → (∀ b, H b ≠ none → b = a ∧ K.lookup a = none) →
      codeAny (model P w) callerA (.call (.ref fa) ⟨[.ref a], []⟩) (fun r s' => r = .ok (.ret (.bool true)) ∧ OldK s₁.heap s'.heap ∧ s'.os = s₁.os ∧ AllBare s'.gens) s₁ := by
    intro H hO hS hok hA
    have notSeq : ∀ {b : Addr} {o : Obj}, s₁.heap.get? b = some o → (∀ xs n, o.data ≠ .seq xs n) → H b = none := fun {b o} e d => by
      cases q : H b with
      | none => rfl
      | some u =>
        obtain ⟨e', _⟩ := hA b (by rw [q]; simp)
        rw [e', ha] at e
        cases e
        exact absurd rfl (d _ _)
    have nsK : ∀ {b : Addr} {m : Str → Option Value}, s₁.heap.Ns b m → (hidT s₁.heap H).Ns b m := fun {b m} ⟨o, es, ep, e, d, r⟩ => ⟨o, es, ep, hidT_get e (notSeq e fun xs n z => by rw [d] at z; cases z), d, r⟩
    have hKb : K.In (hidT s₁.heap H) := fun b o e => hidT_get (KX b o e) (by
      cases q : H b with
      | none => rfl
      | some u =>
        obtain ⟨e', z⟩ := hA b (by rw [q]; simp)
        rw [e', z] at e; cases e)
    have hM : Mod K mg (hidT s₁.heap H) := ⟨hKb, nsK hns, ⟨mb, nsK hb, hbb⟩, let ⟨mc, h1, h2⟩ := hlim; ⟨mc, nsK h1, h2⟩⟩
    have e0 : Env0 P w K mg (hidT s₁.heap H) callerA [] s₁ H := ⟨rfl, hM, fun b o e => of_hidT e, Nat.le_of_eq (hidT_size _ _), trivial, fun b hb => absurd hb (List.not_mem_nil), hok, .of_eq hg⟩
    refine codeAny_mono ((F _ hKb (nsK hns)).run callerA [] s₁ H ⟨[.ref a], []⟩ [.ref a] [.ref a] _ hr rfl e0 (hbind s₁ (.ref a)) (.cons rfl .nil) (hsp H hO hS)) fun r s' h => ?_
    cases r with
    | error e => exact False.elim h
    | ok fl =>
      cases fl with
      | next => exact False.elim h
      | brk => exact False.elim h
      | cont => exact False.elim h
      | ret u =>
        obtain ⟨v, H', os, bare, un, hok', r', q⟩ := h
        obtain rfl : v = .bl true := q
        obtain rfl : u = Value.bool true := r'
        refine ⟨rfl, OldK.of_keep fun b o e => ?_, os, bare⟩
        rcases hO b with z | ⟨oz, xs, z⟩
        · exact un.keep b o e z (fun y => by cases y) (by simp)
        · have e1 := (hok b _ z).1
          rw [e] at e1
          cases e1
          exact (hok' b _ (un.frzs b _ _ z)).1
  cases hk : K.lookup a with
  | some o =>
    have e := KX a o hk
    rw [ha] at e
    cases e
    exact main (fun _ => none) (fun _ => .inl rfl) (.inr ⟨_, vs.toArray, _, hk, rfl, rfl, rfl, by rw [List.size_toArray, lenV]; exact hl, by simpa using rv⟩) (fun b u z => by cases z) (fun b z => absurd rfl z)
  | none =>
    have hin : ∀ b, b = a → (fun b => if b = a then some (HO.frz { cls := .type "list", data := .seq vs.toArray } (.lst (ns.map V.int))) else none : Hp) b = some (.frz { cls := .type "list", data := .seq vs.toArray } (.lst (ns.map V.int))) := fun b h => if_pos h
    refine main (fun b => if b = a then some (.frz { cls := .type "list", data := .seq vs.toArray } (.lst (ns.map V.int))) else none) (fun b => ?_) (.inl (.inr ⟨{ cls := .type "list", data := .seq vs.toArray }, if_pos rfl⟩)) (fun b u z => ?_) (fun b z => ?_)
    · by_cases h : b = a
      · exact .inr ⟨_, _, hin b h⟩
      · exact .inl (if_neg h)
    · by_cases h : b = a
      · rw [hin b h] at z
        cases z
        subst h
        exact ⟨ha, by rw [List.length_map]; exact hl, vs, _, rv, ha⟩
      · simp only [if_neg h] at z
        cases z
    · by_cases h : b = a
      · exact ⟨h, hk⟩
      · exact absurd (if_neg h) z
/-- a law's walk: what its def promises, over every base -/
theorem walk_ofG {l : PySem.W.OpenLaw} {n k : Nat} {q : Program} {loose : List Str} {XP : (Str → Option Value) → Heap → Prop} {YP : World → Heap → Prop} {d : DefRec} {x : Str} {params : Arguments} {sem : Sem}
    (hn : l.most = some n) (hn2 : n ≤ sizeLine) (hdf : d.params.defaults = []) (hr : Room k callerA)
    (F : ∀ (w : World) (mg : Str → Option Value) (fa : Addr) (h : Heap), YP w h → h.Ns mainGlobals mg → mg d.name = some (.ref fa) →
      ∃ K : PySem.W.Frag, K.In h ∧ ∃ fd : FuncData, (∀ (s : Shared) (u : Value), BindsTo s fd ⟨[u], []⟩ [(x, u)]) ∧ ∀ base : Heap, K.In base → base.Ns mainGlobals mg → FnG l.prog w K mg base k fa fd [x] (spF K 1 sem))
    (hsem : ∀ ns : List Int, ns.length ≤ n → ∃ o, sem none [.list (ns.map PyData.int)] = some (.dat (.bool true), o)) :
    PySem.W.WalkO q loose XP YP l.row.toRowW d [] (fun f vs => PySem.call f vs) := by
  refine Att.attach_call hn hdf fun w s₀ s₁ mg mb fa o pm cd doc a vs ns G Y ho hd hcd hmg hobj hints hlen hg => ?_
  obtain ⟨K, KX, fd, hb, hF⟩ := F w mg fa _ Y G.T.g hmg
  refine law_callG KX G.T.g G.T.b G.T.builtins G.T.nolimit hg hobj hints (Nat.le_trans hlen hn2) hr hF hb fun H hO hS => ?_
  obtain ⟨o, e⟩ := hsem ns hlen
  refine ⟨rfl, H, [], [.ref a], [.list (ns.map PyData.int)], none, o, .dat (.bool true), rfl, Ex.refl H, .no, .cons (.lst hS (dpa_of_ints ns)) .nil, e, fun u F' H' pf => ?_⟩
  have := pf.res
  cases (show Dp K F' u (.bool true) from this)
  rfl
end EW

set_option maxHeartbeats 3200000
/-! EW 13: len(set(..)) of a list of texts. -/
namespace EW
open PySem PySem.Spec PyProof.Rows L2

def memK {κ : Type} [DecidableEq κ] (k : κ) (acc : List κ) : Bool := acc.any fun x => decide (x = k)
def addK {κ : Type} [DecidableEq κ] (acc : List κ) (v : κ) : List κ := if memK v acc = true then acc else acc ++ [v]
/-- the keys, each where it is met first -/
def metK {κ : Type} [DecidableEq κ] (ks : List κ) : List κ := ks.foldl addK []
theorem metK_take {κ : Type} [DecidableEq κ] (ks : List κ) (i : Nat) (h : i < ks.length) : metK (ks.take (i + 1)) = addK (metK (ks.take i)) ks[i] := by
  unfold metK
  rw [List.take_succ_eq_append_getElem h, List.foldl_append]
  rfl
theorem metK_len {κ : Type} [DecidableEq κ] : ∀ (ks acc : List κ), (ks.foldl addK acc).length ≤ acc.length + ks.length
  | [], acc => by simp
  | k :: ks, acc => by
    have := metK_len ks (addK acc k)
    have h2 : (addK acc k).length ≤ acc.length + 1 := by
      unfold addK
      split
      · omega
      · simp
    simp only [List.foldl_cons, List.length_cons]
    omega
theorem addK_any {κ : Type} [DecidableEq κ] (acc : List κ) (v k : κ) : memK k (addK acc v) = (memK k acc || decide (k = v)) := by
  unfold addK
  by_cases h : memK v acc = true
  · rw [if_pos h]
    by_cases e : k = v
    · subst e; simp [h]
    · simp [e]
  · rw [if_neg h]
    unfold memK
    rw [List.any_append]
    by_cases e : k = v
    · subst e; simp
    · have e' : ¬ v = k := fun z => e z.symm
      simp [e, e']
theorem addK_length {κ : Type} [DecidableEq κ] (acc : List κ) (v : κ) : (addK acc v).length = if memK v acc = true then acc.length else acc.length + 1 := by
  unfold addK
  by_cases h : memK v acc = true <;> simp [h]
theorem setOf_congr {prog : Program} {w : World} {h : Heap} {a : Addr} {S S' : Key → Bool} {n n' : Nat} (hS : h.SetOf (mixKind prog w) a S n) (e : ∀ k, S k = S' k) (en : n = n') : h.SetOf (mixKind prog w) a S' n' := by
  have : S = S' := funext e
  subst this; subst en; exact hS
theorem metK_nodup_aux {κ : Type} [DecidableEq κ] : ∀ (ks acc : List κ), (acc ++ ks).Nodup → ks.foldl addK acc = acc ++ ks
  | [], acc, _ => by simp
  | k :: ks, acc, h => by
    have hk : memK k acc = false := by
      unfold memK
      rw [List.any_eq_false]
      intro x hx
      simp only [decide_eq_true_eq]
      exact fun e => (List.nodup_append.mp h).2.2 x hx k List.mem_cons_self e
    have e1 : addK acc k = acc ++ [k] := by unfold addK; rw [hk]; rfl
    rw [List.foldl_cons, e1, metK_nodup_aux ks (acc ++ [k]) (by simpa using h)]
    simp
theorem metK_nodup {κ : Type} [DecidableEq κ] {ks : List κ} (h : ks.Nodup) : metK ks = ks := by
  unfold metK
  rw [metK_nodup_aux ks [] (by simpa using h)]
  simp
section
variable {prog : Program} {w : World} {A : Around} {R : Result → Shared → Prop} {I : Addr} {fp wr : List Addr} {G : Array GenState → Array GenState → Prop} {n : Nat} {P : Nat → Value → Prop} {St : Nat → Shared → Prop}
theorem set_loopK (W : WalksS prog w A.in1 I fp wr G n P St) (S : Addr) (hSf : S ∉ fp) (ks : List Key) (hn : ks.length = n)
    (hval : ∀ i v, P i v → ∃ h : i < ks.length, (mixKind prog w).is ks[i] v = true ∧ v.scannable = true) (hb : n + 1 < scanBound) :
    ∀ (k i : Nat) (s : Shared), n - i = k → i ≤ n → St i s → s.heap.SetOf (mixKind prog w) S (fun k' => memK k' (metK (ks.take i))) (metK (ks.take i)).length →
      (∀ s', Moved (S :: wr) G s s' → s'.heap.SetOf (mixKind prog w) S (fun k' => memK k' (metK ks)) (metK ks).length → R (.ok (.ret .none)) s') →
      codeAny (model prog w) A (.builtin "set.update.loop" ⟨[.ref S, .ref I], []⟩) R s := by
  have hSw : S ∉ wr := fun h => hSf (W.sub _ h)
  have hsub : ∀ b ∈ wr, b ∈ S :: wr := fun b hb => List.mem_cons_of_mem _ hb
  have at_ : ∀ (s s' : Shared) (Sf : Key → Bool) (m : Nat), Moved wr G s s' → s.heap.SetOf (mixKind prog w) S Sf m → s'.heap.SetOf (mixKind prog w) S Sf m := fun s s' Sf m hm ⟨o, es, ep, t, ho, rest⟩ => ⟨o, es, ep, t, hm.heap S _ hSw ho, rest⟩
  intro k
  induction k with
  | zero =>
    intro i s hk hi hst hS hR
    have hin : i = n := by omega
    subst hin
    rw [← hn, List.take_length] at hS
    refine codeAny_builtin F.entry_set_update_loop ?_
    rw [Around.under_plainId F.plain_set_update_loop _]
    show wpAny _ A.in1 (pyNext (.ref I) >>= _) _ _ s
    refine wpAny_bind (W.done s _ _ hst fun s' hm => ?_)
    show wpAny _ A.in1 (ret Value.none) _ _ s'
    exact wpAny_pure (hR s' (hm.mono hsub) (at_ _ _ _ _ hm hS))
  | succ k ih =>
    intro i s hk hi hst hS hR
    have hlt : i < n := by omega
    refine codeAny_builtin F.entry_set_update_loop ?_
    rw [Around.under_plainId F.plain_set_update_loop _]
    show wpAny _ A.in1 (pyNext (.ref I) >>= _) _ _ s
    refine wpAny_bind (W.item i s _ _ hlt hst fun v s' hP hst' hm => ?_)
    obtain ⟨hik, hkey, hsc⟩ := hval i v hP
    have hS' := at_ _ _ _ _ hm hS
    show wpAny _ A.in1 (holding [v] (setAdd S v) >>= _) _ _ s'
    refine wpAny_bind (wpAny_holding ?_)
    unfold setAdd
    refine wpAny_holding ?_
    refine wpAny_bind ((mixKind prog w).pyHash (k := ks[i]) hkey ?_)
    have hroom : (metK (ks.take i)).length + 1 < scanBound := by
      have h1 := metK_len (ks.take i) []
      have h2 : (metK (ks.take i)).length ≤ (ks.take i).length := by unfold metK; simpa using h1
      rw [List.length_take] at h2
      omega
    refine wpAny_setAddHashed_of (knd := mixKind prog w) (s := { s' with toks := s'.toks + 1 }) hkey hsc hS' hroom fun h' hsb hS2 => ?_
    have hSi : h'.SetOf (mixKind prog w) S (fun k' => memK k' (metK (ks.take (i + 1)))) (metK (ks.take (i + 1))).length := by
      rw [metK_take ks i hik]
      exact setOf_congr hS2 (fun k' => by rw [addK_any]) (by rw [addK_length])
    refine wpAny_pure ⟨plainId_quiet F.plain_set_update_loop _, ih (i + 1) _ (by omega) hlt (W.frame _ s' _ _ hst' (Nat.le_succ _) fun b hb o e => ?_) hSi fun s'' hm'' hS'' => ?_⟩
    · rw [hsb.2 b (fun h : b = S => hSf (by rw [← h]; exact hb))]; exact e
    · refine hR s'' (Moved.trans W.gtrans ((hm.mono hsub).then_heap (Nat.le_succ _) fun b o hb e => ?_) hm'') hS''
      rw [hsb.2 b (fun h : b = S => hb (by rw [h]; exact List.mem_cons_self))]; exact e
end
section
variable {prog : Program} {w : World} {A : Around} {E : Value → Shared → Prop} {s : Shared}
theorem set_listK {l : Addr} {items : Array Value} {ks : List Key} {Q : Value → Shared → Prop}
    (hh : A.handled = none) (hl : s.heap.IsList l items) (hn : ks.length = items.size) (hi : ∀ (i : Nat) (v : Value), items[i]? = some v → ∃ h : i < ks.length, (mixKind prog w).is ks[i] v = true ∧ v.scannable = true) (hb : items.size + 1 < scanBound)
    (h : ∀ (h' : Heap) (tk : Nat), h'.SetOf (mixKind prog w) s.heap.objs.size (fun k' => memK k' (metK ks)) (metK ks).length →
      (∀ b o, b < s.heap.objs.size → s.heap.get? b = some o → h'.get? b = some o) → Q (.ref s.heap.objs.size) { s with heap := h', toks := tk }) :
    wpAny (model prog w) A (call (.type "set") [.ref l]) Q E s := by
  obtain ⟨c, tl, hmro⟩ := PySem.F.called_set.mro
  have hmade := PySem.F.called_set.made
  have hsub := PySem.F.called_set.sub
  refine wpAny_call (codeAny_of_tree ?_)
  show wpAny _ _ (callAny (.type "set") _) _ _ _
  refine wpAny_pure ⟨Code.quiet_builtin _ (by decide +kernel), codeAny_builtin PySem.F.entry_type_call ?_⟩
  rw [Around.under_plain (weight_type_call_type "set" [.ref l] []) rfl]
  have h1 := PySem.F.called_set.notType
  have h2 := PySem.F.called_set.canCreate
  have hct := PySem.F.typeCall_set_1 (.ref l)
  repeat (any_goals (first | assumption | wp_step))

  refine codeAny_mono (code_set_new_1 (.ref l) (E := E) (Q₁ := fun obj s₁ => ∃ led : Bool, obj = .ref s.heap.objs.size ∧ s₁ = { s with heap := s.heap.push { cls := .type "set", dict := none, data := .set #[] 0 (.fresh 0 0 led) } }) fun led => ⟨led, rfl, rfl⟩) fun r s₁ hr => ?_
  cases r with
  | error e => exact hr
  | ok fl =>
    cases fl with
    | ret obj =>
      obtain ⟨led, rfl, rfl⟩ := hr
      have hS : (s.heap.push { cls := .type "set", dict := none, data := .set #[] 0 (.fresh 0 0 led) }).get? s.heap.objs.size = some { cls := .type "set", dict := none, data := .set #[] 0 (.fresh 0 0 led) } := Heap.get?_push_size _ rfl
      have hT : Shared.TypeIs { s with heap := s.heap.push { cls := .type "set", dict := none, data := .set #[] 0 (.fresh 0 0 led) } } (.ref s.heap.objs.size) "set" := ⟨_, hS, rfl⟩
      have hli := PySem.F.called_set.init.lookup
      have hbi := PySem.F.called_set.init.bind (.ref s.heap.objs.size)
      repeat (any_goals (first | assumption | wp_step))

      refine codeAny_mono (codeAny_call_builtin (R := wants (fun r s₂ => r = .none ∧ ∃ h' tk, s₂ = { s with heap := h', toks := tk } ∧
          h'.SetOf (mixKind prog w) s.heap.objs.size (fun k' => memK k' (metK ks)) (metK ks).length ∧
          (∀ b o, b < s.heap.objs.size → s.heap.get? b = some o → h'.get? b = some o)) E) PySem.F.called_set.init.plain PySem.F.entry_set_init (check_set_init_1 hT ?_)) fun r₂ s₂ hr₂ => ?_
      · obtain ⟨ol, hol, hcl, nl, hdl⟩ := hl
        obtain ⟨ocls, odict, odata, oslots⟩ := ol
        simp only at hcl hdl
        subst hcl; subst hdl
        have hol' : (s.heap.push { cls := .type "set", dict := none, data := .set #[] 0 (.fresh 0 0 led) }).get? l = some { cls := .type "list", dict := odict, data := .seq items nl, slots := oslots } := Heap.get?_push_of_some _ hol
        have hsls := PySem.F.sub_list_set
        have hslf := PySem.F.sub_list_frozenset
        have hne : (Value.type "list" == Value.type "dict") = false := by decide
        have hl1 : (s.heap.push { cls := .type "set", dict := none, data := .set #[] 0 (.fresh 0 0 led) }).IsList l items := ⟨_, hol', rfl, nl, rfl⟩
        unfold Builtin.«set.__init__» noKeywords Builtin.Frozenset.updateFrom
        generalize hPI : pyIter = PI
        wp_walk
        subst hPI

        refine wpAny_pyIter_list hl1 ?_
        refine wpAny_bind (wpAny_runValue ?_)
        have hlS : l < s.heap.objs.size := Heap.lt_size hol
        have hh3 : A.in1.in1.in1.handled = none := by simp [hh]
        have hneI : l ≠ (s.heap.push { cls := .type "set", dict := none, data := .set #[] 0 (.fresh 0 0 led) }).objs.size := by
          rw [Heap.size_push]; exact Nat.ne_of_lt (Nat.lt_succ_of_lt hlS)
        have hSf : s.heap.objs.size ∉ [(s.heap.push { cls := .type "set", dict := none, data := .set #[] 0 (.fresh 0 0 led) }).objs.size, l] := by
          rw [Heap.size_push]; simp only [List.mem_cons, List.mem_singleton, List.not_mem_nil, or_false, not_or]
          exact ⟨Nat.ne_of_lt (Nat.lt_succ_self _), Nat.ne_of_gt hlS⟩
        refine set_loopK ((Walks.list hh3 _ l hneI items).toS) s.heap.objs.size
          hSf ks hn hi hb (items.size - 0) 0 _ (by omega) (Nat.zero_le _)
          ⟨⟨_, Heap.get?_push_size _ rfl, rfl, rfl⟩, (hl1.push _)⟩ ?hS0 ?hR
        case hS0 =>
          have hget : ((s.heap.push { cls := .type "set", dict := none, data := .set #[] 0 (.fresh 0 0 led) }).push { cls := .type "list_iterator", data := .fields #[.ref l, .int 0 0] }).get? s.heap.objs.size
              = some { cls := .type "set", dict := none, data := .set #[] 0 (.fresh 0 0 led) } := Heap.get?_push_of_some _ hS
          exact ⟨_, #[], 0, _, hget, ⟨rfl, rfl, rfl⟩, rfl, (fun e he => by simp at he), (fun k => by simp [memK, metK]), (by decide), (by rfl), rfl⟩
        case hR =>
          intro s' hm hS'
          obtain ⟨h', g', d', tk', os'⟩ := s'
          have eg : g' = s.gens := hm.gens
          have ed : d' = s.drawn := hm.drawn
          have eo : os' = s.os := hm.os
          subst eg; subst ed; subst eo
          show wpAny _ _ _ _ _ _
          refine wpAny_pure ?_
          show wpAny _ _ (ret Value.none) _ _ _
          refine wpAny_pure ⟨rfl, h', tk', rfl, hS', fun b o hb e => ?_⟩
          have hb1 : b ≠ s.heap.objs.size := Nat.ne_of_lt hb
          have hb2 : b ≠ (s.heap.push { cls := .type "set", dict := none, data := .set #[] 0 (.fresh 0 0 led) }).objs.size := by
            rw [Heap.size_push]; exact Nat.ne_of_lt (Nat.lt_succ_of_lt hb)
          exact hm.heap b o (by simp only [List.mem_cons, List.mem_singleton, List.not_mem_nil, or_false, not_or]; exact ⟨hb1, hb2⟩) (Heap.get?_push_of_some _ (Heap.get?_push_of_some _ e))

      · cases r₂ with
        | error e => exact hr₂
        | ok fl₂ =>
          cases fl₂ with
          | ret r =>
            obtain ⟨rfl, h', tk, rfl, hS', hk'⟩ := hr₂
            repeat (any_goals (first | assumption | wp_step))
            exact h _ _ hS' hk'
          | _ => exact hr₂.elim
    | _ => exact hr.elim
end
/-! the call of set, of len -/
def keysOf : List D → Option (List Key)
  | [] => some []
  | d :: ds => (keyD d).bind fun k => (keysOf ds).map (k :: ·)
def rSetK (P : Program) (w : World) (K : PySem.W.Frag) : RC := fun xs H Q => ∃ a vs ds ks, xs = [.ref a] ∧ SqL K H a vs ∧ DpAll K H vs ds ∧ keysOf ds = some ks ∧ ds.length ≤ 60 ∧ ∀ p, H p = none → Q (.ref p) (upd H p (SetK P w p (fun k => memK k (metK ks)) (metK ks).length))
theorem keysOf_get : ∀ {ds : List D} {ks : List Key}, keysOf ds = some ks → ds.length = ks.length ∧ ∀ (i : Nat) (h : i < ks.length), ∃ d, ds[i]? = some d ∧ keyD d = some ks[i]
  | [], ks, e => by cases e; exact ⟨rfl, fun i h => by simp at h⟩
  | d :: ds, ks, e => by
    simp only [keysOf, Option.bind_eq_some_iff, Option.map_eq_some_iff] at e
    obtain ⟨k, e1, ks', e2, rfl⟩ := e
    obtain ⟨h1, h2⟩ := keysOf_get e2
    refine ⟨by simp [h1], fun i h => ?_⟩
    cases i with
    | zero => exact ⟨d, rfl, e1⟩
    | succ i =>
      obtain ⟨d', a, b⟩ := h2 i (by simpa using h)
      exact ⟨d', by simpa using a, by simpa using b⟩
theorem key_rel {K : PySem.W.Frag} {H : Hp} {v : V} {u : Value} {d : D} {k : Key} (h : Dp K H v d) (r : L2.RelV v u) (e : keyD d = some k) : L2.RelV (kV k) u := by
  cases h <;> first | (cases e; done) | skip
  · cases e; exact r
  · cases e; exact r
theorem call_setK {X : Cx} (hc : X.calm = true) : CallR X (.type "set") (rSetK X.prog X.w X.K) := by
  intro pins s σ H xs us Q I r h
  obtain ⟨a, vs, ds, ks, rfl, hs, hd, hk, hz, q⟩ := h
  obtain ⟨its, rv, hl, _⟩ := I.list hs
  rw [Vals.ref1 r]
  have h1 := dpa_length hd
  have h2 := rv.length
  obtain ⟨h3, h4⟩ := keysOf_get hk
  refine set_listK (ks := ks) (I.ok.hd hc) hl.isList (by rw [List.size_toArray]; omega) (fun i v hv => ?_) (by rw [List.size_toArray]; unfold scanBound; omega) fun h' tk hS hkp => ?_
  · have hi : i < its.length := by
      have := (Array.getElem?_eq_some_iff.mp hv).1
      simpa using this
    have hik : i < ks.length := by omega
    obtain ⟨d, hd1, hd2⟩ := h4 i hik
    obtain ⟨x, hx, hdx⟩ := dpa_get' hd hd1
    obtain ⟨u, hu, ru⟩ := rv.get hx
    have e : its.toArray[i]? = its[i]? := by simp
    rw [e, hu] at hv
    cases hv
    have rk := key_rel hdx ru hd2
    exact ⟨hik, kV_is rk, key_scan rk⟩
  · refine ⟨.ref s.heap.objs.size, _, I.laid (t' := tk) (fun b o e => hkp b o (Heap.lt_size e) e) (Nat.le_refl _) (setK_new hS), rfl, q _ (I.hok.fresh (Nat.le_refl _))⟩
def rLenK (P : Program) (w : World) : RC := fun xs H Q => ∃ a S n, xs = [.ref a] ∧ H a = some (SetK P w a S n) ∧ n ≤ 60 ∧ Q (.int n) H
theorem call_lenK {X : Cx} : CallR X (.builtin "len") (rLenK X.prog X.w) := by
  intro pins s σ H xs us Q I r h
  obtain ⟨a, S, n, rfl, ha, hn, q⟩ := h
  rw [Vals.ref1 r]
  obtain ⟨o, es, ep, t, ho, hex, hd, _, _, _, hf, rfl⟩ := setK_get I ha
  exact call_len_set ho hex hd hf (by omega) ⟨.int es.size, H, I.tok _, ⟨_, rfl⟩, q⟩
def dLenSet (f : DE) : DE := fun env => (f env).bind fun r => match r.1.rd r.2 with
  | some (.list ds) => (keysOf ds).bind fun ks => if ds.length ≤ 60 then some (.dat (.int (metK ks).length), r.2) else none
  | _ => none
section
variable {X : Cx} {e : Expr} {f : DE} {p q p1 pos : Pos} {k : Nat}
theorem je_lenset (ok : Ok X k) (hm : X.mg "len" = none) (hm2 : X.mg "set" = none) (he : JE X e f) (hg : Gl X "len" := by rfl) (hg2 : Gl X "set" := by rfl) (hs : starEach [e] X.env = (false, eval e X.env) :: starEach [] X.env := by rfl)
    (hs2 : starEach [.Call (.Name "set" q) [e] [] p1] X.env = (false, eval (.Call (.Name "set" q) [e] [] p1) X.env) :: starEach [] X.env := by rfl) : JE X (.Call (.Name "len" p) [.Call (.Name "set" q) [e] [] p1] [] pos) (dLenSet f) := by
  have h1 := pe_callTy (pos := p1) (p := q) (call_setK ok.calm) hg2 hm2 (by decide +kernel) (pa_cons he pa_nil hs) (he := hs)
  have h2 := pe_callB (pos := pos) (p := p) (X := X) call_lenK hg hm (by decide +kernel) (pa_cons h1 pa_nil hs2) (he := hs2)
  refine PE.imp h2 fun σ H Q ⟨B, F, env, val, env', hK, s, e0, q0⟩ => ?_
  simp only [dLenSet, Option.bind_eq_some_iff] at e0
  obtain ⟨⟨x, env1⟩, e1, e2⟩ := e0
  split at e2
  case h_2 => cases e2
  rename_i ds eds
  simp only [Option.bind_eq_some_iff] at e2
  obtain ⟨ks, e3, e4⟩ := e2
  split at e4
  case isFalse => cases e4
  rename_i hz
  cases e4
  refine ⟨B, F, env, x, _, hK, s, e1, fun v F1 H1 p1 r1 => ?_⟩
  obtain ⟨a, vs, rfl, g1, g2⟩ := r1.rdL p1.sr eds
  rw [hK] at g1 g2
  have hle : (metK ks).length ≤ 60 := by
    have h1 := metK_len ks []
    have h2 : (metK ks).length ≤ ks.length := by unfold metK; simpa using h1
    have := (keysOf_get e3).1
    omega
  refine ⟨a, vs, ds, ks, rfl, g1, dpa_mono p1.sr.fh g2, e3, hz, fun z hz' => ⟨z, _, _, rfl, upd_same, hle, q0 _ F1 _ (p1.allocN hz') (.int _)⟩⟩
end
end EW

set_option maxHeartbeats 1000000
/-! EW 14: a text several times; module constants. -/
namespace EW
open PySem PySem.Spec PyProof.Rows L2
def repS (z : Str) (n : Nat) : Str := ⟨(List.replicate n z.cps).foldl (· ++ ·) #[]⟩
theorem repS_size (a : Array Nat) : ∀ (n : Nat) (b : Array Nat), ((List.replicate n a).foldl (· ++ ·) b).size = b.size + n * a.size
  | 0, b => by simp
  | n + 1, b => by
    rw [List.replicate_succ, List.foldl_cons, repS_size a n (b ++ a), Array.size_append, Nat.succ_mul]
    omega
def rRepS : R2 := fun x y H Q => ∃ (z : Str) (n : Int), x = .str z ∧ y = .int n ∧ 2 ≤ n ∧ n ≤ 1000 ∧ 1 ≤ z.length ∧ z.length ≤ 1000 ∧ Q (.str (repS z n.toNat)) H
theorem op_repS {X : Cx} : OpR X (binaryOp .Mult) rRepS := by
  intro pins s σ H x y v u Q I rx ry h
  obtain ⟨z, n, rfl, rfl, h1, h2, h3, h4, q⟩ := h
  obtain ⟨t, rfl⟩ := rx
  obtain ⟨t', rfl⟩ := ry
  have e1 : (n == 1 || z.length == 0) = false := by
    rw [Bool.or_eq_false_iff]
    exact ⟨by simp; omega, by simp; omega⟩
  have hle : z.length * n.toNat ≤ 1000 * 1000 := Nat.mul_le_mul h4 (by omega)
  refine PySem.P.mul_str ?_ (fun _ _ => ?_) (fun _ _ => ?_) ?_
  · rw [Bool.or_eq_false_iff]
    exact ⟨by simp; omega, by simp; omega⟩
  · have : (1000 : Int) ≤ (2 ^ 63 - 1) / n := Int.le_ediv_of_mul_le (by omega) (by omega)
    omega
  · unfold Builtin.Str.tooLong
    exact decide_eq_false (by have := mil; omega)
  · rw [if_neg (by omega), if_neg (by rw [e1]; exact Bool.false_ne_true)]
    refine ⟨?_, ⟨.str _, H, I.tok _, ⟨_, rfl⟩, q⟩⟩
    show ((List.replicate n.toNat z.cps).foldl (· ++ ·) #[]).size ≤ sizeLine
    rw [repS_size]
    have : z.cps.size = z.length := rfl
    rw [this, Nat.mul_comm]
    have e0 : (#[] : Array Nat).size = 0 := rfl
    rw [e0]
    exact Nat.le_trans (by omega) mil
def gRep (a b : D) : Option D := match a, b with
  | .str z, .int n => if 2 ≤ n ∧ n ≤ 1000 ∧ 1 ≤ z.length ∧ z.length ≤ 1000 then some (.str (repS z n.toNat)) else none
  | _, _ => none
abbrev kRep : K2 := kS gRep
theorem rep_ok {K : PySem.W.Frag} : R2ok K rRepS kRep := kS_ok fun H v w a b d ha hb e => by
  unfold gRep at e
  split at e
  · rename_i z n
    split at e
    · rename_i hh
      cases e
      rw [dp_str ha, dp_int hb]
      exact ⟨_, rfl, fun Q q => ⟨z, n, rfl, rfl, hh.1, hh.2.1, hh.2.2.1, hh.2.2.2, q⟩⟩
    · cases e
  · cases e
section
variable {X : Cx} {a b : Expr} {f g : DE} {pos : Pos}
theorem je_rep (ha : JE X a f) (hb : JE X b g) : JE X (.BinOp a .Mult b pos) (d2 f g kRep) := je_op op_repS rep_ok ha hb
theorem je_gstr1 {x z : Str} (h : ∃ t, X.mg x = some (.str z t)) (hg : Gl X x := by rfl) (hd : (x == ("__debug__" : Str)) = false := by decide) : JE X (.Name x pos) (dK (.str z)) := by
  obtain ⟨t, h⟩ := h
  exact je_gstr hg h ⟨t, rfl⟩ hd
theorem je_gint1 {x : Str} {i : Int} (h : ∃ t, X.mg x = some (.int i t)) (hg : Gl X x := by rfl) (hd : (x == ("__debug__" : Str)) = false := by decide) : JE X (.Name x pos) (dK (.int i)) := by
  obtain ⟨t, h⟩ := h
  exact je_gint hg h ⟨t, rfl⟩ hd
end
theorem bb_abs : bootBuiltins "abs" = some (.builtin "abs") := by decide +kernel
theorem bb_all : bootBuiltins "all" = some (.builtin "all") := by decide +kernel
theorem bb_any : bootBuiltins "any" = some (.builtin "any") := by decide +kernel
theorem bb_sum : bootBuiltins "sum" = some (.builtin "sum") := by decide +kernel
theorem bb_divmod : bootBuiltins "divmod" = some (.builtin "divmod") := by decide +kernel
theorem bb_len : bootBuiltins "len" = some (.builtin "len") := by decide +kernel
theorem bb_max : bootBuiltins "max" = some (.builtin "max") := by decide +kernel
theorem bb_min : bootBuiltins "min" = some (.builtin "min") := by decide +kernel
theorem bb_repr : bootBuiltins "repr" = some (.builtin "repr") := by decide +kernel
theorem bb_sorted : bootBuiltins "sorted" = some (.builtin "sorted") := by decide +kernel
theorem bb_isinstance : bootBuiltins "isinstance" = some (.builtin "isinstance") := by decide +kernel
theorem bb_bool : bootBuiltins "bool" = some (.type "bool") := by decide +kernel
theorem bb_int : bootBuiltins "int" = some (.type "int") := by decide +kernel
theorem bb_str : bootBuiltins "str" = some (.type "str") := by decide +kernel
theorem bb_tuple : bootBuiltins "tuple" = some (.type "tuple") := by decide +kernel
theorem bb_list : bootBuiltins "list" = some (.type "list") := by decide +kernel
theorem bb_dict : bootBuiltins "dict" = some (.type "dict") := by decide +kernel
theorem bb_set : bootBuiltins "set" = some (.type "set") := by decide +kernel
end EW

set_option maxHeartbeats 400000
/-! EW 15: evaluation of denotations, from the left (no program in sight). -/
namespace EW
open PySem L2
/-- a proof by rfl that simp is to keep as a step of its own -/
theorem nd {α : Sort _} {a b : α} (h : a = b) : a = b := h
/-- a bind whose continuation is left alone where what is bound is rewritten -/
structure Tg {α β : Type} (f : α → Option β) : Type where
def bnd {α β : Type} (x : Option α) (f : α → Option β) (_t : Tg f := ⟨⟩) : Option β := x.bind f
section
variable {α β : Type} {x : Option α} {a : α} {f : α → Option β} {t : Tg f}
theorem bnd_eq : bnd x f t = x.bind f := nd rfl
theorem bnd_some : bnd (some a) f t = f a := nd rfl
theorem bnd_none : bnd none f t = none := nd rfl
end
def rdK : Option (Option Cell) → Option D
  | some (some (.dat d)) => some d
  | some (some (.own (.l ds))) => some (.list ds)
  | some (some (.par _ (.l ds))) => some (.list ds)
  | _ => none
def nmK (i : Nat) (env : Env) : Option (Option Cell) → Option (Val × Env)
  | some (some (.dat d)) => some (.dat d, env)
  | some (some _) => some (.slot i, env)
  | _ => none
def frzK (i : Nat) (env : Env) : Option (Option Cell) → Option (D × Env)
  | some (some (.dat d)) => some (d, env)
  | some (some (.own (.l ds))) => some (.list ds, env.set i (some (.dat (.list ds))))
  | _ => none
def bK (env : Env) : Option D → Option (Bool × Env)
  | some (.bool b) => some (b, env)
  | _ => none
section
variable {i k : Nat} {env e : Env} {d : D} {ds : List D} {f g h : DE} {x y : Val} {o : Ob} {v : Val} {b : Bool} {c : DT}
theorem e_nm : dNm i env = nmK i env env[i]? := nd rfl
theorem e_nmD : nmK i env (some (some (.dat d))) = some (.dat d, env) := nd rfl
theorem e_nmO : nmK i env (some (some (.own o))) = some (.slot i, env) := nd rfl
theorem e_nmP : nmK i env (some (some (.par k o))) = some (.slot i, env) := nd rfl
theorem e_rdD : Val.rd env (.dat d) = some d := nd rfl
theorem e_rdN : Val.rd env (.new (.l ds)) = some (.list ds) := nd rfl
theorem e_rdS : Val.rd env (.slot i) = rdK env[i]? := nd rfl
theorem e_rkD : rdK (some (some (.dat d))) = some d := nd rfl
theorem e_rkO : rdK (some (some (.own (.l ds)))) = some (.list ds) := nd rfl
theorem e_rkP : rdK (some (some (.par k (.l ds)))) = some (.list ds) := nd rfl
theorem e_fzD : Val.frz env (.dat d) = some (d, env) := nd rfl
theorem e_fzN : Val.frz env (.new (.l ds)) = some (.list ds, env) := nd rfl
theorem e_fzS : Val.frz env (.slot i) = frzK i env env[i]? := nd rfl
theorem e_fkD : frzK i env (some (some (.dat d))) = some (d, env) := nd rfl
theorem e_fkO : frzK i env (some (some (.own (.l ds)))) = some (.list ds, env.set i (some (.dat (.list ds)))) := nd rfl
theorem e_K : dK d env = some (.dat d, env) := nd rfl
theorem e_aN : aNil env = some ([], env) := nd rfl
theorem e_aC {g : DA} : aCons f g env = bnd (f env) fun r => bnd (g r.2) fun q => some (r.1 :: q.1, q.2) := nd rfl
theorem e_tup {g : DA} : dTup g env = bnd (g env) fun r => bnd (frzs r.1 r.2) fun q => if q.1.length ≤ 1000 then some (.dat (.tuple q.1), q.2) else none := nd rfl
theorem e_lst {g : DA} : dLst g env = bnd (g env) fun r => bnd (frzs r.1 r.2) fun q => if q.1.length ≤ 1000 then some (.new (.l q.1), q.2) else none := nd rfl
theorem e_fzs0 : frzs [] env = some ([], env) := nd rfl
theorem e_fzs1 {xs : List Val} : frzs (x :: xs) env = bnd (x.frz env) fun r => bnd (frzs xs r.2) fun q => some (r.1 :: q.1, q.2) := nd rfl
theorem e_d2 {k : K2} : d2 f g k env = bnd (f env) fun r => bnd (g r.2) fun q => k r.1 q.1 q.2 := nd rfl
theorem e_kS {g : D → D → Option D} : kS g x y env = bnd (x.rd env) fun a => bnd (y.rd env) fun b => bnd (g a b) fun d => some (.dat d, env) := nd rfl
theorem e_dB : dB f env = bnd (f env) fun r => bK r.2 (r.1.rd r.2) := by
  simp only [bnd_eq]
  unfold dB bK
  congr 1
theorem e_bK : bK env (some (.bool b)) = some (b, env) := nd rfl
theorem e_tA {a b : DT} : tA a b env = bnd (a env) fun r => if r.1 = true then b r.2 else some (false, r.2) := nd rfl
theorem e_tO {a b : DT} : tO a b env = bnd (a env) fun r => if r.1 = true then some (true, r.2) else b r.2 := nd rfl
theorem e_tN {a : DT} : tN a env = bnd (a env) fun r => some (!r.1, r.2) := nd rfl
theorem e_eA : eA f g env = bnd (f env) fun r => bnd (bK r.2 (r.1.rd r.2)) fun q => if q.1 = true then g r.2 else some (.dat (.bool false), r.2) := by
  simp only [bnd_eq]
  unfold eA
  congr 1
  funext r
  cases h : r.1.rd r.2 with
  | none => rfl
  | some d => cases d <;> first | rfl | (rename_i b; cases b <;> rfl)
theorem e_eO : eO f g env = bnd (f env) fun r => bnd (bK r.2 (r.1.rd r.2)) fun q => if q.1 = true then some (.dat (.bool true), r.2) else g r.2 := by
  simp only [bnd_eq]
  unfold eO
  congr 1
  funext r
  cases h : r.1.rd r.2 with
  | none => rfl
  | some d => cases d <;> first | rfl | (rename_i b; cases b <;> rfl)
theorem e_eN : eN f env = bnd (f env) fun r => bnd (bK r.2 (r.1.rd r.2)) fun q => some (.dat (.bool (!q.1)), r.2) := by
  simp only [bnd_eq]
  unfold eN
  congr 1
  funext r
  cases h : r.1.rd r.2 with
  | none => rfl
  | some d => cases d <;> rfl
theorem e_if : dIf c f g env = bnd (c env) fun r => if r.1 = true then f r.2 else g r.2 := nd rfl
theorem e_call {g : DA} {k : KA} : dCall g k env = bnd (g env) fun r => k r.1 r.2 := nd rfl
theorem e_k1 {h : D → Env → Option (Val × Env)} : k1 h [x] env = bnd (x.rd env) fun d => h d env := nd rfl
theorem e_k2 {h : D → D → Env → Option (Val × Env)} : k2 h [x, y] env = bnd (x.rd env) fun d => bnd (y.rd env) fun e => h d e env := nd rfl
theorem e_isi {t : D → Bool} : dIsi t f env = bnd (f env) fun r => bnd (r.1.rd r.2) fun d => some (.dat (.bool (t d)), r.2) := by
  simp only [bnd_eq]
  unfold dIsi
  congr 1
  funext r
  cases r.1.rd r.2 <;> rfl
def negK (env : Env) : Option D → Option (Val × Env)
  | some (.int i) => some (.dat (.int (-i)), env)
  | _ => none
theorem e_neg : dNeg f env = bnd (f env) fun r => negK r.2 (r.1.rd r.2) := by
  simp only [bnd_eq]
  unfold dNeg negK
  congr 1
theorem e_negK {i : Int} : negK env (some (.int i)) = some (.dat (.int (-i)), env) := nd rfl
theorem e_ch {k k' : D → D → Option D} : dCh f g h k k' env = bnd (f env) fun r => bnd (g r.2) fun q => bnd (r.1.rd q.2) fun x => bnd (q.1.rd q.2) fun y => bnd (k x y) fun z => bnd (bK q.2 (some z)) fun b => if b.1 = true then bnd (h q.2) fun u => bnd (q.1.rd u.2) fun y' => bnd (u.1.rd u.2) fun w => bnd (k' y' w) fun d => some (.dat d, u.2) else some (.dat (.bool false), q.2) := by
  simp only [bnd_eq]
  unfold dCh
  congr 1
  funext r
  congr 1
  funext q
  congr 1
  funext x
  congr 1
  funext y
  cases k x y with
  | none => rfl
  | some d => cases d <;> first | rfl | (rename_i b; cases b <;> rfl)
/-! operators on data -/
theorem g_lt {i j : Int} : gLt (.int i) (.int j) = some (.bool (decide (i < j))) := nd rfl
theorem g_le {i j : Int} : gLe (.int i) (.int j) = some (.bool (decide (i ≤ j))) := nd rfl
theorem g_ge {i j : Int} : gGe (.int i) (.int j) = some (.bool (decide (j ≤ i))) := nd rfl
theorem g_gt {i j : Int} : gGt (.int i) (.int j) = some (.bool (decide (j < i))) := nd rfl
theorem g_ltI {i j : Int} : gLtI (.int i) (.int j) = some (.bool (decide (i < j))) := nd rfl
theorem g_sub {i j : Int} : gSub (.int i) (.int j) = some (.int (i - j)) := nd rfl
theorem g_mul {i j : Int} (h : cMul i j) : gMul (.int i) (.int j) = some (.int (i * j)) := by
  show (if cMul i j then _ else _) = _
  rw [if_pos h]
theorem g_div {i j : Int} (h : cDiv i j) : gDiv (.int i) (.int j) = some (.int (i / j)) := by
  show (if cDiv i j then _ else _) = _
  rw [if_pos h]
theorem g_mod {i j : Int} (h : cMod i j) : gMod (.int i) (.int j) = some (.int (i % j)) := by
  show (if cMod i j then _ else _) = _
  rw [if_pos h]
theorem g_pow {i j : Int} (h : cPow i j) : gPow (.int i) (.int j) = some (.int (i ^ j.toNat)) := by
  show (if cPow i j then _ else _) = _
  rw [if_pos h]
theorem g_eq {a b : D} (h : min a.depth b.depth ≤ 100) : gEq a b = some (.bool (PyData.eqv a b)) := if_pos h
theorem g_ne {a b : D} (h : min a.depth b.depth ≤ 100) : gNe a b = some (.bool (!PyData.eqv a b)) := if_pos h
theorem g_inL {a : D} (h : min (PyData.depthAll ds) a.depth ≤ 100) : gIn a (.list ds) = some (.bool (ds.any fun z => PyData.eqv z a)) := if_pos h
theorem g_inT {a : D} (h : min (PyData.depthAll ds) a.depth ≤ 100) : gIn a (.tuple ds) = some (.bool (ds.any fun z => PyData.eqv z a)) := if_pos h
theorem g_niL {a : D} (h : min (PyData.depthAll ds) a.depth ≤ 100) : gNi a (.list ds) = some (.bool (!ds.any fun z => PyData.eqv z a)) := by
  unfold gNi
  rw [g_inL h]
theorem g_niT {a : D} (h : min (PyData.depthAll ds) a.depth ≤ 100) : gNi a (.tuple ds) = some (.bool (!ds.any fun z => PyData.eqv z a)) := by
  unfold gNi
  rw [g_inT h]
theorem g_inS {z : Str} {n : Nat} : gIn (.str ⟨#[n]⟩) (.str z) = some (.bool (decide (n ∈ z.cps.toList))) := nd rfl
theorem g_isB {a b : Bool} : gIs (.bool a) (.bool b) = some (.bool (decide (a = b))) := by cases a <;> cases b <;> rfl
theorem g_isnB {a b : Bool} : gIsNot (.bool a) (.bool b) = some (.bool (!decide (a = b))) := by cases a <;> cases b <;> rfl
def addK2 (env : Env) : Option D → Option D → Option (Val × Env)
  | some (.int i), some (.int j) => some (.dat (.int (i + j)), env)
  | some (.str i), some (.str j) => if i.length + j.length ≤ 1000000 then some (.dat (.str (i ++ j)), env) else none
  | some (.list i), some (.list j) => if i.length + j.length ≤ 1000000 then some (.new (.l (i ++ j)), env) else none
  | some (.tuple i), some (.tuple j) => if i.length + j.length ≤ 1000000 then some (.dat (.tuple (i ++ j)), env) else none
  | _, _ => none
theorem e_add : kAdd x y env = addK2 env (x.rd env) (y.rd env) := nd rfl
theorem e_addI {i j : Int} : addK2 env (some (.int i)) (some (.int j)) = some (.dat (.int (i + j)), env) := nd rfl
theorem e_addS {i j : Str} (h : i.length + j.length ≤ 1000000) : addK2 env (some (.str i)) (some (.str j)) = some (.dat (.str (i ++ j)), env) := if_pos h
theorem e_addL {i j : List D} (h : i.length + j.length ≤ 1000000) : addK2 env (some (.list i)) (some (.list j)) = some (.new (.l (i ++ j)), env) := if_pos h
theorem e_addT {i j : List D} (h : i.length + j.length ≤ 1000000) : addK2 env (some (.tuple i)) (some (.tuple j)) = some (.dat (.tuple (i ++ j)), env) := if_pos h
def ixK2 (env : Env) : Option D → Option D → Option (Val × Env)
  | some (.list ds), some (.int i) => (atI ds i).bind fun d => some (.dat d, env)
  | some (.tuple ds), some (.int i) => (atI ds i).bind fun d => some (.dat d, env)
  | some (.str z), some (.int i) => if z.length ≤ 1000000 then (atI z.cps.toList i).bind fun c => some (.dat (.str ⟨#[c]⟩), env) else none
  | _, _ => none
theorem e_ix : kIx x y env = ixK2 env (x.rd env) (y.rd env) := nd rfl
theorem e_ixL {i : Int} : ixK2 env (some (.list ds)) (some (.int i)) = bnd (atI ds i) fun d => some (.dat d, env) := nd rfl
theorem e_ixT {i : Int} : ixK2 env (some (.tuple ds)) (some (.int i)) = bnd (atI ds i) fun d => some (.dat d, env) := nd rfl
theorem e_ixS {z : Str} {i : Int} (h : z.length ≤ 1000000) : ixK2 env (some (.str z)) (some (.int i)) = bnd (atI z.cps.toList i) fun c => some (.dat (.str ⟨#[c]⟩), env) := if_pos h
theorem atI_nat {α : Type} {xs : List α} {n : Nat} : atI xs (n : Int) = xs[n]? := by
  unfold atI L2.ixN
  by_cases h : n < xs.length
  · rw [if_pos (by omega), if_pos (by omega)]
    simp
  · rw [if_pos (by omega), if_neg (by omega), List.getElem?_eq_none (by omega)]
    rfl
theorem atI_0 {α : Type} {xs : List α} : atI xs 0 = xs[0]? := atI_nat (n := 0)
theorem atI_1 {α : Type} {xs : List α} : atI xs 1 = xs[1]? := atI_nat (n := 1)
theorem atI_2 {α : Type} {xs : List α} : atI xs 2 = xs[2]? := atI_nat (n := 2)
theorem atI_3 {α : Type} {xs : List α} : atI xs 3 = xs[3]? := atI_nat (n := 3)
theorem atI_4 {α : Type} {xs : List α} : atI xs 4 = xs[4]? := atI_nat (n := 4)
theorem atI_5 {α : Type} {xs : List α} : atI xs 5 = xs[5]? := atI_nat (n := 5)
theorem atI_last {α : Type} {xs : List α} : atI xs (-1) = xs.getLast? := by
  unfold atI L2.ixN
  rw [if_neg (by omega)]
  cases xs with
  | nil => rfl
  | cons x l =>
    rw [if_pos (by simp only [List.length_cons]; omega)]
    have : ((-1 : Int) + ((x :: l).length : Int)).toNat = (x :: l).length - 1 := by simp only [List.length_cons]; omega
    show (x :: l)[((-1 : Int) + ((x :: l).length : Int)).toNat]? = _
    rw [this, List.getLast?_eq_getElem?]
/-! slices -/
theorem e_oN : oNo env = some (none, env) := nd rfl
def soK (env : Env) : Option D → Option (Option Int × Env)
  | some (.int i) => some (some i, env)
  | _ => none
theorem e_oS : oSo f env = bnd (f env) fun r => soK r.2 (r.1.rd r.2) := by
  simp only [bnd_eq]
  unfold oSo soK
  congr 1
theorem e_soK {i : Int} : soK env (some (.int i)) = some (some i, env) := nd rfl
def slK (lo hi : Option Int) (env : Env) : Option D → Option (Val × Env)
  | some (.list ds) => some (.new (.l (cutG ds lo hi)), env)
  | some (.tuple ds) => some (.dat (.tuple (cutG ds lo hi)), env)
  | some (.str z) => if z.length ≤ 1000000 then some (.dat (.str (cutS z lo hi)), env) else none
  | _ => none
theorem e_sl {lo hi : DO} : dSl f lo hi env = bnd (f env) fun r => bnd (lo r.2) fun l => bnd (hi l.2) fun u => slK l.1 u.1 u.2 (r.1.rd u.2) := nd rfl
theorem e_slL {lo hi : Option Int} : slK lo hi env (some (.list ds)) = some (.new (.l (cutG ds lo hi)), env) := nd rfl
theorem e_slT {lo hi : Option Int} : slK lo hi env (some (.tuple ds)) = some (.dat (.tuple (cutG ds lo hi)), env) := nd rfl
theorem e_slS {lo hi : Option Int} {z : Str} (h : z.length ≤ 1000000) : slK lo hi env (some (.str z)) = some (.dat (.str (cutS z lo hi)), env) := if_pos h
def revK (env : Env) : Option D → Option (Val × Env)
  | some (.list ds) => some (.new (.l ds.reverse), env)
  | some (.tuple ds) => some (.dat (.tuple ds.reverse), env)
  | some (.str z) => if z.length ≤ 1000000 then some (.dat (.str (revS z)), env) else none
  | _ => none
theorem e_rev : dRev f env = bnd (f env) fun r => revK r.2 (r.1.rd r.2) := by
  simp only [bnd_eq]
  unfold dRev revK
  congr 1
theorem e_revT : revK env (some (.tuple ds)) = some (.dat (.tuple ds.reverse), env) := nd rfl
theorem e_revL : revK env (some (.list ds)) = some (.new (.l ds.reverse), env) := nd rfl
theorem e_revS {z : Str} (h : z.length ≤ 1000000) : revK env (some (.str z)) = some (.dat (.str (revS z)), env) := if_pos h
/-! built-ins -/
theorem h_lenL : hLen (.list ds) env = some (.dat (.int ds.length), env) := nd rfl
theorem h_lenT : hLen (.tuple ds) env = some (.dat (.int ds.length), env) := nd rfl
theorem h_lenS {z : Str} (h : z.length ≤ 1000000) : hLen (.str z) env = some (.dat (.int z.length), env) := if_pos h
theorem h_all {bs : List Bool} : hAll (.list (bs.map PyData.bool)) env = some (.dat (.bool (bs.all id)), env) := by
  unfold hAll
  simp only [asBools_map]
  rfl
theorem h_any {bs : List Bool} : hAny (.list (bs.map PyData.bool)) env = some (.dat (.bool (bs.any id)), env) := by
  unfold hAny
  simp only [asBools_map]
  rfl
theorem h_abs {i : Int} : hAbs (.int i) env = some (.dat (.int (if i < 0 then -i else i)), env) := nd rfl
theorem h_int {i : Int} : hInt (.int i) env = some (.dat (.int i), env) := nd rfl
theorem h_max {i j : Int} : hMax2 (.int i) (.int j) env = some (.dat (.int (if j > i then j else i)), env) := nd rfl
theorem h_min {i j : Int} : hMin2 (.int i) (.int j) env = some (.dat (.int (if j < i then j else i)), env) := nd rfl
theorem h_divmod {i j : Int} (h : 0 < j ∧ j < 1073741824) : hDivmod (.int i) (.int j) env = some (.dat (.tuple [.int (i / j), .int (i % j)]), env) := if_pos h
theorem h_tupL : hTuple (.list ds) env = some (.dat (.tuple ds), env) := nd rfl
theorem h_tupT : hTuple (.tuple ds) env = some (.dat (.tuple ds), env) := nd rfl
theorem h_tupS {z : Str} (h : z.length ≤ 1000000) : hTuple (.str z) env = some (.dat (.tuple (sgs z)), env) := if_pos h
theorem h_lstL : hList (.list ds) env = some (.new (.l ds), env) := nd rfl
theorem h_lstT : hList (.tuple ds) env = some (.new (.l ds), env) := nd rfl
theorem h_lstS {z : Str} (h : z.length ≤ 1000000) : hList (.str z) env = some (.new (.l (sgs z)), env) := if_pos h
theorem h_repr {d : D} (h : boxed d = true ∧ d.showable = true ∧ d.depth ≤ 100 ∧ d.shown.length ≤ 1000000) : hRepr d env = some (.dat (.str d.shown), env) := if_pos h
theorem h_sort (h : alikeA ds = true ∧ sortOk ds = true ∧ PyData.depthAll ds ≤ 100 ∧ ds.length ≤ 1000000) : hSorted (.list ds) env = some (.new (.l (sortD ds)), env) := if_pos h
/-! statements -/
def seqK (g : DS) : Out → Option Out
  | .nx e => g e
  | o => some o
theorem s_seq {f g : DS} : sSeq f g env = bnd (f env) (seqK g) := by
  simp only [bnd_eq]
  unfold sSeq
  congr 1
theorem s_nx {g : DS} : seqK g (.nx e) = g e := nd rfl
theorem s_rt {g : DS} : seqK g (.rt v e) = some (.rt v e) := nd rfl
theorem s_bk {g : DS} : seqK g (.bk e) = some (.bk e) := nd rfl
theorem s_ct {g : DS} : seqK g (.ct e) = some (.ct e) := nd rfl
theorem s_ret : sRet f env = bnd (f env) fun r => some (.rt r.1 r.2) := by
  simp only [bnd_eq]
  unfold sRet
  cases f env <;> rfl
theorem s_retN : sRetN env = some (.rt (.dat .none) env) := nd rfl
theorem s_nxE : sNx env = some (.nx env) := nd rfl
theorem s_bkE : sBk env = some (.bk env) := nd rfl
theorem s_if {f g : DS} : sIf c f g env = bnd (c env) fun r => if r.1 = true then f r.2 else g r.2 := nd rfl
theorem s_ex : sEx f env = bnd (f env) fun r => some (.nx r.2) := by
  simp only [bnd_eq]
  unfold sEx
  cases f env <;> rfl
theorem s_as {g : DG} : sAs f g env = bnd (f env) fun r => bnd (g r.1 r.2) fun e => some (.nx e) := by
  simp only [bnd_eq]
  unfold sAs
  congr 1
  funext r
  cases g r.1 r.2 <;> rfl
theorem s_nmF : gNm false i x env = bnd (x.frz env) fun r => if i < r.2.length then some (r.2.set i (some (.dat r.1))) else none := by
  simp only [bnd_eq]
  unfold gNm inSlot
  cases h : x.frz env <;> simp
theorem s_nmT : gNm true i (.new o) env = if i < env.length then some (env.set i (some (.own o))) else none := nd rfl
theorem s_gs0 : gsNil [] env = some env := nd rfl
theorem s_gs1 {g : DG} {h : DGs} : gsCons g h (d :: ds) env = bnd (g (.dat d) env) fun e => h ds e := nd rfl
def tpK (n : Nat) (g : DGs) (env : Env) : Option D → Option Env
  | some (.tuple ds) => if ds.length = n then g ds env else none
  | _ => none
theorem s_tp {n : Nat} {g : DGs} : gTp n g x env = tpK n g env (x.rd env) := nd rfl
theorem s_tpT {n : Nat} {g : DGs} : tpK n g env (some (.tuple ds)) = if ds.length = n then g ds env else none := nd rfl
def ixSet (j : Int) (d : D) (i : Nat) (env : Env) : Option (Option Cell) → Option Env
  | some (some c) => match c.ob with
    | some (.l ds) => (L2.ixN ds.length j).bind fun k => some (env.set i (some (c.put (.l (ds.set k d)))))
    | _ => none
  | _ => none
def gixK (z : D × Env) : Val → Option D → Option Env
  | .slot i, some (.int k) => ixSet k z.1 i z.2 z.2[i]?
  | _, _ => none
theorem s_ix {fo fi : DE} : gIx fo fi x env = bnd (fo env) fun r => bnd (fi r.2) fun q => bnd (x.frz q.2) fun z => gixK z r.1 (q.1.rd q.2) := by
  simp only [bnd_eq]
  unfold gIx
  congr 1
  funext r
  congr 1
  funext q
  congr 1
  funext z
  obtain ⟨r1, r2⟩ := r
  cases r1 with
  | dat d => rfl
  | new o => rfl
  | slot i =>
    simp only
    cases hq : q.1.rd q.2 with
    | none => rfl
    | some d =>
      cases d <;> try rfl
      rename_i k
      simp only [gixK, ixSet]
      cases h1 : z.2[i]? with
      | none => rfl
      | some c =>
        cases c with
        | none => rfl
        | some c =>
          cases h2 : c.ob with
          | none => simp [h2]
          | some ob =>
            cases ob with
            | d kvs => simp [h2]
            | l ds => simp [h2]; cases L2.ixN ds.length k <;> rfl
theorem s_ixK {z : D × Env} {j : Int} : gixK z (.slot i) (some (.int j)) = ixSet j z.1 i z.2 z.2[i]? := nd rfl
theorem s_ixP {j : Int} : ixSet j d i env (some (some (.par k (.l ds)))) = bnd (L2.ixN ds.length j) fun q => some (env.set i (some (.par k (.l (ds.set q d))))) := nd rfl
theorem s_ixO {j : Int} : ixSet j d i env (some (some (.own (.l ds)))) = bnd (L2.ixN ds.length j) fun q => some (env.set i (some (.own (.l (ds.set q d))))) := nd rfl
theorem s_par {is : List Nat} {os : List Bool} {g : DA} : sPar is os g env = bnd (g env) fun r => bnd (inSlots os r.1 r.2) fun a => if ((is.all fun i => decide (i < a.2.length)) && decide (is.length = a.1.length)) = true then some (.nx (putsE is a.1 a.2)) else none := by
  simp only [bnd_eq]
  unfold sPar
  simp only [Bool.and_eq_true, List.all_eq_true, decide_eq_true_eq]
theorem s_ins0 : inSlots [] [] env = some ([], env) := nd rfl
theorem s_ins1 {b : Bool} {os : List Bool} {xs : List Val} : inSlots (b :: os) (x :: xs) env = bnd (inSlot b x env) fun a => bnd (inSlots os xs a.2) fun c => some (a.1 :: c.1, c.2) := nd rfl
theorem s_inF : inSlot false x env = bnd (x.frz env) fun r => some (.dat r.1, r.2) := by
  simp only [bnd_eq]
  unfold inSlot
  cases x.frz env <;> rfl
theorem s_inT : inSlot true (.new o) env = some (.own o, env) := nd rfl
theorem s_put0 {cs : List Cell} : putsE [] cs env = env := by cases cs <;> rfl
theorem s_put1 {is : List Nat} {c : Cell} {cs : List Cell} : putsE (i :: is) (c :: cs) env = putsE is cs (env.set i (some c)) := nd rfl
/-! methods -/
theorem e_m {T : String} {fo : DE} {g : DA} {k : KM} : dM T fo g k env = bnd (fo env) fun r => if isTy T r.1 r.2 = true then bnd (g r.2) fun q => k r.1 q.1 q.2 else none := nd rfl
def tyK (T : String) : Option D → Bool
  | some (.list _) => T == "list"
  | some (.str _) => T == "str"
  | _ => false
theorem e_ty {T : String} : isTy T x env = tyK T (x.rd env) := nd rfl
theorem e_tyL : tyK "list" (some (.list ds)) = true := nd rfl
theorem e_tyS {z : Str} : tyK "str" (some (.str z)) = true := nd rfl
def appK (d : D) (env : Env) (i : Nat) : Option (Option Cell) → Option (Val × Env)
  | some (some (.own (.l ds))) => if ds.length ≤ 1000000 then some (.dat .none, env.set i (some (.own (.l (ds ++ [d]))))) else none
  | some (some (.par k (.l ds))) => if ds.length ≤ 1000000 then some (.dat .none, env.set i (some (.par k (.l (ds ++ [d]))))) else none
  | _ => none
theorem e_app : kApp (.slot i) [x] env = bnd (x.frz env) fun q => appK q.1 q.2 i q.2[i]? := by
  simp only [bnd_eq]
  unfold kApp
  rw [e_fzs1]
  simp only [bnd_eq]
  cases hx : x.frz env with
  | none => rfl
  | some q =>
    obtain ⟨d, e1⟩ := q
    simp only [Option.bind_some, e_fzs0, slotL]
    cases h1 : e1[i]? with
    | none => rfl
    | some c =>
      cases c with
      | none => rfl
      | some c =>
        cases c with
        | dat d => rfl
        | own ob => cases ob <;> rfl
        | par k ob => cases ob <;> rfl
theorem e_appO : appK d env i (some (some (.own (.l ds)))) = if ds.length ≤ 1000000 then some (.dat .none, env.set i (some (.own (.l (ds ++ [d]))))) else none := nd rfl
def extK (ws : List D) (env : Env) (i : Nat) : Option (Option Cell) → Option (Val × Env)
  | some (some (.own (.l ds))) => if ds.length + ws.length ≤ 1000000 then some (.dat .none, env.set i (some (.own (.l (ds ++ ws))))) else none
  | some (some (.par k (.l ds))) => if ds.length + ws.length ≤ 1000000 then some (.dat .none, env.set i (some (.par k (.l (ds ++ ws))))) else none
  | _ => none
theorem e_ext {ws : List D} : kExt (.slot i) [.new (.l ws)] env = extK ws env i env[i]? := by
  unfold kExt slotL
  cases h1 : env[i]? with
  | none => simp [h1, extK]
  | some c =>
    cases c with
    | none => simp [h1, extK]
    | some c =>
      cases c with
      | dat d => simp [h1, extK, Cell.ob]
      | own ob => cases ob <;> simp [h1, extK, Cell.ob, Cell.put]
      | par k ob => cases ob <;> simp [h1, extK, Cell.ob, Cell.put]
theorem e_extO {ws : List D} : extK ws env i (some (some (.own (.l ds)))) = if ds.length + ws.length ≤ 1000000 then some (.dat .none, env.set i (some (.own (.l (ds ++ ws))))) else none := nd rfl
def popK (j : Option D) (env : Env) (i : Nat) : Option (Option Cell) → Option (Val × Env)
  | some (some (.own (.l ds))) => match j with
    | some (.int n) => if -(2 ^ 63) ≤ n ∧ n < 2 ^ 63 then (seqIndex? n ds.length).bind fun q => (ds[q]?).bind fun d => some (.dat d, env.set i (some (.own (.l (ds.eraseIdx q))))) else none
    | _ => none
  | _ => none
theorem e_popO {n : Int} (hx : x.rd env = some (.int n)) (h : env[i]? = some (some (.own (.l ds)))) (hn : -(2 ^ 63) ≤ n ∧ n < 2 ^ 63) : kPopAt (.slot i) [x] env = bnd (seqIndex? n ds.length) fun q => bnd (ds[q]?) fun d => some (.dat d, env.set i (some (.own (.l (ds.eraseIdx q))))) := by
  simp only [bnd_eq]
  unfold kPopAt slotL
  simp only [hx, h, Cell.ob, Option.bind_some]
  rw [if_pos hn]
  congr 1
  funext q
  cases ds[q]? <;> rfl
theorem e_joinL {a : Str} {ys : List Str} (hx : x.rd env = some (.str a)) (hy : y.rd env = some (.list (ys.map PyData.str))) (h : (ys.map (·.length)).sum + ys.length * a.length ≤ 1000000) : kJoin x [y] env = some (.dat (.str (Txt.join a ys)), env) := by
  unfold kJoin
  simp only [hx, hy, asStrs_map, Option.bind_some]
  rw [if_pos h]
theorem e_indexS {a b : Str} {n : Nat} (hx : x.rd env = some (.str a)) (hy : y.rd env = some (.str b)) (h : occ a b = some n) : kIndexS x [y] env = some (.dat (.int n), env) := by
  unfold kIndexS
  simp only [hx, hy, h, Option.map_some]
/-! defs -/
def fnK (ob : Option Ob) : Out → Option (Res × Option Ob)
  | .rt val env' => (val.res env').bind fun r => (potOf ob env').bind fun o => some (r, o)
  | .nx env' => (potOf ob env').bind fun o => some (.dat .none, o)
  | _ => none
theorem f_sem {n : Nat} {f : DS} {ob : Option Ob} : fnSem n f ob ds = bnd (f (startE n ob ds)) (fnK ob) := by
  simp only [bnd_eq]
  unfold fnSem
  congr 1
  funext o
  cases o with
  | rt v e => simp only [fnK]; cases v.res e with
    | none => rfl
    | some r => cases potOf ob e <;> rfl
  | nx e => simp only [fnK]; cases potOf ob e <;> rfl
  | bk e => rfl
  | ct e => rfl
theorem f_rt {ob : Option Ob} : fnK ob (.rt v env) = bnd (v.res env) fun r => bnd (potOf ob env) fun o => some (r, o) := nd rfl
theorem f_nx {ob : Option Ob} : fnK ob (.nx env) = bnd (potOf ob env) fun o => some (.dat .none, o) := nd rfl
theorem f_rD : Val.res env (.dat d) = some (.dat d) := nd rfl
theorem f_rN : Val.res env (.new o) = some (.new o) := nd rfl
def resK : Option (Option Cell) → Option Res
  | some (some (.own o)) => some (.new o)
  | some (some (.dat d)) => some (.dat d)
  | _ => none
theorem f_rS : Val.res env (.slot i) = resK env[i]? := nd rfl
theorem f_rkO : resK (some (some (.own o))) = some (.new o) := nd rfl
theorem f_rkD : resK (some (some (.dat d))) = some (.dat d) := nd rfl
theorem f_p0 : potOf none env = some none := nd rfl
def potK : Option (Option Cell) → Option (Option Ob)
  | some (some (.par 0 o)) => some (some o)
  | _ => none
theorem f_p1 : potOf (some o) env = potK env[(0 : Nat)]? := nd rfl
theorem f_pk : potK (some (some (.par 0 o))) = some (some o) := nd rfl
theorem f_vD : Res.val (.dat d) = .dat d := nd rfl
theorem f_vN : Res.val (.new o) = .new o := nd rfl
theorem f_st0 {n : Nat} : startE n none ds = ds.map (fun d => some (.dat d)) ++ List.replicate (n - ds.length) none := nd rfl
theorem f_st1 {n : Nat} : startE n (some o) ds = some (.par 0 o) :: ds.map (fun d => some (.dat d)) ++ List.replicate (n - (ds.length + 1)) none := nd rfl
def semK0 (env : Env) : Res × Option Ob → Option (Val × Env)
  | (r, none) => some (r.val, env)
  | _ => none
theorem f_call0 {n : Nat} {m : Sem} {g : DA} : dF n false m g env = bnd (g env) fun r => if r.1.length = n then bnd (frzs r.1 r.2) fun q => bnd (m none q.1) (semK0 q.2) else none := by
  simp only [bnd_eq]
  unfold dF
  congr 1
  funext r
  congr 1
  simp only [Bool.false_eq_true, if_false]
  congr 1
  funext q
  congr 1
  funext z
  obtain ⟨z1, z2⟩ := z
  cases z2 <;> rfl
theorem f_k0 {r : Res} : semK0 env (r, none) = some (r.val, env) := nd rfl
def semK1 (env : Env) (i : Nat) (c : Cell) : Res × Option Ob → Option (Val × Env)
  | (r, some o) => some (r.val, env.set i (some (c.put o)))
  | _ => none
def potArg (m : Sem) (ds : List D) (env : Env) (i : Nat) : Option (Option Cell) → Option (Val × Env)
  | some (some c) => c.ob.bind fun ob => (m (some ob) ds).bind (semK1 env i c)
  | _ => none
def semK2 (env : Env) : Res × Option Ob → Option (Val × Env)
  | (r, some _) => some (r.val, env)
  | _ => none
def callK (n : Nat) (m : Sem) (env : Env) : List Val → Option (Val × Env)
  | .slot i :: xs => (frzs xs env).bind fun q => potArg m q.1 q.2 i q.2[i]?
  | .new ob :: xs => (frzs xs env).bind fun q => (m (some ob) q.1).bind (semK2 q.2)
  | _ => none
theorem f_call1 {n : Nat} {m : Sem} {g : DA} : dF n true m g env = bnd (g env) fun r => if r.1.length = n then callK n m r.2 r.1 else none := by
  simp only [bnd_eq]
  unfold dF
  congr 1
  funext r
  congr 1
  simp only [if_true]
  obtain ⟨xs, e⟩ := r
  cases xs with
  | nil => rfl
  | cons x xs =>
    cases x with
    | dat d => rfl
    | new ob =>
      simp only [callK]
      congr 1
      funext q
      congr 1
      funext z
      obtain ⟨z1, z2⟩ := z
      cases z2 <;> rfl
    | slot i =>
      simp only [callK]
      congr 1
      funext q
      cases h : q.2[i]? with
      | none => rfl
      | some c =>
        cases c with
        | none => rfl
        | some c =>
          simp only [potArg]
          congr 1
          funext ob
          congr 1
          funext z
          obtain ⟨z1, z2⟩ := z
          cases z2 <;> rfl
theorem f_c1 {n : Nat} {m : Sem} {xs : List Val} : callK n m env (.slot i :: xs) = bnd (frzs xs env) fun q => potArg m q.1 q.2 i q.2[i]? := nd rfl
theorem f_c2 {n : Nat} {m : Sem} {xs : List Val} : callK n m env (.new o :: xs) = bnd (frzs xs env) fun q => bnd (m (some o) q.1) (semK2 q.2) := nd rfl
theorem f_pP {m : Sem} : potArg m ds env i (some (some (.par k o))) = bnd (m (some o) ds) (semK1 env i (.par k o)) := nd rfl
theorem f_pO {m : Sem} : potArg m ds env i (some (some (.own o))) = bnd (m (some o) ds) (semK1 env i (.own o)) := nd rfl
theorem f_k1P {r : Res} {o' : Ob} : semK1 env i (.par k o) (r, some o') = some (r.val, env.set i (some (.par k o'))) := nd rfl
theorem f_k1O {r : Res} {o' : Ob} : semK1 env i (.own o) (r, some o') = some (r.val, env.set i (some (.own o'))) := nd rfl
theorem f_k2 {r : Res} {o' : Ob} : semK2 env (r, some o') = some (r.val, env) := nd rfl
theorem f_callK {n m : Nat} {perm : List Nat} {s : Sem} {g : DA} : dFK n m perm s g env = bnd (g env) fun r => if (decide (r.1.length = m) && decide (perm.length = n) && (perm.all fun i => decide (i < m))) = true then bnd (frzs r.1 r.2) fun q => bnd (s none (permL .none perm q.1)) (semK0 q.2) else none := by
  simp only [bnd_eq]
  unfold dFK
  simp only [Bool.and_eq_true, List.all_eq_true, decide_eq_true_eq, and_assoc]
  congr 1
  funext r
  congr 1
  congr 1
  funext q
  congr 1
  funext z
  obtain ⟨z1, z2⟩ := z
  cases z2 <;> rfl
end
theorem ixN0 {n : Nat} : L2.ixN (n + 1) 0 = some 0 := by unfold L2.ixN; simp
theorem ixN1 {n : Nat} : L2.ixN (n + 2) 1 = some 1 := by unfold L2.ixN; simp; omega
theorem cmR {i : Int} (n : Nat) (h : n < 18446744073709551616) : cMul i (n : Int) := .inr (by omega)
theorem cmL {j : Int} (n : Nat) (h : n < 18446744073709551616) : cMul (n : Int) j := .inl (by omega)

/-! the pot -/
def PotOk (o : Ob) : Prop := ∃ a b : Int, o = .l [.int a, .int b] ∧ 0 ≤ a ∧ 0 ≤ b ∧ b < 2147483648
end EW

/-! EW 16: loops of denotations; texts as lists of signs. -/
namespace EW
open PySem L2
/-! ### comprehensions -/
def stepC (vs : List Nat) (g : DC) (tt : DT) (fe : DE) (d : D) (env : Env) : Option (Option D × Env) :=
  bnd (g d env) fun e1 => bnd (tt e1) fun r => if r.1 = true then bnd (fe r.2) fun q => bnd (q.1.frz q.2) fun z => some (some z.1, wipeE z.2 vs) else some (none, wipeE r.2 vs)
inductive All2 {α β : Type} (P : α → β → Prop) : List α → List β → Prop
  | nil : All2 P [] []
  | cons {a : α} {b : β} {as : List α} {bs : List β} : P a b → All2 P as bs → All2 P (a :: as) (b :: bs)
theorem All2.length {α β : Type} {P : α → β → Prop} : ∀ {as : List α} {bs : List β}, All2 P as bs → as.length = bs.length
  | _, _, .nil => rfl
  | _, _, .cons _ h => by simp [h.length]
theorem All2.get {α β : Type} {P : α → β → Prop} : ∀ {as : List α} {bs : List β}, All2 P as bs → ∀ {i : Nat} {a : α} {b : β}, as[i]? = some a → bs[i]? = some b → P a b
  | _, _, .nil, i, a, b, h, _ => by simp at h
  | _, _, .cons h t, 0, a, b, h1, h2 => by simp at h1 h2; subst h1 h2; exact h
  | _, _, .cons h t, i + 1, a, b, h1, h2 => t.get (i := i) (by simpa using h1) (by simpa using h2)
theorem All2.imp {α β : Type} {P Q : α → β → Prop} (k : ∀ a b, P a b → Q a b) : ∀ {as : List α} {bs : List β}, All2 P as bs → All2 Q as bs
  | _, _, .nil => .nil
  | _, _, .cons h t => .cons (k _ _ h) (t.imp k)
section
variable {vs : List Nat} {g : DC} {tt : DT} {fe : DE}
theorem loopC_step {d : D} {ds acc : List D} {env env' : Env} {y : Option D} (h : stepC vs g tt fe d env = some (y, env')) (hl : acc.length ≤ 1000000) : loopC vs g tt fe (d :: ds) acc env = loopC vs g tt fe ds (acc ++ y.toList) env' := by
  unfold stepC at h
  simp only [bnd_eq, Option.bind_eq_some_iff] at h
  obtain ⟨e1, h1, ⟨b, e2⟩, h2, h3⟩ := h
  simp only [loopC, h1, h2, Option.bind_some]
  cases b with
  | false =>
    cases h3
    simp
  | true =>
    simp only [if_true, Option.bind_eq_some_iff] at h3 ⊢
    obtain ⟨⟨q, e3⟩, h4, ⟨z, e4⟩, h5, h6⟩ := h3
    cases h6
    simp only [h4, h5, Option.bind_some, Option.toList]
    rw [if_pos hl]
/-- a walk whose state is kept by an invariant -/
theorem loopC_ex {Inv : Env → Prop} {P : D → Option D → Prop} : ∀ (ds acc : List D) (env : Env), (∀ d ∈ ds, ∀ env, Inv env → ∃ y env', stepC vs g tt fe d env = some (y, env') ∧ P d y ∧ Inv env') → Inv env → acc.length + ds.length ≤ 1000000 →
    ∃ ys env', loopC vs g tt fe ds acc env = some (acc ++ ys.filterMap id, env') ∧ All2 P ds ys ∧ Inv env'
  | [], acc, env, _, hi, _ => ⟨[], env, by simp [loopC], .nil, hi⟩
  | d :: ds, acc, env, h, hi, hl => by
    obtain ⟨y, env1, h1, h2, h3⟩ := h d List.mem_cons_self env hi
    simp only [List.length_cons] at hl
    have hl2 : (acc ++ y.toList).length + ds.length ≤ 1000000 := by
      rw [List.length_append]
      cases y <;> simp [Option.toList] <;> omega
    obtain ⟨ys, env2, h4, h5, h6⟩ := loopC_ex ds (acc ++ y.toList) env1 (fun d hd => h d (List.mem_cons_of_mem _ hd)) h3 hl2
    refine ⟨y :: ys, env2, ?_, .cons h2 h5, h6⟩
    rw [loopC_step h1 (by omega), h4]
    cases y <;> simp [Option.toList]
/-- a walk that changes nothing -/
theorem loopC_fm {ψ : D → Option D} (ds acc : List D) (env : Env) (h : ∀ d ∈ ds, stepC vs g tt fe d env = some (ψ d, env)) (hl : acc.length + ds.length ≤ 1000000) : loopC vs g tt fe ds acc env = some (acc ++ ds.filterMap ψ, env) := by
  induction ds generalizing acc with
  | nil => simp [loopC]
  | cons d ds ih =>
    simp only [List.length_cons] at hl
    rw [loopC_step (h d List.mem_cons_self) (by omega), ih (acc ++ (ψ d).toList) (fun d hd => h d (List.mem_cons_of_mem _ hd)) (by
      rw [List.length_append]
      cases ψ d <;> simp [Option.toList] <;> omega)]
    cases hq : ψ d <;> simp [Option.toList, List.filterMap_cons, hq]
theorem loopC_map {φ : D → D} (ds acc : List D) (env : Env) (h : ∀ d ∈ ds, stepC vs g tt fe d env = some (some (φ d), env)) (hl : acc.length + ds.length ≤ 1000000) : loopC vs g tt fe ds acc env = some (acc ++ ds.map φ, env) := by
  rw [loopC_fm (ψ := fun d => some (φ d)) ds acc env h hl]
  simp [List.filterMap_eq_map]
end
theorem e_lc {vs : List Nat} {fi : DI} {g : DC} {tt : DT} {fe : DE} {env : Env} : dLc vs fi g tt fe env = bnd (fi env) fun r => bnd (loopC vs g tt fe r.1 [] (wipeE r.2 vs)) fun z => some (.new (.l z.1), restE r.2 z.2 vs) := by
  simp only [bnd_eq]
  unfold dLc
  congr 1
  funext r
  cases loopC vs g tt fe r.1 [] (wipeE r.2 vs) <;> rfl
theorem e_wipe0 {env : Env} : wipeE env [] = env := nd rfl
theorem e_wipe1 {env : Env} {v : Nat} {vs : List Nat} : wipeE env (v :: vs) = (wipeE env vs).set v none := nd rfl
theorem e_rest0 {a b : Env} : restE a b [] = b := nd rfl
theorem e_rest1 {a b : Env} {v : Nat} {vs : List Nat} : restE a b (v :: vs) = (restE a b vs).set v (a.getD v none) := nd rfl
theorem e_cNm {i : Nat} {d : D} {env : Env} : cNm i d env = if i < env.length then some (env.set i (some (.dat d))) else none := nd rfl
theorem e_cs0 {env : Env} : csNil [] env = some env := nd rfl
theorem e_cs1 {g : DC} {h : DCs} {d : D} {ds : List D} {env : Env} : csCons g h (d :: ds) env = bnd (g d env) fun e => h ds e := nd rfl
theorem e_cTp {n : Nat} {g : DCs} {ds : List D} {env : Env} : cTp n g (.tuple ds) env = if ds.length = n then g ds env else none := nd rfl
theorem e_tYs {env : Env} : tYs env = some (true, env) := nd rfl
/-! ### what is walked -/
theorem e_iIt {f : DE} {env : Env} : iIt f env = bnd (f env) fun r => bnd (r.1.frz r.2) fun z => bnd (itemsD z.1) fun ds => some (ds, z.2) := by
  simp only [bnd_eq]
  unfold iIt
  congr 1
  funext r
  congr 1
  funext z
  cases itemsD z.1 <;> rfl
theorem e_itL {ds : List D} : itemsD (.list ds) = some ds := nd rfl
theorem e_itT {ds : List D} : itemsD (.tuple ds) = some ds := nd rfl
theorem e_itS {z : Str} (h : z.length ≤ 1000000) : itemsD (.str z) = some (sgs z) := if_pos h
theorem e_iEn {f : DE} {env : Env} : iEn f env = bnd (f env) fun r => bnd (r.1.frz r.2) fun z => bnd (itemsD z.1) fun ds => some (dsEnum ds, z.2) := by
  simp only [bnd_eq]
  unfold iEn
  congr 1
  funext r
  congr 1
  funext z
  cases itemsD z.1 <;> rfl
def zpK (env : Env) : List D → Option (List D × Env)
  | [a, b] => bnd (itemsD a) fun ds => bnd (itemsD b) fun es => some (dsZip ds es, env)
  | _ => none
theorem e_iZp {f g : DE} {env : Env} : iZp f g env = bnd (f env) fun r => bnd (g r.2) fun q => bnd (frzs [r.1, q.1] q.2) fun z => zpK z.2 z.1 := by
  simp only [bnd_eq]
  unfold iZp zpK
  congr 1
  funext r
  congr 1
  funext q
  congr 1
  funext z
  obtain ⟨zs, e⟩ := z
  match zs with
  | [] => rfl
  | [_] => rfl
  | [a, b] =>
    simp only
    congr 1
    funext ds
    cases itemsD b <;> rfl
  | _ :: _ :: _ :: _ => rfl
theorem e_zpK {a b : D} {env : Env} : zpK env [a, b] = bnd (itemsD a) fun ds => bnd (itemsD b) fun es => some (dsZip ds es, env) := nd rfl
def r1K (env : Env) : Option D → Option (List D × Env)
  | some (.int j) => if -1000000 ≤ j ∧ j ≤ 1000000 then some (rngD 0 j.toNat, env) else none
  | _ => none
theorem e_iR1 {f : DE} {env : Env} : iR1 f env = bnd (f env) fun r => r1K r.2 (r.1.rd r.2) := by
  simp only [bnd_eq]
  unfold iR1 r1K
  congr 1
theorem e_r1K {j : Int} {env : Env} (h : -1000000 ≤ j ∧ j ≤ 1000000) : r1K env (some (.int j)) = some (rngD 0 j.toNat, env) := if_pos h
def r2K (env : Env) : Option D → Option D → Option (List D × Env)
  | some (.int i), some (.int j) => if -1000000 ≤ i ∧ i ≤ 1000000 ∧ -1000000 ≤ j ∧ j ≤ 1000000 then some (rngD i (j - i).toNat, env) else none
  | _, _ => none
theorem e_iR2 {f g : DE} {env : Env} : iR2 f g env = bnd (f env) fun r => bnd (g r.2) fun q => r2K q.2 (r.1.rd q.2) (q.1.rd q.2) := nd rfl
theorem e_r2K {i j : Int} {env : Env} (h : -1000000 ≤ i ∧ i ≤ 1000000 ∧ -1000000 ≤ j ∧ j ≤ 1000000) : r2K env (some (.int i)) (some (.int j)) = some (rngD i (j - i).toNat, env) := if_pos h
theorem e_lr {fi : DI} {env : Env} : dLr fi env = bnd (fi env) fun r => some (.new (.l r.1), r.2) := by
  simp only [bnd_eq]
  unfold dLr
  cases fi env <;> rfl
/-! ### for, while -/
theorem s_for {fi : DI} {g : DG} {b : DS} {env : Env} : sFor fi g b env = bnd (fi env) fun r => loopF g b r.1 r.2 := nd rfl
theorem loopF_cons {g : DG} {b : DS} {d : D} {ds : List D} {env e1 e2 : Env} (h1 : g (.dat d) env = some e1) (h2 : b e1 = some (.nx e2)) : loopF g b (d :: ds) env = loopF g b ds e2 := by
  simp only [loopF, h1, h2, Option.bind_some]
/-- Inv i: ahead of item i -/
theorem loopF_inv {g : DG} {b : DS} {Inv : Nat → Env → Prop} : ∀ (ds : List D) (k : Nat) (env : Env), (∀ (i : Nat) (d : D) (env : Env), ds[i]? = some d → Inv (k + i) env → ∃ e1 e2, g (.dat d) env = some e1 ∧ b e1 = some (.nx e2) ∧ Inv (k + i + 1) e2) → Inv k env →
    ∃ env', loopF g b ds env = some (.nx env') ∧ Inv (k + ds.length) env'
  | [], k, env, _, h => ⟨env, rfl, h⟩
  | d :: ds, k, env, h, hi => by
    obtain ⟨e1, e2, h1, h2, h3⟩ := h 0 d env rfl hi
    obtain ⟨env', h4, h5⟩ := loopF_inv (Inv := Inv) ds (k + 1) e2 (fun i d env hd hv => by
      have := h (i + 1) d env (by simpa using hd) (by rw [show k + (i + 1) = k + 1 + i by omega]; exact hv)
      rw [show k + (i + 1) + 1 = k + 1 + i + 1 by omega] at this
      exact this) h3
    refine ⟨env', by rw [loopF_cons h1 h2]; exact h4, ?_⟩
    rw [List.length_cons, show k + (ds.length + 1) = k + 1 + ds.length by omega]
    exact h5
theorem s_wh {c : DT} {b : DS} {env : Env} : sWh c b env = loopW c b fuel env := nd rfl
theorem loopW_inv {c : DT} {b : DS} {Inv : Nat → Env → Prop} {Post : Env → Prop} (h : ∀ m env, Inv m env → (∃ e1, c env = some (false, e1) ∧ Post e1) ∨ ∃ e1 e2 m', c env = some (true, e1) ∧ b e1 = some (.nx e2) ∧ m' < m ∧ Inv m' e2) :
    ∀ (n m : Nat) (env : Env), m < n → Inv m env → ∃ env', loopW c b n env = some (.nx env') ∧ Post env'
  | 0, m, env, hn, _ => by omega
  | n + 1, m, env, hn, hi => by
    rcases h m env hi with ⟨e1, h1, h2⟩ | ⟨e1, e2, m', h1, h2, h3, h4⟩
    · exact ⟨e1, by simp [loopW, h1], h2⟩
    · obtain ⟨env', h5, h6⟩ := loopW_inv h n m' e2 (by omega) h4
      exact ⟨env', by simp [loopW, h1, h2, h5], h6⟩
/-! ### texts -/
def S (w : List Nat) : Str := ⟨w.toArray⟩
theorem S_of (z : Str) : S z.cps.toList = z := by
  cases z
  simp [S]
theorem S_len (w : List Nat) : (S w).length = w.length := by simp [S, Str.length]
theorem S_cps (w : List Nat) : (S w).cps.toList = w := by simp [S]
theorem S_app (a b : List Nat) : S a ++ S b = S (a ++ b) := by
  show Str.append (S a) (S b) = _
  simp [S, Str.append]
theorem S_inj {a b : List Nat} (h : S a = S b) : a = b := by
  have := congrArg (fun z => z.cps.toList) h
  simpa [S] using this
theorem S_sgs (w : List Nat) : sgs (S w) = w.map fun c => .str (S [c]) := by
  unfold sgs
  rw [S_cps]
  rfl
theorem S_one (c : Nat) : (⟨#[c]⟩ : Str) = S [c] := rfl
theorem S_rev (w : List Nat) : revS (S w) = S w.reverse := by simp [revS, S]
theorem S_joinS : ∀ (ws : List (List Nat)), Str.join (S []) (ws.map S) = S ws.flatten
  | [] => rfl
  | [w] => by simp [Str.join]
  | w :: v :: ws => by
    have := S_joinS (v :: ws)
    simp only [List.map_cons] at this
    simp only [List.map_cons, Str.join, this, S_app, List.flatten_cons, List.append_nil]
theorem S_join (ws : List (List Nat)) : Txt.join (S []) (ws.map S) = S ws.flatten := by
  show PySem.Builtin.Str.glued (S []) (ws.map S) = _
  rw [StrLaws.glued_eq_join, S_joinS]
/-! ### == of ints, of texts, of the empty list -/
theorem eqv_int {i j : Int} : PyData.eqv (.int i) (.int j) = decide (i = j) := by
  simp only [PyData.eqv]
  by_cases h : i = j <;> simp [h]
theorem eqv_str {a b : Str} : PyData.eqv (.str a) (.str b) = decide (a = b) := by
  simp only [PyData.eqv]
  by_cases h : a = b <;> simp [h]
theorem dep_int {i : Int} : (PyData.int i).depth = 0 := by simp [PyData.depth]
theorem dep_str {i : Str} : (PyData.str i).depth = 0 := by simp [PyData.depth]
theorem g_eqI {i j : Int} : gEq (.int i) (.int j) = some (.bool (decide (i = j))) := by
  rw [g_eq (by rw [dep_int, dep_int]; decide), eqv_int]
theorem g_neI {i j : Int} : gNe (.int i) (.int j) = some (.bool (!decide (i = j))) := by
  rw [g_ne (by rw [dep_int, dep_int]; decide), eqv_int]
theorem g_eqS {i j : Str} : gEq (.str i) (.str j) = some (.bool (decide (i = j))) := by
  rw [g_eq (by rw [dep_str, dep_str]; decide), eqv_str]
theorem g_neS {i j : Str} : gNe (.str i) (.str j) = some (.bool (!decide (i = j))) := by
  rw [g_ne (by rw [dep_str, dep_str]; decide), eqv_str]
theorem dep_nil : (PyData.list []).depth ≤ 1 := by simp [PyData.depth, PyData.depthAll]
theorem dep_nilT : (PyData.tuple []).depth ≤ 1 := by simp [PyData.depth, PyData.depthAll]
theorem g_ne0 {ds : List D} : gNe (.list ds) (.list []) = some (.bool (!ds.isEmpty)) := by
  rw [g_ne (Nat.le_trans (Nat.min_le_right _ _) (Nat.le_trans dep_nil (by decide)))]
  cases ds <;> simp [PyData.eqv, PyData.eqvAll]
theorem g_eq0T {ds : List D} : gEq (.tuple ds) (.tuple []) = some (.bool ds.isEmpty) := by
  rw [g_eq (Nat.le_trans (Nat.min_le_right _ _) (Nat.le_trans dep_nilT (by decide)))]
  cases ds <;> simp [PyData.eqv, PyData.eqvAll]
theorem eqv_self {d : D} (h : d.plain = true) : PyData.eqv d d = true := PySem.SeqAt.eqv_refl_plain d h
theorem join_S {env : Env} {x y : Val} {ws : List (List Nat)} (hx : x.rd env = some (.str (S []))) (hy : y.rd env = some (.list (ws.map fun w => .str (S w)))) (h : ws.flatten.length ≤ 1000000) : kJoin x [y] env = some (.dat (.str (S ws.flatten)), env) := by
  have e : ws.map (fun w => PyData.str (S w)) = (ws.map S).map PyData.str := by rw [List.map_map]; rfl
  rw [e] at hy
  rw [e_joinL hx hy, S_join]
  rw [S_len, List.length_nil, Nat.mul_zero, Nat.add_zero, List.map_map]
  have : (fun w : List Nat => w.length) = (fun z : Str => z.length) ∘ S := by funext w; simp [S_len]
  rw [← this, ← List.length_flatten]
  exact h
theorem lit0 : Str.ofString "" = S [] := rfl
theorem join_1 {env : Env} {y : Val} {c : List Nat} (hy : y.rd env = some (.list (c.map fun x => .str (S [x])))) (h : c.length ≤ 1000000) : kJoin (.dat (.str (Str.ofString ""))) [y] env = some (.dat (.str (S c)), env) := by
  have e : (c.map fun x => [x]).flatten = c := by
    clear hy h
    induction c with
    | nil => rfl
    | cons x c ih => rw [List.map_cons, List.flatten_cons, ih]; rfl
  have := join_S (env := env) (x := .dat (.str (Str.ofString ""))) (y := y) (ws := c.map fun x => [x]) (by rw [lit0]; rfl) (by rw [hy, List.map_map]; rfl) (by rw [e]; exact h)
  rw [e] at this
  exact this
end EW

/-! EW 17: what repr wants. -/
namespace EW
open PySem L2
structure RP (k n : Nat) (d : D) : Prop where
  sh : d.showable = true
  dp : d.depth ≤ k
  ls : d.leavesShort 13 = true
  bk : d.bulk ≤ n
structure RPA (k n : Nat) (ds : List D) : Prop where
  sh : PyData.showableAll ds = true
  dp : PyData.depthAll ds ≤ k
  ls : PyData.leavesShortAll 13 ds = true
  bk : PyData.bulkAll ds ≤ n
theorem RP.mono {k n k' n' : Nat} {d : D} (h : RP k n d) (h1 : k ≤ k') (h2 : n ≤ n') : RP k' n' d := ⟨h.sh, Nat.le_trans h.dp h1, h.ls, Nat.le_trans h.bk h2⟩
theorem RP.shownLen {k n : Nat} {d : D} (h : RP k n d) : d.shown.length ≤ 15 * n + 13 := by
  have := PyData.shown_le_bulk 13 (by decide) d h.ls
  have := h.bk
  omega
theorem RP.repr {k n : Nat} {d : D} {env : Env} (h : RP k n d) (hb : boxed d = true) (hk : k ≤ 100) (hn : n ≤ 60000) : hRepr d env = some (.dat (.str d.shown), env) :=
  h_repr ⟨hb, h.sh, Nat.le_trans h.dp hk, by have := h.shownLen; omega⟩
theorem RP.none {k n : Nat} : RP k n .none := ⟨rfl, by simp [PyData.depth], rfl, by simp [PyData.bulk]⟩
theorem RP.bool {k n : Nat} {b : Bool} : RP k n (.bool b) := ⟨rfl, by simp [PyData.depth], rfl, by simp [PyData.bulk]⟩
theorem RP.int {k n : Nat} {i : Int} (h1 : -999999999999 ≤ i) (h2 : i ≤ 999999999999) : RP k n (.int i) := by
  refine ⟨?_, by simp [PyData.depth], ?_, by simp [PyData.bulk]⟩
  · simp only [PyData.showable, decide_eq_true_eq]
    have h3 : i.natAbs < 2 ^ 1920 := Nat.lt_of_lt_of_le (show i.natAbs < 2 ^ 40 by omega) (Nat.pow_le_pow_right (by decide) (by decide))
    by_cases h0 : i.natAbs = 0
    · rw [h0]; decide
    · exact (Nat.log2_lt h0).mpr h3
  · simp only [PyData.leavesShort, decide_eq_true_eq]
    exact PyData.shown_int_le2 h1 h2
theorem RP.str {k n : Nat} {w : List Nat} (h1 : ∀ c ∈ w, c < 1000) (h2 : w.length ≤ n) : RP k n (.str (S w)) := by
  refine ⟨rfl, by simp [PyData.depth], ?_, ?_⟩
  · simp only [PyData.leavesShort, S_cps, List.all_eq_true, decide_eq_true_eq]
    exact fun c hc => Nat.lt_trans (h1 c hc) (by decide)
  · simp only [PyData.bulk]
    exact Nat.le_trans (Nat.le_of_eq (S_len w)) h2
theorem RPA.nil {k n : Nat} : RPA k n [] := ⟨rfl, by simp [PyData.depthAll], rfl, by simp [PyData.bulkAll]⟩
theorem RPA.cons {k a b n : Nat} {d : D} {ds : List D} (h : RP k a d) (hs : RPA k b ds) (hn : a + 1 + b ≤ n := by omega) : RPA k n (d :: ds) := by
  refine ⟨?_, ?_, ?_, ?_⟩
  · simp only [PyData.showableAll, h.sh, hs.sh, Bool.and_self]
  · simp only [PyData.depthAll]; exact Nat.max_le.mpr ⟨h.dp, hs.dp⟩
  · simp only [PyData.leavesShortAll, h.ls, hs.ls, Bool.and_self]
  · simp only [PyData.bulkAll]; have := h.bk; have := hs.bk; omega
theorem RPA.con {k a b : Nat} {d : D} {ds : List D} (h : RP k a d) (hs : RPA k b ds) : RPA k (a + 1 + b) (d :: ds) := .cons h hs (Nat.le_refl _)
theorem RPA.all {k a : Nat} : ∀ {ds : List D}, (∀ d ∈ ds, RP k a d) → RPA k (ds.length * (a + 1)) ds
  | [], _ => .nil
  | d :: ds, h => .cons (h d List.mem_cons_self) (RPA.all fun x hx => h x (List.mem_cons_of_mem _ hx)) (by rw [List.length_cons, Nat.succ_mul]; omega)
theorem RPA.mono {k n k' n' : Nat} {d : List D} (h : RPA k n d) (h1 : k ≤ k') (h2 : n ≤ n') : RPA k' n' d := ⟨h.sh, Nat.le_trans h.dp h1, h.ls, Nat.le_trans h.bk h2⟩
theorem RPA.alls {k a m n : Nat} {ds : List D} (h : ∀ d ∈ ds, RP k a d) (hm : ds.length ≤ m) (hn : m * (a + 1) ≤ n := by omega) : RPA k n ds :=
  (RPA.all h).mono (Nat.le_refl _) (Nat.le_trans (Nat.mul_le_mul_right _ hm) hn)
theorem RPA.tup {k n : Nat} {ds : List D} (h : RPA k n ds) : RP (k + 1) n (.tuple ds) :=
  ⟨by simp only [PyData.showable, h.sh], by simp only [PyData.depth]; have := h.dp; omega, by simp only [PyData.leavesShort, h.ls], by simp only [PyData.bulk]; exact h.bk⟩
theorem RPA.lst {k n : Nat} {ds : List D} (h : RPA k n ds) : RP (k + 1) n (.list ds) :=
  ⟨by simp only [PyData.showable, h.sh], by simp only [PyData.depth]; have := h.dp; omega, by simp only [PyData.leavesShort, h.ls], by simp only [PyData.bulk]; exact h.bk⟩
end EW

set_option maxHeartbeats 1000000
/-! EW 18: repr of a display whose items are read alone; a walk over a list that may change behind it. -/
namespace EW
open PySem PySem.Spec PyProof.Rows L2
/-! ### repr([a, b]) -/
def rds (env : Env) : List Val → Option (List D)
  | [] => some []
  | x :: xs => bnd (x.rd env) fun d => bnd (rds env xs) fun ds => some (d :: ds)
theorem rds_dpa {B : Bs} {F H pre : Hp} {σ : St} {env : Env} (s : SR B F H σ env) {vs : List V} {xs : List Val} (h : VRs B σ pre F H env vs xs) : ∀ {ds : List D}, rds env xs = some ds → DpAll B.K H vs ds := by
  induction h with
  | nil => intro ds e; cases e; exact .nil
  | cons h _ _ ih =>
    intro ds e
    simp only [rds, bnd_eq, Option.bind_eq_some_iff] at e
    obtain ⟨d, e1, ds, e2, e3⟩ := e
    cases e3
    exact .cons (h.rd s e1) (ih e2)
def dReprL (g : DA) : DE := fun env => (g env).bind fun r => (rds r.2 r.1).bind fun ds => if ds.length ≤ 1000 then hRepr (.list ds) r.2 else none
section
variable {X : Cx} {es : List Expr} {g : DA} {k : Nat}
theorem je_reprL {p p1 pos : Pos} (ok : Ok X k) (hm : X.mg "repr" = none) (h : JA X es g) (hg : Gl X "repr" := by rfl) (hs : starEach [.List es p1] X.env = (false, eval (.List es p1) X.env) :: starEach [] X.env := by rfl) (hpl : (backTo pos (starEach [] X.env)).any (·.1) = false := by rfl) :
    JE X (.Call (.Name "repr" p) [.List es p1] [] pos) (dReprL g) := by
  refine PE.imp (pe_callB (call_reprD ok) hg hm (by decide +kernel) (pa_cons (pe_lst h) pa_nil hs) (he := hs) (hpl := hpl)) fun σ H Q ⟨B, F, env, val, env', hK, s, e0, q0⟩ => ?_
  simp only [dReprL, Option.bind_eq_some_iff] at e0
  obtain ⟨⟨xs, env1⟩, e1, ds, e2, e3⟩ := e0
  split at e3
  · rename_i hl
    unfold hRepr at e3
    split at e3
    · rename_i hh
      cases e3
      refine ⟨B, F, env, xs, _, hK, s, e1, fun vs F1 H1 p1 r1 => ?_⟩
      have ha := rds_dpa p1.sr r1 e2
      rw [hK] at ha
      refine ⟨small_line (by rw [dpa_length ha]; exact hl), fun p hp => ?_⟩
      exact ⟨.ref p, .list ds, rfl, .lst (SqL.of upd_same) (dpa_mono (Ex.new hp) ha), hh, q0 _ F1 _ (p1.allocN hp) (.str _)⟩
    · cases e3
  · cases e3
end
theorem e_rds0 {env : Env} : rds env [] = some [] := nd rfl
theorem e_rds1 {env : Env} {x : Val} {xs : List Val} : rds env (x :: xs) = bnd (x.rd env) fun d => bnd (rds env xs) fun ds => some (d :: ds) := nd rfl
theorem e_reprL {g : DA} {env : Env} : dReprL g env = bnd (g env) fun r => bnd (rds r.2 r.1) fun ds => if ds.length ≤ 1000 then hRepr (.list ds) r.2 else none := nd rfl
/-! ### a slot's list, lent -/
def upC : Cell → Cell
  | .par k o => .par (k + 1) o
  | .dat d => .dat d
  | .own o => .own o
def dnC : Cell → Cell
  | .par 0 o => .own o
  | .par (k + 1) o => .par k o
  | .dat d => .dat d
  | .own o => .own o
def upE (env : Env) : Env := env.map (Option.map upC)
def dnE (env : Env) : Env := env.map (Option.map dnC)
theorem upC_holds (c : Cell) : (upC c).holds = c.holds := by cases c <;> rfl
theorem dnC_holds (c : Cell) : (dnC c).holds = c.holds := by
  cases c with
  | par k o => cases k <;> rfl
  | dat d => rfl
  | own o => rfl
theorem mapE_get {f : Cell → Cell} {env : Env} {j : Nat} {c : Cell} (h : (env.map (Option.map f))[j]? = some (some c)) : ∃ c0, env[j]? = some (some c0) ∧ c = f c0 := by
  rw [List.getElem?_map] at h
  cases q : env[j]? with
  | none => rw [q] at h; cases h
  | some o =>
    cases o with
    | none => rw [q] at h; cases h
    | some c0 => rw [q] at h; cases h; exact ⟨c0, rfl, rfl⟩
def Bs.lend (B : Bs) (a : Addr) : Bs := { B with P := fun k => match k with
  | 0 => some a
  | k + 1 => B.P k }
section
variable {B : Bs} {F H pre : Hp} {σ : St} {env : Env} {a : Addr} {l : List D} {i : Nat}
theorem lend_in (s : SR B F H σ env) (h : env[i]? = some (some (.own (.l l)))) : ∃ a, B.H0 a = none ∧ SR (B.lend a) F H σ ((upE env).set i (some (.par 0 (.l l)))) := by
  obtain ⟨v, hv, a, ho, rfl, h1, h2, h3, h4⟩ := s.sl i _ h
  have hi : i < env.length := (List.getElem?_eq_some_iff.mp h).1
  have hi2 : i < (upE env).length := by unfold upE; rw [List.length_map]; exact hi
  have look : ∀ (j : Nat) (c : Cell), ((upE env).set i (some (.par 0 (.l l))))[j]? = some (some c) → (j = i ∧ c = .par 0 (.l l)) ∨ (i ≠ j ∧ ∃ c0, env[j]? = some (some c0) ∧ c = upC c0) := fun j c e => by
    by_cases q : i = j
    · subst q; rw [List.getElem?_set_self hi2] at e; cases e; exact .inl ⟨rfl, rfl⟩
    · rw [List.getElem?_set_ne q] at e; exact .inr ⟨q, mapE_get e⟩
  have look2 : ∀ (j : Nat) (c : Cell), ((upE env).set i (some (.par 0 (.l l))))[j]? = some (some c) → c.holds = true → ∃ c0, env[j]? = some (some c0) ∧ c0.holds = true := fun j c e hc => by
    rcases look j c e with ⟨rfl, rfl⟩ | ⟨_, c0, e0, rfl⟩
    · exact ⟨_, h, rfl⟩
    · exact ⟨c0, e0, by rw [upC_holds] at hc; exact hc⟩
  refine ⟨a, h4, ⟨by rw [List.length_set]; unfold upE; rw [List.length_map]; exact s.len, s.ff, s.fh, fun b o e n => s.old b o e fun k => n (k + 1), fun k b e => ?_, s.new, fun j c e => ?_, fun j k c c' e1 e2 k1 k2 e3 => ?_⟩⟩
  · cases k with
    | zero => cases e; rw [h2]; simp
    | succ k => exact s.pt k b e
  · rcases look j c e with ⟨rfl, rfl⟩ | ⟨_, c0, e0, rfl⟩
    · exact ⟨_, hv, a, ho, rfl, h1, h2, h3, rfl⟩
    · obtain ⟨w, hw, hc⟩ := s.sl j c0 e0
      refine ⟨w, hw, ?_⟩
      cases c0 with
      | dat d => exact hc
      | own o => exact hc
      | par k o => exact hc
  · obtain ⟨c0, f1, f2⟩ := look2 j c e1 k1
    obtain ⟨c1, f3, f4⟩ := look2 k c' e2 k2
    exact s.ds j k c0 c1 f1 f3 f2 f4 e3
theorem lend_out (s : SR (B.lend a) F H σ env) (h0 : B.H0 a = none) : SR B F H σ (dnE env) := by
  refine ⟨by unfold dnE; rw [List.length_map]; exact s.len, s.ff, s.fh, fun b o e n => s.old b o e fun k => ?_, fun k b e => s.pt (k + 1) b e, s.new, fun j c e => ?_, fun j k c c' e1 e2 k1 k2 e3 => ?_⟩
  · cases k with
    | zero => intro z; cases z; rw [h0] at e; cases e
    | succ k => exact n k
  · obtain ⟨c0, e0, rfl⟩ := mapE_get e
    obtain ⟨w, hw, hc⟩ := s.sl j c0 e0
    refine ⟨w, hw, ?_⟩
    cases c0 with
    | dat d => exact hc
    | own o => exact hc
    | par k o =>
      obtain ⟨b, ho, rfl, g1, g2, g3, g4⟩ := hc
      cases k with
      | zero => cases g4; exact ⟨_, ho, rfl, g1, g2, g3, h0⟩
      | succ k => exact ⟨b, ho, rfl, g1, g2, g3, g4⟩
  · obtain ⟨c0, f1, rfl⟩ := mapE_get e1
    obtain ⟨c1, f3, rfl⟩ := mapE_get e2
    rw [dnC_holds] at k1 k2
    exact s.ds j k c0 c1 f1 f3 k1 k2 e3
theorem oa_dn {p : Addr} (h : OA σ (dnE env) p) : OA σ env p := by
  obtain ⟨i, c, e, k, hs⟩ := h
  obtain ⟨c0, e0, rfl⟩ := mapE_get e
  rw [dnC_holds] at k
  exact ⟨i, c0, e0, k, hs⟩
theorem VR.out {v : V} {x : Val} (h : VR (B.lend a) σ pre F H env v x) : VR B σ pre F H (dnE env) v x := by
  cases x with
  | dat d => exact h
  | new o =>
    obtain ⟨p, ho, rfl, h1, h2, h3, h4, h5, h6⟩ := h
    exact ⟨p, ho, rfl, h1, h2, h3, h4, fun z => h5 (oa_dn z), h6⟩
  | slot i =>
    obtain ⟨h1, c, h2⟩ := h
    refine ⟨h1, dnC c, ?_⟩
    unfold dnE
    rw [List.getElem?_map, h2]
    rfl
end
/-! ### zip of a lent list -/
def J3B (a : Addr) (sc2 : Sc) (K : PySem.W.Frag) (ys : List V) : It := ⟨fun i H => ∃ xs, H a = some (.lst xs) ∧ sc2.ok K H ys ∧ i < min xs.length ys.length, fun i H v H' => ∃ T x y, v = .ref T ∧ H T = none ∧ H' = upd H T (.tup [x, y]) ∧ (∀ xs, H a = some (.lst xs) → xs[i]? = some x) ∧ ys[i]? = some y, fun i H => ∃ xs, H a = some (.lst xs) ∧ sc2.ok K H ys ∧ i = min xs.length ys.length⟩
theorem turn_zipB {P : Program} {w : World} {K : PySem.W.Frag} {elts : List Expr} {kk : Nat} {tpos : Pos} (a : Addr) (sc2 : Sc) (ys : List V) {z TI TO i1 i2 : Addr} (S : ZipSep2 z TI TO i1 i2 (i1 :: (Sc.l a).src) (i2 :: sc2.src)) (n1 : i1 ∉ (Sc.l a).src) (n2 : i2 ∉ sc2.src) :
    Turn P w K (.Tuple elts kk tpos) (J3B a sc2 K ys) [z, TI, TO, i1, i2] z (fun i h => IsZip h z TI TO .none ∧ IsTupOf2 h TI (.ref i1) (.ref i2) ∧ (∃ a1 a2, IsTupOf2 h TO a1 a2) ∧ (Sc.l a).at i1 i h ∧ sc2.at i2 i h) where
  mem := (turn_zipS (P := P) (w := w) (K := K) (elts := elts) (kk := kk) (tpos := tpos) (.l a) sc2 [] ys S n1 n2).mem
  obj := (turn_zipS (P := P) (w := w) (K := K) (elts := elts) (kk := kk) (tpos := tpos) (.l a) sc2 [] ys S n1 n2).obj
  keep := (turn_zipS (P := P) (w := w) (K := K) (elts := elts) (kk := kk) (tpos := tpos) (.l a) sc2 [] ys S n1 n2).keep
  item := fun X hP hw hK hc i pins s σ H E I hf st ⟨xs, h1, h2, h3⟩ =>
    thn ((turn_zipS (.l a) sc2 xs ys S n1 n2).item X hP hw hK hc i pins s σ H E I hf st ⟨⟨SqL.of h1, h2⟩, h3⟩) fun r s1 ⟨u, e, h⟩ => ⟨u, e, thn h fun _ s2 ⟨x, H', g1, g2, ⟨T, x1, y1, k1, k2, k3, k4, k5⟩, g4⟩ =>
      ⟨x, H', g1, g2, ⟨T, x1, y1, k1, k2, k3, fun xs' h' => by rw [h1] at h'; cases h'; exact k4, k5⟩, g4⟩⟩
  done := fun X hP hw hK hc i pins s σ H E I hf st ⟨xs, h1, h2, h3⟩ => (turn_zipS (elts := elts) (kk := kk) (tpos := tpos) (.l a) sc2 xs ys S n1 n2).done X hP hw hK hc i pins s σ H E I hf st ⟨⟨SqL.of h1, h2⟩, h3⟩
  self := (turn_zipS (P := P) (w := w) (K := K) (elts := elts) (kk := kk) (tpos := tpos) (.l a) sc2 [] ys S n1 n2).self
structure ItOkB (K : PySem.W.Frag) (J : It) (F : Hp) (a : Addr) (l ds : List D) : Prop where
  go : ∀ (F1 H1 : Hp) (i : Nat) (vs : List V), Ex F F1 → Ex F1 H1 → H1 a = some (.lst vs) → DpAll K F1 vs l → i < ds.length → J.go i H1
  stop : ∀ (F1 H1 : Hp) (vs : List V), Ex F F1 → Ex F1 H1 → H1 a = some (.lst vs) → DpAll K F1 vs l → J.stop ds.length H1
  yld : ∀ (F1 H1 : Hp) (i : Nat) (vs : List V) (x : V) (H2 : Hp), Ex F F1 → Ex F1 H1 → H1 a = some (.lst vs) → DpAll K F1 vs l → i < ds.length → J.yld i H1 x H2 → ∃ d, ds[i]? = some d ∧ ∃ p xs es, x = .ref p ∧ H1 p = none ∧ H2 = upd H1 p (.tup xs) ∧ d = .tuple es ∧ DpAll K F1 xs es
theorem itok3B {K : PySem.W.Frag} {F : Hp} {a : Addr} {sc2 : Sc} {ys : List V} {l es : List D} (h2 : ∀ H1, Ex F H1 → sc2.ok K H1 ys) (hb : DpAll K F ys es) : ItOkB K (J3B a sc2 K ys) F a l (dsZip l es) := by
  have hl2 := dpa_length hb
  refine ⟨fun F1 H1 i vs x1 x2 hv ha hi => ⟨vs, hv, h2 H1 (x1.trans x2), ?_⟩, fun F1 H1 vs x1 x2 hv ha => ⟨vs, hv, h2 H1 (x1.trans x2), ?_⟩, fun F1 H1 i vs x H2 x1 x2 hv ha hlt ⟨T, y, y2, e1, e2, e3, hy, hy2⟩ => ?_⟩
  · have := dpa_length ha
    rw [dsZip_length] at hi; omega
  · have := dpa_length ha
    rw [dsZip_length]; omega
  · obtain ⟨d, hd, r⟩ := dpa_get ha (hy vs hv)
    obtain ⟨d2, hd2, r2⟩ := dpa_get hb hy2
    refine ⟨.tuple [d, d2], ?_, T, _, _, e1, e2, e3, rfl, .cons r (.cons (dp_mono x1 r2) .nil)⟩
    unfold dsZip
    rw [List.getElem?_map, List.getElem?_zip_eq_some (z := (d, d2)) |>.mpr ⟨hd, hd2⟩]
    rfl
def rdIB (K : PySem.W.Frag) (i : Nat) (f2 : DE) : TI := fun σ H R => ∃ (B : Bs) (F : Hp) (env : Env) (l es : List D) (env' : Env) (a : Addr), B.K = K ∧ SR B F H σ env ∧ env[i]? = some (some (.par 0 (.l l))) ∧ B.P 0 = some a ∧
  (∃ y env1 d, f2 env = some (y, env1) ∧ y.frz env1 = some (d, env') ∧ itemsD d = some es) ∧ env'[i]? = some (some (.par 0 (.l l))) ∧ ∀ J F' H', Post B σ F H env F' H' env' → ItOkB K J F' a l (dsZip l es) → R J H'
theorem par_at {B : Bs} {F H : Hp} {σ : St} {env : Env} {i : Nat} {l : List D} {a : Addr} (s : SR B F H σ env) (h : env[i]? = some (some (.par 0 (.l l)))) (hP : B.P 0 = some a) : σ[i]? = some (some (.ref a)) ∧ ∃ vs, H a = some (.lst vs) ∧ DpAll B.K F vs l := by
  obtain ⟨v, hv, b, ho, rfl, h1, h2, h3, h4⟩ := s.sl i _ h
  rw [hP] at h4
  cases h4
  cases ho <;> first | exact h3.elim | skip
  exact ⟨hv, _, h2, h3⟩
section
variable {X : Cx} {f2 g : DE} {e2 : Expr} {x : Str} {q0 : Pos} {i : Nat}
theorem ji_zB {p pos tpos : Pos} {elts : List Expr} {kk : Nat} (hm : X.mg "zip" = none) (he : JE X (.Name x q0) (dNm i)) (he2 : JE X e2 f2) (hg : Gl X "zip" := by rfl)
    (hs : starEach [.Name x q0, e2] X.env = (false, eval (.Name x q0) X.env) :: starEach [e2] X.env := by rfl) (hs2 : starEach [e2] X.env = [(false, eval e2 X.env)] := by rfl) (hpl : (backTo pos (starEach [e2] X.env)).any (·.1) = false := by rfl) : PI X (.Tuple elts kk tpos) (.Call (.Name "zip" p) [.Name x q0, e2] [] pos) (rdIB X.K i f2) := by
  refine ⟨fun pins s σ H R I h => ?_⟩
  obtain ⟨B, F, env, l, es, env', a, hK, s0, hpar, hP, ⟨y, env1, d, e2', e3, e6⟩, hpar', q⟩ := h
  have hq : rdA X.K (aCons (dNm i) (aCons f2 aNil)) σ H fun vs H1 => ∃ w F1, vs = [.ref a, w] ∧ Post B σ F H env F1 H1 env' ∧ Dp X.K F1 w d := ⟨B, F, env, [.slot i, y], env1, hK, s0, by simp [aCons, aNil, e_nm, hpar, e_nmP, e2'], fun vs F1 H1 p1 r1 => by
    cases r1 with
    | cons r _ r1 =>
    cases r1 with
    | cons r' _ r1 =>
    cases r1
    obtain ⟨F2, p2, hd, _⟩ := frz_post p1 r' e3
    obtain ⟨hv, _⟩ := par_at p2.sr hpar' hP
    have hv' := r.1
    rw [hv] at hv'
    cases hv'
    rw [← hK]
    exact ⟨_, F2, rfl, p2, hd⟩⟩
  have ha0 : JA X [.Name x q0, e2] (aCons (dNm i) (aCons f2 aNil)) := ja_cons he (ja_cons he2 ja_nil (by rw [hs2]; rfl)) hs
  refine Call_ (ld_blt I hg hm PyProof.Rows.boot_zip (PyProof.Rows.callWith_type1 (thn (ha0.run pos pins s σ H _ I hq) fun us s1 ⟨vs, H1, I1, r1, w, F1, ev, p1, h2⟩ => ?_) hs hpl))
  subst ev
  cases r1 with
  | cons r r1 =>
  cases r1 with
  | cons r' r1 =>
  cases r1
  obtain ⟨_, vs0, hv0, ha1⟩ := par_at p1.sr hpar' hP
  cases r
  obtain ⟨sc2, ys, rfl, ok2, ha2⟩ := src_of (X := X) (pins := pins) (σ := σ) (H := H1) (s := s1) h2 r' e6
  obtain ⟨Hb1, Bg1, hb1, hlt1⟩ := Sc.begins (sc := .l a) (xs := vs0) I1 (SqL.of hv0)
  obtain ⟨Hb2, Bg2, hb2, hlt2⟩ := Sc.begins I1 (ok2 H1 p1.sr.fh)
  refine zip_begins2 Bg1 Bg2 hb1 hb2 fun h' hz hTI hTO h1' h2' hsz hk => wpAny_pyIter_zip hz ?_
  have I2 : Inv X pins σ H1 { s1 with heap := h' } := I1.kept (t' := s1.toks) hk
  have S := zip_sep2 (N := s1.heap.objs.size) hlt1 hlt2
  have n1 : s1.heap.objs.size ∉ (Sc.l a).src := fun m => absurd (hlt1 _ m) (Nat.lt_irrefl _)
  have n2 : s1.heap.objs.size + 1 ∉ sc2.src := fun m => absurd (hlt2 _ m) (Nat.not_lt.mpr (Nat.le_succ _))
  refine ⟨s1.heap.objs.size + 4, [s1.heap.objs.size + 4, s1.heap.objs.size + 2, s1.heap.objs.size + 3, s1.heap.objs.size, s1.heap.objs.size + 1], _, _, H1, rfl, I2, turn_zipB a sc2 ys S n1 n2, ⟨hz, hTI, ⟨_, _, hTO⟩, Sc.at_obj h1', Sc.at_obj h2'⟩, fun c hcm => ?_, q _ F1 H1 p1 (itok3B ok2 ha2)⟩
  have e' : c = s1.heap.objs.size + 4 ∨ c = s1.heap.objs.size + 2 ∨ c = s1.heap.objs.size + 3 ∨ c = s1.heap.objs.size ∨ c = s1.heap.objs.size + 1 := by simpa using hcm
  have hle : s1.heap.objs.size ≤ c := by
    rcases e' with z | z | z | z | z
    · rw [z]; exact Nat.le_add_right _ _
    · rw [z]; exact Nat.le_add_right _ _
    · rw [z]; exact Nat.le_add_right _ _
    · rw [z]; exact Nat.le_refl _
    · rw [z]; exact Nat.le_add_right _ _
  exact I1.fpOk hle (I1.hok.fresh hle)
end
def lentE (i : Nat) (l : List D) (env : Env) : Prop := env[i]? = some (some (.par 0 (.l l)))
open Classical in
noncomputable def loopB (i : Nat) (l : List D) (g : DG) (body : DS) : List D → Env → Option Out
  | [], env => some (.nx (dnE env))
  | d :: ds, env => (g (.dat d) env).bind fun e1 => (body e1).bind fun o => match o with
    | .nx e => if lentE i l e then loopB i l g body ds e else none
    | .ct e => if lentE i l e then loopB i l g body ds e else none
    | .bk e => some (.nx (dnE e))
    | .rt v e => some (.rt v (dnE e))
open Classical in
noncomputable def zbK (i : Nat) (f2 : DE) (g : DG) (body : DS) (env : Env) : Option (Option Cell) → Option Out
  | some (some (.own (.l l))) => (f2 ((upE env).set i (some (.par 0 (.l l))))).bind fun q => (q.1.frz q.2).bind fun z => (itemsD z.1).bind fun es => if lentE i l z.2 then loopB i l g body (dsZip l es) z.2 else none
  | _ => none
noncomputable def sForZB (i : Nat) (f2 : DE) (g : DG) (body : DS) : DS := fun env => zbK i f2 g body env env[i]?
section
variable {X : Cx} {tg iter : Expr} {body : List Stmt} {g : DG} {fb : DS} {f2 : DE} {pos : Pos} {i : Nat}
theorem js_forZB (hp : PassesOwn (model X.prog X.w) X.A X.env X.xe) (hc : X.calm = true) (hi : PI X tg iter (rdIB X.K i f2)) (hg : JG X tg g) (hb : JSs X body fb)
    (hs : ∀ x, foldedSetIterable iter X.env x = pure x := by intro _; rfl) : JS X (.For tg iter body [] pos) (sForZB i f2 g fb) :=
  PS.imp (ps_for hp hc hi hg hb hs) fun D σ H ⟨B, F, env, out, hK, s, e, q⟩ => by
    unfold sForZB zbK at e
    split at e
    case h_2 => cases e
    rename_i l hl
    simp only [Option.bind_eq_some_iff] at e
    obtain ⟨⟨y, env1⟩, e1, ⟨d, env'⟩, e2, es, e3, e4⟩ := e
    split at e4
    case isFalse => cases e4
    rename_i hkeep
    obtain ⟨a, h0, s'⟩ := lend_in s hl
    have hi0 : i < (upE env).length := by unfold upE; rw [List.length_map]; exact (List.getElem?_eq_some_iff.mp hl).1
    refine ⟨B.lend a, F, _, l, es, env', a, hK, s', List.getElem?_set_self hi0, rfl, ⟨y, env1, d, e1, e2, e3⟩, hkeep, fun J F0 H0 p0 ok => ?_⟩
    generalize hds : dsZip l es = ds at e4 ok
    refine ⟨fun j m σ H => j ≤ ds.length ∧ m = ds.length - j ∧ ∃ F1 env2, SR (B.lend a) F1 H σ env2 ∧ Ex F0 F1 ∧ lentE i l env2 ∧ loopB i l g fb (ds.drop j) env2 = some out, ⟨_, Nat.zero_le _, rfl, F0, env', p0.sr, Ex.refl F0, hkeep, e4⟩, fun j m σ1 H1 ⟨hj, hm, F1, env2, s1, x1, k1, e5⟩ => ?_⟩
    obtain ⟨_, vs, hv, ha⟩ := par_at s1 k1 rfl
    have ha' : DpAll X.K F1 vs l := by rw [← hK]; exact ha
    by_cases hlt : j < ds.length
    · refine .inr ⟨ok.go F1 H1 j vs x1 s1.fh hv ha' hlt, ?_⟩
      rw [List.drop_eq_getElem_cons hlt] at e5
      simp only [loopB, Option.bind_eq_some_iff] at e5
      obtain ⟨env3, e6, o, e7, e8⟩ := e5
      refine ⟨fun σ' H' => ∃ F2 env4, SR (B.lend a) F2 H' σ' env4 ∧ Ex F0 F2 ∧ lentE i l env4 ∧ loopB i l g fb (ds.drop (j + 1)) env4 = some out, fun σ' H' ⟨F2, env4, z1, z2, z3, z4⟩ => ⟨_, by omega, by omega, rfl, F2, env4, z1, z2, z3, z4⟩, fun x H' yy => ?_⟩
      obtain ⟨d', ed, pp, xs, es', rfl, hpn, rfl, rfl, hd⟩ := ok.yld F1 H1 j vs x H' x1 s1.fh hv ha' hlt yy
      rw [List.getElem?_eq_getElem hlt] at ed
      have ed := Option.some.inj ed
      have p2 := (Post.refl s1).alloc (o := .tup xs) hpn
      have hd2 : Dp (B.lend a).K (upd F1 pp (.tup xs)) (.ref pp) (.tuple es') := by
        show Dp B.K _ _ _
        rw [hK]
        exact .tup (SqT.of upd_same) (dpa_mono (Ex.new (s1.fnone hpn)) hd)
      rw [ed] at e6
      refine ⟨B.lend a, _, _, env2, .dat _, env3, hK, p2.sr, fun p hp => p2.sr.h0 hp, hd2, e6, fun σ2 F3 H3 s3 x3 => ⟨B.lend a, F3, env3, o, hK, s3, e7, ?_⟩⟩
      have x03 : Ex F0 F3 := (x1.trans p2.ff).trans x3
      cases o with
      | nx e => 
        simp only at e8
        split at e8
        · rename_i k2
          exact fun σ' F' H' s' y => ⟨F', e, s', x03.trans y, k2, e8⟩
        · cases e8
      | ct e =>
        simp only at e8
        split at e8
        · rename_i k2
          exact fun σ' F' H' s' y => ⟨F', e, s', x03.trans y, k2, e8⟩
        · cases e8
      | bk e => cases e8; exact fun σ' F' H' s' y => q σ' F' H' (lend_out s' h0) ((p0.ff.trans x03).trans y)
      | rt v e => cases e8; exact fun v' σ' F' H' pre s' r => q v' σ' F' H' pre (lend_out s' h0) r.out
    · have : j = ds.length := by omega
      subst this
      rw [List.drop_length] at e5
      cases e5
      exact .inl ⟨ok.stop F1 H1 vs x1 s1.fh hv ha', q σ1 F1 H1 (lend_out s1 h0) (p0.ff.trans x1)⟩
end
theorem s_forZB {i : Nat} {f2 : DE} {g : DG} {b : DS} {env : Env} : sForZB i f2 g b env = zbK i f2 g b env env[i]? := nd rfl
theorem s_zbK {i : Nat} {f2 : DE} {g : DG} {b : DS} {env : Env} {l : List D} {es : List D} {y : Val} {d : D} {env1 env' : Env} (h1 : f2 ((upE env).set i (some (.par 0 (.l l)))) = some (y, env1)) (h2 : y.frz env1 = some (d, env')) (h3 : itemsD d = some es) (h4 : lentE i l env') :
    zbK i f2 g b env (some (some (.own (.l l)))) = loopB i l g b (dsZip l es) env' := by
  simp only [zbK, h1, h2, h3, Option.bind_some]
  rw [if_pos h4]
/-- a walk whose turns all go on -/
theorem loopB_inv {i : Nat} {l : List D} {g : DG} {b : DS} {Inv : Nat → Env → Prop} : ∀ (ds : List D) (k : Nat) (env : Env), (∀ (j : Nat) (d : D) (env : Env), ds[j]? = some d → Inv (k + j) env → ∃ e1 e2, g (.dat d) env = some e1 ∧ b e1 = some (.nx e2) ∧ lentE i l e2 ∧ Inv (k + j + 1) e2) → Inv k env →
    ∃ env', loopB i l g b ds env = some (.nx (dnE env')) ∧ Inv (k + ds.length) env'
  | [], k, env, _, h => ⟨env, rfl, h⟩
  | d :: ds, k, env, h, hi => by
    obtain ⟨e1, e2, h1, h2, h2', h3⟩ := h 0 d env rfl hi
    obtain ⟨env', h4, h5⟩ := loopB_inv (Inv := Inv) ds (k + 1) e2 (fun j d env hd hv => by
      have := h (j + 1) d env (by simpa using hd) (by rw [show k + (j + 1) = k + 1 + j by omega]; exact hv)
      rw [show k + (j + 1) + 1 = k + 1 + j + 1 by omega] at this
      exact this) h3
    refine ⟨env', ?_, ?_⟩
    · simp only [loopB, h1, h2, Option.bind_some]
      rw [if_pos h2']
      exact h4
    · rw [List.length_cons, show k + (ds.length + 1) = k + 1 + ds.length by omega]
      exact h5
end EW

set_option maxHeartbeats 0
namespace EH
open PySem PySem.Spec PyProof.Rows L2
def top (i : Nat) : Stmt := PySem.Challenge.pw_elderwords_k81_whole_forms_at_all_nodes.main.body.getD i (.Pass ⟨0, 0, 0, 0⟩)
abbrev s_is_integer : Stmt := top 1
abbrev s_is_within : Stmt := top 2
abbrev s_is_tuple : Stmt := top 3
abbrev s_are_rising : Stmt := top 4
abbrev s_are_signs : Stmt := top 15
abbrev s_is_text_of : Stmt := top 16
abbrev s_is_word_of : Stmt := top 17
abbrev s_is_class_of : Stmt := top 18
abbrev s_are_contexts : Stmt := top 24
abbrev s_is_shift_of : Stmt := top 25
abbrev s_sign_at : Stmt := top 26
abbrev s_fits_ahead : Stmt := top 27
abbrev s_fits_behind : Stmt := top 28
abbrev s_made_row : Stmt := top 29
abbrev s_strike_of : Stmt := top 30
abbrev s_stages_in : Stmt := top 32
abbrev s_daughter_in : Stmt := top 33
abbrev s_is_name : Stmt := top 38
abbrev s_is_node : Stmt := top 39
abbrev s_shifts_along : Stmt := top 40
abbrev s_is_tree_any : Stmt := top 41
abbrev s_want_tree : Stmt := top 42
abbrev s_want_tree_word : Stmt := top 43
abbrev s_leaves_of : Stmt := top 44
abbrev s_is_tree : Stmt := top 45
abbrev s_leaf_names : Stmt := top 46
abbrev s_node_book : Stmt := top 47
abbrev s_forms : Stmt := top 48
abbrev s__law_pot : Stmt := top 50
abbrev s__law_draw : Stmt := top 51
abbrev s__law_pick : Stmt := top 52
abbrev s__law_class : Stmt := top 53
abbrev s__law_shift : Stmt := top 54
abbrev s__law_tame : Stmt := top 55
abbrev s__law_daughter : Stmt := top 57
abbrev s__law_stages : Stmt := top 58
abbrev s__law_told : Stmt := top 59
abbrev s__law_small : Stmt := top 61
abbrev s__law_tree : Stmt := top 62
abbrev s__law_along : Stmt := top 63
abbrev s__law_leaves : Stmt := top 64
abbrev s__law_forms_right : Stmt := top 66
abbrev s__law_row_right : Stmt := top 67
abbrev s__law_right : Stmt := top 68
abbrev s_law : Stmt := top 69
def d_is_integer : He.DefD := ⟨("is_integer", none), "is_integer", "is_integer", defArgs s_is_integer, defBody s_is_integer, defScope s_is_integer, [], []⟩
def d_is_within : He.DefD := ⟨("is_within", none), "is_within", "is_within", defArgs s_is_within, defBody s_is_within, defScope s_is_within, [], []⟩
def d_is_tuple : He.DefD := ⟨("is_tuple", none), "is_tuple", "is_tuple", defArgs s_is_tuple, defBody s_is_tuple, defScope s_is_tuple, [], []⟩
def d_are_rising : He.DefD := ⟨("are_rising", none), "are_rising", "are_rising", defArgs s_are_rising, defBody s_are_rising, defScope s_are_rising, [], []⟩
def d_are_signs : He.DefD := ⟨("are_signs", none), "are_signs", "are_signs", defArgs s_are_signs, defBody s_are_signs, defScope s_are_signs, [], []⟩
def d_is_text_of : He.DefD := ⟨("is_text_of", none), "is_text_of", "is_text_of", defArgs s_is_text_of, defBody s_is_text_of, defScope s_is_text_of, [], []⟩
def d_is_word_of : He.DefD := ⟨("is_word_of", none), "is_word_of", "is_word_of", defArgs s_is_word_of, defBody s_is_word_of, defScope s_is_word_of, [], []⟩
def d_is_class_of : He.DefD := ⟨("is_class_of", none), "is_class_of", "is_class_of", defArgs s_is_class_of, defBody s_is_class_of, defScope s_is_class_of, [], []⟩
def d_are_contexts : He.DefD := ⟨("are_contexts", none), "are_contexts", "are_contexts", defArgs s_are_contexts, defBody s_are_contexts, defScope s_are_contexts, [], []⟩
def d_is_shift_of : He.DefD := ⟨("is_shift_of", none), "is_shift_of", "is_shift_of", defArgs s_is_shift_of, defBody s_is_shift_of, defScope s_is_shift_of, [], []⟩
def d_sign_at : He.DefD := ⟨("sign_at", none), "sign_at", "sign_at", defArgs s_sign_at, defBody s_sign_at, defScope s_sign_at, [], []⟩
def d_fits_ahead : He.DefD := ⟨("fits_ahead", none), "fits_ahead", "fits_ahead", defArgs s_fits_ahead, defBody s_fits_ahead, defScope s_fits_ahead, [], []⟩
def d_fits_behind : He.DefD := ⟨("fits_behind", none), "fits_behind", "fits_behind", defArgs s_fits_behind, defBody s_fits_behind, defScope s_fits_behind, [], []⟩
def d_made_row : He.DefD := ⟨("made_row", none), "made_row", "made_row", defArgs s_made_row, defBody s_made_row, defScope s_made_row, [], []⟩
def d_strike_of : He.DefD := ⟨("strike_of", none), "strike_of", "strike_of", defArgs s_strike_of, defBody s_strike_of, defScope s_strike_of, [], []⟩
def d_stages_in : He.DefD := ⟨("stages_in", none), "stages_in", "stages_in", defArgs s_stages_in, defBody s_stages_in, defScope s_stages_in, [], []⟩
def d_daughter_in : He.DefD := ⟨("daughter_in", none), "daughter_in", "daughter_in", defArgs s_daughter_in, defBody s_daughter_in, defScope s_daughter_in, [], []⟩
def d_is_name : He.DefD := ⟨("is_name", none), "is_name", "is_name", defArgs s_is_name, defBody s_is_name, defScope s_is_name, [], []⟩
def d_is_node : He.DefD := ⟨("is_node", none), "is_node", "is_node", defArgs s_is_node, defBody s_is_node, defScope s_is_node, [], []⟩
def d_shifts_along : He.DefD := ⟨("shifts_along", none), "shifts_along", "shifts_along", defArgs s_shifts_along, defBody s_shifts_along, defScope s_shifts_along, [], []⟩
def d_is_tree_any : He.DefD := ⟨("is_tree_any", none), "is_tree_any", "is_tree_any", defArgs s_is_tree_any, defBody s_is_tree_any, defScope s_is_tree_any, [], []⟩
def d_want_tree : He.DefD := ⟨("want_tree", none), "want_tree", "want_tree", defArgs s_want_tree, defBody s_want_tree, defScope s_want_tree, [], []⟩
def d_want_tree_word : He.DefD := ⟨("want_tree_word", none), "want_tree_word", "want_tree_word", defArgs s_want_tree_word, defBody s_want_tree_word, defScope s_want_tree_word, [], []⟩
def d_leaves_of : He.DefD := ⟨("leaves_of", none), "leaves_of", "leaves_of", defArgs s_leaves_of, defBody s_leaves_of, defScope s_leaves_of, [], []⟩
def d_is_tree : He.DefD := ⟨("is_tree", none), "is_tree", "is_tree", defArgs s_is_tree, defBody s_is_tree, defScope s_is_tree, [], []⟩
def d_leaf_names : He.DefD := ⟨("leaf_names", none), "leaf_names", "leaf_names", defArgs s_leaf_names, defBody s_leaf_names, defScope s_leaf_names, [], []⟩
def d_node_book : He.DefD := ⟨("node_book", none), "node_book", "node_book", defArgs s_node_book, defBody s_node_book, defScope s_node_book, [], []⟩
def d_forms : He.DefD := ⟨("forms", none), "forms", "forms", defArgs s_forms, defBody s_forms, defScope s_forms, [], []⟩
def d__law_pot : He.DefD := ⟨("_law_pot", none), "_law_pot", "_law_pot", defArgs s__law_pot, defBody s__law_pot, defScope s__law_pot, [], []⟩
def d__law_draw : He.DefD := ⟨("_law_draw", none), "_law_draw", "_law_draw", defArgs s__law_draw, defBody s__law_draw, defScope s__law_draw, [], []⟩
def d__law_pick : He.DefD := ⟨("_law_pick", none), "_law_pick", "_law_pick", defArgs s__law_pick, defBody s__law_pick, defScope s__law_pick, [], []⟩
def d__law_class : He.DefD := ⟨("_law_class", none), "_law_class", "_law_class", defArgs s__law_class, defBody s__law_class, defScope s__law_class, [], []⟩
def d__law_shift : He.DefD := ⟨("_law_shift", none), "_law_shift", "_law_shift", defArgs s__law_shift, defBody s__law_shift, defScope s__law_shift, [], []⟩
def d__law_tame : He.DefD := ⟨("_law_tame", none), "_law_tame", "_law_tame", defArgs s__law_tame, defBody s__law_tame, defScope s__law_tame, [], []⟩
def d__law_daughter : He.DefD := ⟨("_law_daughter", none), "_law_daughter", "_law_daughter", defArgs s__law_daughter, defBody s__law_daughter, defScope s__law_daughter, [], []⟩
def d__law_stages : He.DefD := ⟨("_law_stages", none), "_law_stages", "_law_stages", defArgs s__law_stages, defBody s__law_stages, defScope s__law_stages, [], []⟩
def d__law_told : He.DefD := ⟨("_law_told", none), "_law_told", "_law_told", defArgs s__law_told, defBody s__law_told, defScope s__law_told, [], []⟩
def d__law_small : He.DefD := ⟨("_law_small", none), "_law_small", "_law_small", defArgs s__law_small, defBody s__law_small, defScope s__law_small, [], []⟩
def d__law_tree : He.DefD := ⟨("_law_tree", none), "_law_tree", "_law_tree", defArgs s__law_tree, defBody s__law_tree, defScope s__law_tree, [], []⟩
def d__law_along : He.DefD := ⟨("_law_along", none), "_law_along", "_law_along", defArgs s__law_along, defBody s__law_along, defScope s__law_along, [], []⟩
def d__law_leaves : He.DefD := ⟨("_law_leaves", none), "_law_leaves", "_law_leaves", defArgs s__law_leaves, defBody s__law_leaves, defScope s__law_leaves, [], []⟩
def d__law_forms_right : He.DefD := ⟨("_law_forms_right", none), "_law_forms_right", "_law_forms_right", defArgs s__law_forms_right, defBody s__law_forms_right, defScope s__law_forms_right, [], []⟩
def d__law_row_right : He.DefD := ⟨("_law_row_right", none), "_law_row_right", "_law_row_right", defArgs s__law_row_right, defBody s__law_row_right, defScope s__law_row_right, [], []⟩
def d__law_right : He.DefD := ⟨("_law_right", none), "_law_right", "_law_right", defArgs s__law_right, defBody s__law_right, defScope s__law_right, [], []⟩
def d_law : He.DefD := ⟨("law", none), "law", "law", defArgs s_law, defBody s_law, defScope s_law, [], []⟩
def fn : List He.DefD := [d_is_integer, d_is_within, d_is_tuple, d_are_rising, d_are_signs, d_is_text_of, d_is_word_of, d_is_class_of, d_are_contexts, d_is_shift_of, d_sign_at, d_fits_ahead, d_fits_behind, d_made_row, d_strike_of, d_stages_in, d_daughter_in, d_is_name, d_is_node, d_shifts_along, d_is_tree_any, d_want_tree, d_want_tree_word, d_leaves_of, d_is_tree, d_leaf_names, d_node_book, d_forms, d__law_pot, d__law_draw, d__law_pick, d__law_class, d__law_shift, d__law_tame, d__law_daughter, d__law_stages, d__law_told, d__law_small, d__law_tree, d__law_along, d__law_leaves, d__law_forms_right, d__law_row_right, d__law_right, d_law]
def fa : List He.Fa := [.glo "is_integer", .glo "is_within", .glo "is_tuple", .glo "are_rising", .glo "are_signs", .glo "is_text_of", .glo "is_word_of", .glo "is_class_of", .glo "are_contexts", .glo "is_shift_of", .glo "sign_at", .glo "fits_ahead", .glo "fits_behind", .glo "made_row", .glo "strike_of", .glo "stages_in", .glo "daughter_in", .glo "is_name", .glo "is_node", .glo "shifts_along", .glo "is_tree_any", .glo "want_tree", .glo "want_tree_word", .glo "leaves_of", .glo "is_tree", .glo "leaf_names", .glo "node_book", .glo "forms", .glo "_law_pot", .glo "_law_draw", .glo "_law_pick", .glo "_law_class", .glo "_law_shift", .glo "_law_tame", .glo "_law_daughter", .glo "_law_stages", .glo "_law_told", .glo "_law_small", .glo "_law_tree", .glo "_law_along", .glo "_law_leaves", .glo "_law_forms_right", .glo "_law_row_right", .glo "_law_right", .glo "law", .free "abs", .free "all", .free "any", .free "bool", .free "divmod", .free "enumerate", .free "int", .free "isinstance", .free "len", .free "list", .free "max", .free "min", .free "range", .free "repr", .free "set", .free "sorted", .free "str", .free "tuple", .free "zip", .str "EDGE" "#", .str "LEFT" "left", .str "LETTERS" "abcdefghijklmnopqrstuvwxyz", .int "MOST_ALONG" 6, .int "MOST_CONTEXTS" 2, .int "MOST_MADE" 2, .int "MOST_NAME" 8, .int "MOST_NODES" 12, .int "MOST_SIGNS" 6, .int "MOST_WORD" 60, .str "ONCE" "once"]
abbrev R : PySem.W.OpenRow := PySem.W.OpenLaw.row PySem.Challenge.rw_elderwords_k81_whole_forms_at_all_nodes
abbrev hk : PySem.W.Hook := He.hookD 4 fa fn
def ob (s : PySem.W.SharedT) : He.AlD := He.obsDG 4 fa fn (HandSHeadRun.getT s)
theorem ob_eq (s : PySem.W.SharedT) : ob s = hk.obs s.abs := He.obsDG_eq (HandSHeadRun.getT_eq s)
def nm0 : List Str := ["is_integer", "is_within", "is_tuple", "are_rising", "TongueError", "InvalidWord", "InvalidNode", "InvalidTree", "LETTERS", "EDGE", "MOST_SIGNS", "MOST_WORD", "are_signs", "is_text_of", "is_word_of", "is_class_of", "ONCE", "LEFT", "MOST_MADE", "MOST_CONTEXTS", "are_contexts", "is_shift_of", "sign_at", "fits_ahead", "fits_behind", "made_row", "strike_of", "stages_in", "daughter_in", "MOST_NODES"]
def nm1 : List Str := ["MOST_NAME", "MOST_ALONG", "is_name", "is_node", "shifts_along", "is_tree_any", "want_tree", "want_tree_word", "leaves_of", "is_tree", "leaf_names", "node_book", "forms", "_law_pot", "_law_draw", "_law_pick", "_law_class", "_law_shift", "_law_tame", "_law_book", "_law_daughter", "_law_stages", "_law_told", "_law_words", "_law_small", "_law_tree", "_law_along", "_law_leaves", "_law_books", "_law_forms_right"]
def nm2 : List Str := ["_law_row_right", "_law_right"]
def nms : List Str := nm0 ++ nm1 ++ nm2
theorem run (w : World) : HandSHeadRun.RunEq R (PySem.W.view R.prog [69]) hk ob 6000 nms w := by
  intro os
  kernel_rfl
end EH

set_option maxHeartbeats 400000
namespace EW
noncomputable section
open PySem PySem.Spec PyProof.Rows L2
structure Fx (mg : Str → Option Value) : Prop where
  b_abs : mg "abs" = none
  b_all : mg "all" = none
  b_any : mg "any" = none
  b_bool : mg "bool" = none
  b_divmod : mg "divmod" = none
  b_enumerate : mg "enumerate" = none
  b_int : mg "int" = none
  b_isinstance : mg "isinstance" = none
  b_len : mg "len" = none
  b_list : mg "list" = none
  b_max : mg "max" = none
  b_min : mg "min" = none
  b_range : mg "range" = none
  b_repr : mg "repr" = none
  b_set : mg "set" = none
  b_sorted : mg "sorted" = none
  b_str : mg "str" = none
  b_tuple : mg "tuple" = none
  b_zip : mg "zip" = none
  c_EDGE : ∃ t, mg "EDGE" = some (.str "#" t)
  c_LEFT : ∃ t, mg "LEFT" = some (.str "left" t)
  c_LETTERS : ∃ t, mg "LETTERS" = some (.str "abcdefghijklmnopqrstuvwxyz" t)
  c_MOST_ALONG : ∃ t, mg "MOST_ALONG" = some (.int 6 t)
  c_MOST_CONTEXTS : ∃ t, mg "MOST_CONTEXTS" = some (.int 2 t)
  c_MOST_MADE : ∃ t, mg "MOST_MADE" = some (.int 2 t)
  c_MOST_NAME : ∃ t, mg "MOST_NAME" = some (.int 8 t)
  c_MOST_NODES : ∃ t, mg "MOST_NODES" = some (.int 12 t)
  c_MOST_SIGNS : ∃ t, mg "MOST_SIGNS" = some (.int 6 t)
  c_MOST_WORD : ∃ t, mg "MOST_WORD" = some (.int 60 t)
  c_ONCE : ∃ t, mg "ONCE" = some (.str "once" t)
def N__law_pot : List Str := ["script", "k", "cell"]
def d__law_pot : DS := sSeq (sAs (dIf (dB (d2 (dNm 1) (dCall (aCons (dNm 0) (aNil)) (k1 hLen)) (kS gLt))) (dCall (aCons (d2 (dNm 0) (dNm 1) kIx) (aNil)) (k1 hAbs)) (d2 (d2 (dK (.int 751)) (dNm 1) (kS gMul)) (dK (.int 901)) kAdd)) (gNm false 2)) (sRet (dLst (aCons (dCall (aCons (dK (.int 0)) (aCons (d2 (dNm 2) (d2 (dK (.int 10)) (dK (.int 18)) (kS gPow)) (kS gSub)) (aNil))) (k2 hMax2)) (aCons (d2 (d2 (dCall (aCons (d2 (d2 (d2 (d2 (dCall (aCons (dNm 2) (aNil)) (k1 hInt)) (dK (.int 2147483549)) (kS gMod)) (dK (.int 40693)) (kS gMul)) (d2 (dK (.int 1871)) (dNm 1) (kS gMul)) kAdd) (dK (.int 901)) kAdd) (aNil)) (k1 hInt)) (dK (.int 2147483563)) (kS gMod)) (dK (.int 1)) kAdd) (aNil)))))
def m__law_pot : Sem := fnSem N__law_pot.length d__law_pot
def N_is_tuple : List Str := ["value", "many"]
def d_is_tuple : DS := sRet (eA (dIsi PyData.isTuple (dNm 0)) (d2 (dCall (aCons (dNm 0) (aNil)) (k1 hLen)) (dNm 1) (kS gEq)))
def m_is_tuple : Sem := fnSem N_is_tuple.length d_is_tuple
def N_are_rising : List Str := ["values", "near", "far"]
def d_are_rising : DS := sRet (dCall (aCons (dLc [1, 2] (iZp (dNm 0) (dSl (dNm 0) (oSo (dK (.int 1))) (oNo))) (cTp 2 (csCons (cNm 1) (csCons (cNm 2) (csNil)))) (tYs) (d2 (dNm 1) (dNm 2) (kS gLt))) (aNil)) (k1 hAll))
def m_are_rising : Sem := fnSem N_are_rising.length d_are_rising
def N_are_signs : List Str := ["value", "sign"]
def d_are_signs : DS := sSeq (sIf (tO (tN (dB (dIsi PyData.isStr (dNm 0)))) (tN (dB (dCh (dK (.int 1)) (dCall (aCons (dNm 0) (aNil)) (k1 hLen)) (dK (.int 6)) gLe gLe)))) (sRet (dK (.bool false))) (sNx)) (sRet (eA (dCall (aCons (dLc [1] (iIt (dNm 0)) (cNm 1) (tYs) (d2 (dNm 1) (dK (.str "abcdefghijklmnopqrstuvwxyz")) (kS gIn))) (aNil)) (k1 hAll)) (dF 1 false m_are_rising (aCons (dNm 0) (aNil)))))
def m_are_signs : Sem := fnSem N_are_signs.length d_are_signs
def N_is_integer : List Str := ["value"]
def d_is_integer : DS := sRet (eA (dIsi PyData.isInt (dNm 0)) (eN (dIsi PyData.isBool (dNm 0))))
def m_is_integer : Sem := fnSem N_is_integer.length d_is_integer
def N_is_within : List Str := ["value", "least", "most"]
def d_is_within : DS := sRet (eA (dF 1 false m_is_integer (aCons (dNm 0) (aNil))) (dCh (dNm 1) (dNm 0) (dNm 2) gLe gLe))
def m_is_within : Sem := fnSem N_is_within.length d_is_within
def N_is_text_of : List Str := ["signs", "value", "most", "sign"]
def d_is_text_of : DS := sRet (eA (dIsi PyData.isStr (dNm 1)) (eA (d2 (dCall (aCons (dNm 1) (aNil)) (k1 hLen)) (dNm 2) (kS gLe)) (dCall (aCons (dLc [3] (iIt (dNm 1)) (cNm 3) (tYs) (d2 (dNm 3) (dNm 0) (kS gIn))) (aNil)) (k1 hAll))))
def m_is_text_of : Sem := fnSem N_is_text_of.length d_is_text_of
def N_is_class_of : List Str := ["signs", "value", "sign"]
def d_is_class_of : DS := sRet (eA (dIsi PyData.isStr (dNm 1)) (eA (d2 (dCall (aCons (dNm 1) (aNil)) (k1 hLen)) (dK (.int 0)) (kS gGt)) (eA (dCall (aCons (dLc [2] (iIt (dNm 1)) (cNm 2) (tYs) (d2 (dNm 2) (dNm 0) (kS gIn))) (aNil)) (k1 hAll)) (dF 1 false m_are_rising (aCons (dNm 1) (aNil))))))
def m_is_class_of : Sem := fnSem N_is_class_of.length d_is_class_of
def N_are_contexts : List Str := ["signs", "value", "one"]
def d_are_contexts : DS := sSeq (sIf (tO (tN (dB (dIsi PyData.isTuple (dNm 1)))) (dB (d2 (dCall (aCons (dNm 1) (aNil)) (k1 hLen)) (dK (.int 2)) (kS gGt)))) (sRet (dK (.bool false))) (sNx)) (sRet (dCall (aCons (dLc [2] (iIt (dNm 1)) (cNm 2) (tYs) (dF 2 false m_is_class_of (aCons (d2 (dK (.str "#")) (dNm 0) kAdd) (aCons (dNm 2) (aNil))))) (aNil)) (k1 hAll)))
def m_are_contexts : Sem := fnSem N_are_contexts.length d_are_contexts
def N_is_shift_of : List Str := ["signs", "value", "one"]
def d_is_shift_of : DS := sSeq (sIf (tO (tN (dB (dF 2 false m_is_tuple (aCons (dNm 1) (aCons (dK (.int 6)) (aNil)))))) (tO (tN (dB (dIsi PyData.isStr (d2 (dNm 1) (dK (.int 0)) kIx)))) (dB (d2 (d2 (dNm 1) (dK (.int 0)) kIx) (dK (.str "shift")) (kS gNe))))) (sRet (dK (.bool false))) (sNx)) (sSeq (sIf (tO (tN (dB (dIsi PyData.isStr (d2 (dNm 1) (dK (.int 1)) kIx)))) (tO (dB (d2 (d2 (dNm 1) (dK (.int 1)) kIx) (dTup (aCons (dK (.str "once")) (aCons (dK (.str "left")) (aNil)))) (kS gNi))) (tN (dB (dF 2 false m_is_class_of (aCons (dNm 0) (aCons (d2 (dNm 1) (dK (.int 2)) kIx) (aNil)))))))) (sRet (dK (.bool false))) (sNx)) (sSeq (sIf (tO (tN (dB (dF 2 false m_is_tuple (aCons (d2 (dNm 1) (dK (.int 3)) kIx) (aCons (dCall (aCons (d2 (dNm 1) (dK (.int 2)) kIx) (aNil)) (k1 hLen)) (aNil)))))) (tN (dB (dCall (aCons (dLc [2] (iIt (d2 (dNm 1) (dK (.int 3)) kIx)) (cNm 2) (tYs) (dF 3 false m_is_text_of (aCons (dNm 0) (aCons (dNm 2) (aCons (dK (.int 2)) (aNil)))))) (aNil)) (k1 hAll))))) (sRet (dK (.bool false))) (sNx)) (sRet (eA (dF 2 false m_are_contexts (aCons (dNm 0) (aCons (d2 (dNm 1) (dK (.int 4)) kIx) (aNil)))) (dF 2 false m_are_contexts (aCons (dNm 0) (aCons (d2 (dNm 1) (dK (.int 5)) kIx) (aNil))))))))
def m_is_shift_of : Sem := fnSem N_is_shift_of.length d_is_shift_of
def N_is_name : List Str := ["value", "sign"]
def d_is_name : DS := sRet (eA (dIsi PyData.isStr (dNm 0)) (eA (dCh (dK (.int 1)) (dCall (aCons (dNm 0) (aNil)) (k1 hLen)) (dK (.int 8)) gLe gLe) (dCall (aCons (dLc [1] (iIt (dNm 0)) (cNm 1) (tYs) (d2 (dNm 1) (dK (.str "abcdefghijklmnopqrstuvwxyz")) (kS gIn))) (aNil)) (k1 hAll))))
def m_is_name : Sem := fnSem N_is_name.length d_is_name
def N_is_node : List Str := ["signs", "number", "value", "one"]
def d_is_node : DS := sSeq (sIf (tO (tN (dB (dF 2 false m_is_tuple (aCons (dNm 2) (aCons (dK (.int 3)) (aNil)))))) (tO (tN (dB (dF 1 false m_is_name (aCons (d2 (dNm 2) (dK (.int 0)) kIx) (aNil))))) (tN (dB (dIsi PyData.isTuple (d2 (dNm 2) (dK (.int 2)) kIx)))))) (sRet (dK (.bool false))) (sNx)) (sSeq (sIf (dB (d2 (dNm 1) (dK (.int 0)) (kS gEq))) (sRet (eA (dF 3 false m_is_within (aCons (d2 (dNm 2) (dK (.int 1)) kIx) (aCons (dNeg (dK (.int 1))) (aCons (dNeg (dK (.int 1))) (aNil))))) (d2 (d2 (dNm 2) (dK (.int 2)) kIx) (dTup (aNil)) (kS gEq)))) (sNx)) (sSeq (sIf (tO (tN (dB (dF 3 false m_is_within (aCons (d2 (dNm 2) (dK (.int 1)) kIx) (aCons (dK (.int 0)) (aCons (d2 (dNm 1) (dK (.int 1)) (kS gSub)) (aNil))))))) (dB (d2 (dCall (aCons (d2 (dNm 2) (dK (.int 2)) kIx) (aNil)) (k1 hLen)) (dK (.int 6)) (kS gGt)))) (sRet (dK (.bool false))) (sNx)) (sRet (dCall (aCons (dLc [3] (iIt (d2 (dNm 2) (dK (.int 2)) kIx)) (cNm 3) (tYs) (dF 2 false m_is_shift_of (aCons (dNm 0) (aCons (dNm 3) (aNil))))) (aNil)) (k1 hAll)))))
def m_is_node : Sem := fnSem N_is_node.length d_is_node
def N_shifts_along : List Str := ["nodes", "found", "name", "parent", "shifts"]
def d_shifts_along : DS := sSeq (sAs (dLst (aNil)) (gNm true 1)) (sSeq (sFor (iIt (dNm 0)) (gTp 3 (gsCons (gNm false 2) (gsCons (gNm false 3) (gsCons (gNm false 4) (gsNil))))) (sEx (dM "list" (dNm 1) (aCons (d2 (dIf (dB (d2 (dNm 3) (dK (.int 0)) (kS gGe))) (d2 (dNm 1) (dNm 3) kIx) (dTup (aNil))) (dNm 4) kAdd) (aNil)) kApp))) (sRet (dNm 1)))
def m_shifts_along : Sem := fnSem N_shifts_along.length d_shifts_along
def N_is_tree_any : List Str := ["value", "nodes", "number", "one"]
def d_is_tree_any : DS := sSeq (sIf (tO (tN (dB (dF 2 false m_is_tuple (aCons (dNm 0) (aCons (dK (.int 3)) (aNil)))))) (tO (tN (dB (dIsi PyData.isStr (d2 (dNm 0) (dK (.int 0)) kIx)))) (tO (dB (d2 (d2 (dNm 0) (dK (.int 0)) kIx) (dK (.str "tree")) (kS gNe))) (tN (dB (dF 1 false m_are_signs (aCons (d2 (dNm 0) (dK (.int 1)) kIx) (aNil)))))))) (sRet (dK (.bool false))) (sNx)) (sSeq (sAs (d2 (dNm 0) (dK (.int 2)) kIx) (gNm false 1)) (sSeq (sIf (tO (tN (dB (dIsi PyData.isTuple (dNm 1)))) (tN (dB (dCh (dK (.int 1)) (dCall (aCons (dNm 1) (aNil)) (k1 hLen)) (dK (.int 12)) gLe gLe)))) (sRet (dK (.bool false))) (sNx)) (sSeq (sIf (tN (dB (dCall (aCons (dLc [2, 3] (iEn (dNm 1)) (cTp 2 (csCons (cNm 2) (csCons (cNm 3) (csNil)))) (tYs) (dF 3 false m_is_node (aCons (d2 (dNm 0) (dK (.int 1)) kIx) (aCons (dNm 2) (aCons (dNm 3) (aNil)))))) (aNil)) (k1 hAll)))) (sRet (dK (.bool false))) (sNx)) (sSeq (sIf (dB (d2 (dLenSet (dLc [3] (iIt (dNm 1)) (cNm 3) (tYs) (d2 (dNm 3) (dK (.int 0)) kIx))) (dCall (aCons (dNm 1) (aNil)) (k1 hLen)) (kS gNe))) (sRet (dK (.bool false))) (sNx)) (sRet (dCall (aCons (dLc [3] (iIt (dF 1 false m_shifts_along (aCons (dNm 1) (aNil)))) (cNm 3) (tYs) (d2 (dCall (aCons (dNm 3) (aNil)) (k1 hLen)) (dK (.int 6)) (kS gLe))) (aNil)) (k1 hAll)))))))
def m_is_tree_any : Sem := fnSem N_is_tree_any.length d_is_tree_any
def N_is_tree : List Str := ["value"]
def d_is_tree : DS := sRet (dF 1 false m_is_tree_any (aCons (dNm 0) (aNil)))
def m_is_tree : Sem := fnSem N_is_tree.length d_is_tree
def N_want_tree : List Str := ["tree"]
def d_want_tree : DS := sIf (tN (dB (dF 1 false m_is_tree_any (aCons (dNm 0) (aNil))))) (sNo) (sNx)
def m_want_tree : Sem := fnSem N_want_tree.length d_want_tree
def N_leaves_of : List Str := ["tree", "parents", "node", "number"]
def d_leaves_of : DS := sSeq (sAs (dLc [2] (iIt (d2 (dNm 0) (dK (.int 2)) kIx)) (cNm 2) (tYs) (d2 (dNm 2) (dK (.int 1)) kIx)) (gNm false 1)) (sRet (dLc [3] (iR1 (dCall (aCons (d2 (dNm 0) (dK (.int 2)) kIx) (aNil)) (k1 hLen))) (cNm 3) (dB (d2 (dNm 3) (dNm 1) (kS gNi))) (dNm 3)))
def m_leaves_of : Sem := fnSem N_leaves_of.length d_leaves_of
def N_leaf_names : List Str := ["tree", "leaf"]
def d_leaf_names : DS := sSeq (sEx (dF 1 false m_want_tree (aCons (dNm 0) (aNil)))) (sRet (dCall (aCons (dLc [1] (iIt (dF 1 false m_leaves_of (aCons (dNm 0) (aNil)))) (cNm 1) (tYs) (d2 (d2 (d2 (dNm 0) (dK (.int 2)) kIx) (dNm 1) kIx) (dK (.int 0)) kIx)) (aNil)) (k1 hSorted)))
def m_leaf_names : Sem := fnSem N_leaf_names.length d_leaf_names
def N_node_book : List Str := ["tree", "node"]
def d_node_book : DS := sSeq (sEx (dF 1 false m_want_tree (aCons (dNm 0) (aNil)))) (sSeq (sIf (tN (dB (dF 3 false m_is_within (aCons (dNm 1) (aCons (dK (.int 0)) (aCons (d2 (dCall (aCons (d2 (dNm 0) (dK (.int 2)) kIx) (aNil)) (k1 hLen)) (dK (.int 1)) (kS gSub)) (aNil))))))) (sNo) (sNx)) (sRet (dTup (aCons (dK (.str "book")) (aCons (d2 (dNm 0) (dK (.int 1)) kIx) (aCons (d2 (dF 1 false m_shifts_along (aCons (d2 (dNm 0) (dK (.int 2)) kIx) (aNil))) (dNm 1) kIx) (aNil)))))))
def m_node_book : Sem := fnSem N_node_book.length d_node_book
def N__law_draw : List Str := ["pot", "many", "digit"]
def d__law_draw : DS := sSeq (sIf (dB (d2 (d2 (dNm 0) (dK (.int 0)) kIx) (dK (.int 0)) (kS gGt))) (sSeq (sAs (dCall (aCons (d2 (dNm 0) (dK (.int 0)) kIx) (aCons (dNm 1) (aNil))) (k2 hDivmod)) (gTp 2 (gsCons (gIx (dNm 0) (dK (.int 0))) (gsCons (gNm false 2) (gsNil))))) (sRet (dNm 2))) (sNx)) (sSeq (sAs (d2 (dCall (aCons (d2 (d2 (d2 (dNm 0) (dK (.int 1)) kIx) (dK (.int 39373)) (kS gMul)) (dK (.int 733)) kAdd) (aNil)) (k1 hInt)) (dK (.int 2147483587)) (kS gMod)) (gIx (dNm 0) (dK (.int 1)))) (sRet (d2 (dCall (aCons (d2 (d2 (dCall (aCons (d2 (d2 (dNm 0) (dK (.int 1)) kIx) (d2 (dNm 0) (dK (.int 1)) kIx) (kS gMul)) (aNil)) (k1 hInt)) (dK (.int 2147483563)) (kS gMod)) (dK (.int 29)) (kS gDiv)) (aNil)) (k1 hInt)) (dNm 1) (kS gMod))))
def m__law_draw : Sem := fnSem N__law_draw.length d__law_draw
def N__law_pick : List Str := ["pot", "some"]
def d__law_pick : DS := sRet (d2 (dNm 1) (dF 2 true m__law_draw (aCons (dNm 0) (aCons (dCall (aCons (dNm 1) (aNil)) (k1 hLen)) (aNil)))) kIx)
def m__law_pick : Sem := fnSem N__law_pick.length d__law_pick
def N__law_class : List Str := ["pot", "signs", "more", "some", "sign"]
def d__law_class : DS := sSeq (sAs (dLc [4] (iIt (d2 (dNm 2) (dNm 1) kAdd)) (cNm 4) (dB (d2 (dF 2 true m__law_draw (aCons (dNm 0) (aCons (dK (.int 2)) (aNil)))) (dK (.int 0)) (kS gEq))) (dNm 4)) (gNm false 3)) (sRet (dIf (dB (d2 (dNm 3) (dLst (aNil)) (kS gNe))) (dM "str" (dK (.str "")) (aCons (dNm 3) (aNil)) kJoin) (dF 2 true m__law_pick (aCons (dNm 0) (aCons (dCall (aCons (dNm 1) (aNil)) (k1 hList)) (aNil))))))
def m__law_class : Sem := fnSem N__law_class.length d__law_class
def N__law_shift : List Str := ["pot", "signs", "focus", "made", "before", "behind", "sign", "turn"]
def d__law_shift : DS := sSeq (sAs (dF 3 true m__law_class (aCons (dNm 0) (aCons (dNm 1) (aCons (dK (.str "")) (aNil))))) (gNm false 2)) (sSeq (sAs (dCall (aCons (dLc [6] (iIt (dNm 2)) (cNm 6) (tYs) (dM "str" (dK (.str "")) (aCons (dLc [7] (iR1 (dF 2 true m__law_pick (aCons (dNm 0) (aCons (dLst (aCons (dK (.int 0)) (aCons (dK (.int 1)) (aCons (dK (.int 1)) (aCons (dK (.int 1)) (aCons (dK (.int 1)) (aCons (dK (.int 2)) (aNil)))))))) (aNil))))) (cNm 7) (tYs) (dF 2 true m__law_pick (aCons (dNm 0) (aCons (dCall (aCons (dNm 1) (aNil)) (k1 hList)) (aNil))))) (aNil)) kJoin)) (aNil)) (k1 hTuple)) (gNm false 3)) (sSeq (sAs (dCall (aCons (dLc [7] (iR1 (dF 2 true m__law_pick (aCons (dNm 0) (aCons (dLst (aCons (dK (.int 0)) (aCons (dK (.int 0)) (aCons (dK (.int 1)) (aCons (dK (.int 1)) (aCons (dIf (dB (d2 (dCall (aCons (dNm 1) (aNil)) (k1 hLen)) (dK (.int 3)) (kS gLt))) (dK (.int 2)) (dK (.int 1))) (aNil))))))) (aNil))))) (cNm 7) (tYs) (dF 3 true m__law_class (aCons (dNm 0) (aCons (dNm 1) (aCons (dK (.str "#")) (aNil)))))) (aNil)) (k1 hTuple)) (gNm false 4)) (sSeq (sAs (dCall (aCons (dLc [7] (iR1 (dF 2 true m__law_pick (aCons (dNm 0) (aCons (dLst (aCons (dK (.int 0)) (aCons (dK (.int 0)) (aCons (dK (.int 1)) (aCons (dK (.int 1)) (aCons (dIf (dB (d2 (dCall (aCons (dNm 1) (aNil)) (k1 hLen)) (dK (.int 3)) (kS gLt))) (dK (.int 2)) (dK (.int 1))) (aNil))))))) (aNil))))) (cNm 7) (tYs) (dF 3 true m__law_class (aCons (dNm 0) (aCons (dNm 1) (aCons (dK (.str "#")) (aNil)))))) (aNil)) (k1 hTuple)) (gNm false 5)) (sRet (dTup (aCons (dK (.str "shift")) (aCons (dF 2 true m__law_pick (aCons (dNm 0) (aCons (dLst (aCons (dK (.str "once")) (aCons (dK (.str "left")) (aNil)))) (aNil)))) (aCons (dNm 2) (aCons (dNm 3) (aCons (dNm 4) (aCons (dNm 5) (aNil))))))))))))
def m__law_shift : Sem := fnSem N__law_shift.length d__law_shift
def N__law_tame : List Str := ["pot", "signs", "way", "left", "order", "sign"]
def d__law_tame : DS := sSeq (sPar [2, 3, 4] [false, true, false] (aCons (dF 2 true m__law_draw (aCons (dNm 0) (aCons (dK (.int 4)) (aNil)))) (aCons (dCall (aCons (dNm 1) (aNil)) (k1 hList)) (aCons (dK (.str "")) (aNil))))) (sSeq (sWh (dB (d2 (dNm 3) (dLst (aNil)) (kS gNe))) (sAs (d2 (dNm 4) (dM "list" (dNm 3) (aCons (dF 2 true m__law_draw (aCons (dNm 0) (aCons (dCall (aCons (dNm 3) (aNil)) (k1 hLen)) (aNil)))) (aNil)) kPopAt) kAdd) (gNm false 4))) (sSeq (sIf (dB (d2 (dNm 2) (dK (.int 0)) (kS gEq))) (sRet (dTup (aCons (dK (.str "shift")) (aCons (dK (.str "once")) (aCons (dNm 1) (aCons (dCall (aCons (dNm 4) (aNil)) (k1 hTuple)) (aCons (dTup (aNil)) (aCons (dTup (aNil)) (aNil))))))))) (sNx)) (sSeq (sIf (dB (d2 (dNm 2) (dK (.int 1)) (kS gEq))) (sRet (dTup (aCons (dK (.str "shift")) (aCons (dK (.str "left")) (aCons (dNm 1) (aCons (dCall (aCons (dLc [5] (iIt (dNm 1)) (cNm 5) (tYs) (d2 (dNm 5) (d2 (dNm 4) (dK (.int 0)) kIx) kAdd)) (aNil)) (k1 hTuple)) (aCons (dTup (aNil)) (aCons (dTup (aNil)) (aNil))))))))) (sNx)) (sSeq (sIf (dB (d2 (dNm 2) (dK (.int 2)) (kS gEq))) (sRet (dTup (aCons (dK (.str "shift")) (aCons (dK (.str "once")) (aCons (dNm 1) (aCons (dCall (aCons (dLc [5] (iIt (dNm 1)) (cNm 5) (tYs) (d2 (d2 (dNm 4) (dK (.int 0)) kIx) (dNm 5) kAdd)) (aNil)) (k1 hTuple)) (aCons (dTup (aCons (dK (.str "#")) (aNil))) (aCons (dTup (aNil)) (aNil))))))))) (sNx)) (sRet (dTup (aCons (dK (.str "shift")) (aCons (dK (.str "once")) (aCons (dNm 1) (aCons (dCall (aCons (dNm 4) (aNil)) (k1 hTuple)) (aCons (dTup (aCons (d2 (dNm 4) (dK (.int 0)) kIx) (aCons (dK (.str "#")) (aNil)))) (aCons (dTup (aNil)) (aNil)))))))))))))
def m__law_tame : Sem := fnSem N__law_tame.length d__law_tame
def N__law_small : List Str := ["pot", "signs"]
def d__law_small : DS := sRet (dIf (dB (d2 (dF 2 true m__law_draw (aCons (dNm 0) (aCons (dK (.int 3)) (aNil)))) (dK (.int 0)) (kS gGt))) (dF 2 true m__law_tame (aCons (dNm 0) (aCons (dNm 1) (aNil)))) (dF 2 true m__law_shift (aCons (dNm 0) (aCons (dNm 1) (aNil)))))
def m__law_small : Sem := fnSem N__law_small.length d__law_small
def N__law_tree : List Str := ["pot", "most", "signs", "number", "stock", "along", "left", "nodes", "name", "parent", "shifts", "turn"]
def d__law_tree : DS := sSeq (sAs (dF 2 true m__law_pick (aCons (dNm 0) (aCons (dLst (aCons (dK (.str "ab")) (aCons (dK (.str "ab")) (aCons (dK (.str "abc")) (aNil))))) (aNil)))) (gNm false 2)) (sSeq (sPar [4, 5] [false, true] (aCons (dLc [11] (iR1 (d2 (dK (.int 1)) (dF 2 true m__law_draw (aCons (dNm 0) (aCons (dK (.int 3)) (aNil)))) kAdd)) (cNm 11) (tYs) (dF 2 true m__law_small (aCons (dNm 0) (aCons (dNm 2) (aNil))))) (aCons (dLst (aCons (dK (.int 0)) (aNil))) (aNil)))) (sSeq (sPar [6, 7] [true, true] (aCons (dLst (aCons (dK (.str "root")) (aCons (dK (.str "west")) (aCons (dK (.str "east")) (aCons (dK (.str "north")) (aCons (dK (.str "south")) (aCons (dK (.str "mid")) (aCons (dK (.str "far")) (aCons (dK (.str "near")) (aCons (dK (.str "old")) (aNil))))))))))) (aCons (dLst (aNil)) (aNil)))) (sSeq (sFor (iR1 (d2 (dK (.int 1)) (dF 2 true m__law_draw (aCons (dNm 0) (aCons (dNm 1) (aNil)))) kAdd)) (gNm false 3) (sSeq (sAs (dM "list" (dNm 6) (aCons (dF 2 true m__law_draw (aCons (dNm 0) (aCons (dCall (aCons (dNm 6) (aNil)) (k1 hLen)) (aNil)))) (aNil)) kPopAt) (gNm false 8)) (sIf (dB (d2 (dNm 3) (dK (.int 0)) (kS gEq))) (sEx (dM "list" (dNm 7) (aCons (dTup (aCons (dNm 8) (aCons (dNeg (dK (.int 1))) (aCons (dTup (aNil)) (aNil))))) (aNil)) kApp)) (sSeq (sAs (dF 2 true m__law_draw (aCons (dNm 0) (aCons (dNm 3) (aNil)))) (gNm false 9)) (sSeq (sAs (dCall (aCons (dLc [11] (iR1 (dCall (aCons (dF 2 true m__law_draw (aCons (dNm 0) (aCons (dK (.int 3)) (aNil)))) (aCons (d2 (dK (.int 4)) (d2 (dNm 5) (dNm 9) kIx) (kS gSub)) (aNil))) (k2 hMin2))) (cNm 11) (tYs) (dF 2 true m__law_pick (aCons (dNm 0) (aCons (dNm 4) (aNil))))) (aNil)) (k1 hTuple)) (gNm false 10)) (sSeq (sEx (dM "list" (dNm 5) (aCons (d2 (d2 (dNm 5) (dNm 9) kIx) (dCall (aCons (dNm 10) (aNil)) (k1 hLen)) kAdd) (aNil)) kApp)) (sEx (dM "list" (dNm 7) (aCons (dTup (aCons (dNm 8) (aCons (dNm 9) (aCons (dNm 10) (aNil))))) (aNil)) kApp)))))))) (sRet (dTup (aCons (dK (.str "tree")) (aCons (dNm 2) (aCons (dCall (aCons (dNm 7) (aNil)) (k1 hTuple)) (aNil)))))))))
def m__law_tree : Sem := fnSem N__law_tree.length d__law_tree
def N__law_along : List Str := ["tree", "number", "found", "here"]
def d__law_along : DS := sSeq (sPar [2, 3] [false, false] (aCons (dTup (aNil)) (aCons (dNm 1) (aNil)))) (sSeq (sWh (dB (d2 (dNm 3) (dK (.int 0)) (kS gGe))) (sPar [2, 3] [false, false] (aCons (d2 (d2 (d2 (d2 (dNm 0) (dK (.int 2)) kIx) (dNm 3) kIx) (dK (.int 2)) kIx) (dNm 2) kAdd) (aCons (d2 (d2 (d2 (dNm 0) (dK (.int 2)) kIx) (dNm 3) kIx) (dK (.int 1)) kIx) (aNil))))) (sRet (dNm 2)))
def m__law_along : Sem := fnSem N__law_along.length d__law_along
def N__law_leaves : List Str := ["tree", "number", "node"]
def d__law_leaves : DS := sRet (dLc [1] (iR1 (dCall (aCons (d2 (dNm 0) (dK (.int 2)) kIx) (aNil)) (k1 hLen))) (cNm 1) (tN (dB (dCall (aCons (dLc [2] (iIt (d2 (dNm 0) (dK (.int 2)) kIx)) (cNm 2) (tYs) (d2 (d2 (dNm 2) (dK (.int 1)) kIx) (dNm 1) (kS gEq))) (aNil)) (k1 hAny)))) (dNm 1))
def m__law_leaves : Sem := fnSem N__law_leaves.length d__law_leaves
def N_sign_at : List Str := ["word", "place"]
def d_sign_at : DS := sRet (dIf (dB (dCh (dK (.int 0)) (dNm 1) (dCall (aCons (dNm 0) (aNil)) (k1 hLen)) gLe gLtI)) (d2 (dNm 0) (dNm 1) kIx) (dK (.str "#")))
def m_sign_at : Sem := fnSem N_sign_at.length d_sign_at
def N_fits_ahead : List Str := ["before", "made", "at", "one"]
def d_fits_ahead : DS := sRet (dCall (aCons (dLc [2, 3] (iEn (dNm 0)) (cTp 2 (csCons (cNm 2) (csCons (cNm 3) (csNil)))) (tYs) (d2 (dF 2 false m_sign_at (aCons (dNm 1) (aCons (d2 (d2 (dCall (aCons (dNm 1) (aNil)) (k1 hLen)) (dCall (aCons (dNm 0) (aNil)) (k1 hLen)) (kS gSub)) (dNm 2) kAdd) (aNil)))) (dNm 3) (kS gIn))) (aNil)) (k1 hAll))
def m_fits_ahead : Sem := fnSem N_fits_ahead.length d_fits_ahead
def N_fits_behind : List Str := ["behind", "word", "place", "at", "one"]
def d_fits_behind : DS := sRet (dCall (aCons (dLc [3, 4] (iEn (dNm 0)) (cTp 2 (csCons (cNm 3) (csCons (cNm 4) (csNil)))) (tYs) (d2 (dF 2 false m_sign_at (aCons (dNm 1) (aCons (d2 (d2 (dNm 2) (dK (.int 1)) kAdd) (dNm 3) kAdd) (aNil)))) (dNm 4) (kS gIn))) (aNil)) (k1 hAll))
def m_fits_behind : Sem := fnSem N_fits_behind.length d_fits_behind
def N_made_row : List Str := ["shift", "word", "row", "made", "places", "place", "sign", "ahead", "string"]
def d_made_row : DS := sSeq (sPar [2, 3, 4] [true, false, true] (aCons (dLst (aNil)) (aCons (dK (.str "")) (aCons (dLst (aNil)) (aNil))))) (sSeq (sFor (iEn (dNm 1)) (gTp 2 (gsCons (gNm false 5) (gsCons (gNm false 6) (gsNil)))) (sSeq (sAs (dIf (dB (d2 (d2 (dNm 0) (dK (.int 1)) kIx) (dK (.str "once")) (kS gEq))) (dSl (dNm 1) (oNo) (oSo (dNm 5))) (dNm 3)) (gNm false 7)) (sSeq (sAs (dNm 6) (gNm false 8)) (sSeq (sIf (tA (dB (d2 (dNm 6) (d2 (dNm 0) (dK (.int 2)) kIx) (kS gIn))) (tA (dB (dF 2 false m_fits_ahead (aCons (d2 (dNm 0) (dK (.int 4)) kIx) (aCons (dNm 7) (aNil))))) (dB (dF 3 false m_fits_behind (aCons (d2 (dNm 0) (dK (.int 5)) kIx) (aCons (dNm 1) (aCons (dNm 5) (aNil)))))))) (sSeq (sAs (d2 (d2 (dNm 0) (dK (.int 3)) kIx) (dM "str" (d2 (dNm 0) (dK (.int 2)) kIx) (aCons (dNm 6) (aNil)) kIndexS) kIx) (gNm false 8)) (sEx (dM "list" (dNm 4) (aCons (dNm 5) (aNil)) kApp))) (sNx)) (sSeq (sEx (dM "list" (dNm 2) (aCons (dNm 8) (aNil)) kApp)) (sAs (d2 (dNm 3) (dNm 8) kAdd) (gNm false 3))))))) (sRet (dTup (aCons (dNm 2) (aCons (dNm 4) (aNil))))))
def m_made_row : Sem := fnSem N_made_row.length d_made_row
def N_strike_of : List Str := ["shift", "word", "row", "places"]
def d_strike_of : DS := sSeq (sAs (dF 2 false m_made_row (aCons (dNm 0) (aCons (dNm 1) (aNil)))) (gTp 2 (gsCons (gNm false 2) (gsCons (gNm false 3) (gsNil))))) (sRet (dTup (aCons (dM "str" (dK (.str "")) (aCons (dNm 2) (aNil)) kJoin) (aCons (dNm 3) (aNil)))))
def m_strike_of : Sem := fnSem N_strike_of.length d_strike_of
def N_stages_in : List Str := ["book", "word", "found", "shift"]
def d_stages_in : DS := sSeq (sAs (dLst (aCons (dNm 1) (aNil))) (gNm true 2)) (sSeq (sFor (iIt (d2 (dNm 0) (dK (.int 2)) kIx)) (gNm false 3) (sEx (dM "list" (dNm 2) (aCons (d2 (dF 2 false m_strike_of (aCons (dNm 3) (aCons (d2 (dNm 2) (dNeg (dK (.int 1))) kIx) (aNil)))) (dK (.int 0)) kIx) (aNil)) kApp))) (sRet (dNm 2)))
def m_stages_in : Sem := fnSem N_stages_in.length d_stages_in
def N_daughter_in : List Str := ["book", "word"]
def d_daughter_in : DS := sRet (d2 (dF 2 false m_stages_in (aCons (dNm 0) (aCons (dNm 1) (aNil)))) (dNeg (dK (.int 1))) kIx)
def m_daughter_in : Sem := fnSem N_daughter_in.length d_daughter_in
def N_is_word_of : List Str := ["signs", "value"]
def d_is_word_of : DS := sRet (dF 3 false m_is_text_of (aCons (dNm 0) (aCons (dNm 1) (aCons (dK (.int 60)) (aNil)))))
def m_is_word_of : Sem := fnSem N_is_word_of.length d_is_word_of
def N_want_tree_word : List Str := ["tree", "word"]
def d_want_tree_word : DS := sIf (tN (dB (dF 2 false m_is_word_of (aCons (d2 (dNm 0) (dK (.int 1)) kIx) (aCons (dNm 1) (aNil)))))) (sNo) (sNx)
def m_want_tree_word : Sem := fnSem N_want_tree_word.length d_want_tree_word
def N_forms : List Str := ["tree", "word", "along", "node", "shifts"]
def d_forms : DS := sSeq (sEx (dF 1 false m_want_tree (aCons (dNm 0) (aNil)))) (sSeq (sEx (dF 2 false m_want_tree_word (aCons (dNm 0) (aCons (dNm 1) (aNil))))) (sSeq (sAs (dF 1 false m_shifts_along (aCons (d2 (dNm 0) (dK (.int 2)) kIx) (aNil))) (gNm false 2)) (sRet (dLc [3, 4] (iZp (d2 (dNm 0) (dK (.int 2)) kIx) (dNm 2)) (cTp 2 (csCons (cNm 3) (csCons (cNm 4) (csNil)))) (tYs) (dTup (aCons (d2 (dNm 3) (dK (.int 0)) kIx) (aCons (dF 2 false m_daughter_in (aCons (dTup (aCons (dK (.str "book")) (aCons (d2 (dNm 0) (dK (.int 1)) kIx) (aCons (dNm 4) (aNil))))) (aCons (dNm 1) (aNil)))) (aNil))))))))
def m_forms : Sem := fnSem N_forms.length d_forms
def N__law_daughter : List Str := ["shift", "word", "way", "focus", "strings", "before", "behind", "made", "at", "ahead", "after", "is_ahead", "is_behind", "context", "sign"]
def d__law_daughter : DS := sSeq (sAs (dSl (dNm 0) (oSo (dK (.int 1))) (oNo)) (gTp 5 (gsCons (gNm false 2) (gsCons (gNm false 3) (gsCons (gNm false 4) (gsCons (gNm false 5) (gsCons (gNm false 6) (gsNil)))))))) (sSeq (sPar [7, 8] [false, false] (aCons (dK (.str "")) (aCons (dK (.int 0)) (aNil)))) (sSeq (sWh (dB (d2 (dNm 8) (dCall (aCons (dNm 1) (aNil)) (k1 hLen)) (kS gLt))) (sSeq (sAs (d2 (dK (.str "##")) (dIf (dB (d2 (dNm 2) (dK (.str "once")) (kS gEq))) (dSl (dNm 1) (oNo) (oSo (dNm 8))) (dNm 7)) kAdd) (gNm false 9)) (sSeq (sAs (d2 (dSl (dNm 1) (oSo (d2 (dNm 8) (dK (.int 1)) kAdd)) (oNo)) (dK (.str "##")) kAdd) (gNm false 10)) (sSeq (sAs (dCall (aCons (dLc [13, 14] (iZp (dRev (dNm 5)) (dRev (dNm 9))) (cTp 2 (csCons (cNm 13) (csCons (cNm 14) (csNil)))) (tYs) (d2 (dNm 14) (dNm 13) (kS gIn))) (aNil)) (k1 hAll)) (gNm false 11)) (sSeq (sAs (dCall (aCons (dLc [13, 14] (iZp (dNm 6) (dNm 10)) (cTp 2 (csCons (cNm 13) (csCons (cNm 14) (csNil)))) (tYs) (d2 (dNm 14) (dNm 13) (kS gIn))) (aNil)) (k1 hAll)) (gNm false 12)) (sSeq (sIf (tA (dB (d2 (d2 (dNm 1) (dNm 8) kIx) (dNm 3) (kS gIn))) (tA (dB (dNm 11)) (dB (dNm 12)))) (sAs (d2 (dNm 7) (d2 (dNm 4) (dM "str" (dNm 3) (aCons (d2 (dNm 1) (dNm 8) kIx) (aNil)) kIndexS) kIx) kAdd) (gNm false 7)) (sAs (d2 (dNm 7) (d2 (dNm 1) (dNm 8) kIx) kAdd) (gNm false 7))) (sAs (d2 (dNm 8) (dK (.int 1)) kAdd) (gNm false 8)))))))) (sRet (dNm 7))))
def m__law_daughter : Sem := fnSem N__law_daughter.length d__law_daughter
def N__law_stages : List Str := ["book", "word", "found", "shift"]
def d__law_stages : DS := sSeq (sAs (dLst (aCons (dNm 1) (aNil))) (gNm true 2)) (sSeq (sFor (iIt (d2 (dNm 0) (dK (.int 2)) kIx)) (gNm false 3) (sEx (dM "list" (dNm 2) (aCons (dF 2 false m__law_daughter (aCons (dNm 3) (aCons (d2 (dNm 2) (dNeg (dK (.int 1))) kIx) (aNil)))) (aNil)) kApp))) (sRet (dNm 2)))
def m__law_stages : Sem := fnSem N__law_stages.length d__law_stages
def N__law_told : List Str := ["book", "word"]
def d__law_told : DS := sRet (d2 (dF 2 false m__law_stages (aCons (dNm 0) (aCons (dNm 1) (aNil)))) (dNeg (dK (.int 1))) kIx)
def m__law_told : Sem := fnSem N__law_told.length d__law_told
def N__law_forms_right : List Str := ["tree", "word", "due", "told", "name", "form", "other", "parent", "shifts", "number", "node"]
def d__law_forms_right : DS := sSeq (sAs (dLc [9, 10] (iEn (d2 (dNm 0) (dK (.int 2)) kIx)) (cTp 2 (csCons (cNm 9) (csCons (cNm 10) (csNil)))) (tYs) (dTup (aCons (d2 (dNm 10) (dK (.int 0)) kIx) (aCons (dF 2 false m__law_told (aCons (dTup (aCons (dK (.str "book")) (aCons (d2 (dNm 0) (dK (.int 1)) kIx) (aCons (dF 2 false m__law_along (aCons (dNm 0) (aCons (dNm 9) (aNil)))) (aNil))))) (aCons (dNm 1) (aNil)))) (aNil))))) (gNm false 2)) (sSeq (sAs (dF 2 false m_forms (aCons (dNm 0) (aCons (dNm 1) (aNil)))) (gNm true 3)) (sSeq (sIf (dB (d2 (dReprL (aCons (dNm 3) (aCons (dFK 2 2 [1, 0] m_forms (aCons (dNm 1) (aCons (dNm 0) (aNil)))) (aNil)))) (dReprL (aCons (dNm 2) (aCons (dNm 2) (aNil)))) (kS gNe))) (sRet (dK (.bool false))) (sNx)) (sSeq (sForZB 3 (d2 (dNm 0) (dK (.int 2)) kIx) (gTp 2 (gsCons (gTp 2 (gsCons (gNm false 4) (gsCons (gNm false 5) (gsNil)))) (gsCons (gTp 3 (gsCons (gNm false 6) (gsCons (gNm false 7) (gsCons (gNm false 8) (gsNil))))) (gsNil)))) (sIf (dB (d2 (dNm 5) (dF 2 false m__law_told (aCons (dTup (aCons (dK (.str "book")) (aCons (d2 (dNm 0) (dK (.int 1)) kIx) (aCons (dNm 8) (aNil))))) (aCons (dIf (dB (d2 (dNm 7) (dK (.int 0)) (kS gGe))) (d2 (d2 (dNm 3) (dNm 7) kIx) (dK (.int 1)) kIx) (dNm 1)) (aNil)))) (kS gNe))) (sRet (dK (.bool false))) (sNx))) (sSeq (sEx (dM "list" (dNm 3) (aCons (dK .none) (aNil)) kApp)) (sRet (d2 (dCall (aCons (dF 2 false m_forms (aCons (dNm 0) (aCons (dNm 1) (aNil)))) (aNil)) (k1 hRepr)) (dCall (aCons (dNm 2) (aNil)) (k1 hRepr)) (kS gEq)))))))
def m__law_forms_right : Sem := fnSem N__law_forms_right.length d__law_forms_right
def N__law_row_right : List Str := ["pot", "left", "at", "back", "due", "turn", "nodes", "many", "tree", "word", "sign", "one"]
def d__law_row_right : DS := sSeq (sPar [5, 6, 7] [false, true, true] (aCons (dTup (aCons (dK (.str "shift")) (aCons (dK (.str "once")) (aCons (dK (.str "ab")) (aCons (dTup (aCons (dK (.str "b")) (aCons (dK (.str "a")) (aNil)))) (aCons (dTup (aNil)) (aCons (dTup (aNil)) (aNil)))))))) (aCons (dLst (aCons (dTup (aCons (dK (.str "x")) (aCons (dNeg (dK (.int 1))) (aCons (dTup (aNil)) (aNil))))) (aNil))) (aCons (dLst (aNil)) (aNil))))) (sSeq (sAs (dLr (iR2 (dK (.int 1)) (dK (.int 12)))) (gNm true 1)) (sSeq (sWh (dB (d2 (dCall (aCons (dNm 7) (aNil)) (k1 hLen)) (dK (.int 6)) (kS gLt))) (sEx (dM "list" (dNm 7) (aCons (dM "list" (dNm 1) (aCons (dF 2 true m__law_draw (aCons (dNm 0) (aCons (dCall (aCons (dNm 1) (aNil)) (k1 hLen)) (aNil)))) (aNil)) kPopAt) (aNil)) kApp))) (sSeq (sFor (iR2 (dK (.int 1)) (dK (.int 12))) (gNm false 2) (sEx (dM "list" (dNm 6) (aCons (dTup (aCons (d2 (dK (.str "x")) (d2 (dK (.str "abcdefghijkl")) (dNm 2) kIx) kAdd) (aCons (d2 (dNm 2) (dK (.int 1)) (kS gSub)) (aCons (dIf (dB (d2 (dNm 2) (dNm 7) (kS gIn))) (dTup (aCons (dNm 5) (aNil))) (dTup (aNil))) (aNil))))) (aNil)) kApp))) (sSeq (sPar [8, 9] [false, false] (aCons (dTup (aCons (dK (.str "tree")) (aCons (dK (.str "ab")) (aCons (dCall (aCons (dNm 6) (aNil)) (k1 hTuple)) (aNil))))) (aCons (dF 2 true m__law_pick (aCons (dNm 0) (aCons (dLst (aCons (dK (.str "a")) (aCons (dK (.str "ab")) (aCons (d2 (dK (.str "ab")) (dK (.int 30)) kRep) (aNil))))) (aNil)))) (aNil)))) (sSeq (sAs (dM "str" (dK (.str "")) (aCons (dLc [10] (iIt (dNm 9)) (cNm 10) (tYs) (dIf (dB (d2 (dNm 10) (dK (.str "a")) (kS gEq))) (dK (.str "b")) (dK (.str "a")))) (aNil)) kJoin) (gNm false 3)) (sSeq (sAs (dLst (aNil)) (gNm true 4)) (sSeq (sFor (iR1 (dK (.int 12))) (gNm false 2) (sEx (dM "list" (dNm 4) (aCons (dTup (aCons (d2 (d2 (dNm 6) (dNm 2) kIx) (dK (.int 0)) kIx) (aCons (dIf (dB (d2 (d2 (dCall (aCons (dLc [11] (iIt (dNm 7)) (cNm 11) (dB (d2 (dNm 11) (dNm 2) (kS gLe))) (dNm 11)) (aNil)) (k1 hLen)) (dK (.int 2)) (kS gMod)) (dK (.int 1)) (kS gEq))) (dNm 3) (dNm 9)) (aNil)))) (aNil)) kApp))) (sRet (eA (d2 (dF 1 false m_is_tree (aCons (dNm 8) (aNil))) (dK (.bool true)) (kS gIs)) (eA (d2 (dCall (aCons (dF 2 false m_forms (aCons (dNm 8) (aCons (dNm 9) (aNil)))) (aNil)) (k1 hRepr)) (dCall (aCons (dNm 4) (aNil)) (k1 hRepr)) (kS gEq)) (d2 (dF 1 false m_leaf_names (aCons (dNm 8) (aNil))) (dLst (aCons (dK (.str "xl")) (aNil))) (kS gEq))))))))))))
def m__law_row_right : Sem := fnSem N__law_row_right.length d__law_row_right
def N__law_right : List Str := ["pot", "tree", "number", "turn", "shown", "names", "due", "leaf", "place"]
def d__law_right : DS := sSeq (sAs (dF 2 true m__law_tree (aCons (dNm 0) (aCons (dK (.int 8)) (aNil)))) (gNm false 1)) (sSeq (sPar [4, 5] [false, false] (aCons (dCall (aCons (dNm 1) (aNil)) (k1 hRepr)) (aCons (dCall (aCons (dLc [7] (iIt (dF 1 false m__law_leaves (aCons (dNm 1) (aNil)))) (cNm 7) (tYs) (d2 (d2 (d2 (dNm 1) (dK (.int 2)) kIx) (dNm 7) kIx) (dK (.int 0)) kIx)) (aNil)) (k1 hSorted)) (aNil)))) (sSeq (sIf (tO (dB (d2 (dF 1 false m_is_tree (aCons (dNm 1) (aNil))) (dK (.bool true)) (kS gIsNot))) (dB (d2 (dReprL (aCons (dF 1 false m_leaf_names (aCons (dNm 1) (aNil))) (aCons (dFK 1 1 [0] m_leaf_names (aCons (dNm 1) (aNil))) (aNil)))) (dReprL (aCons (dNm 5) (aCons (dNm 5) (aNil)))) (kS gNe)))) (sRet (dK (.bool false))) (sNx)) (sSeq (sFor (iR1 (dCall (aCons (d2 (dNm 1) (dK (.int 2)) kIx) (aNil)) (k1 hLen))) (gNm false 2) (sSeq (sAs (dTup (aCons (dK (.str "book")) (aCons (d2 (dNm 1) (dK (.int 1)) kIx) (aCons (dF 2 false m__law_along (aCons (dNm 1) (aCons (dNm 2) (aNil)))) (aNil))))) (gNm false 6)) (sIf (dB (d2 (dReprL (aCons (dF 2 false m_node_book (aCons (dNm 1) (aCons (dNm 2) (aNil)))) (aCons (dFK 2 2 [1, 0] m_node_book (aCons (dNm 2) (aCons (dNm 1) (aNil)))) (aNil)))) (dReprL (aCons (dNm 6) (aCons (dNm 6) (aNil)))) (kS gNe))) (sRet (dK (.bool false))) (sNx)))) (sSeq (sFor (iR1 (dK (.int 4))) (gNm false 3) (sIf (tN (dB (dF 2 false m__law_forms_right (aCons (dNm 1) (aCons (dM "str" (dK (.str "")) (aCons (dLc [8] (iR1 (dF 2 true m__law_draw (aCons (dNm 0) (aCons (dK (.int 13)) (aNil))))) (cNm 8) (tYs) (dF 2 true m__law_pick (aCons (dNm 0) (aCons (dCall (aCons (d2 (dNm 1) (dK (.int 1)) kIx) (aNil)) (k1 hList)) (aNil))))) (aNil)) kJoin) (aNil)))))) (sRet (dK (.bool false))) (sNx))) (sRet (eA (dF 1 true m__law_row_right (aCons (dNm 0) (aNil))) (d2 (dCall (aCons (dNm 1) (aNil)) (k1 hRepr)) (dNm 4) (kS gEq))))))))
def m__law_right : Sem := fnSem N__law_right.length d__law_right
def N_law : List Str := ["script", "k"]
def d_law : DS := sRet (dCall (aCons (dLc [1] (iR1 (dCall (aCons (dK (.int 1)) (aCons (dCall (aCons (dK (.int 2)) (aCons (dCall (aCons (dNm 0) (aNil)) (k1 hLen)) (aNil))) (k2 hMin2)) (aNil))) (k2 hMax2))) (cNm 1) (tYs) (dF 1 true m__law_right (aCons (dF 2 false m__law_pot (aCons (dNm 0) (aCons (dNm 1) (aNil)))) (aNil)))) (aNil)) (k1 hAll))
def m_law : Sem := fnSem N_law.length d_law
end
end EW

namespace EW
open PySem L2
theorem draw_spec {o : Ob} (many : Int) (ho : PotOk o) (hm : 0 < many) (hm2 : many < 1073741824) :
   ∃ r o', m__law_draw (some o) [.int many] = some (.dat (.int r), some o') ∧ 0 ≤ r ∧ r < many ∧ PotOk o' := by
  obtain ⟨a, b, rfl, ha, hb, hb2⟩ := ho
  unfold m__law_draw d__law_draw N__law_draw
  have hd : 0 < many ∧ many < 1073741824 := ⟨hm, hm2⟩
  by_cases h : 0 < a
  · simp -dsimp only [bnd_some, bnd_none, f_sem, f_rt, f_nx, f_rD, f_rN, f_rS, f_rkO, f_rkD, f_p0, f_p1, f_pk, f_vD, f_vN, f_st0, f_st1, f_call0, f_k0, f_call1, f_c1, f_c2, f_pP, f_pO, f_k1P, f_k1O, f_k2, f_callK, e_nm, e_nmD, e_nmO, e_nmP, e_rdD, e_rdN, e_rdS, e_rkD, e_rkO, e_rkP, e_fzD, e_fzN, e_fzS, e_fkD, e_fkO, e_K, e_aN, e_aC, e_tup, e_lst, e_fzs0, e_fzs1, e_d2, e_kS, e_dB, e_bK, e_tA, e_tO, e_tN, e_eA, e_eO, e_eN, e_if, e_call, e_k1, e_k2, e_isi, e_neg, e_negK, e_ch, g_lt, g_le, g_ge, g_gt, g_ltI, g_sub, g_inS, g_isB, g_isnB, e_add, e_addI, e_ix, e_ixL, e_ixT, e_oN, e_oS, e_soK, e_sl, e_slL, e_slT, e_rev, e_revT, e_revL, h_lenL, h_lenT, h_abs, h_int, h_max, h_min, h_tupL, h_tupT, h_lstL, h_lstT, s_seq, s_nx, s_rt, s_bk, s_ct, s_ret, s_retN, s_nxE, s_bkE, s_if, s_ex, s_as, s_nmF, s_nmT, s_gs0, s_gs1, s_tp, s_tpT, s_ix, s_ixK, s_ixP, s_ixO, s_par, s_ins0, s_ins1, s_inF, s_inT, s_put0, s_put1, e_m, e_ty, e_tyL, e_tyS, e_app, e_appO, e_ext, e_extO, atI_0, atI_1, atI_2, atI_3, atI_4, atI_5, atI_last, PyData.isInt, PyData.isBool, PyData.isStr, PyData.isTuple, PyData.isList, List.map_cons, List.map_nil, List.length_cons, List.length_nil, List.cons_append, List.nil_append, List.replicate, Nat.reduceAdd, Nat.reduceSub, List.getElem?_cons_zero, List.getElem?_cons_succ, List.getElem?_nil, List.set_cons_zero, List.set_cons_succ, Option.bind_some, Option.map_some, Option.bind_none, Option.map_none, Nat.zero_add, Int.reduceLE, Int.reduceLT, Nat.reduceLT, Nat.reduceLeDiff, and_self, and_true, true_and, if_true, if_false, ite_true, ite_false, decide_true, decide_false, ↓reduceIte, Bool.false_eq_true, Bool.not_true, Bool.not_false, List.mem_cons, forall_eq_or_imp, List.not_mem_nil, forall_const, List.all_cons, List.all_nil, Bool.and_true, Bool.and_self, Bool.true_and, h, h_divmod hd, ixN0 (n := 1)]
    exact ⟨_, _, rfl, Int.emod_nonneg _ (by omega), Int.emod_lt_of_pos _ hm, _, _, rfl, Int.ediv_nonneg ha (by omega), hb, hb2⟩
  · have hb' := Int.emod_nonneg (b * 39373 + 733) (show (2147483587 : Int) ≠ 0 by decide)
    have hb3 := Int.emod_lt_of_pos (b * 39373 + 733) (show (0 : Int) < 2147483587 by decide)
    generalize hc : (b * 39373 + 733) % 2147483587 = c at hb' hb3
    simp -dsimp only [bnd_some, bnd_none, f_sem, f_rt, f_nx, f_rD, f_rN, f_rS, f_rkO, f_rkD, f_p0, f_p1, f_pk, f_vD, f_vN, f_st0, f_st1, f_call0, f_k0, f_call1, f_c1, f_c2, f_pP, f_pO, f_k1P, f_k1O, f_k2, f_callK, e_nm, e_nmD, e_nmO, e_nmP, e_rdD, e_rdN, e_rdS, e_rkD, e_rkO, e_rkP, e_fzD, e_fzN, e_fzS, e_fkD, e_fkO, e_K, e_aN, e_aC, e_tup, e_lst, e_fzs0, e_fzs1, e_d2, e_kS, e_dB, e_bK, e_tA, e_tO, e_tN, e_eA, e_eO, e_eN, e_if, e_call, e_k1, e_k2, e_isi, e_neg, e_negK, e_ch, g_lt, g_le, g_ge, g_gt, g_ltI, g_sub, g_inS, g_isB, g_isnB, e_add, e_addI, e_ix, e_ixL, e_ixT, e_oN, e_oS, e_soK, e_sl, e_slL, e_slT, e_rev, e_revT, e_revL, h_lenL, h_lenT, h_abs, h_int, h_max, h_min, h_tupL, h_tupT, h_lstL, h_lstT, s_seq, s_nx, s_rt, s_bk, s_ct, s_ret, s_retN, s_nxE, s_bkE, s_if, s_ex, s_as, s_nmF, s_nmT, s_gs0, s_gs1, s_tp, s_tpT, s_ix, s_ixK, s_ixP, s_ixO, s_par, s_ins0, s_ins1, s_inF, s_inT, s_put0, s_put1, e_m, e_ty, e_tyL, e_tyS, e_app, e_appO, e_ext, e_extO, atI_0, atI_1, atI_2, atI_3, atI_4, atI_5, atI_last, PyData.isInt, PyData.isBool, PyData.isStr, PyData.isTuple, PyData.isList, List.map_cons, List.map_nil, List.length_cons, List.length_nil, List.cons_append, List.nil_append, List.replicate, Nat.reduceAdd, Nat.reduceSub, List.getElem?_cons_zero, List.getElem?_cons_succ, List.getElem?_nil, List.set_cons_zero, List.set_cons_succ, Option.bind_some, Option.map_some, Option.bind_none, Option.map_none, Nat.zero_add, Int.reduceLE, Int.reduceLT, Nat.reduceLT, Nat.reduceLeDiff, and_self, and_true, true_and, if_true, if_false, ite_true, ite_false, decide_true, decide_false, ↓reduceIte, Bool.false_eq_true, Bool.not_true, Bool.not_false, List.mem_cons, forall_eq_or_imp, List.not_mem_nil, forall_const, List.all_cons, List.all_nil, Bool.and_true, Bool.and_self, Bool.true_and, h, ixN1 (n := 0), fun i => @g_mul i 39373 (.inr (by decide)), fun i => @g_mod i 2147483587 (show (0 : Int) < 2147483587 by decide), hc]
    have hcc : cMul c c := .inl (by omega)
    simp -dsimp only [bnd_some, bnd_none, f_sem, f_rt, f_nx, f_rD, f_rN, f_rS, f_rkO, f_rkD, f_p0, f_p1, f_pk, f_vD, f_vN, f_st0, f_st1, f_call0, f_k0, f_call1, f_c1, f_c2, f_pP, f_pO, f_k1P, f_k1O, f_k2, f_callK, e_nm, e_nmD, e_nmO, e_nmP, e_rdD, e_rdN, e_rdS, e_rkD, e_rkO, e_rkP, e_fzD, e_fzN, e_fzS, e_fkD, e_fkO, e_K, e_aN, e_aC, e_tup, e_lst, e_fzs0, e_fzs1, e_d2, e_kS, e_dB, e_bK, e_tA, e_tO, e_tN, e_eA, e_eO, e_eN, e_if, e_call, e_k1, e_k2, e_isi, e_neg, e_negK, e_ch, g_lt, g_le, g_ge, g_gt, g_ltI, g_sub, g_inS, g_isB, g_isnB, e_add, e_addI, e_ix, e_ixL, e_ixT, e_oN, e_oS, e_soK, e_sl, e_slL, e_slT, e_rev, e_revT, e_revL, h_lenL, h_lenT, h_abs, h_int, h_max, h_min, h_tupL, h_tupT, h_lstL, h_lstT, s_seq, s_nx, s_rt, s_bk, s_ct, s_ret, s_retN, s_nxE, s_bkE, s_if, s_ex, s_as, s_nmF, s_nmT, s_gs0, s_gs1, s_tp, s_tpT, s_ix, s_ixK, s_ixP, s_ixO, s_par, s_ins0, s_ins1, s_inF, s_inT, s_put0, s_put1, e_m, e_ty, e_tyL, e_tyS, e_app, e_appO, e_ext, e_extO, atI_0, atI_1, atI_2, atI_3, atI_4, atI_5, atI_last, PyData.isInt, PyData.isBool, PyData.isStr, PyData.isTuple, PyData.isList, List.map_cons, List.map_nil, List.length_cons, List.length_nil, List.cons_append, List.nil_append, List.replicate, Nat.reduceAdd, Nat.reduceSub, List.getElem?_cons_zero, List.getElem?_cons_succ, List.getElem?_nil, List.set_cons_zero, List.set_cons_succ, Option.bind_some, Option.map_some, Option.bind_none, Option.map_none, Nat.zero_add, Int.reduceLE, Int.reduceLT, Nat.reduceLT, Nat.reduceLeDiff, and_self, and_true, true_and, if_true, if_false, ite_true, ite_false, decide_true, decide_false, ↓reduceIte, Bool.false_eq_true, Bool.not_true, Bool.not_false, List.mem_cons, forall_eq_or_imp, List.not_mem_nil, forall_const, List.all_cons, List.all_nil, Bool.and_true, Bool.and_self, Bool.true_and, g_mul hcc, fun i => @g_mod i 2147483563 (show (0 : Int) < 2147483563 by decide), fun i => @g_div i 29 (show (0 : Int) < 29 ∧ (29 : Int) < 1073741824 by decide), fun i => @g_mod i many hm]
    exact ⟨_, _, rfl, Int.emod_nonneg _ (by omega), Int.emod_lt_of_pos _ hm, _, _, rfl, ha, hb', by omega⟩
theorem pick_spec {o : Ob} {ds : List D} (ho : PotOk o) (hn : ds ≠ []) (hl : ds.length < 1000000000) : ∃ d o', m__law_pick (some o) [.list ds] = some (.dat d, some o') ∧ d ∈ ds ∧ PotOk o' := by
  have h0 : 0 < ds.length := List.length_pos_iff.mpr hn
  obtain ⟨r, o', e, h1, h2, h3⟩ := draw_spec (o := o) (ds.length : Int) ho (by omega) (by omega)
  unfold m__law_pick d__law_pick N__law_pick
  obtain ⟨n, rfl⟩ := Int.eq_ofNat_of_zero_le h1
  have hn : n < ds.length := by omega
  simp -dsimp only [bnd_some, bnd_none, f_sem, f_rt, f_nx, f_rD, f_rN, f_rS, f_rkO, f_rkD, f_p0, f_p1, f_pk, f_vD, f_vN, f_st0, f_st1, f_call0, f_k0, f_call1, f_c1, f_c2, f_pP, f_pO, f_k1P, f_k1O, f_k2, f_callK, e_nm, e_nmD, e_nmO, e_nmP, e_rdD, e_rdN, e_rdS, e_rkD, e_rkO, e_rkP, e_fzD, e_fzN, e_fzS, e_fkD, e_fkO, e_K, e_aN, e_aC, e_tup, e_lst, e_fzs0, e_fzs1, e_d2, e_kS, e_dB, e_bK, e_tA, e_tO, e_tN, e_eA, e_eO, e_eN, e_if, e_call, e_k1, e_k2, e_isi, e_neg, e_negK, e_ch, g_lt, g_le, g_ge, g_gt, g_ltI, g_sub, g_inS, g_isB, g_isnB, e_add, e_addI, e_ix, e_ixL, e_ixT, e_oN, e_oS, e_soK, e_sl, e_slL, e_slT, e_rev, e_revT, e_revL, h_lenL, h_lenT, h_abs, h_int, h_max, h_min, h_tupL, h_tupT, h_lstL, h_lstT, s_seq, s_nx, s_rt, s_bk, s_ct, s_ret, s_retN, s_nxE, s_bkE, s_if, s_ex, s_as, s_nmF, s_nmT, s_gs0, s_gs1, s_tp, s_tpT, s_ix, s_ixK, s_ixP, s_ixO, s_par, s_ins0, s_ins1, s_inF, s_inT, s_put0, s_put1, e_m, e_ty, e_tyL, e_tyS, e_app, e_appO, e_ext, e_extO, atI_0, atI_1, atI_2, atI_3, atI_4, atI_5, atI_last, PyData.isInt, PyData.isBool, PyData.isStr, PyData.isTuple, PyData.isList, List.map_cons, List.map_nil, List.length_cons, List.length_nil, List.cons_append, List.nil_append, List.replicate, Nat.reduceAdd, Nat.reduceSub, List.getElem?_cons_zero, List.getElem?_cons_succ, List.getElem?_nil, List.set_cons_zero, List.set_cons_succ, Option.bind_some, Option.map_some, Option.bind_none, Option.map_none, Nat.zero_add, Int.reduceLE, Int.reduceLT, Nat.reduceLT, Nat.reduceLeDiff, and_self, and_true, true_and, if_true, if_false, ite_true, ite_false, decide_true, decide_false, ↓reduceIte, Bool.false_eq_true, Bool.not_true, Bool.not_false, List.mem_cons, forall_eq_or_imp, List.not_mem_nil, forall_const, List.all_cons, List.all_nil, Bool.and_true, Bool.and_self, Bool.true_and, e, atI_nat, List.getElem?_eq_getElem hn]
  exact ⟨_, _, rfl, List.getElem_mem hn, h3⟩
theorem lit_e : ("#" : Str) = S [35] := rfl
theorem class_spec {o : Ob} {sg mo : List Nat} (ho : PotOk o) (h1 : sg ≠ []) (h2 : sg.length ≤ 100) (h3 : mo.length ≤ 100) : ∃ c o', m__law_class (some o) [.str (S sg), .str (S mo)] = some (.dat (.str (S c)), some o') ∧ c ≠ [] ∧ c.Sublist (mo ++ sg) ∧ PotOk o' := by
  unfold m__law_class d__law_class N__law_class
  have e1 : addK2 [some (.par 0 o), some (.dat (.str (S sg))), some (.dat (.str (S mo))), none, none] (some (.str (S mo))) (some (.str (S sg))) = some (.dat (.str (S (mo ++ sg))), [some (.par 0 o), some (.dat (.str (S sg))), some (.dat (.str (S mo))), none, none]) := by
    rw [e_addS (by rw [S_len, S_len]; omega), S_app]
  obtain ⟨ys, env', h4, h5, h6⟩ := loopC_ex (vs := [4]) (g := cNm 4) (tt := dB (d2 (dF 2 true m__law_draw (aCons (dNm 0) (aCons (dK (.int 2)) (aNil)))) (dK (.int 0)) (kS gEq))) (fe := dNm 4)
    (Inv := fun env => ∃ o, env = [some (.par 0 o), some (.dat (.str (S sg))), some (.dat (.str (S mo))), none, none] ∧ PotOk o) (P := fun d y => y = none ∨ y = some d) (sgs (S (mo ++ sg))) [] [some (.par 0 o), some (.dat (.str (S sg))), some (.dat (.str (S mo))), none, none] (by
      rintro d hd env ⟨o1, rfl, h7⟩
      obtain ⟨r, o2, e2, h8, h9, h10⟩ := draw_spec 2 h7 (by decide) (by decide)
      unfold stepC
      by_cases hr : r = 0
      · refine ⟨some d, _, ?_, .inr rfl, o2, rfl, h10⟩
        simp -dsimp only [bnd_some, bnd_none, f_sem, f_rt, f_nx, f_rD, f_rN, f_rS, f_rkO, f_rkD, f_p0, f_p1, f_pk, f_vD, f_vN, f_st0, f_st1, f_call0, f_k0, f_call1, f_c1, f_c2, f_pP, f_pO, f_k1P, f_k1O, f_k2, f_callK, e_nm, e_nmD, e_nmO, e_nmP, e_rdD, e_rdN, e_rdS, e_rkD, e_rkO, e_rkP, e_fzD, e_fzN, e_fzS, e_fkD, e_fkO, e_K, e_aN, e_aC, e_tup, e_lst, e_fzs0, e_fzs1, e_d2, e_kS, e_dB, e_bK, e_tA, e_tO, e_tN, e_eA, e_eO, e_eN, e_if, e_call, e_k1, e_k2, e_isi, e_neg, e_negK, e_ch, g_lt, g_le, g_ge, g_gt, g_ltI, g_sub, g_inS, g_isB, g_isnB, e_add, e_addI, e_ix, e_ixL, e_ixT, e_oN, e_oS, e_soK, e_sl, e_slL, e_slT, e_rev, e_revT, e_revL, h_lenL, h_lenT, h_abs, h_int, h_max, h_min, h_tupL, h_tupT, h_lstL, h_lstT, s_seq, s_nx, s_rt, s_bk, s_ct, s_ret, s_retN, s_nxE, s_bkE, s_if, s_ex, s_as, s_nmF, s_nmT, s_gs0, s_gs1, s_tp, s_tpT, s_ix, s_ixK, s_ixP, s_ixO, s_par, s_ins0, s_ins1, s_inF, s_inT, s_put0, s_put1, e_m, e_ty, e_tyL, e_tyS, e_app, e_appO, e_ext, e_extO, atI_0, atI_1, atI_2, atI_3, atI_4, atI_5, atI_last, PyData.isInt, PyData.isBool, PyData.isStr, PyData.isTuple, PyData.isList, List.map_cons, List.map_nil, List.length_cons, List.length_nil, List.cons_append, List.nil_append, List.replicate, Nat.reduceAdd, Nat.reduceSub, List.getElem?_cons_zero, List.getElem?_cons_succ, List.getElem?_nil, List.set_cons_zero, List.set_cons_succ, Option.bind_some, Option.map_some, Option.bind_none, Option.map_none, Nat.zero_add, Int.reduceLE, Int.reduceLT, Nat.reduceLT, Nat.reduceLeDiff, and_self, and_true, true_and, if_true, if_false, ite_true, ite_false, decide_true, decide_false, ↓reduceIte, Bool.false_eq_true, Bool.not_true, Bool.not_false, List.mem_cons, forall_eq_or_imp, List.not_mem_nil, forall_const, List.all_cons, List.all_nil, Bool.and_true, Bool.and_self, Bool.true_and, e_cNm, e2, g_eqI, hr, e_wipe0, e_wipe1]
      · refine ⟨none, _, ?_, .inl rfl, o2, rfl, h10⟩
        simp -dsimp only [bnd_some, bnd_none, f_sem, f_rt, f_nx, f_rD, f_rN, f_rS, f_rkO, f_rkD, f_p0, f_p1, f_pk, f_vD, f_vN, f_st0, f_st1, f_call0, f_k0, f_call1, f_c1, f_c2, f_pP, f_pO, f_k1P, f_k1O, f_k2, f_callK, e_nm, e_nmD, e_nmO, e_nmP, e_rdD, e_rdN, e_rdS, e_rkD, e_rkO, e_rkP, e_fzD, e_fzN, e_fzS, e_fkD, e_fkO, e_K, e_aN, e_aC, e_tup, e_lst, e_fzs0, e_fzs1, e_d2, e_kS, e_dB, e_bK, e_tA, e_tO, e_tN, e_eA, e_eO, e_eN, e_if, e_call, e_k1, e_k2, e_isi, e_neg, e_negK, e_ch, g_lt, g_le, g_ge, g_gt, g_ltI, g_sub, g_inS, g_isB, g_isnB, e_add, e_addI, e_ix, e_ixL, e_ixT, e_oN, e_oS, e_soK, e_sl, e_slL, e_slT, e_rev, e_revT, e_revL, h_lenL, h_lenT, h_abs, h_int, h_max, h_min, h_tupL, h_tupT, h_lstL, h_lstT, s_seq, s_nx, s_rt, s_bk, s_ct, s_ret, s_retN, s_nxE, s_bkE, s_if, s_ex, s_as, s_nmF, s_nmT, s_gs0, s_gs1, s_tp, s_tpT, s_ix, s_ixK, s_ixP, s_ixO, s_par, s_ins0, s_ins1, s_inF, s_inT, s_put0, s_put1, e_m, e_ty, e_tyL, e_tyS, e_app, e_appO, e_ext, e_extO, atI_0, atI_1, atI_2, atI_3, atI_4, atI_5, atI_last, PyData.isInt, PyData.isBool, PyData.isStr, PyData.isTuple, PyData.isList, List.map_cons, List.map_nil, List.length_cons, List.length_nil, List.cons_append, List.nil_append, List.replicate, Nat.reduceAdd, Nat.reduceSub, List.getElem?_cons_zero, List.getElem?_cons_succ, List.getElem?_nil, List.set_cons_zero, List.set_cons_succ, Option.bind_some, Option.map_some, Option.bind_none, Option.map_none, Nat.zero_add, Int.reduceLE, Int.reduceLT, Nat.reduceLT, Nat.reduceLeDiff, and_self, and_true, true_and, if_true, if_false, ite_true, ite_false, decide_true, decide_false, ↓reduceIte, Bool.false_eq_true, Bool.not_true, Bool.not_false, List.mem_cons, forall_eq_or_imp, List.not_mem_nil, forall_const, List.all_cons, List.all_nil, Bool.and_true, Bool.and_self, Bool.true_and, e_cNm, e2, g_eqI, hr, e_wipe0, e_wipe1]) ⟨o, rfl, ho⟩ (by rw [S_sgs, List.length_map, List.length_append, List.length_nil]; omega)
  obtain ⟨o1, rfl, h7⟩ := h6
  have key : ∀ (w : List Nat) (ys : List (Option D)), All2 (fun d y => y = none ∨ y = some d) (w.map fun c => .str (S [c])) ys → ∃ c : List Nat, c.Sublist w ∧ ys.filterMap id = c.map fun x => PyData.str (S [x]) := by
    intro w
    induction w with
    | nil => intro ys h; cases h; exact ⟨[], .slnil, rfl⟩
    | cons x w ih =>
      intro ys h
      cases h with
      | cons h t =>
        obtain ⟨c, hc, e⟩ := ih _ t
        rcases h with rfl | rfl
        · exact ⟨c, .cons _ hc, by simpa using e⟩
        · exact ⟨x :: c, .cons_cons _ hc, by simp [e]⟩
  rw [S_sgs] at h5
  obtain ⟨c, hc, ec⟩ := key _ _ h5
  rw [List.nil_append, ec] at h4
  have hlen : (mo ++ sg).length ≤ 200 := by rw [List.length_append]; omega
  have hcl := hc.length_le
  simp -dsimp only [bnd_some, bnd_none, f_sem, f_rt, f_nx, f_rD, f_rN, f_rS, f_rkO, f_rkD, f_p0, f_p1, f_pk, f_vD, f_vN, f_st0, f_st1, f_call0, f_k0, f_call1, f_c1, f_c2, f_pP, f_pO, f_k1P, f_k1O, f_k2, f_callK, e_nm, e_nmD, e_nmO, e_nmP, e_rdD, e_rdN, e_rdS, e_rkD, e_rkO, e_rkP, e_fzD, e_fzN, e_fzS, e_fkD, e_fkO, e_K, e_aN, e_aC, e_tup, e_lst, e_fzs0, e_fzs1, e_d2, e_kS, e_dB, e_bK, e_tA, e_tO, e_tN, e_eA, e_eO, e_eN, e_if, e_call, e_k1, e_k2, e_isi, e_neg, e_negK, e_ch, g_lt, g_le, g_ge, g_gt, g_ltI, g_sub, g_inS, g_isB, g_isnB, e_add, e_addI, e_ix, e_ixL, e_ixT, e_oN, e_oS, e_soK, e_sl, e_slL, e_slT, e_rev, e_revT, e_revL, h_lenL, h_lenT, h_abs, h_int, h_max, h_min, h_tupL, h_tupT, h_lstL, h_lstT, s_seq, s_nx, s_rt, s_bk, s_ct, s_ret, s_retN, s_nxE, s_bkE, s_if, s_ex, s_as, s_nmF, s_nmT, s_gs0, s_gs1, s_tp, s_tpT, s_ix, s_ixK, s_ixP, s_ixO, s_par, s_ins0, s_ins1, s_inF, s_inT, s_put0, s_put1, e_m, e_ty, e_tyL, e_tyS, e_app, e_appO, e_ext, e_extO, atI_0, atI_1, atI_2, atI_3, atI_4, atI_5, atI_last, PyData.isInt, PyData.isBool, PyData.isStr, PyData.isTuple, PyData.isList, List.map_cons, List.map_nil, List.length_cons, List.length_nil, List.cons_append, List.nil_append, List.replicate, Nat.reduceAdd, Nat.reduceSub, List.getElem?_cons_zero, List.getElem?_cons_succ, List.getElem?_nil, List.set_cons_zero, List.set_cons_succ, Option.bind_some, Option.map_some, Option.bind_none, Option.map_none, Nat.zero_add, Int.reduceLE, Int.reduceLT, Nat.reduceLT, Nat.reduceLeDiff, and_self, and_true, true_and, if_true, if_false, ite_true, ite_false, decide_true, decide_false, ↓reduceIte, Bool.false_eq_true, Bool.not_true, Bool.not_false, List.mem_cons, forall_eq_or_imp, List.not_mem_nil, forall_const, List.all_cons, List.all_nil, Bool.and_true, Bool.and_self, Bool.true_and, e_lc, e_iIt, e1, e_itS (show (S (mo ++ sg)).length ≤ 1000000 by rw [S_len]; omega), e_wipe0, e_wipe1, h4, e_rest0, e_rest1, List.getD_cons_zero, List.getD_cons_succ, g_ne0, List.isEmpty_iff, List.map_eq_nil_iff]
  cases c with
  | nil =>
    obtain ⟨d, o2, e3, h8, h9⟩ := pick_spec (o := o1) (ds := sgs (S sg)) h7 (by rw [S_sgs]; simpa using h1) (by rw [S_sgs, List.length_map]; omega)
    simp -dsimp only [bnd_some, bnd_none, f_sem, f_rt, f_nx, f_rD, f_rN, f_rS, f_rkO, f_rkD, f_p0, f_p1, f_pk, f_vD, f_vN, f_st0, f_st1, f_call0, f_k0, f_call1, f_c1, f_c2, f_pP, f_pO, f_k1P, f_k1O, f_k2, f_callK, e_nm, e_nmD, e_nmO, e_nmP, e_rdD, e_rdN, e_rdS, e_rkD, e_rkO, e_rkP, e_fzD, e_fzN, e_fzS, e_fkD, e_fkO, e_K, e_aN, e_aC, e_tup, e_lst, e_fzs0, e_fzs1, e_d2, e_kS, e_dB, e_bK, e_tA, e_tO, e_tN, e_eA, e_eO, e_eN, e_if, e_call, e_k1, e_k2, e_isi, e_neg, e_negK, e_ch, g_lt, g_le, g_ge, g_gt, g_ltI, g_sub, g_inS, g_isB, g_isnB, e_add, e_addI, e_ix, e_ixL, e_ixT, e_oN, e_oS, e_soK, e_sl, e_slL, e_slT, e_rev, e_revT, e_revL, h_lenL, h_lenT, h_abs, h_int, h_max, h_min, h_tupL, h_tupT, h_lstL, h_lstT, s_seq, s_nx, s_rt, s_bk, s_ct, s_ret, s_retN, s_nxE, s_bkE, s_if, s_ex, s_as, s_nmF, s_nmT, s_gs0, s_gs1, s_tp, s_tpT, s_ix, s_ixK, s_ixP, s_ixO, s_par, s_ins0, s_ins1, s_inF, s_inT, s_put0, s_put1, e_m, e_ty, e_tyL, e_tyS, e_app, e_appO, e_ext, e_extO, atI_0, atI_1, atI_2, atI_3, atI_4, atI_5, atI_last, PyData.isInt, PyData.isBool, PyData.isStr, PyData.isTuple, PyData.isList, List.map_cons, List.map_nil, List.length_cons, List.length_nil, List.cons_append, List.nil_append, List.replicate, Nat.reduceAdd, Nat.reduceSub, List.getElem?_cons_zero, List.getElem?_cons_succ, List.getElem?_nil, List.set_cons_zero, List.set_cons_succ, Option.bind_some, Option.map_some, Option.bind_none, Option.map_none, Nat.zero_add, Int.reduceLE, Int.reduceLT, Nat.reduceLT, Nat.reduceLeDiff, and_self, and_true, true_and, if_true, if_false, ite_true, ite_false, decide_true, decide_false, ↓reduceIte, Bool.false_eq_true, Bool.not_true, Bool.not_false, List.mem_cons, forall_eq_or_imp, List.not_mem_nil, forall_const, List.all_cons, List.all_nil, Bool.and_true, Bool.and_self, Bool.true_and, List.isEmpty_nil, h_lstS (show (S sg).length ≤ 1000000 by rw [S_len]; omega), e3]
    rw [S_sgs] at h8
    obtain ⟨x, hx, rfl⟩ := List.mem_map.mp h8
    exact ⟨[x], o2, rfl, by simp, (List.singleton_sublist.mpr hx).trans (List.sublist_append_right _ _), h9⟩
  | cons x c =>
    have hj : ∀ env, kJoin (.dat (.str (Str.ofString ""))) [.dat (.list (PyData.str (S [x]) :: c.map fun x => PyData.str (S [x])))] env = some (.dat (.str (S (x :: c))), env) := fun env => join_1 (c := x :: c) rfl (by omega)
    simp -dsimp only [bnd_some, bnd_none, f_sem, f_rt, f_nx, f_rD, f_rN, f_rS, f_rkO, f_rkD, f_p0, f_p1, f_pk, f_vD, f_vN, f_st0, f_st1, f_call0, f_k0, f_call1, f_c1, f_c2, f_pP, f_pO, f_k1P, f_k1O, f_k2, f_callK, e_nm, e_nmD, e_nmO, e_nmP, e_rdD, e_rdN, e_rdS, e_rkD, e_rkO, e_rkP, e_fzD, e_fzN, e_fzS, e_fkD, e_fkO, e_K, e_aN, e_aC, e_tup, e_lst, e_fzs0, e_fzs1, e_d2, e_kS, e_dB, e_bK, e_tA, e_tO, e_tN, e_eA, e_eO, e_eN, e_if, e_call, e_k1, e_k2, e_isi, e_neg, e_negK, e_ch, g_lt, g_le, g_ge, g_gt, g_ltI, g_sub, g_inS, g_isB, g_isnB, e_add, e_addI, e_ix, e_ixL, e_ixT, e_oN, e_oS, e_soK, e_sl, e_slL, e_slT, e_rev, e_revT, e_revL, h_lenL, h_lenT, h_abs, h_int, h_max, h_min, h_tupL, h_tupT, h_lstL, h_lstT, s_seq, s_nx, s_rt, s_bk, s_ct, s_ret, s_retN, s_nxE, s_bkE, s_if, s_ex, s_as, s_nmF, s_nmT, s_gs0, s_gs1, s_tp, s_tpT, s_ix, s_ixK, s_ixP, s_ixO, s_par, s_ins0, s_ins1, s_inF, s_inT, s_put0, s_put1, e_m, e_ty, e_tyL, e_tyS, e_app, e_appO, e_ext, e_extO, atI_0, atI_1, atI_2, atI_3, atI_4, atI_5, atI_last, PyData.isInt, PyData.isBool, PyData.isStr, PyData.isTuple, PyData.isList, List.map_cons, List.map_nil, List.length_cons, List.length_nil, List.cons_append, List.nil_append, List.replicate, Nat.reduceAdd, Nat.reduceSub, List.getElem?_cons_zero, List.getElem?_cons_succ, List.getElem?_nil, List.set_cons_zero, List.set_cons_succ, Option.bind_some, Option.map_some, Option.bind_none, Option.map_none, Nat.zero_add, Int.reduceLE, Int.reduceLT, Nat.reduceLT, Nat.reduceLeDiff, and_self, and_true, true_and, if_true, if_false, ite_true, ite_false, decide_true, decide_false, ↓reduceIte, Bool.false_eq_true, Bool.not_true, Bool.not_false, List.mem_cons, forall_eq_or_imp, List.not_mem_nil, forall_const, List.all_cons, List.all_nil, Bool.and_true, Bool.and_self, Bool.true_and, List.isEmpty_cons, hj]
    exact ⟨_, _, rfl, by simp, hc, h7⟩
/-! ### shifts -/
/-- a shift as data -/
def shD (way : String) (f : List Nat) (ms : List (List Nat)) (b h : List (List Nat)) : D :=
  .tuple [.str (Str.ofString "shift"), .str (Str.ofString way), .str (S f), .tuple (ms.map fun w => .str (S w)), .tuple (b.map fun w => .str (S w)), .tuple (h.map fun w => .str (S w))]
structure ShOk (sg : List Nat) (way : String) (f : List Nat) (ms b h : List (List Nat)) : Prop where
  way : way = "once" ∨ way = "left"
  fn : f ≠ []
  fs : f.Sublist sg
  ml : ms.length = f.length
  mo : ∀ w ∈ ms, w.length ≤ 2 ∧ ∀ x ∈ w, x ∈ sg
  bl : b.length ≤ 2
  bo : ∀ w ∈ b, w ≠ [] ∧ w.Sublist (35 :: sg)
  hl : h.length ≤ 2
  ho : ∀ w ∈ h, w ≠ [] ∧ w.Sublist (35 :: sg)
def IsSh (sg : List Nat) (d : D) : Prop := ∃ way f ms b h, d = shD way f ms b h ∧ ShOk sg way f ms b h
def Sg (sg : List Nat) : Prop := sg = [97, 98] ∨ sg = [97, 98, 99]
theorem Sg.len {sg : List Nat} (h : Sg sg) : sg ≠ [] ∧ sg.length ≤ 3 := by rcases h with rfl | rfl <;> simp
/-- a comprehension over a drawn range, each item by a call -/
theorem range_ex {vs : List Nat} {g : DC} {fe : DE} {Inv : Env → Prop} {P : D → Prop} {n : Nat} (env : Env) (h : ∀ d env, Inv env → ∃ v env', stepC vs g tYs fe d env = some (some v, env') ∧ P v ∧ Inv env') (hi : Inv env) (hn : n ≤ 1000) :
    ∃ out env', loopC vs g tYs fe (rngD 0 n) [] env = some (out, env') ∧ out.length = n ∧ (∀ v ∈ out, P v) ∧ Inv env' := by
  obtain ⟨ys, env', h1, h2, h3⟩ := loopC_ex (vs := vs) (g := g) (tt := tYs) (fe := fe) (Inv := Inv) (P := fun _ y => ∃ v, y = some v ∧ P v) (rngD 0 n) [] env (fun d _ env hi => by
    obtain ⟨v, env', a, b, c⟩ := h d env hi
    exact ⟨_, _, a, ⟨v, rfl, b⟩, c⟩) hi (by simp [rngD]; omega)
  have hl : (rngD 0 n).length = n := by simp [rngD]
  have key : ∀ (ds : List D) (ys : List (Option D)), All2 (fun _ y => ∃ v, y = some v ∧ P v) ds ys → (ys.filterMap id).length = ds.length ∧ ∀ v ∈ ys.filterMap id, P v := by
    intro ds
    induction ds with
    | nil => intro ys h; cases h; simp
    | cons d ds ih =>
      intro ys h
      cases h with
      | cons h t =>
        obtain ⟨v, rfl, hv⟩ := h
        obtain ⟨a, b⟩ := ih _ t
        simp [a, hv]
        simpa using b
  obtain ⟨a, b⟩ := key _ _ h2
  exact ⟨_, env', by simpa using h1, a.trans hl, b, h3⟩
end EW

namespace EW
open PySem L2
abbrev xPick (l : DE) : DE := dF 2 true m__law_pick (aCons (dNm 0) (aCons l (aNil)))
abbrev xSg : DE := dCall (aCons (dNm 1) (aNil)) (k1 hList)
def xTx : DE := dM "str" (dK (.str "")) (aCons (dLc [7] (iR1 (xPick (dLst (aCons (dK (.int 0)) (aCons (dK (.int 1)) (aCons (dK (.int 1)) (aCons (dK (.int 1)) (aCons (dK (.int 1)) (aCons (dK (.int 2)) (aNil)))))))))) (cNm 7) (tYs) (xPick xSg)) (aNil)) kJoin
abbrev shE (o : Ob) (sg f : List Nat) (a b c d : Option Cell) : Env := [some (.par 0 o), some (.dat (.str (S sg))), some (.dat (.str (S f))), a, b, c, d, none]
theorem mem_sgs {sg : List Nat} {d : D} (h : d ∈ sgs (S sg)) : ∃ x ∈ sg, d = .str (S [x]) := by
  rw [S_sgs] at h
  obtain ⟨x, hx, rfl⟩ := List.mem_map.mp h
  exact ⟨x, hx, rfl⟩
theorem picks_spec {o : Ob} {sg : List Nat} (hs : Sg sg) (ho : PotOk o) : ∃ x o', m__law_pick (some o) [.list (sgs (S sg))] = some (.dat (.str (S [x])), some o') ∧ x ∈ sg ∧ PotOk o' := by
  obtain ⟨d, o', e, h1, h2⟩ := pick_spec (o := o) (ds := sgs (S sg)) ho (by rw [S_sgs]; simpa using hs.len.1) (by rw [S_sgs, List.length_map]; have := hs.len.2; omega)
  obtain ⟨x, hx, rfl⟩ := mem_sgs h1
  exact ⟨x, o', e, hx, h2⟩
theorem strs_of {out : List D} {P : List Nat → Prop} (h : ∀ v ∈ out, ∃ w, v = .str (S w) ∧ P w) : ∃ ws : List (List Nat), out = ws.map (fun w => PyData.str (S w)) ∧ ∀ w ∈ ws, P w := by
  induction out with
  | nil => exact ⟨[], rfl, fun _ h => by simp at h⟩
  | cons v out ih =>
    obtain ⟨ws, e, hw⟩ := ih fun v hv => h v (List.mem_cons_of_mem _ hv)
    obtain ⟨w, rfl, pw⟩ := h v List.mem_cons_self
    exact ⟨w :: ws, by rw [e]; rfl, fun u hu => (List.mem_cons.mp hu).elim (fun e => e ▸ pw) fun hu => hw u hu⟩
theorem sg_list {sg : List Nat} (hs : Sg sg) (env : Env) : hList (.str (S sg)) env = some (.new (.l (sgs (S sg))), env) := h_lstS (by rw [S_len]; have := hs.len.2; omega)
theorem tx_spec {o : Ob} {sg f : List Nat} {d : Option Cell} (hs : Sg sg) (ho : PotOk o) : ∃ w o', xTx (shE o sg f none none none d) = some (.dat (.str (S w)), shE o' sg f none none none d) ∧ w.length ≤ 2 ∧ (∀ x ∈ w, x ∈ sg) ∧ PotOk o' := by
  obtain ⟨dn, o1, e1, h1, h2⟩ := pick_spec (o := o) (ds := [.int 0, .int 1, .int 1, .int 1, .int 1, .int 2]) ho (by simp) (by simp)
  obtain ⟨n, rfl, hn⟩ : ∃ n : Nat, dn = .int n ∧ n ≤ 2 := by
    simp at h1
    rcases h1 with rfl | rfl | rfl
    · exact ⟨0, rfl, by omega⟩
    · exact ⟨1, rfl, by omega⟩
    · exact ⟨2, rfl, by omega⟩
  obtain ⟨out, env', e2, hl, hP, o2, rfl, h3⟩ := range_ex (vs := [7]) (g := cNm 7) (fe := xPick xSg) (Inv := fun env => ∃ o, env = shE o sg f none none none d ∧ PotOk o) (P := fun v => ∃ x ∈ sg, v = .str (S [x])) (n := n) (shE o1 sg f none none none d) (by
    rintro dd env ⟨o3, rfl, h4⟩
    obtain ⟨x, o4, e3, hx, h5⟩ := picks_spec hs h4
    refine ⟨_, _, ?_, ⟨x, hx, rfl⟩, o4, rfl, h5⟩
    unfold stepC
    simp -dsimp only [bnd_some, bnd_none, f_sem, f_rt, f_nx, f_rD, f_rN, f_rS, f_rkO, f_rkD, f_p0, f_p1, f_pk, f_vD, f_vN, f_st0, f_st1, f_call0, f_k0, f_call1, f_c1, f_c2, f_pP, f_pO, f_k1P, f_k1O, f_k2, f_callK, e_nm, e_nmD, e_nmO, e_nmP, e_rdD, e_rdN, e_rdS, e_rkD, e_rkO, e_rkP, e_fzD, e_fzN, e_fzS, e_fkD, e_fkO, e_K, e_aN, e_aC, e_tup, e_lst, e_fzs0, e_fzs1, e_d2, e_kS, e_dB, e_bK, e_tA, e_tO, e_tN, e_eA, e_eO, e_eN, e_if, e_call, e_k1, e_k2, e_isi, e_neg, e_negK, e_ch, g_lt, g_le, g_ge, g_gt, g_ltI, g_sub, g_inS, g_isB, g_isnB, e_add, e_addI, e_ix, e_ixL, e_ixT, e_oN, e_oS, e_soK, e_sl, e_slL, e_slT, e_rev, e_revT, e_revL, h_lenL, h_lenT, h_abs, h_int, h_max, h_min, h_tupL, h_tupT, h_lstL, h_lstT, s_seq, s_nx, s_rt, s_bk, s_ct, s_ret, s_retN, s_nxE, s_bkE, s_if, s_ex, s_as, s_nmF, s_nmT, s_gs0, s_gs1, s_tp, s_tpT, s_ix, s_ixK, s_ixP, s_ixO, s_par, s_ins0, s_ins1, s_inF, s_inT, s_put0, s_put1, e_m, e_ty, e_tyL, e_tyS, e_app, e_appO, e_ext, e_extO, atI_0, atI_1, atI_2, atI_3, atI_4, atI_5, atI_last, PyData.isInt, PyData.isBool, PyData.isStr, PyData.isTuple, PyData.isList, List.map_cons, List.map_nil, List.length_cons, List.length_nil, List.cons_append, List.nil_append, List.replicate, Nat.reduceAdd, Nat.reduceSub, List.getElem?_cons_zero, List.getElem?_cons_succ, List.getElem?_nil, List.set_cons_zero, List.set_cons_succ, Option.bind_some, Option.map_some, Option.bind_none, Option.map_none, Nat.zero_add, Int.reduceLE, Int.reduceLT, Nat.reduceLT, Nat.reduceLeDiff, and_self, and_true, true_and, if_true, if_false, ite_true, ite_false, decide_true, decide_false, ↓reduceIte, Bool.false_eq_true, Bool.not_true, Bool.not_false, List.mem_cons, forall_eq_or_imp, List.not_mem_nil, forall_const, List.all_cons, List.all_nil, Bool.and_true, Bool.and_self, Bool.true_and, e_cNm, e_tYs, sg_list hs, e3, e_wipe0, e_wipe1]) ⟨o1, rfl, h2⟩ (by omega)
  have hw : ∃ w : List Nat, out = w.map (fun x => PyData.str (S [x])) ∧ ∀ x ∈ w, x ∈ sg := by
    clear e2 hl
    induction out with
    | nil => exact ⟨[], rfl, fun _ h => by simp at h⟩
    | cons v out ih =>
      obtain ⟨w, e, hw⟩ := ih fun v hv => hP v (List.mem_cons_of_mem _ hv)
      obtain ⟨x, hx, rfl⟩ := hP v List.mem_cons_self
      exact ⟨x :: w, by rw [e]; rfl, fun u hu => (List.mem_cons.mp hu).elim (fun e => e ▸ hx) fun hu => hw u hu⟩
  obtain ⟨w, rfl, hw⟩ := hw
  have hlw : w.length ≤ 2 := by rw [List.length_map] at hl; omega
  refine ⟨w, o2, ?_, hlw, hw, h3⟩
  have hj : ∀ env, kJoin (.dat (.str (Str.ofString ""))) [.new (.l (w.map fun x => PyData.str (S [x])))] env = some (.dat (.str (S w)), env) := fun env => join_1 (c := w) rfl (by omega)
  unfold xTx
  simp -dsimp only [bnd_some, bnd_none, f_sem, f_rt, f_nx, f_rD, f_rN, f_rS, f_rkO, f_rkD, f_p0, f_p1, f_pk, f_vD, f_vN, f_st0, f_st1, f_call0, f_k0, f_call1, f_c1, f_c2, f_pP, f_pO, f_k1P, f_k1O, f_k2, f_callK, e_nm, e_nmD, e_nmO, e_nmP, e_rdD, e_rdN, e_rdS, e_rkD, e_rkO, e_rkP, e_fzD, e_fzN, e_fzS, e_fkD, e_fkO, e_K, e_aN, e_aC, e_tup, e_lst, e_fzs0, e_fzs1, e_d2, e_kS, e_dB, e_bK, e_tA, e_tO, e_tN, e_eA, e_eO, e_eN, e_if, e_call, e_k1, e_k2, e_isi, e_neg, e_negK, e_ch, g_lt, g_le, g_ge, g_gt, g_ltI, g_sub, g_inS, g_isB, g_isnB, e_add, e_addI, e_ix, e_ixL, e_ixT, e_oN, e_oS, e_soK, e_sl, e_slL, e_slT, e_rev, e_revT, e_revL, h_lenL, h_lenT, h_abs, h_int, h_max, h_min, h_tupL, h_tupT, h_lstL, h_lstT, s_seq, s_nx, s_rt, s_bk, s_ct, s_ret, s_retN, s_nxE, s_bkE, s_if, s_ex, s_as, s_nmF, s_nmT, s_gs0, s_gs1, s_tp, s_tpT, s_ix, s_ixK, s_ixP, s_ixO, s_par, s_ins0, s_ins1, s_inF, s_inT, s_put0, s_put1, e_m, e_ty, e_tyL, e_tyS, e_app, e_appO, e_ext, e_extO, atI_0, atI_1, atI_2, atI_3, atI_4, atI_5, atI_last, PyData.isInt, PyData.isBool, PyData.isStr, PyData.isTuple, PyData.isList, List.map_cons, List.map_nil, List.length_cons, List.length_nil, List.cons_append, List.nil_append, List.replicate, Nat.reduceAdd, Nat.reduceSub, List.getElem?_cons_zero, List.getElem?_cons_succ, List.getElem?_nil, List.set_cons_zero, List.set_cons_succ, Option.bind_some, Option.map_some, Option.bind_none, Option.map_none, Nat.zero_add, Int.reduceLE, Int.reduceLT, Nat.reduceLT, Nat.reduceLeDiff, and_self, and_true, true_and, if_true, if_false, ite_true, ite_false, decide_true, decide_false, ↓reduceIte, Bool.false_eq_true, Bool.not_true, Bool.not_false, List.mem_cons, forall_eq_or_imp, List.not_mem_nil, forall_const, List.all_cons, List.all_nil, Bool.and_true, Bool.and_self, Bool.true_and, e1, e_lc, e_iR1, e_r1K (show (-1000000 : Int) ≤ n ∧ (n : Int) ≤ 1000000 by omega), Int.toNat_natCast, e_wipe0, e_wipe1, e2, e_rest0, e_rest1, List.getD_cons_zero, List.getD_cons_succ, hj]
def xCtx : DE := dLc [7] (iR1 (xPick (dLst (aCons (dK (.int 0)) (aCons (dK (.int 0)) (aCons (dK (.int 1)) (aCons (dK (.int 1)) (aCons (dIf (dB (d2 (dCall (aCons (dNm 1) (aNil)) (k1 hLen)) (dK (.int 3)) (kS gLt))) (dK (.int 2)) (dK (.int 1))) (aNil))))))))) (cNm 7) (tYs) (dF 3 true m__law_class (aCons (dNm 0) (aCons (dNm 1) (aCons (dK (.str "#")) (aNil)))))
theorem stepC_of {vs : List Nat} {g : DC} {tt : DT} {fe : DE} {d y : D} {env e1 e2 e3 e4 env' : Env} {v : Val} (h1 : g d env = some e1) (h2 : tt e1 = some (true, e2)) (h3 : fe e2 = some (v, e3)) (h4 : v.frz e3 = some (y, e4)) (h5 : wipeE e4 vs = env') : stepC vs g tt fe d env = some (some y, env') := by
  unfold stepC
  simp only [h1, h2, h3, h4, h5, bnd_some, if_true]
theorem ctx_spec {o : Ob} {sg f : List Nat} {a b c d : Option Cell} (hs : Sg sg) (ho : PotOk o) : ∃ (ws : List (List Nat)) (o' : Ob), xCtx (shE o sg f a b c d) = some (.new (.l (ws.map fun w => .str (S w))), shE o' sg f a b c d) ∧ ws.length ≤ 2 ∧ (∀ w ∈ ws, w ≠ [] ∧ w.Sublist (35 :: sg)) ∧ PotOk o' := by
  have hl3 : (if decide (((S sg).length : Int) < 3) = true then (some (Val.dat (.int 2), shE o sg f a b c d)) else some (Val.dat (.int 1), shE o sg f a b c d)) = some (Val.dat (.int (if sg.length < 3 then 2 else 1)), shE o sg f a b c d) := by
    rw [S_len]
    by_cases h : sg.length < 3
    · have : ((sg.length : Nat) : Int) < 3 := by omega
      simp [h, this]
    · have : ¬ ((sg.length : Nat) : Int) < 3 := by omega
      simp [h, this]
  obtain ⟨dn, o1, e1, h1, h2⟩ := pick_spec (o := o) (ds := [.int 0, .int 0, .int 1, .int 1, .int (if sg.length < 3 then 2 else 1)]) ho (by simp) (by simp)
  obtain ⟨n, rfl, hn⟩ : ∃ n : Nat, dn = .int n ∧ n ≤ 2 := by
    simp at h1
    rcases h1 with rfl | rfl | h1
    · exact ⟨0, rfl, by omega⟩
    · exact ⟨1, rfl, by omega⟩
    · split at h1
      · exact ⟨2, h1, by omega⟩
      · exact ⟨1, h1, by omega⟩
  obtain ⟨out, env', e2, hl, hP, o2, rfl, h3⟩ := range_ex (vs := [7]) (g := cNm 7) (fe := dF 3 true m__law_class (aCons (dNm 0) (aCons (dNm 1) (aCons (dK (.str "#")) (aNil))))) (Inv := fun env => ∃ o, env = shE o sg f a b c d ∧ PotOk o) (P := fun v => ∃ w, v = .str (S w) ∧ (w ≠ [] ∧ w.Sublist (35 :: sg))) (n := n) (shE o1 sg f a b c d) (by
    rintro dd env ⟨o3, rfl, h4⟩
    obtain ⟨w, o4, e3, hx, hx2, h5⟩ := class_spec (o := o3) (sg := sg) (mo := [35]) h4 hs.len.1 (by have := hs.len.2; omega) (by simp)
    rw [show S [35] = Str.ofString "#" from rfl] at e3
    refine ⟨_, _, ?_, ⟨w, rfl, hx, hx2⟩, o4, rfl, h5⟩
    unfold stepC
    simp -dsimp only [bnd_some, bnd_none, f_sem, f_rt, f_nx, f_rD, f_rN, f_rS, f_rkO, f_rkD, f_p0, f_p1, f_pk, f_vD, f_vN, f_st0, f_st1, f_call0, f_k0, f_call1, f_c1, f_c2, f_pP, f_pO, f_k1P, f_k1O, f_k2, f_callK, e_nm, e_nmD, e_nmO, e_nmP, e_rdD, e_rdN, e_rdS, e_rkD, e_rkO, e_rkP, e_fzD, e_fzN, e_fzS, e_fkD, e_fkO, e_K, e_aN, e_aC, e_tup, e_lst, e_fzs0, e_fzs1, e_d2, e_kS, e_dB, e_bK, e_tA, e_tO, e_tN, e_eA, e_eO, e_eN, e_if, e_call, e_k1, e_k2, e_isi, e_neg, e_negK, e_ch, g_lt, g_le, g_ge, g_gt, g_ltI, g_sub, g_inS, g_isB, g_isnB, e_add, e_addI, e_ix, e_ixL, e_ixT, e_oN, e_oS, e_soK, e_sl, e_slL, e_slT, e_rev, e_revT, e_revL, h_lenL, h_lenT, h_abs, h_int, h_max, h_min, h_tupL, h_tupT, h_lstL, h_lstT, s_seq, s_nx, s_rt, s_bk, s_ct, s_ret, s_retN, s_nxE, s_bkE, s_if, s_ex, s_as, s_nmF, s_nmT, s_gs0, s_gs1, s_tp, s_tpT, s_ix, s_ixK, s_ixP, s_ixO, s_par, s_ins0, s_ins1, s_inF, s_inT, s_put0, s_put1, e_m, e_ty, e_tyL, e_tyS, e_app, e_appO, e_ext, e_extO, atI_0, atI_1, atI_2, atI_3, atI_4, atI_5, atI_last, PyData.isInt, PyData.isBool, PyData.isStr, PyData.isTuple, PyData.isList, List.map_cons, List.map_nil, List.length_cons, List.length_nil, List.cons_append, List.nil_append, List.replicate, Nat.reduceAdd, Nat.reduceSub, List.getElem?_cons_zero, List.getElem?_cons_succ, List.getElem?_nil, List.set_cons_zero, List.set_cons_succ, Option.bind_some, Option.map_some, Option.bind_none, Option.map_none, Nat.zero_add, Int.reduceLE, Int.reduceLT, Nat.reduceLT, Nat.reduceLeDiff, and_self, and_true, true_and, if_true, if_false, ite_true, ite_false, decide_true, decide_false, ↓reduceIte, Bool.false_eq_true, Bool.not_true, Bool.not_false, List.mem_cons, forall_eq_or_imp, List.not_mem_nil, forall_const, List.all_cons, List.all_nil, Bool.and_true, Bool.and_self, Bool.true_and, e_cNm, e_tYs, e3, e_wipe0, e_wipe1]) ⟨o1, rfl, h2⟩ (by omega)
  obtain ⟨ws, rfl, hw⟩ := strs_of hP
  have hlw : ws.length ≤ 2 := by rw [List.length_map] at hl; omega
  refine ⟨ws, o2, ?_, hlw, hw, h3⟩
  have hls : (S sg).length ≤ 1000000 := by rw [S_len]; have := hs.len.2; omega
  unfold xCtx
  simp -dsimp only [bnd_some, bnd_none, f_sem, f_rt, f_nx, f_rD, f_rN, f_rS, f_rkO, f_rkD, f_p0, f_p1, f_pk, f_vD, f_vN, f_st0, f_st1, f_call0, f_k0, f_call1, f_c1, f_c2, f_pP, f_pO, f_k1P, f_k1O, f_k2, f_callK, e_nm, e_nmD, e_nmO, e_nmP, e_rdD, e_rdN, e_rdS, e_rkD, e_rkO, e_rkP, e_fzD, e_fzN, e_fzS, e_fkD, e_fkO, e_K, e_aN, e_aC, e_tup, e_lst, e_fzs0, e_fzs1, e_d2, e_kS, e_dB, e_bK, e_tA, e_tO, e_tN, e_eA, e_eO, e_eN, e_if, e_call, e_k1, e_k2, e_isi, e_neg, e_negK, e_ch, g_lt, g_le, g_ge, g_gt, g_ltI, g_sub, g_inS, g_isB, g_isnB, e_add, e_addI, e_ix, e_ixL, e_ixT, e_oN, e_oS, e_soK, e_sl, e_slL, e_slT, e_rev, e_revT, e_revL, h_lenL, h_lenT, h_abs, h_int, h_max, h_min, h_tupL, h_tupT, h_lstL, h_lstT, s_seq, s_nx, s_rt, s_bk, s_ct, s_ret, s_retN, s_nxE, s_bkE, s_if, s_ex, s_as, s_nmF, s_nmT, s_gs0, s_gs1, s_tp, s_tpT, s_ix, s_ixK, s_ixP, s_ixO, s_par, s_ins0, s_ins1, s_inF, s_inT, s_put0, s_put1, e_m, e_ty, e_tyL, e_tyS, e_app, e_appO, e_ext, e_extO, atI_0, atI_1, atI_2, atI_3, atI_4, atI_5, atI_last, PyData.isInt, PyData.isBool, PyData.isStr, PyData.isTuple, PyData.isList, List.map_cons, List.map_nil, List.length_cons, List.length_nil, List.cons_append, List.nil_append, List.replicate, Nat.reduceAdd, Nat.reduceSub, List.getElem?_cons_zero, List.getElem?_cons_succ, List.getElem?_nil, List.set_cons_zero, List.set_cons_succ, Option.bind_some, Option.map_some, Option.bind_none, Option.map_none, Nat.zero_add, Int.reduceLE, Int.reduceLT, Nat.reduceLT, Nat.reduceLeDiff, and_self, and_true, true_and, if_true, if_false, ite_true, ite_false, decide_true, decide_false, ↓reduceIte, Bool.false_eq_true, Bool.not_true, Bool.not_false, List.mem_cons, forall_eq_or_imp, List.not_mem_nil, forall_const, List.all_cons, List.all_nil, Bool.and_true, Bool.and_self, Bool.true_and, h_lenS hls, hl3, e1, e_lc, e_iR1, e_r1K (show (-1000000 : Int) ≤ n ∧ (n : Int) ≤ 1000000 by omega), Int.toNat_natCast, e_wipe0, e_wipe1, e2, e_rest0, e_rest1, List.getD_cons_zero, List.getD_cons_succ]
theorem d_shift_eq : d__law_shift = sSeq (sAs (dF 3 true m__law_class (aCons (dNm 0) (aCons (dNm 1) (aCons (dK (.str "")) (aNil))))) (gNm false 2)) (sSeq (sAs (dCall (aCons (dLc [6] (iIt (dNm 2)) (cNm 6) (tYs) (xTx)) (aNil)) (k1 hTuple)) (gNm false 3)) (sSeq (sAs (dCall (aCons (xCtx) (aNil)) (k1 hTuple)) (gNm false 4)) (sSeq (sAs (dCall (aCons (xCtx) (aNil)) (k1 hTuple)) (gNm false 5)) (sRet (dTup (aCons (dK (.str "shift")) (aCons (dF 2 true m__law_pick (aCons (dNm 0) (aCons (dLst (aCons (dK (.str "once")) (aCons (dK (.str "left")) (aNil)))) (aNil)))) (aCons (dNm 2) (aCons (dNm 3) (aCons (dNm 4) (aCons (dNm 5) (aNil)))))))))))) := rfl
theorem shift_spec {o : Ob} {sg : List Nat} (hs : Sg sg) (ho : PotOk o) : ∃ d o', m__law_shift (some o) [.str (S sg)] = some (.dat d, some o') ∧ IsSh sg d ∧ PotOk o' := by
  have hl := hs.len
  obtain ⟨f, o1, e1, hf1, hf2, h1⟩ := class_spec (o := o) (sg := sg) (mo := []) ho hl.1 (by omega) (by simp)
  rw [show S [] = Str.ofString "" from rfl] at e1
  have hfl : f.length ≤ 3 := by have := hf2.length_le; simp at this; omega
  obtain ⟨ys, env', e2, h2, o2, rfl, h3⟩ := loopC_ex (vs := [6]) (g := cNm 6) (tt := tYs) (fe := xTx) (Inv := fun env => ∃ o, env = shE o sg f none none none none ∧ PotOk o) (P := fun _ y => ∃ v, y = some v ∧ ∃ w, v = .str (S w) ∧ (w.length ≤ 2 ∧ ∀ x ∈ w, x ∈ sg)) (sgs (S f)) [] (shE o1 sg f none none none none) (by
    rintro dd hdd env ⟨o3, rfl, h4⟩
    obtain ⟨w, o4, e3, hw1, hw2, h5⟩ := tx_spec (f := f) (d := some (.dat dd)) hs h4
    exact ⟨_, _, stepC_of rfl rfl e3 rfl rfl, ⟨_, rfl, w, rfl, hw1, hw2⟩, o4, rfl, h5⟩) ⟨o1, rfl, h1⟩ (by rw [S_sgs, List.length_map, List.length_nil]; omega)
  have key : ∀ (ds : List D) (ys : List (Option D)), All2 (fun _ y => ∃ v, y = some v ∧ ∃ w, v = .str (S w) ∧ (w.length ≤ 2 ∧ ∀ x ∈ w, x ∈ sg)) ds ys → ∃ ws : List (List Nat), ys.filterMap id = ws.map (fun w => PyData.str (S w)) ∧ ws.length = ds.length ∧ ∀ w ∈ ws, w.length ≤ 2 ∧ ∀ x ∈ w, x ∈ sg := by
    intro ds
    induction ds with
    | nil => intro ys h; cases h; exact ⟨[], rfl, rfl, fun _ h => by simp at h⟩
    | cons d ds ih =>
      intro ys h
      cases h with
      | cons h t =>
        obtain ⟨v, rfl, w, rfl, hw⟩ := h
        obtain ⟨ws, a, b, c⟩ := ih _ t
        exact ⟨w :: ws, by simp [a], by simp [b], fun u hu => (List.mem_cons.mp hu).elim (fun e => e ▸ hw) fun hu => c u hu⟩
  obtain ⟨ms, em, hm1, hm2⟩ := key _ _ h2
  rw [List.nil_append, em] at e2
  rw [S_sgs, List.length_map] at hm1
  obtain ⟨bs, o4, e4, hb1, hb2, h4⟩ := ctx_spec (o := o2) (f := f) (a := some (.dat (.tuple (ms.map fun w => PyData.str (S w))))) (b := none) (c := none) (d := none) hs h3
  obtain ⟨hsx, o5, e5, hh1, hh2, h5⟩ := ctx_spec (o := o4) (f := f) (a := some (.dat (.tuple (ms.map fun w => PyData.str (S w))))) (b := some (.dat (.tuple (bs.map fun w => PyData.str (S w))))) (c := none) (d := none) hs h4
  obtain ⟨wd, o6, e6, hw1, h6⟩ := pick_spec (o := o5) (ds := [.str (Str.ofString "once"), .str (Str.ofString "left")]) h5 (by simp) (by simp)
  obtain ⟨way, rfl, hway⟩ : ∃ way, wd = .str (Str.ofString way) ∧ (way = "once" ∨ way = "left") := by
    simp at hw1
    rcases hw1 with rfl | rfl
    · exact ⟨_, rfl, .inl rfl⟩
    · exact ⟨_, rfl, .inr rfl⟩
  refine ⟨shD way f ms bs hsx, o6, ?_, ⟨way, f, ms, bs, hsx, rfl, hway, hf1, by simpa using hf2, hm1, hm2, hb1, hb2, hh1, hh2⟩, h6⟩
  unfold m__law_shift N__law_shift
  rw [d_shift_eq]
  simp -dsimp only [bnd_some, bnd_none, f_sem, f_rt, f_nx, f_rD, f_rN, f_rS, f_rkO, f_rkD, f_p0, f_p1, f_pk, f_vD, f_vN, f_st0, f_st1, f_call0, f_k0, f_call1, f_c1, f_c2, f_pP, f_pO, f_k1P, f_k1O, f_k2, f_callK, e_nm, e_nmD, e_nmO, e_nmP, e_rdD, e_rdN, e_rdS, e_rkD, e_rkO, e_rkP, e_fzD, e_fzN, e_fzS, e_fkD, e_fkO, e_K, e_aN, e_aC, e_tup, e_lst, e_fzs0, e_fzs1, e_d2, e_kS, e_dB, e_bK, e_tA, e_tO, e_tN, e_eA, e_eO, e_eN, e_if, e_call, e_k1, e_k2, e_isi, e_neg, e_negK, e_ch, g_lt, g_le, g_ge, g_gt, g_ltI, g_sub, g_inS, g_isB, g_isnB, e_add, e_addI, e_ix, e_ixL, e_ixT, e_oN, e_oS, e_soK, e_sl, e_slL, e_slT, e_rev, e_revT, e_revL, h_lenL, h_lenT, h_abs, h_int, h_max, h_min, h_tupL, h_tupT, h_lstL, h_lstT, s_seq, s_nx, s_rt, s_bk, s_ct, s_ret, s_retN, s_nxE, s_bkE, s_if, s_ex, s_as, s_nmF, s_nmT, s_gs0, s_gs1, s_tp, s_tpT, s_ix, s_ixK, s_ixP, s_ixO, s_par, s_ins0, s_ins1, s_inF, s_inT, s_put0, s_put1, e_m, e_ty, e_tyL, e_tyS, e_app, e_appO, e_ext, e_extO, atI_0, atI_1, atI_2, atI_3, atI_4, atI_5, atI_last, PyData.isInt, PyData.isBool, PyData.isStr, PyData.isTuple, PyData.isList, List.map_cons, List.map_nil, List.length_cons, List.length_nil, List.cons_append, List.nil_append, List.replicate, Nat.reduceAdd, Nat.reduceSub, List.getElem?_cons_zero, List.getElem?_cons_succ, List.getElem?_nil, List.set_cons_zero, List.set_cons_succ, Option.bind_some, Option.map_some, Option.bind_none, Option.map_none, Nat.zero_add, Int.reduceLE, Int.reduceLT, Nat.reduceLT, Nat.reduceLeDiff, and_self, and_true, true_and, if_true, if_false, ite_true, ite_false, decide_true, decide_false, ↓reduceIte, Bool.false_eq_true, Bool.not_true, Bool.not_false, List.mem_cons, forall_eq_or_imp, List.not_mem_nil, forall_const, List.all_cons, List.all_nil, Bool.and_true, Bool.and_self, Bool.true_and, e1, e_lc, e_iIt, e_itS (show (S f).length ≤ 1000000 by rw [S_len]; omega), e_wipe0, e_wipe1, e2, e_rest0, e_rest1, List.getD_cons_zero, List.getD_cons_succ, e4, e5, e6]
  rfl
end EW

namespace EW
open PySem L2
theorem erase_map {α β : Type} (f : α → β) : ∀ (l : List α) (n : Nat), (l.map f).eraseIdx n = (l.eraseIdx n).map f
  | [], _ => rfl
  | x :: l, 0 => rfl
  | x :: l, n + 1 => by simp [erase_map f l n]
theorem mem_erase {α : Type} {l : List α} {n : Nat} {x : α} (h : x ∈ l.eraseIdx n) : x ∈ l := (List.eraseIdx_sublist l n).subset h
theorem seqI {n len : Nat} (h : n < len) : seqIndex? (n : Int) len = some n := by
  have := PySem.seqIndex_of (k := (n : Int)) (n := len) (by omega) (by omega)
  simpa using this
abbrev tmE (o : Ob) (sg : List Nat) (way : D) (lft w : List Nat) : Env := [some (.par 0 o), some (.dat (.str (S sg))), some (.dat way), some (.own (.l (lft.map fun x => .str (S [x])))), some (.dat (.str (S w))), none]
abbrev xPop : DE := dM "list" (dNm 3) (aCons (dF 2 true m__law_draw (aCons (dNm 0) (aCons (dCall (aCons (dNm 3) (aNil)) (k1 hLen)) (aNil)))) (aNil)) kPopAt
theorem order_spec {o : Ob} {sg : List Nat} {way : D} {n : Nat} (hs : Sg sg) (ho : PotOk o) (hn : 10 ≤ n) : ∃ w o', loopW (dB (d2 (dNm 3) (dLst (aNil)) (kS gNe))) (sAs (d2 (dNm 4) xPop kAdd) (gNm false 4)) n (tmE o sg way sg []) = some (.nx (tmE o' sg way [] w)) ∧ w.length = sg.length ∧ (∀ x ∈ w, x ∈ sg) ∧ PotOk o' := by
  obtain ⟨env', h1, h2⟩ := loopW_inv (c := dB (d2 (dNm 3) (dLst (aNil)) (kS gNe))) (b := sAs (d2 (dNm 4) xPop kAdd) (gNm false 4))
    (Inv := fun m env => ∃ o lft w, env = tmE o sg way lft w ∧ PotOk o ∧ lft.length = m ∧ w.length + lft.length = sg.length ∧ (∀ x ∈ w, x ∈ sg) ∧ ∀ x ∈ lft, x ∈ sg) (Post := fun env => ∃ o w, env = tmE o sg way [] w ∧ PotOk o ∧ w.length = sg.length ∧ ∀ x ∈ w, x ∈ sg) (by
    rintro m env ⟨o, lft, w, rfl, ho, hm, hl, hw, hlf⟩
    cases lft with
    | nil =>
      refine .inl ⟨tmE o sg way [] w, ?_, o, w, rfl, ho, by simpa using hl, hw⟩
      simp -dsimp only [bnd_some, bnd_none, f_sem, f_rt, f_nx, f_rD, f_rN, f_rS, f_rkO, f_rkD, f_p0, f_p1, f_pk, f_vD, f_vN, f_st0, f_st1, f_call0, f_k0, f_call1, f_c1, f_c2, f_pP, f_pO, f_k1P, f_k1O, f_k2, f_callK, e_nm, e_nmD, e_nmO, e_nmP, e_rdD, e_rdN, e_rdS, e_rkD, e_rkO, e_rkP, e_fzD, e_fzN, e_fzS, e_fkD, e_fkO, e_K, e_aN, e_aC, e_tup, e_lst, e_fzs0, e_fzs1, e_d2, e_kS, e_dB, e_bK, e_tA, e_tO, e_tN, e_eA, e_eO, e_eN, e_if, e_call, e_k1, e_k2, e_isi, e_neg, e_negK, e_ch, g_lt, g_le, g_ge, g_gt, g_ltI, g_sub, g_inS, g_isB, g_isnB, e_add, e_addI, e_ix, e_ixL, e_ixT, e_oN, e_oS, e_soK, e_sl, e_slL, e_slT, e_rev, e_revT, e_revL, h_lenL, h_lenT, h_abs, h_int, h_max, h_min, h_tupL, h_tupT, h_lstL, h_lstT, s_seq, s_nx, s_rt, s_bk, s_ct, s_ret, s_retN, s_nxE, s_bkE, s_if, s_ex, s_as, s_nmF, s_nmT, s_gs0, s_gs1, s_tp, s_tpT, s_ix, s_ixK, s_ixP, s_ixO, s_par, s_ins0, s_ins1, s_inF, s_inT, s_put0, s_put1, e_m, e_ty, e_tyL, e_tyS, e_app, e_appO, e_ext, e_extO, atI_0, atI_1, atI_2, atI_3, atI_4, atI_5, atI_last, PyData.isInt, PyData.isBool, PyData.isStr, PyData.isTuple, PyData.isList, List.map_cons, List.map_nil, List.length_cons, List.length_nil, List.cons_append, List.nil_append, List.replicate, Nat.reduceAdd, Nat.reduceSub, List.getElem?_cons_zero, List.getElem?_cons_succ, List.getElem?_nil, List.set_cons_zero, List.set_cons_succ, Option.bind_some, Option.map_some, Option.bind_none, Option.map_none, Nat.zero_add, Int.reduceLE, Int.reduceLT, Nat.reduceLT, Nat.reduceLeDiff, and_self, and_true, true_and, if_true, if_false, ite_true, ite_false, decide_true, decide_false, ↓reduceIte, Bool.false_eq_true, Bool.not_true, Bool.not_false, List.mem_cons, forall_eq_or_imp, List.not_mem_nil, forall_const, List.all_cons, List.all_nil, Bool.and_true, Bool.and_self, Bool.true_and, g_ne0, List.isEmpty_nil]
    | cons x l =>
      have hsl := hs.len.2
      obtain ⟨r, o2, e, h1, h2, h3⟩ := draw_spec (o := o) (((x :: l).map fun x => PyData.str (S [x])).length : Int) ho (by simp) (by simp at hl; simp; omega)
      have hn : r.toNat < (x :: l).length := by simp only [List.length_map] at h2; omega
      have hn2 : r.toNat < ((x :: l).map fun x => PyData.str (S [x])).length := by rw [List.length_map]; exact hn
      refine .inr ⟨tmE o sg way (x :: l) w, tmE o2 sg way ((x :: l).eraseIdx r.toNat) (w ++ [(x :: l)[r.toNat]]), m - 1, ?_, ?_, by simp at hm; omega, o2, _, _, rfl, h3, ?_, ?_, ?_, ?_⟩
      · simp -dsimp only [bnd_some, bnd_none, f_sem, f_rt, f_nx, f_rD, f_rN, f_rS, f_rkO, f_rkD, f_p0, f_p1, f_pk, f_vD, f_vN, f_st0, f_st1, f_call0, f_k0, f_call1, f_c1, f_c2, f_pP, f_pO, f_k1P, f_k1O, f_k2, f_callK, e_nm, e_nmD, e_nmO, e_nmP, e_rdD, e_rdN, e_rdS, e_rkD, e_rkO, e_rkP, e_fzD, e_fzN, e_fzS, e_fkD, e_fkO, e_K, e_aN, e_aC, e_tup, e_lst, e_fzs0, e_fzs1, e_d2, e_kS, e_dB, e_bK, e_tA, e_tO, e_tN, e_eA, e_eO, e_eN, e_if, e_call, e_k1, e_k2, e_isi, e_neg, e_negK, e_ch, g_lt, g_le, g_ge, g_gt, g_ltI, g_sub, g_inS, g_isB, g_isnB, e_add, e_addI, e_ix, e_ixL, e_ixT, e_oN, e_oS, e_soK, e_sl, e_slL, e_slT, e_rev, e_revT, e_revL, h_lenL, h_lenT, h_abs, h_int, h_max, h_min, h_tupL, h_tupT, h_lstL, h_lstT, s_seq, s_nx, s_rt, s_bk, s_ct, s_ret, s_retN, s_nxE, s_bkE, s_if, s_ex, s_as, s_nmF, s_nmT, s_gs0, s_gs1, s_tp, s_tpT, s_ix, s_ixK, s_ixP, s_ixO, s_par, s_ins0, s_ins1, s_inF, s_inT, s_put0, s_put1, e_m, e_ty, e_tyL, e_tyS, e_app, e_appO, e_ext, e_extO, atI_0, atI_1, atI_2, atI_3, atI_4, atI_5, atI_last, PyData.isInt, PyData.isBool, PyData.isStr, PyData.isTuple, PyData.isList, List.map_cons, List.map_nil, List.length_cons, List.length_nil, List.cons_append, List.nil_append, List.replicate, Nat.reduceAdd, Nat.reduceSub, List.getElem?_cons_zero, List.getElem?_cons_succ, List.getElem?_nil, List.set_cons_zero, List.set_cons_succ, Option.bind_some, Option.map_some, Option.bind_none, Option.map_none, Nat.zero_add, Int.reduceLE, Int.reduceLT, Nat.reduceLT, Nat.reduceLeDiff, and_self, and_true, true_and, if_true, if_false, ite_true, ite_false, decide_true, decide_false, ↓reduceIte, Bool.false_eq_true, Bool.not_true, Bool.not_false, List.mem_cons, forall_eq_or_imp, List.not_mem_nil, forall_const, List.all_cons, List.all_nil, Bool.and_true, Bool.and_self, Bool.true_and, g_ne0, List.isEmpty_cons]
      · have hp : kPopAt (.slot 3) [.dat (.int r)] (tmE o2 sg way (x :: l) w) = some (.dat (.str (S [(x :: l)[r.toNat]])), tmE o2 sg way ((x :: l).eraseIdx r.toNat) w) := by
          rw [e_popO (ds := (x :: l).map fun x => PyData.str (S [x])) rfl rfl (by have := hn2; simp at hl hn2; omega), PySem.seqIndex_of h1 h2, bnd_some, List.getElem?_eq_getElem hn2]
          simp only [bnd_some, List.getElem_map, erase_map]
          rfl
        have ha : ∀ env c, addK2 env (some (.str (S w))) (some (.str (S [c]))) = some (.dat (.str (S (w ++ [c]))), env) := fun env c => by
          rw [e_addS (by rw [S_len, S_len]; simp; omega), S_app]
        simp only [List.map_cons, List.length_cons] at e
        have hp' : kPopAt (.slot 3) [.dat (.int r)] [some (.par 0 o2), some (.dat (.str (S sg))), some (.dat way), some (.own (.l (PyData.str (S [x]) :: l.map fun x => .str (S [x])))), some (.dat (.str (S w))), none] = some (.dat (.str (S [(x :: l)[r.toNat]])), tmE o2 sg way ((x :: l).eraseIdx r.toNat) w) := hp
        simp -dsimp only [bnd_some, bnd_none, f_sem, f_rt, f_nx, f_rD, f_rN, f_rS, f_rkO, f_rkD, f_p0, f_p1, f_pk, f_vD, f_vN, f_st0, f_st1, f_call0, f_k0, f_call1, f_c1, f_c2, f_pP, f_pO, f_k1P, f_k1O, f_k2, f_callK, e_nm, e_nmD, e_nmO, e_nmP, e_rdD, e_rdN, e_rdS, e_rkD, e_rkO, e_rkP, e_fzD, e_fzN, e_fzS, e_fkD, e_fkO, e_K, e_aN, e_aC, e_tup, e_lst, e_fzs0, e_fzs1, e_d2, e_kS, e_dB, e_bK, e_tA, e_tO, e_tN, e_eA, e_eO, e_eN, e_if, e_call, e_k1, e_k2, e_isi, e_neg, e_negK, e_ch, g_lt, g_le, g_ge, g_gt, g_ltI, g_sub, g_inS, g_isB, g_isnB, e_add, e_addI, e_ix, e_ixL, e_ixT, e_oN, e_oS, e_soK, e_sl, e_slL, e_slT, e_rev, e_revT, e_revL, h_lenL, h_lenT, h_abs, h_int, h_max, h_min, h_tupL, h_tupT, h_lstL, h_lstT, s_seq, s_nx, s_rt, s_bk, s_ct, s_ret, s_retN, s_nxE, s_bkE, s_if, s_ex, s_as, s_nmF, s_nmT, s_gs0, s_gs1, s_tp, s_tpT, s_ix, s_ixK, s_ixP, s_ixO, s_par, s_ins0, s_ins1, s_inF, s_inT, s_put0, s_put1, e_m, e_ty, e_tyL, e_tyS, e_app, e_appO, e_ext, e_extO, atI_0, atI_1, atI_2, atI_3, atI_4, atI_5, atI_last, PyData.isInt, PyData.isBool, PyData.isStr, PyData.isTuple, PyData.isList, List.map_cons, List.map_nil, List.length_cons, List.length_nil, List.cons_append, List.nil_append, List.replicate, Nat.reduceAdd, Nat.reduceSub, List.getElem?_cons_zero, List.getElem?_cons_succ, List.getElem?_nil, List.set_cons_zero, List.set_cons_succ, Option.bind_some, Option.map_some, Option.bind_none, Option.map_none, Nat.zero_add, Int.reduceLE, Int.reduceLT, Nat.reduceLT, Nat.reduceLeDiff, and_self, and_true, true_and, if_true, if_false, ite_true, ite_false, decide_true, decide_false, ↓reduceIte, Bool.false_eq_true, Bool.not_true, Bool.not_false, List.mem_cons, forall_eq_or_imp, List.not_mem_nil, forall_const, List.all_cons, List.all_nil, Bool.and_true, Bool.and_self, Bool.true_and, e, hp', ha]
      · rw [List.length_eraseIdx, if_pos hn]; omega
      · rw [List.length_eraseIdx, if_pos hn, List.length_append]; simp at hl ⊢; omega
      · intro y hy
        rcases List.mem_append.mp hy with hy | hy
        · exact hw y hy
        · simp at hy; subst hy; exact hlf _ (List.getElem_mem hn)
      · exact fun y hy => hlf y (mem_erase hy)) n sg.length (tmE o sg way sg []) (by have := hs.len.2; omega) ⟨o, sg, [], rfl, ho, rfl, by simp, by simp, fun _ h => h⟩
  obtain ⟨o2, w, rfl, h3, h4, h5⟩ := h2
  exact ⟨w, o2, h1, h4, h5, h3⟩
theorem fuel_ge : 10 ≤ fuel := by unfold fuel; decide
theorem e_ixD {env : Env} {w : List Nat} {x : Nat} (hw : w.head? = some x) (hl : w.length ≤ 1000) : ixK2 env (some (.str (S w))) (some (.int 0)) = some (.dat (.str (S [x])), env) := by
  rw [e_ixS (by rw [S_len]; omega), S_cps, atI_0]
  cases w with
  | nil => cases hw
  | cons y w => simp at hw; subst hw; rfl
theorem tame_spec {o : Ob} {sg : List Nat} (hs : Sg sg) (ho : PotOk o) : ∃ d o', m__law_tame (some o) [.str (S sg)] = some (.dat d, some o') ∧ IsSh sg d ∧ PotOk o' := by
  have hl := hs.len
  obtain ⟨r, o1, e1, h1, h2, h3⟩ := draw_spec 4 ho (by decide) (by decide)
  obtain ⟨w, o2, e2, hw1, hw2, h4⟩ := order_spec (way := .int r) (n := fuel) hs h3 fuel_ge
  obtain ⟨x, hx⟩ : ∃ x, w.head? = some x := by
    cases w with
    | nil => exact absurd (List.eq_nil_of_length_eq_zero hw1.symm) hl.1
    | cons x w => exact ⟨x, rfl⟩
  have hxs : x ∈ sg := hw2 x (List.mem_of_mem_head? hx)
  have hwl : w.length ≤ 3 := by omega
  have ht : ∀ env, hTuple (.str (S w)) env = some (.dat (.tuple (w.map fun x => .str (S [x]))), env) := fun env => by rw [h_tupS (by rw [S_len]; omega), S_sgs]
  have h0 : ∀ env, ixK2 env (some (.str (S w))) (some (.int 0)) = some (.dat (.str (S [x])), env) := fun env => e_ixD hx (by omega)
  have e2' : loopW (dB (d2 (dNm 3) (dLst aNil) (kS gNe))) (sAs (d2 (dNm 4) xPop kAdd) (gNm false 4)) fuel [some (.par 0 o1), some (.dat (.str (S sg))), some (.dat (.int r)), some (.own (.l (sgs (S sg)))), some (.dat (.str (Str.ofString ""))), none] = some (.nx (tmE o2 sg (.int r) [] w)) := by
    rw [S_sgs]; exact e2
  have one : ∀ x ∈ sg, [x] ≠ [] ∧ [x].Sublist (35 :: sg) := fun x hx => ⟨by simp, List.Sublist.cons _ (List.singleton_sublist.mpr hx)⟩
  have edge : [35] ≠ [] ∧ [35].Sublist (35 :: sg) := ⟨by simp, by simp⟩
  have mk : ∀ (way : String) (ms b h : List (List Nat)), (way = "once" ∨ way = "left") → ms.length = sg.length → (∀ w ∈ ms, w.length ≤ 2 ∧ ∀ x ∈ w, x ∈ sg) → b.length ≤ 2 → (∀ w ∈ b, w ≠ [] ∧ w.Sublist (35 :: sg)) → h = [] → IsSh sg (shD way sg ms b h) := fun way ms b h a1 a2 a3 a4 a5 a6 => ⟨way, sg, ms, b, h, rfl, a1, hl.1, List.Sublist.refl _, a2, a3, a4, a5, by rw [a6]; simp, by rw [a6]; intro w h; simp at h⟩
  have hls : ∀ env, hList (.str (S sg)) env = some (.new (.l (sgs (S sg))), env) := fun env => sg_list hs env
  have hit : itemsD (.str (S sg)) = some (sgs (S sg)) := e_itS (by rw [S_len]; omega)
  unfold m__law_tame d__law_tame N__law_tame
  by_cases r0 : r = 0
  · subst r0
    refine ⟨_, o2, ?_, mk "once" (w.map fun x => [x]) [] [] (.inl rfl) (by rw [List.length_map]; exact hw1) (fun v hv => ?_) (by simp) (fun v hv => by simp at hv) rfl, h4⟩
    · simp -dsimp only [bnd_some, bnd_none, f_sem, f_rt, f_nx, f_rD, f_rN, f_rS, f_rkO, f_rkD, f_p0, f_p1, f_pk, f_vD, f_vN, f_st0, f_st1, f_call0, f_k0, f_call1, f_c1, f_c2, f_pP, f_pO, f_k1P, f_k1O, f_k2, f_callK, e_nm, e_nmD, e_nmO, e_nmP, e_rdD, e_rdN, e_rdS, e_rkD, e_rkO, e_rkP, e_fzD, e_fzN, e_fzS, e_fkD, e_fkO, e_K, e_aN, e_aC, e_tup, e_lst, e_fzs0, e_fzs1, e_d2, e_kS, e_dB, e_bK, e_tA, e_tO, e_tN, e_eA, e_eO, e_eN, e_if, e_call, e_k1, e_k2, e_isi, e_neg, e_negK, e_ch, g_lt, g_le, g_ge, g_gt, g_ltI, g_sub, g_inS, g_isB, g_isnB, e_add, e_addI, e_ix, e_ixL, e_ixT, e_oN, e_oS, e_soK, e_sl, e_slL, e_slT, e_rev, e_revT, e_revL, h_lenL, h_lenT, h_abs, h_int, h_max, h_min, h_tupL, h_tupT, h_lstL, h_lstT, s_seq, s_nx, s_rt, s_bk, s_ct, s_ret, s_retN, s_nxE, s_bkE, s_if, s_ex, s_as, s_nmF, s_nmT, s_gs0, s_gs1, s_tp, s_tpT, s_ix, s_ixK, s_ixP, s_ixO, s_par, s_ins0, s_ins1, s_inF, s_inT, s_put0, s_put1, e_m, e_ty, e_tyL, e_tyS, e_app, e_appO, e_ext, e_extO, atI_0, atI_1, atI_2, atI_3, atI_4, atI_5, atI_last, PyData.isInt, PyData.isBool, PyData.isStr, PyData.isTuple, PyData.isList, List.map_cons, List.map_nil, List.length_cons, List.length_nil, List.cons_append, List.nil_append, List.replicate, Nat.reduceAdd, Nat.reduceSub, List.getElem?_cons_zero, List.getElem?_cons_succ, List.getElem?_nil, List.set_cons_zero, List.set_cons_succ, Option.bind_some, Option.map_some, Option.bind_none, Option.map_none, Nat.zero_add, Int.reduceLE, Int.reduceLT, Nat.reduceLT, Nat.reduceLeDiff, and_self, and_true, true_and, if_true, if_false, ite_true, ite_false, decide_true, decide_false, ↓reduceIte, Bool.false_eq_true, Bool.not_true, Bool.not_false, List.mem_cons, forall_eq_or_imp, List.not_mem_nil, forall_const, List.all_cons, List.all_nil, Bool.and_true, Bool.and_self, Bool.true_and, e1, hls, s_wh, e2', g_eqI, ht]
      simp [shD, List.map_map, Function.comp_def]
    · obtain ⟨y, hy, rfl⟩ := List.mem_map.mp hv
      exact ⟨by simp, fun z hz => by simp at hz; subst hz; exact hw2 _ hy⟩
  · have hcc : ∀ (E : DE) (f : Str → Str), (∀ y, y ∈ sg → ∀ e : Option Cell, E [some (.par 0 o2), some (.dat (.str (S sg))), some (.dat (.int r)), some (.own (.l [])), some (.dat (.str (S w))), some (.dat (.str (S [y])))] = some (.dat (.str (f (S [y]))), [some (.par 0 o2), some (.dat (.str (S sg))), some (.dat (.int r)), some (.own (.l [])), some (.dat (.str (S w))), some (.dat (.str (S [y])))])) →
        loopC [5] (cNm 5) tYs E (sgs (S sg)) [] [some (.par 0 o2), some (.dat (.str (S sg))), some (.dat (.int r)), some (.own (.l [])), some (.dat (.str (S w))), none] = some (sg.map (fun y => .str (f (S [y]))), [some (.par 0 o2), some (.dat (.str (S sg))), some (.dat (.int r)), some (.own (.l [])), some (.dat (.str (S w))), none]) := by
      intro E f hE
      have := loopC_map (vs := [5]) (g := cNm 5) (tt := tYs) (fe := E) (φ := fun d => match d with | .str z => .str (f z) | _ => .none) (sgs (S sg)) [] [some (.par 0 o2), some (.dat (.str (S sg))), some (.dat (.int r)), some (.own (.l [])), some (.dat (.str (S w))), none] (fun d hd => by
        obtain ⟨y, hy, rfl⟩ := mem_sgs hd
        exact stepC_of rfl rfl (hE y hy none) rfl rfl) (by rw [S_sgs, List.length_map, List.length_nil]; omega)
      rw [this, List.nil_append, S_sgs, List.map_map]
      rfl
    have hl2 : ∀ a b : Nat, (S [a]).length + (S [b]).length ≤ 1000000 := fun a b => by rw [S_len, S_len]; simp
    have c1 := hcc (d2 (dNm 5) (d2 (dNm 4) (dK (.int 0)) kIx) kAdd) (fun z => z ++ S [x]) (fun y hy _ => by simp -dsimp only [bnd_some, bnd_none, f_sem, f_rt, f_nx, f_rD, f_rN, f_rS, f_rkO, f_rkD, f_p0, f_p1, f_pk, f_vD, f_vN, f_st0, f_st1, f_call0, f_k0, f_call1, f_c1, f_c2, f_pP, f_pO, f_k1P, f_k1O, f_k2, f_callK, e_nm, e_nmD, e_nmO, e_nmP, e_rdD, e_rdN, e_rdS, e_rkD, e_rkO, e_rkP, e_fzD, e_fzN, e_fzS, e_fkD, e_fkO, e_K, e_aN, e_aC, e_tup, e_lst, e_fzs0, e_fzs1, e_d2, e_kS, e_dB, e_bK, e_tA, e_tO, e_tN, e_eA, e_eO, e_eN, e_if, e_call, e_k1, e_k2, e_isi, e_neg, e_negK, e_ch, g_lt, g_le, g_ge, g_gt, g_ltI, g_sub, g_inS, g_isB, g_isnB, e_add, e_addI, e_ix, e_ixL, e_ixT, e_oN, e_oS, e_soK, e_sl, e_slL, e_slT, e_rev, e_revT, e_revL, h_lenL, h_lenT, h_abs, h_int, h_max, h_min, h_tupL, h_tupT, h_lstL, h_lstT, s_seq, s_nx, s_rt, s_bk, s_ct, s_ret, s_retN, s_nxE, s_bkE, s_if, s_ex, s_as, s_nmF, s_nmT, s_gs0, s_gs1, s_tp, s_tpT, s_ix, s_ixK, s_ixP, s_ixO, s_par, s_ins0, s_ins1, s_inF, s_inT, s_put0, s_put1, e_m, e_ty, e_tyL, e_tyS, e_app, e_appO, e_ext, e_extO, atI_0, atI_1, atI_2, atI_3, atI_4, atI_5, atI_last, PyData.isInt, PyData.isBool, PyData.isStr, PyData.isTuple, PyData.isList, List.map_cons, List.map_nil, List.length_cons, List.length_nil, List.cons_append, List.nil_append, List.replicate, Nat.reduceAdd, Nat.reduceSub, List.getElem?_cons_zero, List.getElem?_cons_succ, List.getElem?_nil, List.set_cons_zero, List.set_cons_succ, Option.bind_some, Option.map_some, Option.bind_none, Option.map_none, Nat.zero_add, Int.reduceLE, Int.reduceLT, Nat.reduceLT, Nat.reduceLeDiff, and_self, and_true, true_and, if_true, if_false, ite_true, ite_false, decide_true, decide_false, ↓reduceIte, Bool.false_eq_true, Bool.not_true, Bool.not_false, List.mem_cons, forall_eq_or_imp, List.not_mem_nil, forall_const, List.all_cons, List.all_nil, Bool.and_true, Bool.and_self, Bool.true_and, h0, fun env => @e_addS env (S [y]) (S [x]) (hl2 y x)])
    have c2 := hcc (d2 (d2 (dNm 4) (dK (.int 0)) kIx) (dNm 5) kAdd) (fun z => S [x] ++ z) (fun y hy _ => by simp -dsimp only [bnd_some, bnd_none, f_sem, f_rt, f_nx, f_rD, f_rN, f_rS, f_rkO, f_rkD, f_p0, f_p1, f_pk, f_vD, f_vN, f_st0, f_st1, f_call0, f_k0, f_call1, f_c1, f_c2, f_pP, f_pO, f_k1P, f_k1O, f_k2, f_callK, e_nm, e_nmD, e_nmO, e_nmP, e_rdD, e_rdN, e_rdS, e_rkD, e_rkO, e_rkP, e_fzD, e_fzN, e_fzS, e_fkD, e_fkO, e_K, e_aN, e_aC, e_tup, e_lst, e_fzs0, e_fzs1, e_d2, e_kS, e_dB, e_bK, e_tA, e_tO, e_tN, e_eA, e_eO, e_eN, e_if, e_call, e_k1, e_k2, e_isi, e_neg, e_negK, e_ch, g_lt, g_le, g_ge, g_gt, g_ltI, g_sub, g_inS, g_isB, g_isnB, e_add, e_addI, e_ix, e_ixL, e_ixT, e_oN, e_oS, e_soK, e_sl, e_slL, e_slT, e_rev, e_revT, e_revL, h_lenL, h_lenT, h_abs, h_int, h_max, h_min, h_tupL, h_tupT, h_lstL, h_lstT, s_seq, s_nx, s_rt, s_bk, s_ct, s_ret, s_retN, s_nxE, s_bkE, s_if, s_ex, s_as, s_nmF, s_nmT, s_gs0, s_gs1, s_tp, s_tpT, s_ix, s_ixK, s_ixP, s_ixO, s_par, s_ins0, s_ins1, s_inF, s_inT, s_put0, s_put1, e_m, e_ty, e_tyL, e_tyS, e_app, e_appO, e_ext, e_extO, atI_0, atI_1, atI_2, atI_3, atI_4, atI_5, atI_last, PyData.isInt, PyData.isBool, PyData.isStr, PyData.isTuple, PyData.isList, List.map_cons, List.map_nil, List.length_cons, List.length_nil, List.cons_append, List.nil_append, List.replicate, Nat.reduceAdd, Nat.reduceSub, List.getElem?_cons_zero, List.getElem?_cons_succ, List.getElem?_nil, List.set_cons_zero, List.set_cons_succ, Option.bind_some, Option.map_some, Option.bind_none, Option.map_none, Nat.zero_add, Int.reduceLE, Int.reduceLT, Nat.reduceLT, Nat.reduceLeDiff, and_self, and_true, true_and, if_true, if_false, ite_true, ite_false, decide_true, decide_false, ↓reduceIte, Bool.false_eq_true, Bool.not_true, Bool.not_false, List.mem_cons, forall_eq_or_imp, List.not_mem_nil, forall_const, List.all_cons, List.all_nil, Bool.and_true, Bool.and_self, Bool.true_and, h0, fun env => @e_addS env (S [x]) (S [y]) (hl2 x y)])
    by_cases r1 : r = 1
    · subst r1
      refine ⟨_, o2, ?_, mk "left" (sg.map fun y => [y, x]) [] [] (.inr rfl) (by rw [List.length_map]) (fun v hv => ?_) (by simp) (fun v hv => by simp at hv) rfl, h4⟩
      · simp -dsimp only [bnd_some, bnd_none, f_sem, f_rt, f_nx, f_rD, f_rN, f_rS, f_rkO, f_rkD, f_p0, f_p1, f_pk, f_vD, f_vN, f_st0, f_st1, f_call0, f_k0, f_call1, f_c1, f_c2, f_pP, f_pO, f_k1P, f_k1O, f_k2, f_callK, e_nm, e_nmD, e_nmO, e_nmP, e_rdD, e_rdN, e_rdS, e_rkD, e_rkO, e_rkP, e_fzD, e_fzN, e_fzS, e_fkD, e_fkO, e_K, e_aN, e_aC, e_tup, e_lst, e_fzs0, e_fzs1, e_d2, e_kS, e_dB, e_bK, e_tA, e_tO, e_tN, e_eA, e_eO, e_eN, e_if, e_call, e_k1, e_k2, e_isi, e_neg, e_negK, e_ch, g_lt, g_le, g_ge, g_gt, g_ltI, g_sub, g_inS, g_isB, g_isnB, e_add, e_addI, e_ix, e_ixL, e_ixT, e_oN, e_oS, e_soK, e_sl, e_slL, e_slT, e_rev, e_revT, e_revL, h_lenL, h_lenT, h_abs, h_int, h_max, h_min, h_tupL, h_tupT, h_lstL, h_lstT, s_seq, s_nx, s_rt, s_bk, s_ct, s_ret, s_retN, s_nxE, s_bkE, s_if, s_ex, s_as, s_nmF, s_nmT, s_gs0, s_gs1, s_tp, s_tpT, s_ix, s_ixK, s_ixP, s_ixO, s_par, s_ins0, s_ins1, s_inF, s_inT, s_put0, s_put1, e_m, e_ty, e_tyL, e_tyS, e_app, e_appO, e_ext, e_extO, atI_0, atI_1, atI_2, atI_3, atI_4, atI_5, atI_last, PyData.isInt, PyData.isBool, PyData.isStr, PyData.isTuple, PyData.isList, List.map_cons, List.map_nil, List.length_cons, List.length_nil, List.cons_append, List.nil_append, List.replicate, Nat.reduceAdd, Nat.reduceSub, List.getElem?_cons_zero, List.getElem?_cons_succ, List.getElem?_nil, List.set_cons_zero, List.set_cons_succ, Option.bind_some, Option.map_some, Option.bind_none, Option.map_none, Nat.zero_add, Int.reduceLE, Int.reduceLT, Nat.reduceLT, Nat.reduceLeDiff, and_self, and_true, true_and, if_true, if_false, ite_true, ite_false, decide_true, decide_false, ↓reduceIte, Bool.false_eq_true, Bool.not_true, Bool.not_false, List.mem_cons, forall_eq_or_imp, List.not_mem_nil, forall_const, List.all_cons, List.all_nil, Bool.and_true, Bool.and_self, Bool.true_and, e1, hls, s_wh, e2', g_eqI, r0, e_lc, e_iIt, hit, e_wipe0, e_wipe1, c1, e_rest0, e_rest1, List.getD_cons_zero, List.getD_cons_succ]
        simp [shD, List.map_map, Function.comp_def, S_app]
      · obtain ⟨y, hy, rfl⟩ := List.mem_map.mp hv
        exact ⟨by simp, fun z hz => by simp at hz; rcases hz with rfl | rfl; exact hy; exact hxs⟩
    · by_cases r2 : r = 2
      · subst r2
        refine ⟨_, o2, ?_, mk "once" (sg.map fun y => [x, y]) [[35]] [] (.inl rfl) (by rw [List.length_map]) (fun v hv => ?_) (by simp) (fun v hv => by simp at hv; subst hv; exact edge) rfl, h4⟩
        · simp -dsimp only [bnd_some, bnd_none, f_sem, f_rt, f_nx, f_rD, f_rN, f_rS, f_rkO, f_rkD, f_p0, f_p1, f_pk, f_vD, f_vN, f_st0, f_st1, f_call0, f_k0, f_call1, f_c1, f_c2, f_pP, f_pO, f_k1P, f_k1O, f_k2, f_callK, e_nm, e_nmD, e_nmO, e_nmP, e_rdD, e_rdN, e_rdS, e_rkD, e_rkO, e_rkP, e_fzD, e_fzN, e_fzS, e_fkD, e_fkO, e_K, e_aN, e_aC, e_tup, e_lst, e_fzs0, e_fzs1, e_d2, e_kS, e_dB, e_bK, e_tA, e_tO, e_tN, e_eA, e_eO, e_eN, e_if, e_call, e_k1, e_k2, e_isi, e_neg, e_negK, e_ch, g_lt, g_le, g_ge, g_gt, g_ltI, g_sub, g_inS, g_isB, g_isnB, e_add, e_addI, e_ix, e_ixL, e_ixT, e_oN, e_oS, e_soK, e_sl, e_slL, e_slT, e_rev, e_revT, e_revL, h_lenL, h_lenT, h_abs, h_int, h_max, h_min, h_tupL, h_tupT, h_lstL, h_lstT, s_seq, s_nx, s_rt, s_bk, s_ct, s_ret, s_retN, s_nxE, s_bkE, s_if, s_ex, s_as, s_nmF, s_nmT, s_gs0, s_gs1, s_tp, s_tpT, s_ix, s_ixK, s_ixP, s_ixO, s_par, s_ins0, s_ins1, s_inF, s_inT, s_put0, s_put1, e_m, e_ty, e_tyL, e_tyS, e_app, e_appO, e_ext, e_extO, atI_0, atI_1, atI_2, atI_3, atI_4, atI_5, atI_last, PyData.isInt, PyData.isBool, PyData.isStr, PyData.isTuple, PyData.isList, List.map_cons, List.map_nil, List.length_cons, List.length_nil, List.cons_append, List.nil_append, List.replicate, Nat.reduceAdd, Nat.reduceSub, List.getElem?_cons_zero, List.getElem?_cons_succ, List.getElem?_nil, List.set_cons_zero, List.set_cons_succ, Option.bind_some, Option.map_some, Option.bind_none, Option.map_none, Nat.zero_add, Int.reduceLE, Int.reduceLT, Nat.reduceLT, Nat.reduceLeDiff, and_self, and_true, true_and, if_true, if_false, ite_true, ite_false, decide_true, decide_false, ↓reduceIte, Bool.false_eq_true, Bool.not_true, Bool.not_false, List.mem_cons, forall_eq_or_imp, List.not_mem_nil, forall_const, List.all_cons, List.all_nil, Bool.and_true, Bool.and_self, Bool.true_and, e1, hls, s_wh, e2', g_eqI, r0, r1, e_lc, e_iIt, hit, e_wipe0, e_wipe1, c2, e_rest0, e_rest1, List.getD_cons_zero, List.getD_cons_succ]
          simp [shD, List.map_map, Function.comp_def, S_app]
          rfl
        · obtain ⟨y, hy, rfl⟩ := List.mem_map.mp hv
          exact ⟨by simp, fun z hz => by simp at hz; rcases hz with rfl | rfl; exact hxs; exact hy⟩
      · refine ⟨_, o2, ?_, mk "once" (w.map fun x => [x]) [[x], [35]] [] (.inl rfl) (by rw [List.length_map]; exact hw1) (fun v hv => ?_) (by simp) (fun v hv => by simp at hv; rcases hv with rfl | rfl; exact one x hxs; exact edge) rfl, h4⟩
        · simp -dsimp only [bnd_some, bnd_none, f_sem, f_rt, f_nx, f_rD, f_rN, f_rS, f_rkO, f_rkD, f_p0, f_p1, f_pk, f_vD, f_vN, f_st0, f_st1, f_call0, f_k0, f_call1, f_c1, f_c2, f_pP, f_pO, f_k1P, f_k1O, f_k2, f_callK, e_nm, e_nmD, e_nmO, e_nmP, e_rdD, e_rdN, e_rdS, e_rkD, e_rkO, e_rkP, e_fzD, e_fzN, e_fzS, e_fkD, e_fkO, e_K, e_aN, e_aC, e_tup, e_lst, e_fzs0, e_fzs1, e_d2, e_kS, e_dB, e_bK, e_tA, e_tO, e_tN, e_eA, e_eO, e_eN, e_if, e_call, e_k1, e_k2, e_isi, e_neg, e_negK, e_ch, g_lt, g_le, g_ge, g_gt, g_ltI, g_sub, g_inS, g_isB, g_isnB, e_add, e_addI, e_ix, e_ixL, e_ixT, e_oN, e_oS, e_soK, e_sl, e_slL, e_slT, e_rev, e_revT, e_revL, h_lenL, h_lenT, h_abs, h_int, h_max, h_min, h_tupL, h_tupT, h_lstL, h_lstT, s_seq, s_nx, s_rt, s_bk, s_ct, s_ret, s_retN, s_nxE, s_bkE, s_if, s_ex, s_as, s_nmF, s_nmT, s_gs0, s_gs1, s_tp, s_tpT, s_ix, s_ixK, s_ixP, s_ixO, s_par, s_ins0, s_ins1, s_inF, s_inT, s_put0, s_put1, e_m, e_ty, e_tyL, e_tyS, e_app, e_appO, e_ext, e_extO, atI_0, atI_1, atI_2, atI_3, atI_4, atI_5, atI_last, PyData.isInt, PyData.isBool, PyData.isStr, PyData.isTuple, PyData.isList, List.map_cons, List.map_nil, List.length_cons, List.length_nil, List.cons_append, List.nil_append, List.replicate, Nat.reduceAdd, Nat.reduceSub, List.getElem?_cons_zero, List.getElem?_cons_succ, List.getElem?_nil, List.set_cons_zero, List.set_cons_succ, Option.bind_some, Option.map_some, Option.bind_none, Option.map_none, Nat.zero_add, Int.reduceLE, Int.reduceLT, Nat.reduceLT, Nat.reduceLeDiff, and_self, and_true, true_and, if_true, if_false, ite_true, ite_false, decide_true, decide_false, ↓reduceIte, Bool.false_eq_true, Bool.not_true, Bool.not_false, List.mem_cons, forall_eq_or_imp, List.not_mem_nil, forall_const, List.all_cons, List.all_nil, Bool.and_true, Bool.and_self, Bool.true_and, e1, hls, s_wh, e2', g_eqI, r0, r1, r2, ht, h0]
          simp [shD, List.map_map, Function.comp_def]
          rfl
        · obtain ⟨y, hy, rfl⟩ := List.mem_map.mp hv
          exact ⟨by simp, fun z hz => by simp at hz; subst hz; exact hw2 _ hy⟩
theorem small_spec {o : Ob} {sg : List Nat} (hs : Sg sg) (ho : PotOk o) : ∃ d o', m__law_small (some o) [.str (S sg)] = some (.dat d, some o') ∧ IsSh sg d ∧ PotOk o' := by
  obtain ⟨r, o1, e1, h1, h2, h3⟩ := draw_spec 3 ho (by decide) (by decide)
  unfold m__law_small d__law_small N__law_small
  by_cases h : 0 < r
  · obtain ⟨d, o2, e2, hd, h4⟩ := tame_spec hs h3
    refine ⟨d, o2, ?_, hd, h4⟩
    simp -dsimp only [bnd_some, bnd_none, f_sem, f_rt, f_nx, f_rD, f_rN, f_rS, f_rkO, f_rkD, f_p0, f_p1, f_pk, f_vD, f_vN, f_st0, f_st1, f_call0, f_k0, f_call1, f_c1, f_c2, f_pP, f_pO, f_k1P, f_k1O, f_k2, f_callK, e_nm, e_nmD, e_nmO, e_nmP, e_rdD, e_rdN, e_rdS, e_rkD, e_rkO, e_rkP, e_fzD, e_fzN, e_fzS, e_fkD, e_fkO, e_K, e_aN, e_aC, e_tup, e_lst, e_fzs0, e_fzs1, e_d2, e_kS, e_dB, e_bK, e_tA, e_tO, e_tN, e_eA, e_eO, e_eN, e_if, e_call, e_k1, e_k2, e_isi, e_neg, e_negK, e_ch, g_lt, g_le, g_ge, g_gt, g_ltI, g_sub, g_inS, g_isB, g_isnB, e_add, e_addI, e_ix, e_ixL, e_ixT, e_oN, e_oS, e_soK, e_sl, e_slL, e_slT, e_rev, e_revT, e_revL, h_lenL, h_lenT, h_abs, h_int, h_max, h_min, h_tupL, h_tupT, h_lstL, h_lstT, s_seq, s_nx, s_rt, s_bk, s_ct, s_ret, s_retN, s_nxE, s_bkE, s_if, s_ex, s_as, s_nmF, s_nmT, s_gs0, s_gs1, s_tp, s_tpT, s_ix, s_ixK, s_ixP, s_ixO, s_par, s_ins0, s_ins1, s_inF, s_inT, s_put0, s_put1, e_m, e_ty, e_tyL, e_tyS, e_app, e_appO, e_ext, e_extO, atI_0, atI_1, atI_2, atI_3, atI_4, atI_5, atI_last, PyData.isInt, PyData.isBool, PyData.isStr, PyData.isTuple, PyData.isList, List.map_cons, List.map_nil, List.length_cons, List.length_nil, List.cons_append, List.nil_append, List.replicate, Nat.reduceAdd, Nat.reduceSub, List.getElem?_cons_zero, List.getElem?_cons_succ, List.getElem?_nil, List.set_cons_zero, List.set_cons_succ, Option.bind_some, Option.map_some, Option.bind_none, Option.map_none, Nat.zero_add, Int.reduceLE, Int.reduceLT, Nat.reduceLT, Nat.reduceLeDiff, and_self, and_true, true_and, if_true, if_false, ite_true, ite_false, decide_true, decide_false, ↓reduceIte, Bool.false_eq_true, Bool.not_true, Bool.not_false, List.mem_cons, forall_eq_or_imp, List.not_mem_nil, forall_const, List.all_cons, List.all_nil, Bool.and_true, Bool.and_self, Bool.true_and, e1, h, e2]
  · obtain ⟨d, o2, e2, hd, h4⟩ := shift_spec hs h3
    refine ⟨d, o2, ?_, hd, h4⟩
    simp -dsimp only [bnd_some, bnd_none, f_sem, f_rt, f_nx, f_rD, f_rN, f_rS, f_rkO, f_rkD, f_p0, f_p1, f_pk, f_vD, f_vN, f_st0, f_st1, f_call0, f_k0, f_call1, f_c1, f_c2, f_pP, f_pO, f_k1P, f_k1O, f_k2, f_callK, e_nm, e_nmD, e_nmO, e_nmP, e_rdD, e_rdN, e_rdS, e_rkD, e_rkO, e_rkP, e_fzD, e_fzN, e_fzS, e_fkD, e_fkO, e_K, e_aN, e_aC, e_tup, e_lst, e_fzs0, e_fzs1, e_d2, e_kS, e_dB, e_bK, e_tA, e_tO, e_tN, e_eA, e_eO, e_eN, e_if, e_call, e_k1, e_k2, e_isi, e_neg, e_negK, e_ch, g_lt, g_le, g_ge, g_gt, g_ltI, g_sub, g_inS, g_isB, g_isnB, e_add, e_addI, e_ix, e_ixL, e_ixT, e_oN, e_oS, e_soK, e_sl, e_slL, e_slT, e_rev, e_revT, e_revL, h_lenL, h_lenT, h_abs, h_int, h_max, h_min, h_tupL, h_tupT, h_lstL, h_lstT, s_seq, s_nx, s_rt, s_bk, s_ct, s_ret, s_retN, s_nxE, s_bkE, s_if, s_ex, s_as, s_nmF, s_nmT, s_gs0, s_gs1, s_tp, s_tpT, s_ix, s_ixK, s_ixP, s_ixO, s_par, s_ins0, s_ins1, s_inF, s_inT, s_put0, s_put1, e_m, e_ty, e_tyL, e_tyS, e_app, e_appO, e_ext, e_extO, atI_0, atI_1, atI_2, atI_3, atI_4, atI_5, atI_last, PyData.isInt, PyData.isBool, PyData.isStr, PyData.isTuple, PyData.isList, List.map_cons, List.map_nil, List.length_cons, List.length_nil, List.cons_append, List.nil_append, List.replicate, Nat.reduceAdd, Nat.reduceSub, List.getElem?_cons_zero, List.getElem?_cons_succ, List.getElem?_nil, List.set_cons_zero, List.set_cons_succ, Option.bind_some, Option.map_some, Option.bind_none, Option.map_none, Nat.zero_add, Int.reduceLE, Int.reduceLT, Nat.reduceLT, Nat.reduceLeDiff, and_self, and_true, true_and, if_true, if_false, ite_true, ite_false, decide_true, decide_false, ↓reduceIte, Bool.false_eq_true, Bool.not_true, Bool.not_false, List.mem_cons, forall_eq_or_imp, List.not_mem_nil, forall_const, List.all_cons, List.all_nil, Bool.and_true, Bool.and_self, Bool.true_and, e1, h, e2]
end EW

namespace EW
open PySem L2
/-! ### the checks say yes -/
abbrev yes : Option (Res × Option Ob) := some (.dat (.bool true), none)
def isT (x : Option (Res × Option Ob)) : Bool := match x with
  | some (.dat (.bool true), none) => true
  | _ => false
theorem isT_ok {x : Option (Res × Option Ob)} (h : isT x = true) : x = yes := by
  unfold isT at h
  split at h
  · rfl
  · cases h
def subs : List Nat → List (List Nat)
  | [] => [[]]
  | a :: l => subs l ++ (subs l).map (a :: ·)
theorem mem_subs : ∀ {c A : List Nat}, c.Sublist A → c ∈ subs A
  | _, _, .slnil => by simp [subs]
  | _, _, .cons a h => by unfold subs; exact List.mem_append_left _ (mem_subs h)
  | _, _, .cons_cons a h => by unfold subs; exact List.mem_append_right _ (List.mem_map.mpr ⟨_, mem_subs h, rfl⟩)
theorem class_fin : ([[97, 98], [97, 98, 99], [35, 97, 98], [35, 97, 98, 99]].all fun A => (subs A).all fun c => c.isEmpty || isT (m_is_class_of none [.str (S A), .str (S c)])) = true := by decide +kernel
theorem class_ok {sg c A : List Nat} (hs : Sg sg) (hA : A = sg ∨ A = 35 :: sg) (hc : c ≠ []) (h : c.Sublist A) : m_is_class_of none [.str (S A), .str (S c)] = yes := by
  have hA' : A ∈ [[97, 98], [97, 98, 99], [35, 97, 98], [35, 97, 98, 99]] := by
    rcases hs with rfl | rfl <;> rcases hA with rfl | rfl <;> simp
  have := List.all_eq_true.mp (List.all_eq_true.mp class_fin A hA') c (mem_subs h)
  rw [Bool.or_eq_true] at this
  rcases this with z | z
  · exact absurd (List.isEmpty_iff.mp z) hc
  · exact isT_ok z
theorem g_inW {A : List Nat} {x : Nat} : gIn (.str (S [x])) (.str (S A)) = some (.bool (decide (x ∈ A))) := by
  have := g_inS (z := S A) (n := x)
  rw [S_cps] at this
  exact this
theorem text_ok {sg w : List Nat} {n : Int} (hw : ∀ x ∈ w, x ∈ sg) (hl : (w.length : Int) ≤ n) (hl2 : w.length ≤ 1000) : m_is_text_of none [.str (S sg), .str (S w), .int n] = yes := by
  unfold m_is_text_of d_is_text_of N_is_text_of
  have hc := loopC_map (vs := [3]) (g := cNm 3) (tt := tYs) (fe := d2 (dNm 3) (dNm 0) (kS gIn)) (φ := fun _ => .bool true) (sgs (S w)) [] [some (.dat (.str (S sg))), some (.dat (.str (S w))), some (.dat (.int n)), none] (fun d hd => by
    obtain ⟨x, hx, rfl⟩ := mem_sgs hd
    have := hw x hx
    unfold stepC
    simp -dsimp only [bnd_some, bnd_none, f_sem, f_rt, f_nx, f_rD, f_rN, f_rS, f_rkO, f_rkD, f_p0, f_p1, f_pk, f_vD, f_vN, f_st0, f_st1, f_call0, f_k0, f_call1, f_c1, f_c2, f_pP, f_pO, f_k1P, f_k1O, f_k2, f_callK, e_nm, e_nmD, e_nmO, e_nmP, e_rdD, e_rdN, e_rdS, e_rkD, e_rkO, e_rkP, e_fzD, e_fzN, e_fzS, e_fkD, e_fkO, e_K, e_aN, e_aC, e_tup, e_lst, e_fzs0, e_fzs1, e_d2, e_kS, e_dB, e_bK, e_tA, e_tO, e_tN, e_eA, e_eO, e_eN, e_if, e_call, e_k1, e_k2, e_isi, e_neg, e_negK, e_ch, g_lt, g_le, g_ge, g_gt, g_ltI, g_sub, g_inS, g_isB, g_isnB, e_add, e_addI, e_ix, e_ixL, e_ixT, e_oN, e_oS, e_soK, e_sl, e_slL, e_slT, e_rev, e_revT, e_revL, h_lenL, h_lenT, h_abs, h_int, h_max, h_min, h_tupL, h_tupT, h_lstL, h_lstT, s_seq, s_nx, s_rt, s_bk, s_ct, s_ret, s_retN, s_nxE, s_bkE, s_if, s_ex, s_as, s_nmF, s_nmT, s_gs0, s_gs1, s_tp, s_tpT, s_ix, s_ixK, s_ixP, s_ixO, s_par, s_ins0, s_ins1, s_inF, s_inT, s_put0, s_put1, e_m, e_ty, e_tyL, e_tyS, e_app, e_appO, e_ext, e_extO, atI_0, atI_1, atI_2, atI_3, atI_4, atI_5, atI_last, PyData.isInt, PyData.isBool, PyData.isStr, PyData.isTuple, PyData.isList, List.map_cons, List.map_nil, List.length_cons, List.length_nil, List.cons_append, List.nil_append, List.replicate, Nat.reduceAdd, Nat.reduceSub, List.getElem?_cons_zero, List.getElem?_cons_succ, List.getElem?_nil, List.set_cons_zero, List.set_cons_succ, Option.bind_some, Option.map_some, Option.bind_none, Option.map_none, Nat.zero_add, Int.reduceLE, Int.reduceLT, Nat.reduceLT, Nat.reduceLeDiff, and_self, and_true, true_and, if_true, if_false, ite_true, ite_false, decide_true, decide_false, ↓reduceIte, Bool.false_eq_true, Bool.not_true, Bool.not_false, List.mem_cons, forall_eq_or_imp, List.not_mem_nil, forall_const, List.all_cons, List.all_nil, Bool.and_true, Bool.and_self, Bool.true_and, e_cNm, e_tYs, g_inW, this, e_wipe0, e_wipe1]) (by rw [S_sgs, List.length_map, List.length_nil]; omega)
  have hb : ∀ l : List D, l.map (fun _ => PyData.bool true) = (l.map fun _ => true).map PyData.bool := fun l => by rw [List.map_map]; rfl
  have ht : ((sgs (S w)).map fun _ => true).all id = true := by simp
  rw [List.nil_append, hb] at hc
  simp -dsimp only [bnd_some, bnd_none, f_sem, f_rt, f_nx, f_rD, f_rN, f_rS, f_rkO, f_rkD, f_p0, f_p1, f_pk, f_vD, f_vN, f_st0, f_st1, f_call0, f_k0, f_call1, f_c1, f_c2, f_pP, f_pO, f_k1P, f_k1O, f_k2, f_callK, e_nm, e_nmD, e_nmO, e_nmP, e_rdD, e_rdN, e_rdS, e_rkD, e_rkO, e_rkP, e_fzD, e_fzN, e_fzS, e_fkD, e_fkO, e_K, e_aN, e_aC, e_tup, e_lst, e_fzs0, e_fzs1, e_d2, e_kS, e_dB, e_bK, e_tA, e_tO, e_tN, e_eA, e_eO, e_eN, e_if, e_call, e_k1, e_k2, e_isi, e_neg, e_negK, e_ch, g_lt, g_le, g_ge, g_gt, g_ltI, g_sub, g_inS, g_isB, g_isnB, e_add, e_addI, e_ix, e_ixL, e_ixT, e_oN, e_oS, e_soK, e_sl, e_slL, e_slT, e_rev, e_revT, e_revL, h_lenL, h_lenT, h_abs, h_int, h_max, h_min, h_tupL, h_tupT, h_lstL, h_lstT, s_seq, s_nx, s_rt, s_bk, s_ct, s_ret, s_retN, s_nxE, s_bkE, s_if, s_ex, s_as, s_nmF, s_nmT, s_gs0, s_gs1, s_tp, s_tpT, s_ix, s_ixK, s_ixP, s_ixO, s_par, s_ins0, s_ins1, s_inF, s_inT, s_put0, s_put1, e_m, e_ty, e_tyL, e_tyS, e_app, e_appO, e_ext, e_extO, atI_0, atI_1, atI_2, atI_3, atI_4, atI_5, atI_last, PyData.isInt, PyData.isBool, PyData.isStr, PyData.isTuple, PyData.isList, List.map_cons, List.map_nil, List.length_cons, List.length_nil, List.cons_append, List.nil_append, List.replicate, Nat.reduceAdd, Nat.reduceSub, List.getElem?_cons_zero, List.getElem?_cons_succ, List.getElem?_nil, List.set_cons_zero, List.set_cons_succ, Option.bind_some, Option.map_some, Option.bind_none, Option.map_none, Nat.zero_add, Int.reduceLE, Int.reduceLT, Nat.reduceLT, Nat.reduceLeDiff, and_self, and_true, true_and, if_true, if_false, ite_true, ite_false, decide_true, decide_false, ↓reduceIte, Bool.false_eq_true, Bool.not_true, Bool.not_false, List.mem_cons, forall_eq_or_imp, List.not_mem_nil, forall_const, List.all_cons, List.all_nil, Bool.and_true, Bool.and_self, Bool.true_and, h_lenS (show (S w).length ≤ 1000000 by rw [S_len]; omega), S_len, hl, e_lc, e_iIt, e_itS (show (S w).length ≤ 1000000 by rw [S_len]; omega), e_wipe0, e_wipe1, hc, e_rest0, e_rest1, h_all, ht]
/-- a comprehension of answers that are all yes -/
theorem all_yes {vs : List Nat} {g : DC} {fe : DE} (ds : List D) (env : Env) (h : ∀ d ∈ ds, stepC vs g tYs fe d env = some (some (.bool true), env)) (hl : ds.length ≤ 1000000) :
    ∃ bs : List Bool, loopC vs g tYs fe ds [] env = some (bs.map PyData.bool, env) ∧ bs.all id = true := by
  refine ⟨ds.map fun _ => true, ?_, by simp⟩
  rw [loopC_map (φ := fun _ => .bool true) ds [] env h (by simpa using hl), List.nil_append, List.map_map]
  rfl
theorem contexts_ok {sg : List Nat} {ws : List (List Nat)} (hs : Sg sg) (hl : ws.length ≤ 2) (hw : ∀ w ∈ ws, w ≠ [] ∧ w.Sublist (35 :: sg)) : m_are_contexts none [.str (S sg), .tuple (ws.map fun w => .str (S w))] = yes := by
  have hsl := hs.len.2
  obtain ⟨bs, h1, h2⟩ := all_yes (vs := [2]) (g := cNm 2) (fe := dF 2 false m_is_class_of (aCons (d2 (dK (.str "#")) (dNm 0) kAdd) (aCons (dNm 2) (aNil)))) (ws.map fun w => PyData.str (S w)) [some (.dat (.str (S sg))), some (.dat (.tuple (ws.map fun w => .str (S w)))), none] (fun d hd => by
    obtain ⟨w, hw', rfl⟩ := List.mem_map.mp hd
    have hc := class_ok (A := 35 :: sg) hs (.inr rfl) (hw w hw').1 (hw w hw').2
    have ha : ∀ env, addK2 env (some (.str (Str.ofString "#"))) (some (.str (S sg))) = some (.dat (.str (S (35 :: sg))), env) := fun env => by
      rw [show Str.ofString "#" = S [35] from rfl, e_addS (by rw [S_len, S_len]; simp; omega), S_app]
      rfl
    unfold stepC
    simp -dsimp only [bnd_some, bnd_none, f_sem, f_rt, f_nx, f_rD, f_rN, f_rS, f_rkO, f_rkD, f_p0, f_p1, f_pk, f_vD, f_vN, f_st0, f_st1, f_call0, f_k0, f_call1, f_c1, f_c2, f_pP, f_pO, f_k1P, f_k1O, f_k2, f_callK, e_nm, e_nmD, e_nmO, e_nmP, e_rdD, e_rdN, e_rdS, e_rkD, e_rkO, e_rkP, e_fzD, e_fzN, e_fzS, e_fkD, e_fkO, e_K, e_aN, e_aC, e_tup, e_lst, e_fzs0, e_fzs1, e_d2, e_kS, e_dB, e_bK, e_tA, e_tO, e_tN, e_eA, e_eO, e_eN, e_if, e_call, e_k1, e_k2, e_isi, e_neg, e_negK, e_ch, g_lt, g_le, g_ge, g_gt, g_ltI, g_sub, g_inS, g_isB, g_isnB, e_add, e_addI, e_ix, e_ixL, e_ixT, e_oN, e_oS, e_soK, e_sl, e_slL, e_slT, e_rev, e_revT, e_revL, h_lenL, h_lenT, h_abs, h_int, h_max, h_min, h_tupL, h_tupT, h_lstL, h_lstT, s_seq, s_nx, s_rt, s_bk, s_ct, s_ret, s_retN, s_nxE, s_bkE, s_if, s_ex, s_as, s_nmF, s_nmT, s_gs0, s_gs1, s_tp, s_tpT, s_ix, s_ixK, s_ixP, s_ixO, s_par, s_ins0, s_ins1, s_inF, s_inT, s_put0, s_put1, e_m, e_ty, e_tyL, e_tyS, e_app, e_appO, e_ext, e_extO, atI_0, atI_1, atI_2, atI_3, atI_4, atI_5, atI_last, PyData.isInt, PyData.isBool, PyData.isStr, PyData.isTuple, PyData.isList, List.map_cons, List.map_nil, List.length_cons, List.length_nil, List.cons_append, List.nil_append, List.replicate, Nat.reduceAdd, Nat.reduceSub, List.getElem?_cons_zero, List.getElem?_cons_succ, List.getElem?_nil, List.set_cons_zero, List.set_cons_succ, Option.bind_some, Option.map_some, Option.bind_none, Option.map_none, Nat.zero_add, Int.reduceLE, Int.reduceLT, Nat.reduceLT, Nat.reduceLeDiff, and_self, and_true, true_and, if_true, if_false, ite_true, ite_false, decide_true, decide_false, ↓reduceIte, Bool.false_eq_true, Bool.not_true, Bool.not_false, List.mem_cons, forall_eq_or_imp, List.not_mem_nil, forall_const, List.all_cons, List.all_nil, Bool.and_true, Bool.and_self, Bool.true_and, e_cNm, e_tYs, ha, hc, e_wipe0, e_wipe1]) (by rw [List.length_map]; omega)
  have hlen : ¬ (2 : Int) < ((ws.map fun w => PyData.str (S w)).length : Int) := by rw [List.length_map]; omega
  unfold m_are_contexts d_are_contexts N_are_contexts
  simp -dsimp only [bnd_some, bnd_none, f_sem, f_rt, f_nx, f_rD, f_rN, f_rS, f_rkO, f_rkD, f_p0, f_p1, f_pk, f_vD, f_vN, f_st0, f_st1, f_call0, f_k0, f_call1, f_c1, f_c2, f_pP, f_pO, f_k1P, f_k1O, f_k2, f_callK, e_nm, e_nmD, e_nmO, e_nmP, e_rdD, e_rdN, e_rdS, e_rkD, e_rkO, e_rkP, e_fzD, e_fzN, e_fzS, e_fkD, e_fkO, e_K, e_aN, e_aC, e_tup, e_lst, e_fzs0, e_fzs1, e_d2, e_kS, e_dB, e_bK, e_tA, e_tO, e_tN, e_eA, e_eO, e_eN, e_if, e_call, e_k1, e_k2, e_isi, e_neg, e_negK, e_ch, g_lt, g_le, g_ge, g_gt, g_ltI, g_sub, g_inS, g_isB, g_isnB, e_add, e_addI, e_ix, e_ixL, e_ixT, e_oN, e_oS, e_soK, e_sl, e_slL, e_slT, e_rev, e_revT, e_revL, h_lenL, h_lenT, h_abs, h_int, h_max, h_min, h_tupL, h_tupT, h_lstL, h_lstT, s_seq, s_nx, s_rt, s_bk, s_ct, s_ret, s_retN, s_nxE, s_bkE, s_if, s_ex, s_as, s_nmF, s_nmT, s_gs0, s_gs1, s_tp, s_tpT, s_ix, s_ixK, s_ixP, s_ixO, s_par, s_ins0, s_ins1, s_inF, s_inT, s_put0, s_put1, e_m, e_ty, e_tyL, e_tyS, e_app, e_appO, e_ext, e_extO, atI_0, atI_1, atI_2, atI_3, atI_4, atI_5, atI_last, PyData.isInt, PyData.isBool, PyData.isStr, PyData.isTuple, PyData.isList, List.map_cons, List.map_nil, List.length_cons, List.length_nil, List.cons_append, List.nil_append, List.replicate, Nat.reduceAdd, Nat.reduceSub, List.getElem?_cons_zero, List.getElem?_cons_succ, List.getElem?_nil, List.set_cons_zero, List.set_cons_succ, Option.bind_some, Option.map_some, Option.bind_none, Option.map_none, Nat.zero_add, Int.reduceLE, Int.reduceLT, Nat.reduceLT, Nat.reduceLeDiff, and_self, and_true, true_and, if_true, if_false, ite_true, ite_false, decide_true, decide_false, ↓reduceIte, Bool.false_eq_true, Bool.not_true, Bool.not_false, List.mem_cons, forall_eq_or_imp, List.not_mem_nil, forall_const, List.all_cons, List.all_nil, Bool.and_true, Bool.and_self, Bool.true_and, hlen, e_lc, e_iIt, e_itT, e_wipe0, e_wipe1, h1, e_rest0, e_rest1, h_all, h2]
theorem istuple_ok {ds : List D} : m_is_tuple none [.tuple ds, .int (ds.length : Int)] = yes := by
  unfold m_is_tuple d_is_tuple N_is_tuple
  simp -dsimp only [bnd_some, bnd_none, f_sem, f_rt, f_nx, f_rD, f_rN, f_rS, f_rkO, f_rkD, f_p0, f_p1, f_pk, f_vD, f_vN, f_st0, f_st1, f_call0, f_k0, f_call1, f_c1, f_c2, f_pP, f_pO, f_k1P, f_k1O, f_k2, f_callK, e_nm, e_nmD, e_nmO, e_nmP, e_rdD, e_rdN, e_rdS, e_rkD, e_rkO, e_rkP, e_fzD, e_fzN, e_fzS, e_fkD, e_fkO, e_K, e_aN, e_aC, e_tup, e_lst, e_fzs0, e_fzs1, e_d2, e_kS, e_dB, e_bK, e_tA, e_tO, e_tN, e_eA, e_eO, e_eN, e_if, e_call, e_k1, e_k2, e_isi, e_neg, e_negK, e_ch, g_lt, g_le, g_ge, g_gt, g_ltI, g_sub, g_inS, g_isB, g_isnB, e_add, e_addI, e_ix, e_ixL, e_ixT, e_oN, e_oS, e_soK, e_sl, e_slL, e_slT, e_rev, e_revT, e_revL, h_lenL, h_lenT, h_abs, h_int, h_max, h_min, h_tupL, h_tupT, h_lstL, h_lstT, s_seq, s_nx, s_rt, s_bk, s_ct, s_ret, s_retN, s_nxE, s_bkE, s_if, s_ex, s_as, s_nmF, s_nmT, s_gs0, s_gs1, s_tp, s_tpT, s_ix, s_ixK, s_ixP, s_ixO, s_par, s_ins0, s_ins1, s_inF, s_inT, s_put0, s_put1, e_m, e_ty, e_tyL, e_tyS, e_app, e_appO, e_ext, e_extO, atI_0, atI_1, atI_2, atI_3, atI_4, atI_5, atI_last, PyData.isInt, PyData.isBool, PyData.isStr, PyData.isTuple, PyData.isList, List.map_cons, List.map_nil, List.length_cons, List.length_nil, List.cons_append, List.nil_append, List.replicate, Nat.reduceAdd, Nat.reduceSub, List.getElem?_cons_zero, List.getElem?_cons_succ, List.getElem?_nil, List.set_cons_zero, List.set_cons_succ, Option.bind_some, Option.map_some, Option.bind_none, Option.map_none, Nat.zero_add, Int.reduceLE, Int.reduceLT, Nat.reduceLT, Nat.reduceLeDiff, and_self, and_true, true_and, if_true, if_false, ite_true, ite_false, decide_true, decide_false, ↓reduceIte, Bool.false_eq_true, Bool.not_true, Bool.not_false, List.mem_cons, forall_eq_or_imp, List.not_mem_nil, forall_const, List.all_cons, List.all_nil, Bool.and_true, Bool.and_self, Bool.true_and, g_eqI]
theorem shift_ok {sg : List Nat} {d : D} (hs : Sg sg) (h : IsSh sg d) : m_is_shift_of none [.str (S sg), d] = yes := by
  obtain ⟨way, f, ms, b, h, rfl, ok⟩ := h
  have hsl := hs.len.2
  have hfl := ok.fs.length_le
  obtain ⟨bs, h1, h2⟩ := all_yes (vs := [2]) (g := cNm 2) (fe := dF 3 false m_is_text_of (aCons (dNm 0) (aCons (dNm 2) (aCons (dK (.int 2)) (aNil))))) (ms.map fun w => PyData.str (S w)) [some (.dat (.str (S sg))), some (.dat (shD way f ms b h)), none] (fun d hd => by
    obtain ⟨w, hw', rfl⟩ := List.mem_map.mp hd
    have hc := text_ok (n := 2) (ok.mo w hw').2 (by have := (ok.mo w hw').1; omega) (by have := (ok.mo w hw').1; omega)
    unfold stepC
    simp -dsimp only [bnd_some, bnd_none, f_sem, f_rt, f_nx, f_rD, f_rN, f_rS, f_rkO, f_rkD, f_p0, f_p1, f_pk, f_vD, f_vN, f_st0, f_st1, f_call0, f_k0, f_call1, f_c1, f_c2, f_pP, f_pO, f_k1P, f_k1O, f_k2, f_callK, e_nm, e_nmD, e_nmO, e_nmP, e_rdD, e_rdN, e_rdS, e_rkD, e_rkO, e_rkP, e_fzD, e_fzN, e_fzS, e_fkD, e_fkO, e_K, e_aN, e_aC, e_tup, e_lst, e_fzs0, e_fzs1, e_d2, e_kS, e_dB, e_bK, e_tA, e_tO, e_tN, e_eA, e_eO, e_eN, e_if, e_call, e_k1, e_k2, e_isi, e_neg, e_negK, e_ch, g_lt, g_le, g_ge, g_gt, g_ltI, g_sub, g_inS, g_isB, g_isnB, e_add, e_addI, e_ix, e_ixL, e_ixT, e_oN, e_oS, e_soK, e_sl, e_slL, e_slT, e_rev, e_revT, e_revL, h_lenL, h_lenT, h_abs, h_int, h_max, h_min, h_tupL, h_tupT, h_lstL, h_lstT, s_seq, s_nx, s_rt, s_bk, s_ct, s_ret, s_retN, s_nxE, s_bkE, s_if, s_ex, s_as, s_nmF, s_nmT, s_gs0, s_gs1, s_tp, s_tpT, s_ix, s_ixK, s_ixP, s_ixO, s_par, s_ins0, s_ins1, s_inF, s_inT, s_put0, s_put1, e_m, e_ty, e_tyL, e_tyS, e_app, e_appO, e_ext, e_extO, atI_0, atI_1, atI_2, atI_3, atI_4, atI_5, atI_last, PyData.isInt, PyData.isBool, PyData.isStr, PyData.isTuple, PyData.isList, List.map_cons, List.map_nil, List.length_cons, List.length_nil, List.cons_append, List.nil_append, List.replicate, Nat.reduceAdd, Nat.reduceSub, List.getElem?_cons_zero, List.getElem?_cons_succ, List.getElem?_nil, List.set_cons_zero, List.set_cons_succ, Option.bind_some, Option.map_some, Option.bind_none, Option.map_none, Nat.zero_add, Int.reduceLE, Int.reduceLT, Nat.reduceLT, Nat.reduceLeDiff, and_self, and_true, true_and, if_true, if_false, ite_true, ite_false, decide_true, decide_false, ↓reduceIte, Bool.false_eq_true, Bool.not_true, Bool.not_false, List.mem_cons, forall_eq_or_imp, List.not_mem_nil, forall_const, List.all_cons, List.all_nil, Bool.and_true, Bool.and_self, Bool.true_and, e_cNm, e_tYs, hc, e_wipe0, e_wipe1]) (by rw [List.length_map, ok.ml]; omega)
  have hf := class_ok (A := sg) hs (.inl rfl) ok.fn ok.fs
  have hb := contexts_ok hs ok.bl ok.bo
  have hh := contexts_ok hs ok.hl ok.ho
  have t6 : m_is_tuple none [shD way f ms b h, .int 6] = yes := istuple_ok (ds := [_, _, _, _, _, _])
  have tm : m_is_tuple none [.tuple (ms.map fun w => PyData.str (S w)), .int (f.length : Int)] = yes := by
    have := istuple_ok (ds := ms.map fun w => PyData.str (S w))
    rw [List.length_map, ok.ml] at this
    exact this
  have hlf : ∀ env, hLen (.str (S f)) env = some (.dat (.int (f.length : Int)), env) := fun env => by rw [h_lenS (by rw [S_len]; omega), S_len]
  unfold m_is_shift_of d_is_shift_of N_is_shift_of
  unfold shD at t6 h1 ⊢
  have hwy : gNi (.str (Str.ofString way)) (.tuple [.str (Str.ofString "once"), .str (Str.ofString "left")]) = some (.bool false) := by
    rcases ok.way with rfl | rfl <;> rfl
  simp -dsimp only [bnd_some, bnd_none, f_sem, f_rt, f_nx, f_rD, f_rN, f_rS, f_rkO, f_rkD, f_p0, f_p1, f_pk, f_vD, f_vN, f_st0, f_st1, f_call0, f_k0, f_call1, f_c1, f_c2, f_pP, f_pO, f_k1P, f_k1O, f_k2, f_callK, e_nm, e_nmD, e_nmO, e_nmP, e_rdD, e_rdN, e_rdS, e_rkD, e_rkO, e_rkP, e_fzD, e_fzN, e_fzS, e_fkD, e_fkO, e_K, e_aN, e_aC, e_tup, e_lst, e_fzs0, e_fzs1, e_d2, e_kS, e_dB, e_bK, e_tA, e_tO, e_tN, e_eA, e_eO, e_eN, e_if, e_call, e_k1, e_k2, e_isi, e_neg, e_negK, e_ch, g_lt, g_le, g_ge, g_gt, g_ltI, g_sub, g_inS, g_isB, g_isnB, e_add, e_addI, e_ix, e_ixL, e_ixT, e_oN, e_oS, e_soK, e_sl, e_slL, e_slT, e_rev, e_revT, e_revL, h_lenL, h_lenT, h_abs, h_int, h_max, h_min, h_tupL, h_tupT, h_lstL, h_lstT, s_seq, s_nx, s_rt, s_bk, s_ct, s_ret, s_retN, s_nxE, s_bkE, s_if, s_ex, s_as, s_nmF, s_nmT, s_gs0, s_gs1, s_tp, s_tpT, s_ix, s_ixK, s_ixP, s_ixO, s_par, s_ins0, s_ins1, s_inF, s_inT, s_put0, s_put1, e_m, e_ty, e_tyL, e_tyS, e_app, e_appO, e_ext, e_extO, atI_0, atI_1, atI_2, atI_3, atI_4, atI_5, atI_last, PyData.isInt, PyData.isBool, PyData.isStr, PyData.isTuple, PyData.isList, List.map_cons, List.map_nil, List.length_cons, List.length_nil, List.cons_append, List.nil_append, List.replicate, Nat.reduceAdd, Nat.reduceSub, List.getElem?_cons_zero, List.getElem?_cons_succ, List.getElem?_nil, List.set_cons_zero, List.set_cons_succ, Option.bind_some, Option.map_some, Option.bind_none, Option.map_none, Nat.zero_add, Int.reduceLE, Int.reduceLT, Nat.reduceLT, Nat.reduceLeDiff, and_self, and_true, true_and, if_true, if_false, ite_true, ite_false, decide_true, decide_false, ↓reduceIte, Bool.false_eq_true, Bool.not_true, Bool.not_false, List.mem_cons, forall_eq_or_imp, List.not_mem_nil, forall_const, List.all_cons, List.all_nil, Bool.and_true, Bool.and_self, Bool.true_and, t6, g_neS, hwy, hf, hlf, tm, e_lc, e_iIt, e_itT, e_wipe0, e_wipe1, h1, e_rest0, e_rest1, h_all, h2, hb, hh]
end EW

namespace EW
open PySem L2
/-! ### trees -/
structure Nd where
  name : Str
  par : Int
  sh : List D
def Nd.d (n : Nd) : D := .tuple [.str n.name, .int n.par, .tuple n.sh]
def treeD (sg : List Nat) (nodes : List Nd) : D := .tuple [.str (Str.ofString "tree"), .str (S sg), .tuple (nodes.map Nd.d)]
def alongF (found : List (List D)) (n : Nd) : List (List D) := found ++ [(if 0 ≤ n.par then found.getD n.par.toNat [] else []) ++ n.sh]
def alongs (nodes : List Nd) : List (List D) := nodes.foldl alongF []
theorem alongs_take {nodes : List Nd} {i : Nat} {n : Nd} (h : nodes[i]? = some n) : alongs (nodes.take (i + 1)) = alongF (alongs (nodes.take i)) n := by
  obtain ⟨hi, e⟩ := List.getElem?_eq_some_iff.mp h
  unfold alongs
  rw [List.take_succ_eq_append_getElem hi, List.foldl_append, e]
  rfl
theorem foldl_len : ∀ (nodes : List Nd) (a : List (List D)), (nodes.foldl alongF a).length = a.length + nodes.length
  | [], a => by simp
  | n :: nodes, a => by
    rw [List.foldl_cons, foldl_len nodes]
    simp [alongF]
    omega
theorem alongs_len (nodes : List Nd) : (alongs nodes).length = nodes.length := by
  unfold alongs
  rw [foldl_len]
  simp
/-- what stands at a place stays -/
theorem foldl_pre : ∀ (nodes : List Nd) (a : List (List D)), ∃ b, nodes.foldl alongF a = a ++ b
  | [], a => ⟨[], by simp⟩
  | n :: nodes, a => by
    obtain ⟨b, hb⟩ := foldl_pre nodes (alongF a n)
    exact ⟨_, by rw [List.foldl_cons, hb]; unfold alongF; rw [List.append_assoc]⟩
theorem alongs_pre (nodes : List Nd) (i : Nat) : ∃ b, alongs nodes = alongs (nodes.take i) ++ b := by
  have := foldl_pre (nodes.drop i) (alongs (nodes.take i))
  unfold alongs at this ⊢
  rw [← List.foldl_append, List.take_append_drop] at this
  exact this
theorem alongs_at {nodes : List Nd} {i : Nat} {n : Nd} (h : nodes[i]? = some n) : (alongs nodes)[i]? = some ((if 0 ≤ n.par then (alongs (nodes.take i)).getD n.par.toNat [] else []) ++ n.sh) := by
  obtain ⟨b, hb⟩ := alongs_pre nodes (i + 1)
  obtain ⟨hi, _⟩ := List.getElem?_eq_some_iff.mp h
  have hl : (alongs (nodes.take i)).length = i := by rw [alongs_len, List.length_take]; omega
  rw [hb, alongs_take h]
  unfold alongF
  rw [List.append_assoc, List.getElem?_append_right (by omega), hl, Nat.sub_self]
  rfl
structure TreeOk (sg : List Nat) (nodes : List Nd) : Prop where
  sgo : Sg sg
  l1 : 1 ≤ nodes.length
  l2 : nodes.length ≤ 12
  nd : (nodes.map Nd.name).Nodup
  nm : ∀ n ∈ nodes, m_is_name none [.str n.name] = yes
  zero : ∀ n : Nd, nodes[0]? = some n → n.par = -1 ∧ n.sh = []
  pos : ∀ (i : Nat) (n : Nd), nodes[i + 1]? = some n → 0 ≤ n.par ∧ n.par ≤ (i : Int) ∧ n.sh.length ≤ 6 ∧ ∀ d ∈ n.sh, IsSh sg d
  al : ∀ a ∈ alongs nodes, a.length ≤ 6
theorem TreeOk.any {sg : List Nat} {nodes : List Nd} (t : TreeOk sg nodes) {i : Nat} {n : Nd} (h : nodes[i]? = some n) : n.par < i ∧ n.sh.length ≤ 6 ∧ (0 ≤ n.par ∨ n.par = -1) := by
  cases i with
  | zero => obtain ⟨a, b⟩ := t.zero n h; rw [a, b]; simp
  | succ i => obtain ⟨a, b, c, _⟩ := t.pos i n h; exact ⟨by omega, c, .inl a⟩
theorem shifts_along_ok {sg : List Nat} {nodes : List Nd} (t : TreeOk sg nodes) : m_shifts_along none [.tuple (nodes.map Nd.d)] = some (.new (.l ((alongs nodes).map PyData.tuple)), none) := by
  obtain ⟨env', h1, c2, c3, c4, h2⟩ := loopF_inv (g := gTp 3 (gsCons (gNm false 2) (gsCons (gNm false 3) (gsCons (gNm false 4) (gsNil))))) (b := sEx (dM "list" (dNm 1) (aCons (d2 (dIf (dB (d2 (dNm 3) (dK (.int 0)) (kS gGe))) (d2 (dNm 1) (dNm 3) kIx) (dTup (aNil))) (dNm 4) kAdd) (aNil)) kApp))
    (Inv := fun k env => ∃ c2 c3 c4, env = [some (.dat (.tuple (nodes.map Nd.d))), some (.own (.l ((alongs (nodes.take k)).map PyData.tuple))), c2, c3, c4]) (nodes.map Nd.d) 0 [some (.dat (.tuple (nodes.map Nd.d))), some (.own (.l [])), none, none, none] (by
    rintro i d env hd ⟨c2, c3, c4, rfl⟩
    rw [Nat.zero_add] at *
    rw [List.getElem?_map, Option.map_eq_some_iff] at hd
    obtain ⟨n, hn, rfl⟩ := hd
    obtain ⟨hp, hs, hq⟩ := t.any hn
    obtain ⟨hi, _⟩ := List.getElem?_eq_some_iff.mp hn
    have hl : (alongs (nodes.take i)).length = i := by rw [alongs_len, List.length_take]; omega
    have ha := alongs_take hn
    have hmem : ∀ a ∈ alongs (nodes.take i), a.length ≤ 6 := fun a h => by
      obtain ⟨b, hb⟩ := alongs_pre nodes i
      exact t.al a (by rw [hb]; exact List.mem_append_left _ h)
    refine ⟨[some (.dat (.tuple (nodes.map Nd.d))), some (.own (.l ((alongs (nodes.take i)).map PyData.tuple))), some (.dat (.str n.name)), some (.dat (.int n.par)), some (.dat (.tuple n.sh))], _, ?_, ?_, some (.dat (.str n.name)), some (.dat (.int n.par)), some (.dat (.tuple n.sh)), rfl⟩
    · unfold Nd.d
      simp -dsimp only [bnd_some, bnd_none, f_sem, f_rt, f_nx, f_rD, f_rN, f_rS, f_rkO, f_rkD, f_p0, f_p1, f_pk, f_vD, f_vN, f_st0, f_st1, f_call0, f_k0, f_call1, f_c1, f_c2, f_pP, f_pO, f_k1P, f_k1O, f_k2, f_callK, e_nm, e_nmD, e_nmO, e_nmP, e_rdD, e_rdN, e_rdS, e_rkD, e_rkO, e_rkP, e_fzD, e_fzN, e_fzS, e_fkD, e_fkO, e_K, e_aN, e_aC, e_tup, e_lst, e_fzs0, e_fzs1, e_d2, e_kS, e_dB, e_bK, e_tA, e_tO, e_tN, e_eA, e_eO, e_eN, e_if, e_call, e_k1, e_k2, e_isi, e_neg, e_negK, e_ch, g_lt, g_le, g_ge, g_gt, g_ltI, g_sub, g_inS, g_isB, g_isnB, e_add, e_addI, e_ix, e_ixL, e_ixT, e_oN, e_oS, e_soK, e_sl, e_slL, e_slT, e_rev, e_revT, e_revL, h_lenL, h_lenT, h_abs, h_int, h_max, h_min, h_tupL, h_tupT, h_lstL, h_lstT, s_seq, s_nx, s_rt, s_bk, s_ct, s_ret, s_retN, s_nxE, s_bkE, s_if, s_ex, s_as, s_nmF, s_nmT, s_gs0, s_gs1, s_tp, s_tpT, s_ix, s_ixK, s_ixP, s_ixO, s_par, s_ins0, s_ins1, s_inF, s_inT, s_put0, s_put1, e_m, e_ty, e_tyL, e_tyS, e_app, e_appO, e_ext, e_extO, atI_0, atI_1, atI_2, atI_3, atI_4, atI_5, atI_last, PyData.isInt, PyData.isBool, PyData.isStr, PyData.isTuple, PyData.isList, List.map_cons, List.map_nil, List.length_cons, List.length_nil, List.cons_append, List.nil_append, List.replicate, Nat.reduceAdd, Nat.reduceSub, List.getElem?_cons_zero, List.getElem?_cons_succ, List.getElem?_nil, List.set_cons_zero, List.set_cons_succ, Option.bind_some, Option.map_some, Option.bind_none, Option.map_none, Nat.zero_add, Int.reduceLE, Int.reduceLT, Nat.reduceLT, Nat.reduceLeDiff, and_self, and_true, true_and, if_true, if_false, ite_true, ite_false, decide_true, decide_false, ↓reduceIte, Bool.false_eq_true, Bool.not_true, Bool.not_false, List.mem_cons, forall_eq_or_imp, List.not_mem_nil, forall_const, List.all_cons, List.all_nil, Bool.and_true, Bool.and_self, Bool.true_and]
    · have hlm : ((alongs (nodes.take i)).map PyData.tuple).length ≤ 1000000 := by rw [List.length_map, hl]; have := t.l2; omega
      rw [ha]
      unfold alongF
      rcases hq with h0 | h0
      · have hj : n.par.toNat < (alongs (nodes.take i)).length := by omega
        have hat : atI ((alongs (nodes.take i)).map PyData.tuple) n.par = some (.tuple ((alongs (nodes.take i)).getD n.par.toNat [])) := by
          have := atI_nat (xs := (alongs (nodes.take i)).map PyData.tuple) (n := n.par.toNat)
          rw [Int.toNat_of_nonneg h0] at this
          rw [this, List.getElem?_map, List.getD_eq_getElem?_getD, List.getElem?_eq_getElem hj]
          rfl
        have hl6 : ((alongs (nodes.take i)).getD n.par.toNat []).length ≤ 6 := by
          rw [List.getD_eq_getElem?_getD, List.getElem?_eq_getElem hj]
          exact hmem _ (List.getElem_mem hj)
        simp -dsimp only [bnd_some, bnd_none, f_sem, f_rt, f_nx, f_rD, f_rN, f_rS, f_rkO, f_rkD, f_p0, f_p1, f_pk, f_vD, f_vN, f_st0, f_st1, f_call0, f_k0, f_call1, f_c1, f_c2, f_pP, f_pO, f_k1P, f_k1O, f_k2, f_callK, e_nm, e_nmD, e_nmO, e_nmP, e_rdD, e_rdN, e_rdS, e_rkD, e_rkO, e_rkP, e_fzD, e_fzN, e_fzS, e_fkD, e_fkO, e_K, e_aN, e_aC, e_tup, e_lst, e_fzs0, e_fzs1, e_d2, e_kS, e_dB, e_bK, e_tA, e_tO, e_tN, e_eA, e_eO, e_eN, e_if, e_call, e_k1, e_k2, e_isi, e_neg, e_negK, e_ch, g_lt, g_le, g_ge, g_gt, g_ltI, g_sub, g_inS, g_isB, g_isnB, e_add, e_addI, e_ix, e_ixL, e_ixT, e_oN, e_oS, e_soK, e_sl, e_slL, e_slT, e_rev, e_revT, e_revL, h_lenL, h_lenT, h_abs, h_int, h_max, h_min, h_tupL, h_tupT, h_lstL, h_lstT, s_seq, s_nx, s_rt, s_bk, s_ct, s_ret, s_retN, s_nxE, s_bkE, s_if, s_ex, s_as, s_nmF, s_nmT, s_gs0, s_gs1, s_tp, s_tpT, s_ix, s_ixK, s_ixP, s_ixO, s_par, s_ins0, s_ins1, s_inF, s_inT, s_put0, s_put1, e_m, e_ty, e_tyL, e_tyS, e_app, e_appO, e_ext, e_extO, atI_0, atI_1, atI_2, atI_3, atI_4, atI_5, atI_last, PyData.isInt, PyData.isBool, PyData.isStr, PyData.isTuple, PyData.isList, List.map_cons, List.map_nil, List.length_cons, List.length_nil, List.cons_append, List.nil_append, List.replicate, Nat.reduceAdd, Nat.reduceSub, List.getElem?_cons_zero, List.getElem?_cons_succ, List.getElem?_nil, List.set_cons_zero, List.set_cons_succ, Option.bind_some, Option.map_some, Option.bind_none, Option.map_none, Nat.zero_add, Int.reduceLE, Int.reduceLT, Nat.reduceLT, Nat.reduceLeDiff, and_self, and_true, true_and, if_true, if_false, ite_true, ite_false, decide_true, decide_false, ↓reduceIte, Bool.false_eq_true, Bool.not_true, Bool.not_false, List.mem_cons, forall_eq_or_imp, List.not_mem_nil, forall_const, List.all_cons, List.all_nil, Bool.and_true, Bool.and_self, Bool.true_and, h0, hat, fun env => @e_addT env ((alongs (nodes.take i)).getD n.par.toNat []) n.sh (by omega), hlm]
        simp
      · have h0' : ¬ 0 ≤ n.par := by omega
        simp -dsimp only [bnd_some, bnd_none, f_sem, f_rt, f_nx, f_rD, f_rN, f_rS, f_rkO, f_rkD, f_p0, f_p1, f_pk, f_vD, f_vN, f_st0, f_st1, f_call0, f_k0, f_call1, f_c1, f_c2, f_pP, f_pO, f_k1P, f_k1O, f_k2, f_callK, e_nm, e_nmD, e_nmO, e_nmP, e_rdD, e_rdN, e_rdS, e_rkD, e_rkO, e_rkP, e_fzD, e_fzN, e_fzS, e_fkD, e_fkO, e_K, e_aN, e_aC, e_tup, e_lst, e_fzs0, e_fzs1, e_d2, e_kS, e_dB, e_bK, e_tA, e_tO, e_tN, e_eA, e_eO, e_eN, e_if, e_call, e_k1, e_k2, e_isi, e_neg, e_negK, e_ch, g_lt, g_le, g_ge, g_gt, g_ltI, g_sub, g_inS, g_isB, g_isnB, e_add, e_addI, e_ix, e_ixL, e_ixT, e_oN, e_oS, e_soK, e_sl, e_slL, e_slT, e_rev, e_revT, e_revL, h_lenL, h_lenT, h_abs, h_int, h_max, h_min, h_tupL, h_tupT, h_lstL, h_lstT, s_seq, s_nx, s_rt, s_bk, s_ct, s_ret, s_retN, s_nxE, s_bkE, s_if, s_ex, s_as, s_nmF, s_nmT, s_gs0, s_gs1, s_tp, s_tpT, s_ix, s_ixK, s_ixP, s_ixO, s_par, s_ins0, s_ins1, s_inF, s_inT, s_put0, s_put1, e_m, e_ty, e_tyL, e_tyS, e_app, e_appO, e_ext, e_extO, atI_0, atI_1, atI_2, atI_3, atI_4, atI_5, atI_last, PyData.isInt, PyData.isBool, PyData.isStr, PyData.isTuple, PyData.isList, List.map_cons, List.map_nil, List.length_cons, List.length_nil, List.cons_append, List.nil_append, List.replicate, Nat.reduceAdd, Nat.reduceSub, List.getElem?_cons_zero, List.getElem?_cons_succ, List.getElem?_nil, List.set_cons_zero, List.set_cons_succ, Option.bind_some, Option.map_some, Option.bind_none, Option.map_none, Nat.zero_add, Int.reduceLE, Int.reduceLT, Nat.reduceLT, Nat.reduceLeDiff, and_self, and_true, true_and, if_true, if_false, ite_true, ite_false, decide_true, decide_false, ↓reduceIte, Bool.false_eq_true, Bool.not_true, Bool.not_false, List.mem_cons, forall_eq_or_imp, List.not_mem_nil, forall_const, List.all_cons, List.all_nil, Bool.and_true, Bool.and_self, Bool.true_and, h0', fun env => @e_addT env [] n.sh (by simp; omega), hlm]
        simp) ⟨none, none, none, rfl⟩
  rw [Nat.zero_add, List.length_map, List.take_length] at h2
  unfold m_shifts_along d_shifts_along N_shifts_along
  simp -dsimp only [bnd_some, bnd_none, f_sem, f_rt, f_nx, f_rD, f_rN, f_rS, f_rkO, f_rkD, f_p0, f_p1, f_pk, f_vD, f_vN, f_st0, f_st1, f_call0, f_k0, f_call1, f_c1, f_c2, f_pP, f_pO, f_k1P, f_k1O, f_k2, f_callK, e_nm, e_nmD, e_nmO, e_nmP, e_rdD, e_rdN, e_rdS, e_rkD, e_rkO, e_rkP, e_fzD, e_fzN, e_fzS, e_fkD, e_fkO, e_K, e_aN, e_aC, e_tup, e_lst, e_fzs0, e_fzs1, e_d2, e_kS, e_dB, e_bK, e_tA, e_tO, e_tN, e_eA, e_eO, e_eN, e_if, e_call, e_k1, e_k2, e_isi, e_neg, e_negK, e_ch, g_lt, g_le, g_ge, g_gt, g_ltI, g_sub, g_inS, g_isB, g_isnB, e_add, e_addI, e_ix, e_ixL, e_ixT, e_oN, e_oS, e_soK, e_sl, e_slL, e_slT, e_rev, e_revT, e_revL, h_lenL, h_lenT, h_abs, h_int, h_max, h_min, h_tupL, h_tupT, h_lstL, h_lstT, s_seq, s_nx, s_rt, s_bk, s_ct, s_ret, s_retN, s_nxE, s_bkE, s_if, s_ex, s_as, s_nmF, s_nmT, s_gs0, s_gs1, s_tp, s_tpT, s_ix, s_ixK, s_ixP, s_ixO, s_par, s_ins0, s_ins1, s_inF, s_inT, s_put0, s_put1, e_m, e_ty, e_tyL, e_tyS, e_app, e_appO, e_ext, e_extO, atI_0, atI_1, atI_2, atI_3, atI_4, atI_5, atI_last, PyData.isInt, PyData.isBool, PyData.isStr, PyData.isTuple, PyData.isList, List.map_cons, List.map_nil, List.length_cons, List.length_nil, List.cons_append, List.nil_append, List.replicate, Nat.reduceAdd, Nat.reduceSub, List.getElem?_cons_zero, List.getElem?_cons_succ, List.getElem?_nil, List.set_cons_zero, List.set_cons_succ, Option.bind_some, Option.map_some, Option.bind_none, Option.map_none, Nat.zero_add, Int.reduceLE, Int.reduceLT, Nat.reduceLT, Nat.reduceLeDiff, and_self, and_true, true_and, if_true, if_false, ite_true, ite_false, decide_true, decide_false, ↓reduceIte, Bool.false_eq_true, Bool.not_true, Bool.not_false, List.mem_cons, forall_eq_or_imp, List.not_mem_nil, forall_const, List.all_cons, List.all_nil, Bool.and_true, Bool.and_self, Bool.true_and, s_for, e_iIt, e_itT, h1, h2]
theorem signs_ok {sg : List Nat} (hs : Sg sg) : m_are_signs none [.str (S sg)] = yes := by
  rcases hs with rfl | rfl
  · exact isT_ok (by decide +kernel)
  · exact isT_ok (by decide +kernel)
theorem within_ok {v a b : Int} (h1 : a ≤ v) (h2 : v ≤ b) : m_is_within none [.int v, .int a, .int b] = yes := by
  have e : m_is_integer none [.int v] = yes := by
    unfold m_is_integer d_is_integer N_is_integer
    simp -dsimp only [bnd_some, bnd_none, f_sem, f_rt, f_nx, f_rD, f_rN, f_rS, f_rkO, f_rkD, f_p0, f_p1, f_pk, f_vD, f_vN, f_st0, f_st1, f_call0, f_k0, f_call1, f_c1, f_c2, f_pP, f_pO, f_k1P, f_k1O, f_k2, f_callK, e_nm, e_nmD, e_nmO, e_nmP, e_rdD, e_rdN, e_rdS, e_rkD, e_rkO, e_rkP, e_fzD, e_fzN, e_fzS, e_fkD, e_fkO, e_K, e_aN, e_aC, e_tup, e_lst, e_fzs0, e_fzs1, e_d2, e_kS, e_dB, e_bK, e_tA, e_tO, e_tN, e_eA, e_eO, e_eN, e_if, e_call, e_k1, e_k2, e_isi, e_neg, e_negK, e_ch, g_lt, g_le, g_ge, g_gt, g_ltI, g_sub, g_inS, g_isB, g_isnB, e_add, e_addI, e_ix, e_ixL, e_ixT, e_oN, e_oS, e_soK, e_sl, e_slL, e_slT, e_rev, e_revT, e_revL, h_lenL, h_lenT, h_abs, h_int, h_max, h_min, h_tupL, h_tupT, h_lstL, h_lstT, s_seq, s_nx, s_rt, s_bk, s_ct, s_ret, s_retN, s_nxE, s_bkE, s_if, s_ex, s_as, s_nmF, s_nmT, s_gs0, s_gs1, s_tp, s_tpT, s_ix, s_ixK, s_ixP, s_ixO, s_par, s_ins0, s_ins1, s_inF, s_inT, s_put0, s_put1, e_m, e_ty, e_tyL, e_tyS, e_app, e_appO, e_ext, e_extO, atI_0, atI_1, atI_2, atI_3, atI_4, atI_5, atI_last, PyData.isInt, PyData.isBool, PyData.isStr, PyData.isTuple, PyData.isList, List.map_cons, List.map_nil, List.length_cons, List.length_nil, List.cons_append, List.nil_append, List.replicate, Nat.reduceAdd, Nat.reduceSub, List.getElem?_cons_zero, List.getElem?_cons_succ, List.getElem?_nil, List.set_cons_zero, List.set_cons_succ, Option.bind_some, Option.map_some, Option.bind_none, Option.map_none, Nat.zero_add, Int.reduceLE, Int.reduceLT, Nat.reduceLT, Nat.reduceLeDiff, and_self, and_true, true_and, if_true, if_false, ite_true, ite_false, decide_true, decide_false, ↓reduceIte, Bool.false_eq_true, Bool.not_true, Bool.not_false, List.mem_cons, forall_eq_or_imp, List.not_mem_nil, forall_const, List.all_cons, List.all_nil, Bool.and_true, Bool.and_self, Bool.true_and]
  unfold m_is_within d_is_within N_is_within
  simp -dsimp only [bnd_some, bnd_none, f_sem, f_rt, f_nx, f_rD, f_rN, f_rS, f_rkO, f_rkD, f_p0, f_p1, f_pk, f_vD, f_vN, f_st0, f_st1, f_call0, f_k0, f_call1, f_c1, f_c2, f_pP, f_pO, f_k1P, f_k1O, f_k2, f_callK, e_nm, e_nmD, e_nmO, e_nmP, e_rdD, e_rdN, e_rdS, e_rkD, e_rkO, e_rkP, e_fzD, e_fzN, e_fzS, e_fkD, e_fkO, e_K, e_aN, e_aC, e_tup, e_lst, e_fzs0, e_fzs1, e_d2, e_kS, e_dB, e_bK, e_tA, e_tO, e_tN, e_eA, e_eO, e_eN, e_if, e_call, e_k1, e_k2, e_isi, e_neg, e_negK, e_ch, g_lt, g_le, g_ge, g_gt, g_ltI, g_sub, g_inS, g_isB, g_isnB, e_add, e_addI, e_ix, e_ixL, e_ixT, e_oN, e_oS, e_soK, e_sl, e_slL, e_slT, e_rev, e_revT, e_revL, h_lenL, h_lenT, h_abs, h_int, h_max, h_min, h_tupL, h_tupT, h_lstL, h_lstT, s_seq, s_nx, s_rt, s_bk, s_ct, s_ret, s_retN, s_nxE, s_bkE, s_if, s_ex, s_as, s_nmF, s_nmT, s_gs0, s_gs1, s_tp, s_tpT, s_ix, s_ixK, s_ixP, s_ixO, s_par, s_ins0, s_ins1, s_inF, s_inT, s_put0, s_put1, e_m, e_ty, e_tyL, e_tyS, e_app, e_appO, e_ext, e_extO, atI_0, atI_1, atI_2, atI_3, atI_4, atI_5, atI_last, PyData.isInt, PyData.isBool, PyData.isStr, PyData.isTuple, PyData.isList, List.map_cons, List.map_nil, List.length_cons, List.length_nil, List.cons_append, List.nil_append, List.replicate, Nat.reduceAdd, Nat.reduceSub, List.getElem?_cons_zero, List.getElem?_cons_succ, List.getElem?_nil, List.set_cons_zero, List.set_cons_succ, Option.bind_some, Option.map_some, Option.bind_none, Option.map_none, Nat.zero_add, Int.reduceLE, Int.reduceLT, Nat.reduceLT, Nat.reduceLeDiff, and_self, and_true, true_and, if_true, if_false, ite_true, ite_false, decide_true, decide_false, ↓reduceIte, Bool.false_eq_true, Bool.not_true, Bool.not_false, List.mem_cons, forall_eq_or_imp, List.not_mem_nil, forall_const, List.all_cons, List.all_nil, Bool.and_true, Bool.and_self, Bool.true_and, e, h1, h2]
theorem node_ok {sg : List Nat} {nodes : List Nd} (t : TreeOk sg nodes) {i : Nat} {n : Nd} (h : nodes[i]? = some n) : m_is_node none [.str (S sg), .int (i : Int), n.d] = yes := by
  have t3 : m_is_tuple none [n.d, .int 3] = yes := istuple_ok (ds := [_, _, _])
  have hn := t.nm n (List.mem_of_getElem? h)
  unfold m_is_node d_is_node N_is_node
  unfold Nd.d at t3 ⊢
  cases i with
  | zero =>
    obtain ⟨h1, h2⟩ := t.zero n h
    have hw := within_ok (v := -1) (a := -1) (b := -1) (by decide) (by decide)
    rw [h1, h2] at t3 ⊢
    simp -dsimp only [bnd_some, bnd_none, f_sem, f_rt, f_nx, f_rD, f_rN, f_rS, f_rkO, f_rkD, f_p0, f_p1, f_pk, f_vD, f_vN, f_st0, f_st1, f_call0, f_k0, f_call1, f_c1, f_c2, f_pP, f_pO, f_k1P, f_k1O, f_k2, f_callK, e_nm, e_nmD, e_nmO, e_nmP, e_rdD, e_rdN, e_rdS, e_rkD, e_rkO, e_rkP, e_fzD, e_fzN, e_fzS, e_fkD, e_fkO, e_K, e_aN, e_aC, e_tup, e_lst, e_fzs0, e_fzs1, e_d2, e_kS, e_dB, e_bK, e_tA, e_tO, e_tN, e_eA, e_eO, e_eN, e_if, e_call, e_k1, e_k2, e_isi, e_neg, e_negK, e_ch, g_lt, g_le, g_ge, g_gt, g_ltI, g_sub, g_inS, g_isB, g_isnB, e_add, e_addI, e_ix, e_ixL, e_ixT, e_oN, e_oS, e_soK, e_sl, e_slL, e_slT, e_rev, e_revT, e_revL, h_lenL, h_lenT, h_abs, h_int, h_max, h_min, h_tupL, h_tupT, h_lstL, h_lstT, s_seq, s_nx, s_rt, s_bk, s_ct, s_ret, s_retN, s_nxE, s_bkE, s_if, s_ex, s_as, s_nmF, s_nmT, s_gs0, s_gs1, s_tp, s_tpT, s_ix, s_ixK, s_ixP, s_ixO, s_par, s_ins0, s_ins1, s_inF, s_inT, s_put0, s_put1, e_m, e_ty, e_tyL, e_tyS, e_app, e_appO, e_ext, e_extO, atI_0, atI_1, atI_2, atI_3, atI_4, atI_5, atI_last, PyData.isInt, PyData.isBool, PyData.isStr, PyData.isTuple, PyData.isList, List.map_cons, List.map_nil, List.length_cons, List.length_nil, List.cons_append, List.nil_append, List.replicate, Nat.reduceAdd, Nat.reduceSub, List.getElem?_cons_zero, List.getElem?_cons_succ, List.getElem?_nil, List.set_cons_zero, List.set_cons_succ, Option.bind_some, Option.map_some, Option.bind_none, Option.map_none, Nat.zero_add, Int.reduceLE, Int.reduceLT, Nat.reduceLT, Nat.reduceLeDiff, and_self, and_true, true_and, if_true, if_false, ite_true, ite_false, decide_true, decide_false, ↓reduceIte, Bool.false_eq_true, Bool.not_true, Bool.not_false, List.mem_cons, forall_eq_or_imp, List.not_mem_nil, forall_const, List.all_cons, List.all_nil, Bool.and_true, Bool.and_self, Bool.true_and, t3, hn, g_eqI, Int.ofNat_zero, Int.natCast_zero, Int.reduceNeg, hw, g_eq0T, List.isEmpty_nil]
  | succ i =>
    obtain ⟨h1, h2, h3, h4⟩ := t.pos i n h
    have hne : ¬ (((i + 1 : Nat) : Int) = 0) := by omega
    have hw := within_ok (v := n.par) (a := 0) (b := ((i + 1 : Nat) : Int) - 1) h1 (by omega)
    have hl : ¬ (6 : Int) < (n.sh.length : Int) := by omega
    obtain ⟨bs, h5, h6⟩ := all_yes (vs := [3]) (g := cNm 3) (fe := dF 2 false m_is_shift_of (aCons (dNm 0) (aCons (dNm 3) (aNil)))) n.sh [some (.dat (.str (S sg))), some (.dat (.int ((i + 1 : Nat) : Int))), some (.dat (.tuple [.str n.name, .int n.par, .tuple n.sh])), none] (fun d hd => by
      have := shift_ok t.sgo (h4 d hd)
      unfold stepC
      simp -dsimp only [bnd_some, bnd_none, f_sem, f_rt, f_nx, f_rD, f_rN, f_rS, f_rkO, f_rkD, f_p0, f_p1, f_pk, f_vD, f_vN, f_st0, f_st1, f_call0, f_k0, f_call1, f_c1, f_c2, f_pP, f_pO, f_k1P, f_k1O, f_k2, f_callK, e_nm, e_nmD, e_nmO, e_nmP, e_rdD, e_rdN, e_rdS, e_rkD, e_rkO, e_rkP, e_fzD, e_fzN, e_fzS, e_fkD, e_fkO, e_K, e_aN, e_aC, e_tup, e_lst, e_fzs0, e_fzs1, e_d2, e_kS, e_dB, e_bK, e_tA, e_tO, e_tN, e_eA, e_eO, e_eN, e_if, e_call, e_k1, e_k2, e_isi, e_neg, e_negK, e_ch, g_lt, g_le, g_ge, g_gt, g_ltI, g_sub, g_inS, g_isB, g_isnB, e_add, e_addI, e_ix, e_ixL, e_ixT, e_oN, e_oS, e_soK, e_sl, e_slL, e_slT, e_rev, e_revT, e_revL, h_lenL, h_lenT, h_abs, h_int, h_max, h_min, h_tupL, h_tupT, h_lstL, h_lstT, s_seq, s_nx, s_rt, s_bk, s_ct, s_ret, s_retN, s_nxE, s_bkE, s_if, s_ex, s_as, s_nmF, s_nmT, s_gs0, s_gs1, s_tp, s_tpT, s_ix, s_ixK, s_ixP, s_ixO, s_par, s_ins0, s_ins1, s_inF, s_inT, s_put0, s_put1, e_m, e_ty, e_tyL, e_tyS, e_app, e_appO, e_ext, e_extO, atI_0, atI_1, atI_2, atI_3, atI_4, atI_5, atI_last, PyData.isInt, PyData.isBool, PyData.isStr, PyData.isTuple, PyData.isList, List.map_cons, List.map_nil, List.length_cons, List.length_nil, List.cons_append, List.nil_append, List.replicate, Nat.reduceAdd, Nat.reduceSub, List.getElem?_cons_zero, List.getElem?_cons_succ, List.getElem?_nil, List.set_cons_zero, List.set_cons_succ, Option.bind_some, Option.map_some, Option.bind_none, Option.map_none, Nat.zero_add, Int.reduceLE, Int.reduceLT, Nat.reduceLT, Nat.reduceLeDiff, and_self, and_true, true_and, if_true, if_false, ite_true, ite_false, decide_true, decide_false, ↓reduceIte, Bool.false_eq_true, Bool.not_true, Bool.not_false, List.mem_cons, forall_eq_or_imp, List.not_mem_nil, forall_const, List.all_cons, List.all_nil, Bool.and_true, Bool.and_self, Bool.true_and, e_cNm, e_tYs, this, e_wipe0, e_wipe1]) (by omega)
    simp -dsimp only [bnd_some, bnd_none, f_sem, f_rt, f_nx, f_rD, f_rN, f_rS, f_rkO, f_rkD, f_p0, f_p1, f_pk, f_vD, f_vN, f_st0, f_st1, f_call0, f_k0, f_call1, f_c1, f_c2, f_pP, f_pO, f_k1P, f_k1O, f_k2, f_callK, e_nm, e_nmD, e_nmO, e_nmP, e_rdD, e_rdN, e_rdS, e_rkD, e_rkO, e_rkP, e_fzD, e_fzN, e_fzS, e_fkD, e_fkO, e_K, e_aN, e_aC, e_tup, e_lst, e_fzs0, e_fzs1, e_d2, e_kS, e_dB, e_bK, e_tA, e_tO, e_tN, e_eA, e_eO, e_eN, e_if, e_call, e_k1, e_k2, e_isi, e_neg, e_negK, e_ch, g_lt, g_le, g_ge, g_gt, g_ltI, g_sub, g_inS, g_isB, g_isnB, e_add, e_addI, e_ix, e_ixL, e_ixT, e_oN, e_oS, e_soK, e_sl, e_slL, e_slT, e_rev, e_revT, e_revL, h_lenL, h_lenT, h_abs, h_int, h_max, h_min, h_tupL, h_tupT, h_lstL, h_lstT, s_seq, s_nx, s_rt, s_bk, s_ct, s_ret, s_retN, s_nxE, s_bkE, s_if, s_ex, s_as, s_nmF, s_nmT, s_gs0, s_gs1, s_tp, s_tpT, s_ix, s_ixK, s_ixP, s_ixO, s_par, s_ins0, s_ins1, s_inF, s_inT, s_put0, s_put1, e_m, e_ty, e_tyL, e_tyS, e_app, e_appO, e_ext, e_extO, atI_0, atI_1, atI_2, atI_3, atI_4, atI_5, atI_last, PyData.isInt, PyData.isBool, PyData.isStr, PyData.isTuple, PyData.isList, List.map_cons, List.map_nil, List.length_cons, List.length_nil, List.cons_append, List.nil_append, List.replicate, Nat.reduceAdd, Nat.reduceSub, List.getElem?_cons_zero, List.getElem?_cons_succ, List.getElem?_nil, List.set_cons_zero, List.set_cons_succ, Option.bind_some, Option.map_some, Option.bind_none, Option.map_none, Nat.zero_add, Int.reduceLE, Int.reduceLT, Nat.reduceLT, Nat.reduceLeDiff, and_self, and_true, true_and, if_true, if_false, ite_true, ite_false, decide_true, decide_false, ↓reduceIte, Bool.false_eq_true, Bool.not_true, Bool.not_false, List.mem_cons, forall_eq_or_imp, List.not_mem_nil, forall_const, List.all_cons, List.all_nil, Bool.and_true, Bool.and_self, Bool.true_and, t3, hn, g_eqI, hne, hw, hl, e_lc, e_iIt, e_itT, e_wipe0, e_wipe1, h5, e_rest0, e_rest1, h_all, h6]
theorem mem_enum {ds : List D} {d : D} (h : d ∈ dsEnum ds) : ∃ (i : Nat) (x : D), ds[i]? = some x ∧ d = .tuple [.int (i : Int), x] := by
  obtain ⟨i, hi, e⟩ := List.getElem_of_mem h
  have := List.getElem?_eq_getElem hi
  rw [dsEnum_get, e] at this
  cases q : ds[i]? with
  | none => rw [q] at this; cases this
  | some x => rw [q] at this; cases this; exact ⟨i, x, q, rfl⟩
def lsK (env : Env) : Option D → Option (Val × Env)
  | some (.list ds) => (keysOf ds).bind fun ks => if ds.length ≤ 60 then some (.dat (.int (metK ks).length), env) else none
  | _ => none
theorem e_ls {f : DE} {env : Env} : dLenSet f env = bnd (f env) fun r => lsK r.2 (r.1.rd r.2) := by
  simp only [bnd_eq]
  unfold dLenSet lsK
  congr 1
theorem keys_strs (xs : List Str) : keysOf (xs.map PyData.str) = some (xs.map Sum.inr) := by
  induction xs with
  | nil => rfl
  | cons x xs ih => simp [keysOf, keyD, ih]
theorem lsK_nodup {env : Env} {xs : List Str} (h : xs.Nodup) (hl : xs.length ≤ 60) : lsK env (some (.list (xs.map PyData.str))) = some (.dat (.int xs.length), env) := by
  unfold lsK
  simp only [keys_strs, Option.bind_some]
  rw [if_pos (by rw [List.length_map]; exact hl), metK_nodup (List.pairwise_map.mpr (List.Pairwise.imp (fun hne e => hne (Sum.inr.inj e)) h)), List.length_map]
theorem tree_any_ok {sg : List Nat} {nodes : List Nd} (t : TreeOk sg nodes) : m_is_tree_any none [treeD sg nodes] = yes := by
  have t3 : m_is_tuple none [treeD sg nodes, .int 3] = yes := istuple_ok (ds := [_, _, _])
  have hsg := signs_ok t.sgo
  have hlm : (nodes.map Nd.d).length = nodes.length := List.length_map _
  have h1 : (1 : Int) ≤ (nodes.length : Int) := by have := t.l1; omega
  have h2 : (nodes.length : Int) ≤ 12 := by have := t.l2; omega
  obtain ⟨bs, h5, h6⟩ := all_yes (vs := [2, 3]) (g := cTp 2 (csCons (cNm 2) (csCons (cNm 3) (csNil)))) (fe := dF 3 false m_is_node (aCons (d2 (dNm 0) (dK (.int 1)) kIx) (aCons (dNm 2) (aCons (dNm 3) (aNil))))) (dsEnum (nodes.map Nd.d)) [some (.dat (treeD sg nodes)), some (.dat (.tuple (nodes.map Nd.d))), none, none] (fun d hd => by
    obtain ⟨i, x, hx, rfl⟩ := mem_enum hd
    rw [List.getElem?_map, Option.map_eq_some_iff] at hx
    obtain ⟨n, hn, rfl⟩ := hx
    have := node_ok t hn
    unfold stepC treeD
    simp -dsimp only [bnd_some, bnd_none, f_sem, f_rt, f_nx, f_rD, f_rN, f_rS, f_rkO, f_rkD, f_p0, f_p1, f_pk, f_vD, f_vN, f_st0, f_st1, f_call0, f_k0, f_call1, f_c1, f_c2, f_pP, f_pO, f_k1P, f_k1O, f_k2, f_callK, e_nm, e_nmD, e_nmO, e_nmP, e_rdD, e_rdN, e_rdS, e_rkD, e_rkO, e_rkP, e_fzD, e_fzN, e_fzS, e_fkD, e_fkO, e_K, e_aN, e_aC, e_tup, e_lst, e_fzs0, e_fzs1, e_d2, e_kS, e_dB, e_bK, e_tA, e_tO, e_tN, e_eA, e_eO, e_eN, e_if, e_call, e_k1, e_k2, e_isi, e_neg, e_negK, e_ch, g_lt, g_le, g_ge, g_gt, g_ltI, g_sub, g_inS, g_isB, g_isnB, e_add, e_addI, e_ix, e_ixL, e_ixT, e_oN, e_oS, e_soK, e_sl, e_slL, e_slT, e_rev, e_revT, e_revL, h_lenL, h_lenT, h_abs, h_int, h_max, h_min, h_tupL, h_tupT, h_lstL, h_lstT, s_seq, s_nx, s_rt, s_bk, s_ct, s_ret, s_retN, s_nxE, s_bkE, s_if, s_ex, s_as, s_nmF, s_nmT, s_gs0, s_gs1, s_tp, s_tpT, s_ix, s_ixK, s_ixP, s_ixO, s_par, s_ins0, s_ins1, s_inF, s_inT, s_put0, s_put1, e_m, e_ty, e_tyL, e_tyS, e_app, e_appO, e_ext, e_extO, atI_0, atI_1, atI_2, atI_3, atI_4, atI_5, atI_last, PyData.isInt, PyData.isBool, PyData.isStr, PyData.isTuple, PyData.isList, List.map_cons, List.map_nil, List.length_cons, List.length_nil, List.cons_append, List.nil_append, List.replicate, Nat.reduceAdd, Nat.reduceSub, List.getElem?_cons_zero, List.getElem?_cons_succ, List.getElem?_nil, List.set_cons_zero, List.set_cons_succ, Option.bind_some, Option.map_some, Option.bind_none, Option.map_none, Nat.zero_add, Int.reduceLE, Int.reduceLT, Nat.reduceLT, Nat.reduceLeDiff, and_self, and_true, true_and, if_true, if_false, ite_true, ite_false, decide_true, decide_false, ↓reduceIte, Bool.false_eq_true, Bool.not_true, Bool.not_false, List.mem_cons, forall_eq_or_imp, List.not_mem_nil, forall_const, List.all_cons, List.all_nil, Bool.and_true, Bool.and_self, Bool.true_and, e_cTp, e_cs0, e_cs1, e_cNm, e_tYs, this, e_wipe0, e_wipe1]) (by rw [dsEnum_length, hlm]; have := t.l2; omega)
  have hal := shifts_along_ok t
  obtain ⟨cs, h7, h8⟩ := all_yes (vs := [3]) (g := cNm 3) (fe := d2 (dCall (aCons (dNm 3) (aNil)) (k1 hLen)) (dK (.int 6)) (kS gLe)) ((alongs nodes).map PyData.tuple) [some (.dat (treeD sg nodes)), some (.dat (.tuple (nodes.map Nd.d))), none, none] (fun d hd => by
    obtain ⟨a, ha, rfl⟩ := List.mem_map.mp hd
    have : (a.length : Int) ≤ 6 := by have := t.al a ha; omega
    unfold stepC
    simp -dsimp only [bnd_some, bnd_none, f_sem, f_rt, f_nx, f_rD, f_rN, f_rS, f_rkO, f_rkD, f_p0, f_p1, f_pk, f_vD, f_vN, f_st0, f_st1, f_call0, f_k0, f_call1, f_c1, f_c2, f_pP, f_pO, f_k1P, f_k1O, f_k2, f_callK, e_nm, e_nmD, e_nmO, e_nmP, e_rdD, e_rdN, e_rdS, e_rkD, e_rkO, e_rkP, e_fzD, e_fzN, e_fzS, e_fkD, e_fkO, e_K, e_aN, e_aC, e_tup, e_lst, e_fzs0, e_fzs1, e_d2, e_kS, e_dB, e_bK, e_tA, e_tO, e_tN, e_eA, e_eO, e_eN, e_if, e_call, e_k1, e_k2, e_isi, e_neg, e_negK, e_ch, g_lt, g_le, g_ge, g_gt, g_ltI, g_sub, g_inS, g_isB, g_isnB, e_add, e_addI, e_ix, e_ixL, e_ixT, e_oN, e_oS, e_soK, e_sl, e_slL, e_slT, e_rev, e_revT, e_revL, h_lenL, h_lenT, h_abs, h_int, h_max, h_min, h_tupL, h_tupT, h_lstL, h_lstT, s_seq, s_nx, s_rt, s_bk, s_ct, s_ret, s_retN, s_nxE, s_bkE, s_if, s_ex, s_as, s_nmF, s_nmT, s_gs0, s_gs1, s_tp, s_tpT, s_ix, s_ixK, s_ixP, s_ixO, s_par, s_ins0, s_ins1, s_inF, s_inT, s_put0, s_put1, e_m, e_ty, e_tyL, e_tyS, e_app, e_appO, e_ext, e_extO, atI_0, atI_1, atI_2, atI_3, atI_4, atI_5, atI_last, PyData.isInt, PyData.isBool, PyData.isStr, PyData.isTuple, PyData.isList, List.map_cons, List.map_nil, List.length_cons, List.length_nil, List.cons_append, List.nil_append, List.replicate, Nat.reduceAdd, Nat.reduceSub, List.getElem?_cons_zero, List.getElem?_cons_succ, List.getElem?_nil, List.set_cons_zero, List.set_cons_succ, Option.bind_some, Option.map_some, Option.bind_none, Option.map_none, Nat.zero_add, Int.reduceLE, Int.reduceLT, Nat.reduceLT, Nat.reduceLeDiff, and_self, and_true, true_and, if_true, if_false, ite_true, ite_false, decide_true, decide_false, ↓reduceIte, Bool.false_eq_true, Bool.not_true, Bool.not_false, List.mem_cons, forall_eq_or_imp, List.not_mem_nil, forall_const, List.all_cons, List.all_nil, Bool.and_true, Bool.and_self, Bool.true_and, e_cNm, e_tYs, this, e_wipe0, e_wipe1]) (by rw [List.length_map, alongs_len]; have := t.l2; omega)
  have hnm : loopC [3] (cNm 3) tYs (d2 (dNm 3) (dK (.int 0)) kIx) (nodes.map Nd.d) [] [some (.dat (treeD sg nodes)), some (.dat (.tuple (nodes.map Nd.d))), none, none] = some ((nodes.map Nd.name).map PyData.str, [some (.dat (treeD sg nodes)), some (.dat (.tuple (nodes.map Nd.d))), none, none]) := by
    rw [loopC_map (φ := fun d => match d with | .tuple (x :: _) => x | _ => .none) _ _ _ (fun d hd => by
      obtain ⟨n, hn, rfl⟩ := List.mem_map.mp hd
      unfold stepC Nd.d
      simp -dsimp only [bnd_some, bnd_none, f_sem, f_rt, f_nx, f_rD, f_rN, f_rS, f_rkO, f_rkD, f_p0, f_p1, f_pk, f_vD, f_vN, f_st0, f_st1, f_call0, f_k0, f_call1, f_c1, f_c2, f_pP, f_pO, f_k1P, f_k1O, f_k2, f_callK, e_nm, e_nmD, e_nmO, e_nmP, e_rdD, e_rdN, e_rdS, e_rkD, e_rkO, e_rkP, e_fzD, e_fzN, e_fzS, e_fkD, e_fkO, e_K, e_aN, e_aC, e_tup, e_lst, e_fzs0, e_fzs1, e_d2, e_kS, e_dB, e_bK, e_tA, e_tO, e_tN, e_eA, e_eO, e_eN, e_if, e_call, e_k1, e_k2, e_isi, e_neg, e_negK, e_ch, g_lt, g_le, g_ge, g_gt, g_ltI, g_sub, g_inS, g_isB, g_isnB, e_add, e_addI, e_ix, e_ixL, e_ixT, e_oN, e_oS, e_soK, e_sl, e_slL, e_slT, e_rev, e_revT, e_revL, h_lenL, h_lenT, h_abs, h_int, h_max, h_min, h_tupL, h_tupT, h_lstL, h_lstT, s_seq, s_nx, s_rt, s_bk, s_ct, s_ret, s_retN, s_nxE, s_bkE, s_if, s_ex, s_as, s_nmF, s_nmT, s_gs0, s_gs1, s_tp, s_tpT, s_ix, s_ixK, s_ixP, s_ixO, s_par, s_ins0, s_ins1, s_inF, s_inT, s_put0, s_put1, e_m, e_ty, e_tyL, e_tyS, e_app, e_appO, e_ext, e_extO, atI_0, atI_1, atI_2, atI_3, atI_4, atI_5, atI_last, PyData.isInt, PyData.isBool, PyData.isStr, PyData.isTuple, PyData.isList, List.map_cons, List.map_nil, List.length_cons, List.length_nil, List.cons_append, List.nil_append, List.replicate, Nat.reduceAdd, Nat.reduceSub, List.getElem?_cons_zero, List.getElem?_cons_succ, List.getElem?_nil, List.set_cons_zero, List.set_cons_succ, Option.bind_some, Option.map_some, Option.bind_none, Option.map_none, Nat.zero_add, Int.reduceLE, Int.reduceLT, Nat.reduceLT, Nat.reduceLeDiff, and_self, and_true, true_and, if_true, if_false, ite_true, ite_false, decide_true, decide_false, ↓reduceIte, Bool.false_eq_true, Bool.not_true, Bool.not_false, List.mem_cons, forall_eq_or_imp, List.not_mem_nil, forall_const, List.all_cons, List.all_nil, Bool.and_true, Bool.and_self, Bool.true_and, e_cNm, e_tYs, e_wipe0, e_wipe1]) (by rw [hlm, List.length_nil]; have := t.l2; omega), List.nil_append, List.map_map, List.map_map]
    rfl
  have hls : ∀ env, lsK env (some (.list ((nodes.map Nd.name).map PyData.str))) = some (.dat (.int nodes.length), env) := fun env => by
    have := lsK_nodup (env := env) t.nd (by rw [List.length_map]; have := t.l2; omega)
    rw [List.length_map] at this
    exact this
  unfold m_is_tree_any d_is_tree_any N_is_tree_any
  unfold treeD at t3 h5 h7 hnm ⊢
  simp -dsimp only [bnd_some, bnd_none, f_sem, f_rt, f_nx, f_rD, f_rN, f_rS, f_rkO, f_rkD, f_p0, f_p1, f_pk, f_vD, f_vN, f_st0, f_st1, f_call0, f_k0, f_call1, f_c1, f_c2, f_pP, f_pO, f_k1P, f_k1O, f_k2, f_callK, e_nm, e_nmD, e_nmO, e_nmP, e_rdD, e_rdN, e_rdS, e_rkD, e_rkO, e_rkP, e_fzD, e_fzN, e_fzS, e_fkD, e_fkO, e_K, e_aN, e_aC, e_tup, e_lst, e_fzs0, e_fzs1, e_d2, e_kS, e_dB, e_bK, e_tA, e_tO, e_tN, e_eA, e_eO, e_eN, e_if, e_call, e_k1, e_k2, e_isi, e_neg, e_negK, e_ch, g_lt, g_le, g_ge, g_gt, g_ltI, g_sub, g_inS, g_isB, g_isnB, e_add, e_addI, e_ix, e_ixL, e_ixT, e_oN, e_oS, e_soK, e_sl, e_slL, e_slT, e_rev, e_revT, e_revL, h_lenL, h_lenT, h_abs, h_int, h_max, h_min, h_tupL, h_tupT, h_lstL, h_lstT, s_seq, s_nx, s_rt, s_bk, s_ct, s_ret, s_retN, s_nxE, s_bkE, s_if, s_ex, s_as, s_nmF, s_nmT, s_gs0, s_gs1, s_tp, s_tpT, s_ix, s_ixK, s_ixP, s_ixO, s_par, s_ins0, s_ins1, s_inF, s_inT, s_put0, s_put1, e_m, e_ty, e_tyL, e_tyS, e_app, e_appO, e_ext, e_extO, atI_0, atI_1, atI_2, atI_3, atI_4, atI_5, atI_last, PyData.isInt, PyData.isBool, PyData.isStr, PyData.isTuple, PyData.isList, List.map_cons, List.map_nil, List.length_cons, List.length_nil, List.cons_append, List.nil_append, List.replicate, Nat.reduceAdd, Nat.reduceSub, List.getElem?_cons_zero, List.getElem?_cons_succ, List.getElem?_nil, List.set_cons_zero, List.set_cons_succ, Option.bind_some, Option.map_some, Option.bind_none, Option.map_none, Nat.zero_add, Int.reduceLE, Int.reduceLT, Nat.reduceLT, Nat.reduceLeDiff, and_self, and_true, true_and, if_true, if_false, ite_true, ite_false, decide_true, decide_false, ↓reduceIte, Bool.false_eq_true, Bool.not_true, Bool.not_false, List.mem_cons, forall_eq_or_imp, List.not_mem_nil, forall_const, List.all_cons, List.all_nil, Bool.and_true, Bool.and_self, Bool.true_and, t3, g_neS, hsg, h1, h2, e_lc, e_iEn, e_iIt, e_itT, e_itL, e_wipe0, e_wipe1, h5, e_rest0, e_rest1, h_all, h6, e_ls, hnm, List.getD_cons_zero, List.getD_cons_succ, hls, hlm, g_neI, hal, h7, h8]
end EW

namespace EW
open PySem L2
/-! ### what a shift does to a word -/
def sgAt (w : List Nat) (p : Int) : Nat := if 0 ≤ p ∧ p < (w.length : Int) then w.getD p.toNat 35 else 35
theorem sign_at_ok {w : List Nat} {p : Int} (hl : w.length ≤ 1000000) : m_sign_at none [.str (S w), .int p] = some (.dat (.str (S [sgAt w p])), none) := by
  have hlen : ∀ env, hLen (.str (S w)) env = some (.dat (.int (w.length : Int)), env) := fun env => by rw [h_lenS (by rw [S_len]; omega), S_len]
  unfold m_sign_at d_sign_at N_sign_at
  by_cases h0 : 0 ≤ p
  · by_cases h1 : p < (w.length : Int)
    · have hi : p.toNat < w.length := by omega
      have hat : atI w p = some (w.getD p.toNat 35) := by
        have := atI_nat (xs := w) (n := p.toNat)
        rw [Int.toNat_of_nonneg h0] at this
        rw [this, List.getElem?_eq_getElem hi, List.getD_eq_getElem?_getD, List.getElem?_eq_getElem hi]
        rfl
      have hx : ∀ env, ixK2 env (some (.str (S w))) (some (.int p)) = some (.dat (.str (S [w.getD p.toNat 35])), env) := fun env => by
        rw [e_ixS (by rw [S_len]; omega), S_cps, hat]
        rfl
      simp -dsimp only [bnd_some, bnd_none, f_sem, f_rt, f_nx, f_rD, f_rN, f_rS, f_rkO, f_rkD, f_p0, f_p1, f_pk, f_vD, f_vN, f_st0, f_st1, f_call0, f_k0, f_call1, f_c1, f_c2, f_pP, f_pO, f_k1P, f_k1O, f_k2, f_callK, e_nm, e_nmD, e_nmO, e_nmP, e_rdD, e_rdN, e_rdS, e_rkD, e_rkO, e_rkP, e_fzD, e_fzN, e_fzS, e_fkD, e_fkO, e_K, e_aN, e_aC, e_tup, e_lst, e_fzs0, e_fzs1, e_d2, e_kS, e_dB, e_bK, e_tA, e_tO, e_tN, e_eA, e_eO, e_eN, e_if, e_call, e_k1, e_k2, e_isi, e_neg, e_negK, e_ch, g_lt, g_le, g_ge, g_gt, g_ltI, g_sub, g_inS, g_isB, g_isnB, e_add, e_addI, e_ix, e_ixL, e_ixT, e_oN, e_oS, e_soK, e_sl, e_slL, e_slT, e_rev, e_revT, e_revL, h_lenL, h_lenT, h_abs, h_int, h_max, h_min, h_tupL, h_tupT, h_lstL, h_lstT, s_seq, s_nx, s_rt, s_bk, s_ct, s_ret, s_retN, s_nxE, s_bkE, s_if, s_ex, s_as, s_nmF, s_nmT, s_gs0, s_gs1, s_tp, s_tpT, s_ix, s_ixK, s_ixP, s_ixO, s_par, s_ins0, s_ins1, s_inF, s_inT, s_put0, s_put1, e_m, e_ty, e_tyL, e_tyS, e_app, e_appO, e_ext, e_extO, atI_0, atI_1, atI_2, atI_3, atI_4, atI_5, atI_last, PyData.isInt, PyData.isBool, PyData.isStr, PyData.isTuple, PyData.isList, List.map_cons, List.map_nil, List.length_cons, List.length_nil, List.cons_append, List.nil_append, List.replicate, Nat.reduceAdd, Nat.reduceSub, List.getElem?_cons_zero, List.getElem?_cons_succ, List.getElem?_nil, List.set_cons_zero, List.set_cons_succ, Option.bind_some, Option.map_some, Option.bind_none, Option.map_none, Nat.zero_add, Int.reduceLE, Int.reduceLT, Nat.reduceLT, Nat.reduceLeDiff, and_self, and_true, true_and, if_true, if_false, ite_true, ite_false, decide_true, decide_false, ↓reduceIte, Bool.false_eq_true, Bool.not_true, Bool.not_false, List.mem_cons, forall_eq_or_imp, List.not_mem_nil, forall_const, List.all_cons, List.all_nil, Bool.and_true, Bool.and_self, Bool.true_and, hlen, h0, h1, hx, sgAt]
    · simp -dsimp only [bnd_some, bnd_none, f_sem, f_rt, f_nx, f_rD, f_rN, f_rS, f_rkO, f_rkD, f_p0, f_p1, f_pk, f_vD, f_vN, f_st0, f_st1, f_call0, f_k0, f_call1, f_c1, f_c2, f_pP, f_pO, f_k1P, f_k1O, f_k2, f_callK, e_nm, e_nmD, e_nmO, e_nmP, e_rdD, e_rdN, e_rdS, e_rkD, e_rkO, e_rkP, e_fzD, e_fzN, e_fzS, e_fkD, e_fkO, e_K, e_aN, e_aC, e_tup, e_lst, e_fzs0, e_fzs1, e_d2, e_kS, e_dB, e_bK, e_tA, e_tO, e_tN, e_eA, e_eO, e_eN, e_if, e_call, e_k1, e_k2, e_isi, e_neg, e_negK, e_ch, g_lt, g_le, g_ge, g_gt, g_ltI, g_sub, g_inS, g_isB, g_isnB, e_add, e_addI, e_ix, e_ixL, e_ixT, e_oN, e_oS, e_soK, e_sl, e_slL, e_slT, e_rev, e_revT, e_revL, h_lenL, h_lenT, h_abs, h_int, h_max, h_min, h_tupL, h_tupT, h_lstL, h_lstT, s_seq, s_nx, s_rt, s_bk, s_ct, s_ret, s_retN, s_nxE, s_bkE, s_if, s_ex, s_as, s_nmF, s_nmT, s_gs0, s_gs1, s_tp, s_tpT, s_ix, s_ixK, s_ixP, s_ixO, s_par, s_ins0, s_ins1, s_inF, s_inT, s_put0, s_put1, e_m, e_ty, e_tyL, e_tyS, e_app, e_appO, e_ext, e_extO, atI_0, atI_1, atI_2, atI_3, atI_4, atI_5, atI_last, PyData.isInt, PyData.isBool, PyData.isStr, PyData.isTuple, PyData.isList, List.map_cons, List.map_nil, List.length_cons, List.length_nil, List.cons_append, List.nil_append, List.replicate, Nat.reduceAdd, Nat.reduceSub, List.getElem?_cons_zero, List.getElem?_cons_succ, List.getElem?_nil, List.set_cons_zero, List.set_cons_succ, Option.bind_some, Option.map_some, Option.bind_none, Option.map_none, Nat.zero_add, Int.reduceLE, Int.reduceLT, Nat.reduceLT, Nat.reduceLeDiff, and_self, and_true, true_and, if_true, if_false, ite_true, ite_false, decide_true, decide_false, ↓reduceIte, Bool.false_eq_true, Bool.not_true, Bool.not_false, List.mem_cons, forall_eq_or_imp, List.not_mem_nil, forall_const, List.all_cons, List.all_nil, Bool.and_true, Bool.and_self, Bool.true_and, hlen, h0, h1, sgAt]
      rfl
  · simp -dsimp only [bnd_some, bnd_none, f_sem, f_rt, f_nx, f_rD, f_rN, f_rS, f_rkO, f_rkD, f_p0, f_p1, f_pk, f_vD, f_vN, f_st0, f_st1, f_call0, f_k0, f_call1, f_c1, f_c2, f_pP, f_pO, f_k1P, f_k1O, f_k2, f_callK, e_nm, e_nmD, e_nmO, e_nmP, e_rdD, e_rdN, e_rdS, e_rkD, e_rkO, e_rkP, e_fzD, e_fzN, e_fzS, e_fkD, e_fkO, e_K, e_aN, e_aC, e_tup, e_lst, e_fzs0, e_fzs1, e_d2, e_kS, e_dB, e_bK, e_tA, e_tO, e_tN, e_eA, e_eO, e_eN, e_if, e_call, e_k1, e_k2, e_isi, e_neg, e_negK, e_ch, g_lt, g_le, g_ge, g_gt, g_ltI, g_sub, g_inS, g_isB, g_isnB, e_add, e_addI, e_ix, e_ixL, e_ixT, e_oN, e_oS, e_soK, e_sl, e_slL, e_slT, e_rev, e_revT, e_revL, h_lenL, h_lenT, h_abs, h_int, h_max, h_min, h_tupL, h_tupT, h_lstL, h_lstT, s_seq, s_nx, s_rt, s_bk, s_ct, s_ret, s_retN, s_nxE, s_bkE, s_if, s_ex, s_as, s_nmF, s_nmT, s_gs0, s_gs1, s_tp, s_tpT, s_ix, s_ixK, s_ixP, s_ixO, s_par, s_ins0, s_ins1, s_inF, s_inT, s_put0, s_put1, e_m, e_ty, e_tyL, e_tyS, e_app, e_appO, e_ext, e_extO, atI_0, atI_1, atI_2, atI_3, atI_4, atI_5, atI_last, PyData.isInt, PyData.isBool, PyData.isStr, PyData.isTuple, PyData.isList, List.map_cons, List.map_nil, List.length_cons, List.length_nil, List.cons_append, List.nil_append, List.replicate, Nat.reduceAdd, Nat.reduceSub, List.getElem?_cons_zero, List.getElem?_cons_succ, List.getElem?_nil, List.set_cons_zero, List.set_cons_succ, Option.bind_some, Option.map_some, Option.bind_none, Option.map_none, Nat.zero_add, Int.reduceLE, Int.reduceLT, Nat.reduceLT, Nat.reduceLeDiff, and_self, and_true, true_and, if_true, if_false, ite_true, ite_false, decide_true, decide_false, ↓reduceIte, Bool.false_eq_true, Bool.not_true, Bool.not_false, List.mem_cons, forall_eq_or_imp, List.not_mem_nil, forall_const, List.all_cons, List.all_nil, Bool.and_true, Bool.and_self, Bool.true_and, hlen, h0, sgAt, false_and]
    rfl
def fitA (b : List (List Nat)) (made : List Nat) : Bool := (b.zipIdx.map fun p => decide (sgAt made ((made.length : Int) - (b.length : Int) + (p.2 : Int)) ∈ p.1)).all id
def fitB (h : List (List Nat)) (w : List Nat) (place : Int) : Bool := (h.zipIdx.map fun p => decide (sgAt w (place + 1 + (p.2 : Int)) ∈ p.1)).all id
theorem enum_strs (b : List (List Nat)) : dsEnum (b.map fun w => PyData.str (S w)) = b.zipIdx.map fun p => PyData.tuple [.int (p.2 : Int), .str (S p.1)] := by
  unfold dsEnum
  rw [List.zipIdx_map, List.map_map]
  rfl
/-- contexts against signs: one turn -/
def ctxφ (k : Int → Nat) : D → D
  | .tuple [.int i, .str z] => .bool (decide (k i ∈ z.cps.toList))
  | _ => .none
theorem ctx_map (b : List (List Nat)) (k : Int → Nat) : (dsEnum (b.map fun w => PyData.str (S w))).map (ctxφ k) = (b.zipIdx.map fun p => decide (k (p.2 : Int) ∈ p.1)).map PyData.bool := by
  rw [enum_strs, List.map_map, List.map_map]
  congr 1
theorem mem_enum_strs {b : List (List Nat)} {d : D} (h : d ∈ dsEnum (b.map fun w => PyData.str (S w))) : ∃ (i : Int) (c : List Nat), d = .tuple [.int i, .str (S c)] := by
  rw [enum_strs] at h
  obtain ⟨p, _, rfl⟩ := List.mem_map.mp h
  exact ⟨_, _, rfl⟩
theorem fits_ahead_ok {b : List (List Nat)} {made : List Nat} (hb : b.length ≤ 1000) (hl : made.length ≤ 1000000) : m_fits_ahead none [.tuple (b.map fun w => .str (S w)), .str (S made)] = some (.dat (.bool (fitA b made)), none) := by
  have hlen : ∀ env, hLen (.str (S made)) env = some (.dat (.int (made.length : Int)), env) := fun env => by rw [h_lenS (by rw [S_len]; omega), S_len]
  have hlm : (b.map fun w => PyData.str (S w)).length = b.length := List.length_map _
  have hc := loopC_map (vs := [2, 3]) (g := cTp 2 (csCons (cNm 2) (csCons (cNm 3) (csNil)))) (tt := tYs) (fe := d2 (dF 2 false m_sign_at (aCons (dNm 1) (aCons (d2 (d2 (dCall (aCons (dNm 1) (aNil)) (k1 hLen)) (dCall (aCons (dNm 0) (aNil)) (k1 hLen)) (kS gSub)) (dNm 2) kAdd) (aNil)))) (dNm 3) (kS gIn))
    (φ := ctxφ fun i => sgAt made ((made.length : Int) - (b.length : Int) + i)) (dsEnum (b.map fun w => PyData.str (S w))) [] [some (.dat (.tuple (b.map fun w => PyData.str (S w)))), some (.dat (.str (S made))), none, none] (fun d hd => by
    obtain ⟨i, c, rfl⟩ := mem_enum_strs hd
    have := sign_at_ok (p := (made.length : Int) - (b.length : Int) + i) hl
    unfold stepC ctxφ
    simp -dsimp only [bnd_some, bnd_none, f_sem, f_rt, f_nx, f_rD, f_rN, f_rS, f_rkO, f_rkD, f_p0, f_p1, f_pk, f_vD, f_vN, f_st0, f_st1, f_call0, f_k0, f_call1, f_c1, f_c2, f_pP, f_pO, f_k1P, f_k1O, f_k2, f_callK, e_nm, e_nmD, e_nmO, e_nmP, e_rdD, e_rdN, e_rdS, e_rkD, e_rkO, e_rkP, e_fzD, e_fzN, e_fzS, e_fkD, e_fkO, e_K, e_aN, e_aC, e_tup, e_lst, e_fzs0, e_fzs1, e_d2, e_kS, e_dB, e_bK, e_tA, e_tO, e_tN, e_eA, e_eO, e_eN, e_if, e_call, e_k1, e_k2, e_isi, e_neg, e_negK, e_ch, g_lt, g_le, g_ge, g_gt, g_ltI, g_sub, g_inS, g_isB, g_isnB, e_add, e_addI, e_ix, e_ixL, e_ixT, e_oN, e_oS, e_soK, e_sl, e_slL, e_slT, e_rev, e_revT, e_revL, h_lenL, h_lenT, h_abs, h_int, h_max, h_min, h_tupL, h_tupT, h_lstL, h_lstT, s_seq, s_nx, s_rt, s_bk, s_ct, s_ret, s_retN, s_nxE, s_bkE, s_if, s_ex, s_as, s_nmF, s_nmT, s_gs0, s_gs1, s_tp, s_tpT, s_ix, s_ixK, s_ixP, s_ixO, s_par, s_ins0, s_ins1, s_inF, s_inT, s_put0, s_put1, e_m, e_ty, e_tyL, e_tyS, e_app, e_appO, e_ext, e_extO, atI_0, atI_1, atI_2, atI_3, atI_4, atI_5, atI_last, PyData.isInt, PyData.isBool, PyData.isStr, PyData.isTuple, PyData.isList, List.map_cons, List.map_nil, List.length_cons, List.length_nil, List.cons_append, List.nil_append, List.replicate, Nat.reduceAdd, Nat.reduceSub, List.getElem?_cons_zero, List.getElem?_cons_succ, List.getElem?_nil, List.set_cons_zero, List.set_cons_succ, Option.bind_some, Option.map_some, Option.bind_none, Option.map_none, Nat.zero_add, Int.reduceLE, Int.reduceLT, Nat.reduceLT, Nat.reduceLeDiff, and_self, and_true, true_and, if_true, if_false, ite_true, ite_false, decide_true, decide_false, ↓reduceIte, Bool.false_eq_true, Bool.not_true, Bool.not_false, List.mem_cons, forall_eq_or_imp, List.not_mem_nil, forall_const, List.all_cons, List.all_nil, Bool.and_true, Bool.and_self, Bool.true_and, e_cTp, e_cs0, e_cs1, e_cNm, e_tYs, hlen, hlm, this, g_inW, S_cps, e_wipe0, e_wipe1]) (by rw [dsEnum_length, hlm, List.length_nil]; omega)
  rw [List.nil_append, ctx_map] at hc
  unfold m_fits_ahead d_fits_ahead N_fits_ahead
  simp -dsimp only [bnd_some, bnd_none, f_sem, f_rt, f_nx, f_rD, f_rN, f_rS, f_rkO, f_rkD, f_p0, f_p1, f_pk, f_vD, f_vN, f_st0, f_st1, f_call0, f_k0, f_call1, f_c1, f_c2, f_pP, f_pO, f_k1P, f_k1O, f_k2, f_callK, e_nm, e_nmD, e_nmO, e_nmP, e_rdD, e_rdN, e_rdS, e_rkD, e_rkO, e_rkP, e_fzD, e_fzN, e_fzS, e_fkD, e_fkO, e_K, e_aN, e_aC, e_tup, e_lst, e_fzs0, e_fzs1, e_d2, e_kS, e_dB, e_bK, e_tA, e_tO, e_tN, e_eA, e_eO, e_eN, e_if, e_call, e_k1, e_k2, e_isi, e_neg, e_negK, e_ch, g_lt, g_le, g_ge, g_gt, g_ltI, g_sub, g_inS, g_isB, g_isnB, e_add, e_addI, e_ix, e_ixL, e_ixT, e_oN, e_oS, e_soK, e_sl, e_slL, e_slT, e_rev, e_revT, e_revL, h_lenL, h_lenT, h_abs, h_int, h_max, h_min, h_tupL, h_tupT, h_lstL, h_lstT, s_seq, s_nx, s_rt, s_bk, s_ct, s_ret, s_retN, s_nxE, s_bkE, s_if, s_ex, s_as, s_nmF, s_nmT, s_gs0, s_gs1, s_tp, s_tpT, s_ix, s_ixK, s_ixP, s_ixO, s_par, s_ins0, s_ins1, s_inF, s_inT, s_put0, s_put1, e_m, e_ty, e_tyL, e_tyS, e_app, e_appO, e_ext, e_extO, atI_0, atI_1, atI_2, atI_3, atI_4, atI_5, atI_last, PyData.isInt, PyData.isBool, PyData.isStr, PyData.isTuple, PyData.isList, List.map_cons, List.map_nil, List.length_cons, List.length_nil, List.cons_append, List.nil_append, List.replicate, Nat.reduceAdd, Nat.reduceSub, List.getElem?_cons_zero, List.getElem?_cons_succ, List.getElem?_nil, List.set_cons_zero, List.set_cons_succ, Option.bind_some, Option.map_some, Option.bind_none, Option.map_none, Nat.zero_add, Int.reduceLE, Int.reduceLT, Nat.reduceLT, Nat.reduceLeDiff, and_self, and_true, true_and, if_true, if_false, ite_true, ite_false, decide_true, decide_false, ↓reduceIte, Bool.false_eq_true, Bool.not_true, Bool.not_false, List.mem_cons, forall_eq_or_imp, List.not_mem_nil, forall_const, List.all_cons, List.all_nil, Bool.and_true, Bool.and_self, Bool.true_and, e_lc, e_iEn, e_itT, e_wipe0, e_wipe1, hc, e_rest0, e_rest1, List.getD_cons_zero, List.getD_cons_succ, h_all]
  rfl
theorem fits_behind_ok {h : List (List Nat)} {w : List Nat} {p : Int} (hb : h.length ≤ 1000) (hl : w.length ≤ 1000000) : m_fits_behind none [.tuple (h.map fun w => .str (S w)), .str (S w), .int p] = some (.dat (.bool (fitB h w p)), none) := by
  have hlm : (h.map fun w => PyData.str (S w)).length = h.length := List.length_map _
  have hc := loopC_map (vs := [3, 4]) (g := cTp 2 (csCons (cNm 3) (csCons (cNm 4) (csNil)))) (tt := tYs) (fe := d2 (dF 2 false m_sign_at (aCons (dNm 1) (aCons (d2 (d2 (dNm 2) (dK (.int 1)) kAdd) (dNm 3) kAdd) (aNil)))) (dNm 4) (kS gIn))
    (φ := ctxφ fun i => sgAt w (p + 1 + i)) (dsEnum (h.map fun w => PyData.str (S w))) [] [some (.dat (.tuple (h.map fun w => PyData.str (S w)))), some (.dat (.str (S w))), some (.dat (.int p)), none, none] (fun d hd => by
    obtain ⟨i, c, rfl⟩ := mem_enum_strs hd
    have := sign_at_ok (p := p + 1 + i) hl
    unfold stepC ctxφ
    simp -dsimp only [bnd_some, bnd_none, f_sem, f_rt, f_nx, f_rD, f_rN, f_rS, f_rkO, f_rkD, f_p0, f_p1, f_pk, f_vD, f_vN, f_st0, f_st1, f_call0, f_k0, f_call1, f_c1, f_c2, f_pP, f_pO, f_k1P, f_k1O, f_k2, f_callK, e_nm, e_nmD, e_nmO, e_nmP, e_rdD, e_rdN, e_rdS, e_rkD, e_rkO, e_rkP, e_fzD, e_fzN, e_fzS, e_fkD, e_fkO, e_K, e_aN, e_aC, e_tup, e_lst, e_fzs0, e_fzs1, e_d2, e_kS, e_dB, e_bK, e_tA, e_tO, e_tN, e_eA, e_eO, e_eN, e_if, e_call, e_k1, e_k2, e_isi, e_neg, e_negK, e_ch, g_lt, g_le, g_ge, g_gt, g_ltI, g_sub, g_inS, g_isB, g_isnB, e_add, e_addI, e_ix, e_ixL, e_ixT, e_oN, e_oS, e_soK, e_sl, e_slL, e_slT, e_rev, e_revT, e_revL, h_lenL, h_lenT, h_abs, h_int, h_max, h_min, h_tupL, h_tupT, h_lstL, h_lstT, s_seq, s_nx, s_rt, s_bk, s_ct, s_ret, s_retN, s_nxE, s_bkE, s_if, s_ex, s_as, s_nmF, s_nmT, s_gs0, s_gs1, s_tp, s_tpT, s_ix, s_ixK, s_ixP, s_ixO, s_par, s_ins0, s_ins1, s_inF, s_inT, s_put0, s_put1, e_m, e_ty, e_tyL, e_tyS, e_app, e_appO, e_ext, e_extO, atI_0, atI_1, atI_2, atI_3, atI_4, atI_5, atI_last, PyData.isInt, PyData.isBool, PyData.isStr, PyData.isTuple, PyData.isList, List.map_cons, List.map_nil, List.length_cons, List.length_nil, List.cons_append, List.nil_append, List.replicate, Nat.reduceAdd, Nat.reduceSub, List.getElem?_cons_zero, List.getElem?_cons_succ, List.getElem?_nil, List.set_cons_zero, List.set_cons_succ, Option.bind_some, Option.map_some, Option.bind_none, Option.map_none, Nat.zero_add, Int.reduceLE, Int.reduceLT, Nat.reduceLT, Nat.reduceLeDiff, and_self, and_true, true_and, if_true, if_false, ite_true, ite_false, decide_true, decide_false, ↓reduceIte, Bool.false_eq_true, Bool.not_true, Bool.not_false, List.mem_cons, forall_eq_or_imp, List.not_mem_nil, forall_const, List.all_cons, List.all_nil, Bool.and_true, Bool.and_self, Bool.true_and, e_cTp, e_cs0, e_cs1, e_cNm, e_tYs, this, g_inW, S_cps, e_wipe0, e_wipe1]) (by rw [dsEnum_length, hlm, List.length_nil]; omega)
  rw [List.nil_append, ctx_map] at hc
  unfold m_fits_behind d_fits_behind N_fits_behind
  simp -dsimp only [bnd_some, bnd_none, f_sem, f_rt, f_nx, f_rD, f_rN, f_rS, f_rkO, f_rkD, f_p0, f_p1, f_pk, f_vD, f_vN, f_st0, f_st1, f_call0, f_k0, f_call1, f_c1, f_c2, f_pP, f_pO, f_k1P, f_k1O, f_k2, f_callK, e_nm, e_nmD, e_nmO, e_nmP, e_rdD, e_rdN, e_rdS, e_rkD, e_rkO, e_rkP, e_fzD, e_fzN, e_fzS, e_fkD, e_fkO, e_K, e_aN, e_aC, e_tup, e_lst, e_fzs0, e_fzs1, e_d2, e_kS, e_dB, e_bK, e_tA, e_tO, e_tN, e_eA, e_eO, e_eN, e_if, e_call, e_k1, e_k2, e_isi, e_neg, e_negK, e_ch, g_lt, g_le, g_ge, g_gt, g_ltI, g_sub, g_inS, g_isB, g_isnB, e_add, e_addI, e_ix, e_ixL, e_ixT, e_oN, e_oS, e_soK, e_sl, e_slL, e_slT, e_rev, e_revT, e_revL, h_lenL, h_lenT, h_abs, h_int, h_max, h_min, h_tupL, h_tupT, h_lstL, h_lstT, s_seq, s_nx, s_rt, s_bk, s_ct, s_ret, s_retN, s_nxE, s_bkE, s_if, s_ex, s_as, s_nmF, s_nmT, s_gs0, s_gs1, s_tp, s_tpT, s_ix, s_ixK, s_ixP, s_ixO, s_par, s_ins0, s_ins1, s_inF, s_inT, s_put0, s_put1, e_m, e_ty, e_tyL, e_tyS, e_app, e_appO, e_ext, e_extO, atI_0, atI_1, atI_2, atI_3, atI_4, atI_5, atI_last, PyData.isInt, PyData.isBool, PyData.isStr, PyData.isTuple, PyData.isList, List.map_cons, List.map_nil, List.length_cons, List.length_nil, List.cons_append, List.nil_append, List.replicate, Nat.reduceAdd, Nat.reduceSub, List.getElem?_cons_zero, List.getElem?_cons_succ, List.getElem?_nil, List.set_cons_zero, List.set_cons_succ, Option.bind_some, Option.map_some, Option.bind_none, Option.map_none, Nat.zero_add, Int.reduceLE, Int.reduceLT, Nat.reduceLT, Nat.reduceLeDiff, and_self, and_true, true_and, if_true, if_false, ite_true, ite_false, decide_true, decide_false, ↓reduceIte, Bool.false_eq_true, Bool.not_true, Bool.not_false, List.mem_cons, forall_eq_or_imp, List.not_mem_nil, forall_const, List.all_cons, List.all_nil, Bool.and_true, Bool.and_self, Bool.true_and, e_lc, e_iEn, e_itT, e_wipe0, e_wipe1, hc, e_rest0, e_rest1, List.getD_cons_zero, List.getD_cons_succ, h_all]
  rfl
end EW

/-! k81, mathematics 7: a shift's row. -/
namespace EW
open PySem L2
theorem occ_ok {sg f : List Nat} {c : Nat} (hs : Sg sg) (hf : f.Sublist sg) (hc : c ∈ f) : occ (S f) (S [c]) = some (f.idxOf c) := by
  have k : ∀ sg ∈ [[97, 98], [97, 98, 99]], ∀ f ∈ subs sg, ∀ c ∈ f, occ (S f) (S [c]) = some (f.idxOf c) := by decide +kernel
  refine k sg ?_ f ?_ c hc
  · rcases hs with rfl | rfl <;> simp
  · exact mem_subs hf
theorem cutS_take {w : List Nat} {i : Nat} (h : i ≤ w.length) : cutS (S w) none (some (i : Int)) = S (w.take i) := by
  unfold cutS
  rw [HT.sIx_none, HT.sIx_nat, S_len, S_cps, Nat.min_eq_left h]
  rfl
theorem cutS_drop {w : List Nat} {i : Nat} (h : i ≤ w.length) : cutS (S w) (some (i : Int)) none = S (w.drop i) := by
  unfold cutS
  rw [HT.sIx_none, HT.sIx_nat, S_len, S_cps, Nat.min_eq_left h, List.take_of_length_le (by rw [List.length_drop]; omega)]
  rfl
def cA (w : List Nat) (i : Nat) : Nat := w.getD i 35
/-- what a shift makes of the sign at a place -/
def aheadA (way : String) (w : List Nat) (i : Nat) (made : List Nat) : List Nat := if way = "once" then w.take i else made
def fireA (way : String) (f : List Nat) (b h : List (List Nat)) (w : List Nat) (i : Nat) (made : List Nat) : Bool :=
  decide (cA w i ∈ f) && (fitA b (aheadA way w i made) && fitB h w (i : Int))
def outA (way : String) (f : List Nat) (ms b h : List (List Nat)) (w : List Nat) (i : Nat) (made : List Nat) : List Nat :=
  if fireA way f b h w i made = true then ms.getD (f.idxOf (cA w i)) [] else [cA w i]
theorem fireA_mem {way : String} {f : List Nat} {b h : List (List Nat)} {w : List Nat} {i : Nat} {made : List Nat} (e : fireA way f b h w i made = true) : cA w i ∈ f := by
  unfold fireA at e
  rw [Bool.and_eq_true] at e
  exact of_decide_eq_true e.1
def rowA (way : String) (f : List Nat) (ms b h : List (List Nat)) (w : List Nat) : Nat → List (List Nat)
  | 0 => []
  | i + 1 => rowA way f ms b h w i ++ [outA way f ms b h w i (rowA way f ms b h w i).flatten]
theorem rowA_len {way : String} {f : List Nat} {ms b h : List (List Nat)} {w : List Nat} : ∀ i, (rowA way f ms b h w i).length = i
  | 0 => rfl
  | i + 1 => by rw [rowA, List.length_append, rowA_len i]; rfl
theorem outA_ok {sg : List Nat} {way : String} {f : List Nat} {ms b h : List (List Nat)} {w : List Nat} {i : Nat} {made : List Nat} (hk : ShOk sg way f ms b h) (hw : ∀ x ∈ w, x ∈ sg) (hi : i < w.length) : (outA way f ms b h w i made).length ≤ 2 ∧ ∀ x ∈ outA way f ms b h w i made, x ∈ sg := by
  unfold outA
  split
  · rename_i hc
    have h1 : f.idxOf (cA w i) < ms.length := by rw [hk.ml]; exact List.idxOf_lt_length_iff.mpr (fireA_mem hc)
    rw [List.getD_eq_getElem?_getD, List.getElem?_eq_getElem h1]
    exact hk.mo _ (List.getElem_mem h1)
  · refine ⟨by simp, fun x hx => ?_⟩
    rw [List.mem_singleton] at hx
    subst hx
    unfold cA
    rw [List.getD_eq_getElem?_getD, List.getElem?_eq_getElem hi]
    exact hw _ (List.getElem_mem hi)
theorem rowA_ok {sg : List Nat} {way : String} {f : List Nat} {ms b h : List (List Nat)} {w : List Nat} (hk : ShOk sg way f ms b h) (hw : ∀ x ∈ w, x ∈ sg) : ∀ i, i ≤ w.length → (rowA way f ms b h w i).flatten.length ≤ 2 * i ∧ ∀ x ∈ (rowA way f ms b h w i).flatten, x ∈ sg
  | 0, _ => by simp [rowA]
  | i + 1, hh => by
    obtain ⟨h1, h2⟩ := rowA_ok hk hw i (by omega)
    obtain ⟨h3, h4⟩ := outA_ok (i := i) (made := (rowA way f ms b h w i).flatten) hk hw (by omega)
    rw [rowA, List.flatten_append]
    simp only [List.flatten_cons, List.flatten_nil, List.append_nil, List.length_append, List.mem_append]
    exact ⟨by omega, fun x hx => hx.elim (h2 x) (h4 x)⟩
def rowE (way : String) (f : List Nat) (ms b h : List (List Nat)) (w : List Nat) (row : List (List Nat)) (made : List Nat) (ps : List D) (c5 c6 c7 c8 : Option Cell) : Env :=
  [some (.dat (shD way f ms b h)), some (.dat (.str (S w))), some (.own (.l (row.map fun w => .str (S w)))), some (.dat (.str (S made))), some (.own (.l ps)), c5, c6, c7, c8]
theorem enum_sgs (w : List Nat) (i : Nat) (d : D) (h : (dsEnum (sgs (S w)))[i]? = some d) : i < w.length ∧ d = .tuple [.int (i : Int), .str (S [cA w i])] := by
  unfold dsEnum at h
  rw [S_sgs, List.zipIdx_map, List.map_map, List.getElem?_map, List.getElem?_zipIdx] at h
  cases hq : w[i]? with
  | none => rw [hq] at h; cases h
  | some c =>
    rw [hq] at h
    have hi := (List.getElem?_eq_some_iff.mp hq).1
    refine ⟨hi, ?_⟩
    unfold cA
    rw [List.getD_eq_getElem?_getD, hq]
    simp at h
    exact h.symm
def xRowB : DS := (sSeq (sAs (dIf (dB (d2 (d2 (dNm 0) (dK (.int 1)) kIx) (dK (.str "once")) (kS gEq))) (dSl (dNm 1) (oNo) (oSo (dNm 5))) (dNm 3)) (gNm false 7)) (sSeq (sAs (dNm 6) (gNm false 8)) (sSeq (sIf (tA (dB (d2 (dNm 6) (d2 (dNm 0) (dK (.int 2)) kIx) (kS gIn))) (tA (dB (dF 2 false m_fits_ahead (aCons (d2 (dNm 0) (dK (.int 4)) kIx) (aCons (dNm 7) (aNil))))) (dB (dF 3 false m_fits_behind (aCons (d2 (dNm 0) (dK (.int 5)) kIx) (aCons (dNm 1) (aCons (dNm 5) (aNil)))))))) (sSeq (sAs (d2 (d2 (dNm 0) (dK (.int 3)) kIx) (dM "str" (d2 (dNm 0) (dK (.int 2)) kIx) (aCons (dNm 6) (aNil)) kIndexS) kIx) (gNm false 8)) (sEx (dM "list" (dNm 4) (aCons (dNm 5) (aNil)) kApp))) (sNx)) (sSeq (sEx (dM "list" (dNm 2) (aCons (dNm 8) (aNil)) kApp)) (sAs (d2 (dNm 3) (dNm 8) kAdd) (gNm false 3))))))
theorem row_step {sg : List Nat} {way : String} {f : List Nat} {ms b h : List (List Nat)} {w : List Nat} {i : Nat} {row : List (List Nat)} {made : List Nat} {ps : List D} {c7 c8 : Option Cell} (hs : Sg sg) (hk : ShOk sg way f ms b h) (hi : i < w.length) (hl : w.length ≤ 1000) (hm : made.length ≤ 10000) (hr : row.length ≤ 1000) (hp : ps.length ≤ 1000) (ho : (outA way f ms b h w i made).length ≤ 2) :
    ∃ (ps' : List D) (c7' c8' : Option Cell), ps'.length ≤ ps.length + 1 ∧ xRowB (rowE way f ms b h w row made ps (some (.dat (.int (i : Int)))) (some (.dat (.str (S [cA w i])))) c7 c8) = some (.nx (rowE way f ms b h w (row ++ [outA way f ms b h w i made]) (made ++ outA way f ms b h w i made) ps' (some (.dat (.int (i : Int)))) (some (.dat (.str (S [cA w i])))) c7' c8')) := by
  obtain ⟨hw1, hfn, hfs, hml, hmo, hbl, hbo, hhl, hho⟩ := hk
  have hway : ∀ env, slK none (some (i : Int)) env (some (.str (S w))) = some (.dat (.str (S (w.take i))), env) := fun env => by
    rw [e_slS (by rw [S_len]; omega), cutS_take (by omega)]
  have hal : (aheadA way w i made).length ≤ 10000 := by
    unfold aheadA
    split
    · rw [List.length_take]; omega
    · exact hm
  have hA := fits_ahead_ok (b := b) (made := aheadA way w i made) (by omega) (by omega)
  have hB := fits_behind_ok (h := h) (w := w) (p := (i : Int)) (by omega) (by omega)
  have hf : fireA way f b h w i made = (decide (cA w i ∈ f) && (fitA b (aheadA way w i made) && fitB h w (i : Int))) := rfl
  have hadd : ∀ env v, v.length ≤ 2 → addK2 env (some (.str (S made))) (some (.str (S v))) = some (.dat (.str (S (made ++ v))), env) := fun env v hv => by
    rw [e_addS (by rw [S_len, S_len]; omega), S_app]
  have hrl : (row.map fun w => PyData.str (S w)).length ≤ 1000000 := by rw [List.length_map]; omega
  have hpl : ps.length ≤ 1000000 := by omega
  have hmap : ∀ v, (row.map fun w => PyData.str (S w)) ++ [.str (S v)] = (row ++ [v]).map fun w => PyData.str (S w) := fun v => by simp
  have hmem : ∀ c, gIn (.str (S [c])) (.str (S f)) = some (.bool (decide (c ∈ f))) := fun c => g_inW
  have hah : ∀ (c6 c7 c8 : Option Cell), dIf (dB (d2 (d2 (dNm 0) (dK (.int 1)) kIx) (dK (.str "once")) (kS gEq))) (dSl (dNm 1) (oNo) (oSo (dNm 5))) (dNm 3) (rowE way f ms b h w row made ps (some (.dat (.int (i : Int)))) c6 c7 c8) = some (.dat (.str (S (aheadA way w i made))), rowE way f ms b h w row made ps (some (.dat (.int (i : Int)))) c6 c7 c8) := fun c6 c7 c8 => by
    unfold rowE shD aheadA
    rcases hw1 with rfl | rfl
    · simp -dsimp only [bnd_some, bnd_none, f_sem, f_rt, f_nx, f_rD, f_rN, f_rS, f_rkO, f_rkD, f_p0, f_p1, f_pk, f_vD, f_vN, f_st0, f_st1, f_call0, f_k0, f_call1, f_c1, f_c2, f_pP, f_pO, f_k1P, f_k1O, f_k2, f_callK, e_nm, e_nmD, e_nmO, e_nmP, e_rdD, e_rdN, e_rdS, e_rkD, e_rkO, e_rkP, e_fzD, e_fzN, e_fzS, e_fkD, e_fkO, e_K, e_aN, e_aC, e_tup, e_lst, e_fzs0, e_fzs1, e_d2, e_kS, e_dB, e_bK, e_tA, e_tO, e_tN, e_eA, e_eO, e_eN, e_if, e_call, e_k1, e_k2, e_isi, e_neg, e_negK, e_ch, g_lt, g_le, g_ge, g_gt, g_ltI, g_sub, g_inS, g_isB, g_isnB, e_add, e_addI, e_ix, e_ixL, e_ixT, e_oN, e_oS, e_soK, e_sl, e_slL, e_slT, e_rev, e_revT, e_revL, h_lenL, h_lenT, h_abs, h_int, h_max, h_min, h_tupL, h_tupT, h_lstL, h_lstT, s_seq, s_nx, s_rt, s_bk, s_ct, s_ret, s_retN, s_nxE, s_bkE, s_if, s_ex, s_as, s_nmF, s_nmT, s_gs0, s_gs1, s_tp, s_tpT, s_ix, s_ixK, s_ixP, s_ixO, s_par, s_ins0, s_ins1, s_inF, s_inT, s_put0, s_put1, e_m, e_ty, e_tyL, e_tyS, e_app, e_appO, e_ext, e_extO, atI_0, atI_1, atI_2, atI_3, atI_4, atI_5, atI_last, PyData.isInt, PyData.isBool, PyData.isStr, PyData.isTuple, PyData.isList, List.map_cons, List.map_nil, List.length_cons, List.length_nil, List.cons_append, List.nil_append, List.replicate, Nat.reduceAdd, Nat.reduceSub, List.getElem?_cons_zero, List.getElem?_cons_succ, List.getElem?_nil, List.set_cons_zero, List.set_cons_succ, Option.bind_some, Option.map_some, Option.bind_none, Option.map_none, Nat.zero_add, Int.reduceLE, Int.reduceLT, Nat.reduceLT, Nat.reduceLeDiff, and_self, and_true, true_and, if_true, if_false, ite_true, ite_false, decide_true, decide_false, ↓reduceIte, Bool.false_eq_true, Bool.not_true, Bool.not_false, List.mem_cons, forall_eq_or_imp, List.not_mem_nil, forall_const, List.all_cons, List.all_nil, Bool.and_true, Bool.and_self, Bool.true_and, g_eqS, hway]
    · simp -dsimp only [bnd_some, bnd_none, f_sem, f_rt, f_nx, f_rD, f_rN, f_rS, f_rkO, f_rkD, f_p0, f_p1, f_pk, f_vD, f_vN, f_st0, f_st1, f_call0, f_k0, f_call1, f_c1, f_c2, f_pP, f_pO, f_k1P, f_k1O, f_k2, f_callK, e_nm, e_nmD, e_nmO, e_nmP, e_rdD, e_rdN, e_rdS, e_rkD, e_rkO, e_rkP, e_fzD, e_fzN, e_fzS, e_fkD, e_fkO, e_K, e_aN, e_aC, e_tup, e_lst, e_fzs0, e_fzs1, e_d2, e_kS, e_dB, e_bK, e_tA, e_tO, e_tN, e_eA, e_eO, e_eN, e_if, e_call, e_k1, e_k2, e_isi, e_neg, e_negK, e_ch, g_lt, g_le, g_ge, g_gt, g_ltI, g_sub, g_inS, g_isB, g_isnB, e_add, e_addI, e_ix, e_ixL, e_ixT, e_oN, e_oS, e_soK, e_sl, e_slL, e_slT, e_rev, e_revT, e_revL, h_lenL, h_lenT, h_abs, h_int, h_max, h_min, h_tupL, h_tupT, h_lstL, h_lstT, s_seq, s_nx, s_rt, s_bk, s_ct, s_ret, s_retN, s_nxE, s_bkE, s_if, s_ex, s_as, s_nmF, s_nmT, s_gs0, s_gs1, s_tp, s_tpT, s_ix, s_ixK, s_ixP, s_ixO, s_par, s_ins0, s_ins1, s_inF, s_inT, s_put0, s_put1, e_m, e_ty, e_tyL, e_tyS, e_app, e_appO, e_ext, e_extO, atI_0, atI_1, atI_2, atI_3, atI_4, atI_5, atI_last, PyData.isInt, PyData.isBool, PyData.isStr, PyData.isTuple, PyData.isList, List.map_cons, List.map_nil, List.length_cons, List.length_nil, List.cons_append, List.nil_append, List.replicate, Nat.reduceAdd, Nat.reduceSub, List.getElem?_cons_zero, List.getElem?_cons_succ, List.getElem?_nil, List.set_cons_zero, List.set_cons_succ, Option.bind_some, Option.map_some, Option.bind_none, Option.map_none, Nat.zero_add, Int.reduceLE, Int.reduceLT, Nat.reduceLT, Nat.reduceLeDiff, and_self, and_true, true_and, if_true, if_false, ite_true, ite_false, decide_true, decide_false, ↓reduceIte, Bool.false_eq_true, Bool.not_true, Bool.not_false, List.mem_cons, forall_eq_or_imp, List.not_mem_nil, forall_const, List.all_cons, List.all_nil, Bool.and_true, Bool.and_self, Bool.true_and, g_eqS]
      rfl
  unfold xRowB
  simp only [s_seq, s_as, hah, bnd_some]
  unfold rowE shD
  by_cases hc : cA w i ∈ f
  · by_cases ha : fitA b (aheadA way w i made) = true
    · by_cases hb : fitB h w (i : Int) = true
      · have hfi : fireA way f b h w i made = true := by rw [hf, ha, hb, decide_eq_true hc]; rfl
        have hout : outA way f ms b h w i made = ms.getD (f.idxOf (cA w i)) [] := if_pos hfi
        have hix : ∀ env, kIndexS (.dat (.str (S f))) [.dat (.str (S [cA w i]))] env = some (.dat (.int (f.idxOf (cA w i) : Nat)), env) := fun env => e_indexS rfl rfl (occ_ok hs hfs hc)
        have h1 : f.idxOf (cA w i) < ms.length := by rw [hml]; exact List.idxOf_lt_length_iff.mpr hc
        have hms : (ms.map fun w => PyData.str (S w))[f.idxOf (cA w i)]? = some (.str (S (ms.getD (f.idxOf (cA w i)) []))) := by
          rw [List.getElem?_map, List.getD_eq_getElem?_getD, List.getElem?_eq_getElem h1]
          rfl
        rw [hout] at ho ⊢
        refine ⟨ps ++ [.int (i : Int)], some (.dat (.str (S (aheadA way w i made)))), some (.dat (.str (S (ms.getD (f.idxOf (cA w i)) [])))), ?_, ?_⟩
        rotate_left
        · simp -dsimp only [bnd_some, bnd_none, f_sem, f_rt, f_nx, f_rD, f_rN, f_rS, f_rkO, f_rkD, f_p0, f_p1, f_pk, f_vD, f_vN, f_st0, f_st1, f_call0, f_k0, f_call1, f_c1, f_c2, f_pP, f_pO, f_k1P, f_k1O, f_k2, f_callK, e_nm, e_nmD, e_nmO, e_nmP, e_rdD, e_rdN, e_rdS, e_rkD, e_rkO, e_rkP, e_fzD, e_fzN, e_fzS, e_fkD, e_fkO, e_K, e_aN, e_aC, e_tup, e_lst, e_fzs0, e_fzs1, e_d2, e_kS, e_dB, e_bK, e_tA, e_tO, e_tN, e_eA, e_eO, e_eN, e_if, e_call, e_k1, e_k2, e_isi, e_neg, e_negK, e_ch, g_lt, g_le, g_ge, g_gt, g_ltI, g_sub, g_inS, g_isB, g_isnB, e_add, e_addI, e_ix, e_ixL, e_ixT, e_oN, e_oS, e_soK, e_sl, e_slL, e_slT, e_rev, e_revT, e_revL, h_lenL, h_lenT, h_abs, h_int, h_max, h_min, h_tupL, h_tupT, h_lstL, h_lstT, s_seq, s_nx, s_rt, s_bk, s_ct, s_ret, s_retN, s_nxE, s_bkE, s_if, s_ex, s_as, s_nmF, s_nmT, s_gs0, s_gs1, s_tp, s_tpT, s_ix, s_ixK, s_ixP, s_ixO, s_par, s_ins0, s_ins1, s_inF, s_inT, s_put0, s_put1, e_m, e_ty, e_tyL, e_tyS, e_app, e_appO, e_ext, e_extO, atI_0, atI_1, atI_2, atI_3, atI_4, atI_5, atI_last, PyData.isInt, PyData.isBool, PyData.isStr, PyData.isTuple, PyData.isList, List.map_cons, List.map_nil, List.length_cons, List.length_nil, List.cons_append, List.nil_append, List.replicate, Nat.reduceAdd, Nat.reduceSub, List.getElem?_cons_zero, List.getElem?_cons_succ, List.getElem?_nil, List.set_cons_zero, List.set_cons_succ, Option.bind_some, Option.map_some, Option.bind_none, Option.map_none, Nat.zero_add, Int.reduceLE, Int.reduceLT, Nat.reduceLT, Nat.reduceLeDiff, and_self, and_true, true_and, if_true, if_false, ite_true, ite_false, decide_true, decide_false, ↓reduceIte, Bool.false_eq_true, Bool.not_true, Bool.not_false, List.mem_cons, forall_eq_or_imp, List.not_mem_nil, forall_const, List.all_cons, List.all_nil, Bool.and_true, Bool.and_self, Bool.true_and, hmem, hc, hA, hB, ha, hb, hix, atI_nat, hms, hrl, hpl, hadd _ _ ho, hmap]
        · simp
      · have hfi : fireA way f b h w i made = false := by rw [hf, ha, Bool.eq_false_iff.mpr hb, Bool.and_false, Bool.and_false]
        have hout : outA way f ms b h w i made = [cA w i] := by unfold outA; rw [hfi]; rfl
        rw [hout]
        refine ⟨ps, some (.dat (.str (S (aheadA way w i made)))), some (.dat (.str (S [cA w i]))), ?_, ?_⟩
        rotate_left
        · simp -dsimp only [bnd_some, bnd_none, f_sem, f_rt, f_nx, f_rD, f_rN, f_rS, f_rkO, f_rkD, f_p0, f_p1, f_pk, f_vD, f_vN, f_st0, f_st1, f_call0, f_k0, f_call1, f_c1, f_c2, f_pP, f_pO, f_k1P, f_k1O, f_k2, f_callK, e_nm, e_nmD, e_nmO, e_nmP, e_rdD, e_rdN, e_rdS, e_rkD, e_rkO, e_rkP, e_fzD, e_fzN, e_fzS, e_fkD, e_fkO, e_K, e_aN, e_aC, e_tup, e_lst, e_fzs0, e_fzs1, e_d2, e_kS, e_dB, e_bK, e_tA, e_tO, e_tN, e_eA, e_eO, e_eN, e_if, e_call, e_k1, e_k2, e_isi, e_neg, e_negK, e_ch, g_lt, g_le, g_ge, g_gt, g_ltI, g_sub, g_inS, g_isB, g_isnB, e_add, e_addI, e_ix, e_ixL, e_ixT, e_oN, e_oS, e_soK, e_sl, e_slL, e_slT, e_rev, e_revT, e_revL, h_lenL, h_lenT, h_abs, h_int, h_max, h_min, h_tupL, h_tupT, h_lstL, h_lstT, s_seq, s_nx, s_rt, s_bk, s_ct, s_ret, s_retN, s_nxE, s_bkE, s_if, s_ex, s_as, s_nmF, s_nmT, s_gs0, s_gs1, s_tp, s_tpT, s_ix, s_ixK, s_ixP, s_ixO, s_par, s_ins0, s_ins1, s_inF, s_inT, s_put0, s_put1, e_m, e_ty, e_tyL, e_tyS, e_app, e_appO, e_ext, e_extO, atI_0, atI_1, atI_2, atI_3, atI_4, atI_5, atI_last, PyData.isInt, PyData.isBool, PyData.isStr, PyData.isTuple, PyData.isList, List.map_cons, List.map_nil, List.length_cons, List.length_nil, List.cons_append, List.nil_append, List.replicate, Nat.reduceAdd, Nat.reduceSub, List.getElem?_cons_zero, List.getElem?_cons_succ, List.getElem?_nil, List.set_cons_zero, List.set_cons_succ, Option.bind_some, Option.map_some, Option.bind_none, Option.map_none, Nat.zero_add, Int.reduceLE, Int.reduceLT, Nat.reduceLT, Nat.reduceLeDiff, and_self, and_true, true_and, if_true, if_false, ite_true, ite_false, decide_true, decide_false, ↓reduceIte, Bool.false_eq_true, Bool.not_true, Bool.not_false, List.mem_cons, forall_eq_or_imp, List.not_mem_nil, forall_const, List.all_cons, List.all_nil, Bool.and_true, Bool.and_self, Bool.true_and, hmem, hc, hA, hB, ha, hb, hrl, hadd _ [cA w i] (by simp), hmap]
        · simp
    · have hfi : fireA way f b h w i made = false := by rw [hf, Bool.eq_false_iff.mpr ha, Bool.false_and, Bool.and_false]
      have hout : outA way f ms b h w i made = [cA w i] := by unfold outA; rw [hfi]; rfl
      rw [hout]
      refine ⟨ps, some (.dat (.str (S (aheadA way w i made)))), some (.dat (.str (S [cA w i]))), ?_, ?_⟩
      rotate_left
      · simp -dsimp only [bnd_some, bnd_none, f_sem, f_rt, f_nx, f_rD, f_rN, f_rS, f_rkO, f_rkD, f_p0, f_p1, f_pk, f_vD, f_vN, f_st0, f_st1, f_call0, f_k0, f_call1, f_c1, f_c2, f_pP, f_pO, f_k1P, f_k1O, f_k2, f_callK, e_nm, e_nmD, e_nmO, e_nmP, e_rdD, e_rdN, e_rdS, e_rkD, e_rkO, e_rkP, e_fzD, e_fzN, e_fzS, e_fkD, e_fkO, e_K, e_aN, e_aC, e_tup, e_lst, e_fzs0, e_fzs1, e_d2, e_kS, e_dB, e_bK, e_tA, e_tO, e_tN, e_eA, e_eO, e_eN, e_if, e_call, e_k1, e_k2, e_isi, e_neg, e_negK, e_ch, g_lt, g_le, g_ge, g_gt, g_ltI, g_sub, g_inS, g_isB, g_isnB, e_add, e_addI, e_ix, e_ixL, e_ixT, e_oN, e_oS, e_soK, e_sl, e_slL, e_slT, e_rev, e_revT, e_revL, h_lenL, h_lenT, h_abs, h_int, h_max, h_min, h_tupL, h_tupT, h_lstL, h_lstT, s_seq, s_nx, s_rt, s_bk, s_ct, s_ret, s_retN, s_nxE, s_bkE, s_if, s_ex, s_as, s_nmF, s_nmT, s_gs0, s_gs1, s_tp, s_tpT, s_ix, s_ixK, s_ixP, s_ixO, s_par, s_ins0, s_ins1, s_inF, s_inT, s_put0, s_put1, e_m, e_ty, e_tyL, e_tyS, e_app, e_appO, e_ext, e_extO, atI_0, atI_1, atI_2, atI_3, atI_4, atI_5, atI_last, PyData.isInt, PyData.isBool, PyData.isStr, PyData.isTuple, PyData.isList, List.map_cons, List.map_nil, List.length_cons, List.length_nil, List.cons_append, List.nil_append, List.replicate, Nat.reduceAdd, Nat.reduceSub, List.getElem?_cons_zero, List.getElem?_cons_succ, List.getElem?_nil, List.set_cons_zero, List.set_cons_succ, Option.bind_some, Option.map_some, Option.bind_none, Option.map_none, Nat.zero_add, Int.reduceLE, Int.reduceLT, Nat.reduceLT, Nat.reduceLeDiff, and_self, and_true, true_and, if_true, if_false, ite_true, ite_false, decide_true, decide_false, ↓reduceIte, Bool.false_eq_true, Bool.not_true, Bool.not_false, List.mem_cons, forall_eq_or_imp, List.not_mem_nil, forall_const, List.all_cons, List.all_nil, Bool.and_true, Bool.and_self, Bool.true_and, hmem, hc, hA, hB, ha, hrl, hadd _ [cA w i] (by simp), hmap]
      · simp
  · have hfi : fireA way f b h w i made = false := by rw [hf, decide_eq_false hc]; rfl
    have hout : outA way f ms b h w i made = [cA w i] := by unfold outA; rw [hfi]; rfl
    rw [hout]
    refine ⟨ps, some (.dat (.str (S (aheadA way w i made)))), some (.dat (.str (S [cA w i]))), ?_, ?_⟩
    rotate_left
    · simp -dsimp only [bnd_some, bnd_none, f_sem, f_rt, f_nx, f_rD, f_rN, f_rS, f_rkO, f_rkD, f_p0, f_p1, f_pk, f_vD, f_vN, f_st0, f_st1, f_call0, f_k0, f_call1, f_c1, f_c2, f_pP, f_pO, f_k1P, f_k1O, f_k2, f_callK, e_nm, e_nmD, e_nmO, e_nmP, e_rdD, e_rdN, e_rdS, e_rkD, e_rkO, e_rkP, e_fzD, e_fzN, e_fzS, e_fkD, e_fkO, e_K, e_aN, e_aC, e_tup, e_lst, e_fzs0, e_fzs1, e_d2, e_kS, e_dB, e_bK, e_tA, e_tO, e_tN, e_eA, e_eO, e_eN, e_if, e_call, e_k1, e_k2, e_isi, e_neg, e_negK, e_ch, g_lt, g_le, g_ge, g_gt, g_ltI, g_sub, g_inS, g_isB, g_isnB, e_add, e_addI, e_ix, e_ixL, e_ixT, e_oN, e_oS, e_soK, e_sl, e_slL, e_slT, e_rev, e_revT, e_revL, h_lenL, h_lenT, h_abs, h_int, h_max, h_min, h_tupL, h_tupT, h_lstL, h_lstT, s_seq, s_nx, s_rt, s_bk, s_ct, s_ret, s_retN, s_nxE, s_bkE, s_if, s_ex, s_as, s_nmF, s_nmT, s_gs0, s_gs1, s_tp, s_tpT, s_ix, s_ixK, s_ixP, s_ixO, s_par, s_ins0, s_ins1, s_inF, s_inT, s_put0, s_put1, e_m, e_ty, e_tyL, e_tyS, e_app, e_appO, e_ext, e_extO, atI_0, atI_1, atI_2, atI_3, atI_4, atI_5, atI_last, PyData.isInt, PyData.isBool, PyData.isStr, PyData.isTuple, PyData.isList, List.map_cons, List.map_nil, List.length_cons, List.length_nil, List.cons_append, List.nil_append, List.replicate, Nat.reduceAdd, Nat.reduceSub, List.getElem?_cons_zero, List.getElem?_cons_succ, List.getElem?_nil, List.set_cons_zero, List.set_cons_succ, Option.bind_some, Option.map_some, Option.bind_none, Option.map_none, Nat.zero_add, Int.reduceLE, Int.reduceLT, Nat.reduceLT, Nat.reduceLeDiff, and_self, and_true, true_and, if_true, if_false, ite_true, ite_false, decide_true, decide_false, ↓reduceIte, Bool.false_eq_true, Bool.not_true, Bool.not_false, List.mem_cons, forall_eq_or_imp, List.not_mem_nil, forall_const, List.all_cons, List.all_nil, Bool.and_true, Bool.and_self, Bool.true_and, hmem, hc, hrl, hadd _ [cA w i] (by simp), hmap]
    · simp
theorem made_row_ok {sg : List Nat} {way : String} {f : List Nat} {ms b h : List (List Nat)} {w : List Nat} (hs : Sg sg) (hk : ShOk sg way f ms b h) (hw : ∀ x ∈ w, x ∈ sg) (hl : w.length ≤ 900) :
    ∃ ps, m_made_row none [shD way f ms b h, .str (S w)] = some (.dat (.tuple [.list ((rowA way f ms b h w w.length).map fun w => .str (S w)), .list ps]), none) := by
  obtain ⟨env', h1, h2⟩ := loopF_inv (g := gTp 2 (gsCons (gNm false 5) (gsCons (gNm false 6) (gsNil)))) (b := xRowB)
    (Inv := fun i env => i ≤ w.length ∧ ∃ ps c5 c6 c7 c8, ps.length ≤ i ∧ env = rowE way f ms b h w (rowA way f ms b h w i) (rowA way f ms b h w i).flatten ps c5 c6 c7 c8)
    (dsEnum (sgs (S w))) 0 (rowE way f ms b h w [] [] [] none none none none) (by
      rintro i d env hd ⟨hi, ps, c5, c6, c7, c8, hp, rfl⟩
      obtain ⟨hi2, rfl⟩ := enum_sgs w i d hd
      rw [Nat.zero_add] at hi hp ⊢
      obtain ⟨h3, h4⟩ := rowA_ok hk hw i hi
      obtain ⟨ps', c7', c8', h5, h6⟩ := row_step (row := rowA way f ms b h w i) (made := (rowA way f ms b h w i).flatten) (ps := ps) (c7 := c7) (c8 := c8) hs hk hi2 (by omega) (by omega) (by rw [rowA_len]; omega) (by omega) (outA_ok hk hw hi2).1
      refine ⟨_, _, ?_, h6, hi2, ps', some (.dat (.int (i : Int))), some (.dat (.str (S [cA w i]))), c7', c8', by omega, ?_⟩
      · unfold rowE
        simp -dsimp only [bnd_some, bnd_none, f_sem, f_rt, f_nx, f_rD, f_rN, f_rS, f_rkO, f_rkD, f_p0, f_p1, f_pk, f_vD, f_vN, f_st0, f_st1, f_call0, f_k0, f_call1, f_c1, f_c2, f_pP, f_pO, f_k1P, f_k1O, f_k2, f_callK, e_nm, e_nmD, e_nmO, e_nmP, e_rdD, e_rdN, e_rdS, e_rkD, e_rkO, e_rkP, e_fzD, e_fzN, e_fzS, e_fkD, e_fkO, e_K, e_aN, e_aC, e_tup, e_lst, e_fzs0, e_fzs1, e_d2, e_kS, e_dB, e_bK, e_tA, e_tO, e_tN, e_eA, e_eO, e_eN, e_if, e_call, e_k1, e_k2, e_isi, e_neg, e_negK, e_ch, g_lt, g_le, g_ge, g_gt, g_ltI, g_sub, g_inS, g_isB, g_isnB, e_add, e_addI, e_ix, e_ixL, e_ixT, e_oN, e_oS, e_soK, e_sl, e_slL, e_slT, e_rev, e_revT, e_revL, h_lenL, h_lenT, h_abs, h_int, h_max, h_min, h_tupL, h_tupT, h_lstL, h_lstT, s_seq, s_nx, s_rt, s_bk, s_ct, s_ret, s_retN, s_nxE, s_bkE, s_if, s_ex, s_as, s_nmF, s_nmT, s_gs0, s_gs1, s_tp, s_tpT, s_ix, s_ixK, s_ixP, s_ixO, s_par, s_ins0, s_ins1, s_inF, s_inT, s_put0, s_put1, e_m, e_ty, e_tyL, e_tyS, e_app, e_appO, e_ext, e_extO, atI_0, atI_1, atI_2, atI_3, atI_4, atI_5, atI_last, PyData.isInt, PyData.isBool, PyData.isStr, PyData.isTuple, PyData.isList, List.map_cons, List.map_nil, List.length_cons, List.length_nil, List.cons_append, List.nil_append, List.replicate, Nat.reduceAdd, Nat.reduceSub, List.getElem?_cons_zero, List.getElem?_cons_succ, List.getElem?_nil, List.set_cons_zero, List.set_cons_succ, Option.bind_some, Option.map_some, Option.bind_none, Option.map_none, Nat.zero_add, Int.reduceLE, Int.reduceLT, Nat.reduceLT, Nat.reduceLeDiff, and_self, and_true, true_and, if_true, if_false, ite_true, ite_false, decide_true, decide_false, ↓reduceIte, Bool.false_eq_true, Bool.not_true, Bool.not_false, List.mem_cons, forall_eq_or_imp, List.not_mem_nil, forall_const, List.all_cons, List.all_nil, Bool.and_true, Bool.and_self, Bool.true_and]
      · rw [rowA, List.flatten_append]
        simp only [List.flatten_cons, List.flatten_nil, List.append_nil]) ⟨by omega, [], none, none, none, none, by simp, rfl⟩
  have hn : (dsEnum (sgs (S w))).length = w.length := by rw [dsEnum_length, S_sgs, List.length_map]
  rw [Nat.zero_add, hn] at h2
  obtain ⟨_, ps, c5, c6, c7, c8, hp, rfl⟩ := h2
  refine ⟨ps, ?_⟩
  have hit : itemsD (.str (S w)) = some (sgs (S w)) := e_itS (by rw [S_len]; omega)
  unfold rowE at h1
  unfold m_made_row d_made_row N_made_row
  unfold xRowB at h1
  simp only [List.map_nil] at h1
  simp -dsimp only [bnd_some, bnd_none, f_sem, f_rt, f_nx, f_rD, f_rN, f_rS, f_rkO, f_rkD, f_p0, f_p1, f_pk, f_vD, f_vN, f_st0, f_st1, f_call0, f_k0, f_call1, f_c1, f_c2, f_pP, f_pO, f_k1P, f_k1O, f_k2, f_callK, e_nm, e_nmD, e_nmO, e_nmP, e_rdD, e_rdN, e_rdS, e_rkD, e_rkO, e_rkP, e_fzD, e_fzN, e_fzS, e_fkD, e_fkO, e_K, e_aN, e_aC, e_tup, e_lst, e_fzs0, e_fzs1, e_d2, e_kS, e_dB, e_bK, e_tA, e_tO, e_tN, e_eA, e_eO, e_eN, e_if, e_call, e_k1, e_k2, e_isi, e_neg, e_negK, e_ch, g_lt, g_le, g_ge, g_gt, g_ltI, g_sub, g_inS, g_isB, g_isnB, e_add, e_addI, e_ix, e_ixL, e_ixT, e_oN, e_oS, e_soK, e_sl, e_slL, e_slT, e_rev, e_revT, e_revL, h_lenL, h_lenT, h_abs, h_int, h_max, h_min, h_tupL, h_tupT, h_lstL, h_lstT, s_seq, s_nx, s_rt, s_bk, s_ct, s_ret, s_retN, s_nxE, s_bkE, s_if, s_ex, s_as, s_nmF, s_nmT, s_gs0, s_gs1, s_tp, s_tpT, s_ix, s_ixK, s_ixP, s_ixO, s_par, s_ins0, s_ins1, s_inF, s_inT, s_put0, s_put1, e_m, e_ty, e_tyL, e_tyS, e_app, e_appO, e_ext, e_extO, atI_0, atI_1, atI_2, atI_3, atI_4, atI_5, atI_last, PyData.isInt, PyData.isBool, PyData.isStr, PyData.isTuple, PyData.isList, List.map_cons, List.map_nil, List.length_cons, List.length_nil, List.cons_append, List.nil_append, List.replicate, Nat.reduceAdd, Nat.reduceSub, List.getElem?_cons_zero, List.getElem?_cons_succ, List.getElem?_nil, List.set_cons_zero, List.set_cons_succ, Option.bind_some, Option.map_some, Option.bind_none, Option.map_none, Nat.zero_add, Int.reduceLE, Int.reduceLT, Nat.reduceLT, Nat.reduceLeDiff, and_self, and_true, true_and, if_true, if_false, ite_true, ite_false, decide_true, decide_false, ↓reduceIte, Bool.false_eq_true, Bool.not_true, Bool.not_false, List.mem_cons, forall_eq_or_imp, List.not_mem_nil, forall_const, List.all_cons, List.all_nil, Bool.and_true, Bool.and_self, Bool.true_and, s_for, e_iEn, hit, lit0, h1]
theorem strike_ok {sg : List Nat} {way : String} {f : List Nat} {ms b h : List (List Nat)} {w : List Nat} (hs : Sg sg) (hk : ShOk sg way f ms b h) (hw : ∀ x ∈ w, x ∈ sg) (hl : w.length ≤ 900) :
    ∃ ps, m_strike_of none [shD way f ms b h, .str (S w)] = some (.dat (.tuple [.str (S (rowA way f ms b h w w.length).flatten), .list ps]), none) := by
  obtain ⟨ps, e⟩ := made_row_ok hs hk hw hl
  have hj := (rowA_ok hk hw w.length (Nat.le_refl _)).1
  refine ⟨ps, ?_⟩
  unfold m_strike_of d_strike_of N_strike_of
  have hjn : ∀ env, kJoin (.dat (.str (S []))) [.dat (.list ((rowA way f ms b h w w.length).map fun w => .str (S w)))] env = some (.dat (.str (S (rowA way f ms b h w w.length).flatten)), env) := fun env => join_S rfl rfl (by omega)
  simp -dsimp only [bnd_some, bnd_none, f_sem, f_rt, f_nx, f_rD, f_rN, f_rS, f_rkO, f_rkD, f_p0, f_p1, f_pk, f_vD, f_vN, f_st0, f_st1, f_call0, f_k0, f_call1, f_c1, f_c2, f_pP, f_pO, f_k1P, f_k1O, f_k2, f_callK, e_nm, e_nmD, e_nmO, e_nmP, e_rdD, e_rdN, e_rdS, e_rkD, e_rkO, e_rkP, e_fzD, e_fzN, e_fzS, e_fkD, e_fkO, e_K, e_aN, e_aC, e_tup, e_lst, e_fzs0, e_fzs1, e_d2, e_kS, e_dB, e_bK, e_tA, e_tO, e_tN, e_eA, e_eO, e_eN, e_if, e_call, e_k1, e_k2, e_isi, e_neg, e_negK, e_ch, g_lt, g_le, g_ge, g_gt, g_ltI, g_sub, g_inS, g_isB, g_isnB, e_add, e_addI, e_ix, e_ixL, e_ixT, e_oN, e_oS, e_soK, e_sl, e_slL, e_slT, e_rev, e_revT, e_revL, h_lenL, h_lenT, h_abs, h_int, h_max, h_min, h_tupL, h_tupT, h_lstL, h_lstT, s_seq, s_nx, s_rt, s_bk, s_ct, s_ret, s_retN, s_nxE, s_bkE, s_if, s_ex, s_as, s_nmF, s_nmT, s_gs0, s_gs1, s_tp, s_tpT, s_ix, s_ixK, s_ixP, s_ixO, s_par, s_ins0, s_ins1, s_inF, s_inT, s_put0, s_put1, e_m, e_ty, e_tyL, e_tyS, e_app, e_appO, e_ext, e_extO, atI_0, atI_1, atI_2, atI_3, atI_4, atI_5, atI_last, PyData.isInt, PyData.isBool, PyData.isStr, PyData.isTuple, PyData.isList, List.map_cons, List.map_nil, List.length_cons, List.length_nil, List.cons_append, List.nil_append, List.replicate, Nat.reduceAdd, Nat.reduceSub, List.getElem?_cons_zero, List.getElem?_cons_succ, List.getElem?_nil, List.set_cons_zero, List.set_cons_succ, Option.bind_some, Option.map_some, Option.bind_none, Option.map_none, Nat.zero_add, Int.reduceLE, Int.reduceLT, Nat.reduceLT, Nat.reduceLeDiff, and_self, and_true, true_and, if_true, if_false, ite_true, ite_false, decide_true, decide_false, ↓reduceIte, Bool.false_eq_true, Bool.not_true, Bool.not_false, List.mem_cons, forall_eq_or_imp, List.not_mem_nil, forall_const, List.all_cons, List.all_nil, Bool.and_true, Bool.and_self, Bool.true_and, e, lit0, hjn]
end EW

/-! k81, mathematics 8: the law's own daughter. -/
namespace EW
open PySem L2
def zipA (b : List (List Nat)) (l : List Nat) : Bool := ((b.zip l).map fun p => decide (p.2 ∈ p.1)).all id
theorem sgAt_behind {w : List Nat} {i j : Nat} : sgAt w ((i : Int) + 1 + (j : Int)) = (w.drop (i + 1)).getD j 35 := by
  have e : (w.drop (i + 1)).getD j 35 = w.getD (i + 1 + j) 35 := by simp only [List.getD_eq_getElem?_getD, List.getElem?_drop]
  rw [e]
  unfold sgAt
  by_cases h : i + 1 + j < w.length
  · rw [if_pos (by omega), show ((i : Int) + 1 + (j : Int)).toNat = i + 1 + j by omega]
  · rw [if_neg (by omega)]
    simp only [List.getD_eq_getElem?_getD]
    rw [List.getElem?_eq_none (by omega)]
    rfl
theorem sgAt_ahead {w : List Nat} {j : Nat} : sgAt w ((w.length : Int) - 1 - (j : Int)) = w.reverse.getD j 35 := by
  unfold sgAt
  by_cases h : j < w.length
  · rw [if_pos (by omega), show ((w.length : Int) - 1 - (j : Int)).toNat = w.length - 1 - j by omega]
    simp only [List.getD_eq_getElem?_getD]
    rw [List.getElem?_reverse h]
  · rw [if_neg (by omega)]
    simp only [List.getD_eq_getElem?_getD]
    rw [List.getElem?_eq_none (by rw [List.length_reverse]; omega)]
    rfl
theorem fitB_zip {h : List (List Nat)} {w : List Nat} {i : Nat} (hl : h.length ≤ 2) : fitB h w (i : Int) = zipA h (w.drop (i + 1) ++ [35, 35]) := by
  have h0 := sgAt_behind (w := w) (i := i) (j := 0)
  have h1 := sgAt_behind (w := w) (i := i) (j := 1)
  unfold fitB zipA
  match h, hl with
  | [], _ => rfl
  | [x], _ =>
    simp only [List.zipIdx_cons, List.zipIdx_nil, List.map_cons, List.map_nil, List.all_cons, List.all_nil, h0]
    cases w.drop (i + 1) <;> rfl
  | [x, y], _ =>
    simp only [List.zipIdx_cons, List.zipIdx_nil, List.map_cons, List.map_nil, List.all_cons, List.all_nil, h0, Nat.zero_add, h1]
    match w.drop (i + 1) with
    | [] => rfl
    | [_] => rfl
    | _ :: _ :: _ => rfl
theorem fitA_zip {b : List (List Nat)} {w : List Nat} (hl : b.length ≤ 2) : fitA b w = zipA b.reverse (w.reverse ++ [35, 35]) := by
  have h0 := sgAt_ahead (w := w) (j := 0)
  have h1 := sgAt_ahead (w := w) (j := 1)
  unfold fitA zipA
  match b, hl with
  | [], _ => rfl
  | [x], _ =>
    simp only [List.zipIdx_cons, List.zipIdx_nil, List.map_cons, List.map_nil, List.all_cons, List.all_nil, List.length_cons, List.length_nil]
    have e0 : sgAt w ((w.length : Int) - ((0 + 1 : Nat) : Int) + ((0 : Nat) : Int)) = w.reverse.getD 0 35 := by
      rw [← h0]
      congr 1
    simp only [e0]
    cases w.reverse <;> rfl
  | [x, y], _ =>
    simp only [List.zipIdx_cons, List.zipIdx_nil, List.map_cons, List.map_nil, List.all_cons, List.all_nil, List.length_cons, List.length_nil]
    have e0 : sgAt w ((w.length : Int) - ((0 + 1 + 1 : Nat) : Int) + ((0 + 1 : Nat) : Int)) = w.reverse.getD 0 35 := by
      rw [← h0]
      congr 1
      omega
    have e1 : sgAt w ((w.length : Int) - ((0 + 1 + 1 : Nat) : Int) + ((0 : Nat) : Int)) = w.reverse.getD 1 35 := by
      rw [← h1]
      congr 1
      omega
    simp only [e0, e1]
    match w.reverse with
    | [] => simp [Bool.and_comm]
    | [p] => simp [Bool.and_comm]
    | p :: q :: r => simp [Bool.and_comm]
def zipφ : D → D
  | .tuple [.str z, .str s] => .bool (decide (s.cps.toList.headD 0 ∈ z.cps.toList))
  | _ => .none
theorem zip_strs (b : List (List Nat)) (l : List Nat) : dsZip (b.map fun w => PyData.str (S w)) (sgs (S l)) = (b.zip l).map fun p => .tuple [.str (S p.1), .str (S [p.2])] := by
  unfold dsZip
  rw [S_sgs, List.zip_map, List.map_map]
  rfl
theorem zip_loop {a0 a1 a2 a3 a4 a5 a6 a7 a8 a9 a10 a11 a12 : Option Cell} (b : List (List Nat)) (l : List Nat) (hb : b.length ≤ 2) :
    loopC [13, 14] (cTp 2 (csCons (cNm 13) (csCons (cNm 14) (csNil)))) tYs (d2 (dNm 14) (dNm 13) (kS gIn)) (dsZip (b.map fun w => PyData.str (S w)) (sgs (S l))) [] [a0, a1, a2, a3, a4, a5, a6, a7, a8, a9, a10, a11, a12, none, none]
     = some (((b.zip l).map fun p => decide (p.2 ∈ p.1)).map PyData.bool, [a0, a1, a2, a3, a4, a5, a6, a7, a8, a9, a10, a11, a12, none, none]) := by
  have hc := loopC_map (vs := [13, 14]) (g := cTp 2 (csCons (cNm 13) (csCons (cNm 14) (csNil)))) (tt := tYs) (fe := d2 (dNm 14) (dNm 13) (kS gIn)) (φ := zipφ) (dsZip (b.map fun w => PyData.str (S w)) (sgs (S l))) [] [a0, a1, a2, a3, a4, a5, a6, a7, a8, a9, a10, a11, a12, none, none] (fun d hd => by
    rw [zip_strs] at hd
    obtain ⟨p, _, rfl⟩ := List.mem_map.mp hd
    unfold stepC zipφ
    simp -dsimp only [bnd_some, bnd_none, f_sem, f_rt, f_nx, f_rD, f_rN, f_rS, f_rkO, f_rkD, f_p0, f_p1, f_pk, f_vD, f_vN, f_st0, f_st1, f_call0, f_k0, f_call1, f_c1, f_c2, f_pP, f_pO, f_k1P, f_k1O, f_k2, f_callK, e_nm, e_nmD, e_nmO, e_nmP, e_rdD, e_rdN, e_rdS, e_rkD, e_rkO, e_rkP, e_fzD, e_fzN, e_fzS, e_fkD, e_fkO, e_K, e_aN, e_aC, e_tup, e_lst, e_fzs0, e_fzs1, e_d2, e_kS, e_dB, e_bK, e_tA, e_tO, e_tN, e_eA, e_eO, e_eN, e_if, e_call, e_k1, e_k2, e_isi, e_neg, e_negK, e_ch, g_lt, g_le, g_ge, g_gt, g_ltI, g_sub, g_inS, g_isB, g_isnB, e_add, e_addI, e_ix, e_ixL, e_ixT, e_oN, e_oS, e_soK, e_sl, e_slL, e_slT, e_rev, e_revT, e_revL, h_lenL, h_lenT, h_abs, h_int, h_max, h_min, h_tupL, h_tupT, h_lstL, h_lstT, s_seq, s_nx, s_rt, s_bk, s_ct, s_ret, s_retN, s_nxE, s_bkE, s_if, s_ex, s_as, s_nmF, s_nmT, s_gs0, s_gs1, s_tp, s_tpT, s_ix, s_ixK, s_ixP, s_ixO, s_par, s_ins0, s_ins1, s_inF, s_inT, s_put0, s_put1, e_m, e_ty, e_tyL, e_tyS, e_app, e_appO, e_ext, e_extO, atI_0, atI_1, atI_2, atI_3, atI_4, atI_5, atI_last, PyData.isInt, PyData.isBool, PyData.isStr, PyData.isTuple, PyData.isList, List.map_cons, List.map_nil, List.length_cons, List.length_nil, List.cons_append, List.nil_append, List.replicate, Nat.reduceAdd, Nat.reduceSub, List.getElem?_cons_zero, List.getElem?_cons_succ, List.getElem?_nil, List.set_cons_zero, List.set_cons_succ, Option.bind_some, Option.map_some, Option.bind_none, Option.map_none, Nat.zero_add, Int.reduceLE, Int.reduceLT, Nat.reduceLT, Nat.reduceLeDiff, and_self, and_true, true_and, if_true, if_false, ite_true, ite_false, decide_true, decide_false, ↓reduceIte, Bool.false_eq_true, Bool.not_true, Bool.not_false, List.mem_cons, forall_eq_or_imp, List.not_mem_nil, forall_const, List.all_cons, List.all_nil, Bool.and_true, Bool.and_self, Bool.true_and, e_cTp, e_cs0, e_cs1, e_cNm, e_tYs, g_inW, S_cps, e_wipe0, e_wipe1, List.headD_cons]) (by rw [dsZip_length, List.length_map, List.length_nil]; omega)
  rw [hc, List.nil_append, zip_strs, List.map_map, List.map_map]
  congr 2
def lawE (way : String) (f : List Nat) (ms b h : List (List Nat)) (w made : List Nat) (i : Nat) (c9 c10 c11 c12 : Option Cell) : Env :=
  [some (.dat (shD way f ms b h)), some (.dat (.str (S w))), some (.dat (.str (Str.ofString way))), some (.dat (.str (S f))), some (.dat (.tuple (ms.map fun w => .str (S w)))), some (.dat (.tuple (b.map fun w => .str (S w)))), some (.dat (.tuple (h.map fun w => .str (S w)))), some (.dat (.str (S made))), some (.dat (.int (i : Int))), c9, c10, c11, c12, none, none]
def xLawA : DE := d2 (dK (.str "##")) (dIf (dB (d2 (dNm 2) (dK (.str "once")) (kS gEq))) (dSl (dNm 1) (oNo) (oSo (dNm 8))) (dNm 7)) kAdd
def xLawB : DE := d2 (dSl (dNm 1) (oSo (d2 (dNm 8) (dK (.int 1)) kAdd)) (oNo)) (dK (.str "##")) kAdd
def xLawC : DE := dCall (aCons (dLc [13, 14] (iZp (dRev (dNm 5)) (dRev (dNm 9))) (cTp 2 (csCons (cNm 13) (csCons (cNm 14) (csNil)))) (tYs) (d2 (dNm 14) (dNm 13) (kS gIn))) (aNil)) (k1 hAll)
def xLawD : DE := dCall (aCons (dLc [13, 14] (iZp (dNm 6) (dNm 10)) (cTp 2 (csCons (cNm 13) (csCons (cNm 14) (csNil)))) (tYs) (d2 (dNm 14) (dNm 13) (kS gIn))) (aNil)) (k1 hAll)
def xLawS : DS := (sSeq (sIf (tA (dB (d2 (d2 (dNm 1) (dNm 8) kIx) (dNm 3) (kS gIn))) (tA (dB (dNm 11)) (dB (dNm 12)))) (sAs (d2 (dNm 7) (d2 (dNm 4) (dM "str" (dNm 3) (aCons (d2 (dNm 1) (dNm 8) kIx) (aNil)) kIndexS) kIx) kAdd) (gNm false 7)) (sAs (d2 (dNm 7) (d2 (dNm 1) (dNm 8) kIx) kAdd) (gNm false 7))) (sAs (d2 (dNm 8) (dK (.int 1)) kAdd) (gNm false 8)))
theorem lit2 : Str.ofString "##" = S [35, 35] := rfl
section
variable {sg : List Nat} {way : String} {f : List Nat} {ms b h : List (List Nat)} {w made : List Nat} {i : Nat} {c9 c10 c11 c12 : Option Cell}
theorem lawA (hw1 : way = "once" ∨ way = "left") (hi : i < w.length) (hl : w.length ≤ 1000) (hm : made.length ≤ 10000) : xLawA (lawE way f ms b h w made i c9 c10 c11 c12) = some (.dat (.str (S ([35, 35] ++ aheadA way w i made))), lawE way f ms b h w made i c9 c10 c11 c12) := by
  have hway : ∀ env, slK none (some (i : Int)) env (some (.str (S w))) = some (.dat (.str (S (w.take i))), env) := fun env => by
    rw [e_slS (by rw [S_len]; omega), cutS_take (by omega)]
  have hadd : ∀ env v, v.length ≤ 10000 → addK2 env (some (.str (S [35, 35]))) (some (.str (S v))) = some (.dat (.str (S ([35, 35] ++ v))), env) := fun env v hv => by
    rw [e_addS (by rw [S_len, S_len]; simp; omega), S_app]
  unfold xLawA lawE aheadA
  rcases hw1 with rfl | rfl
  · simp -dsimp only [bnd_some, bnd_none, f_sem, f_rt, f_nx, f_rD, f_rN, f_rS, f_rkO, f_rkD, f_p0, f_p1, f_pk, f_vD, f_vN, f_st0, f_st1, f_call0, f_k0, f_call1, f_c1, f_c2, f_pP, f_pO, f_k1P, f_k1O, f_k2, f_callK, e_nm, e_nmD, e_nmO, e_nmP, e_rdD, e_rdN, e_rdS, e_rkD, e_rkO, e_rkP, e_fzD, e_fzN, e_fzS, e_fkD, e_fkO, e_K, e_aN, e_aC, e_tup, e_lst, e_fzs0, e_fzs1, e_d2, e_kS, e_dB, e_bK, e_tA, e_tO, e_tN, e_eA, e_eO, e_eN, e_if, e_call, e_k1, e_k2, e_isi, e_neg, e_negK, e_ch, g_lt, g_le, g_ge, g_gt, g_ltI, g_sub, g_inS, g_isB, g_isnB, e_add, e_addI, e_ix, e_ixL, e_ixT, e_oN, e_oS, e_soK, e_sl, e_slL, e_slT, e_rev, e_revT, e_revL, h_lenL, h_lenT, h_abs, h_int, h_max, h_min, h_tupL, h_tupT, h_lstL, h_lstT, s_seq, s_nx, s_rt, s_bk, s_ct, s_ret, s_retN, s_nxE, s_bkE, s_if, s_ex, s_as, s_nmF, s_nmT, s_gs0, s_gs1, s_tp, s_tpT, s_ix, s_ixK, s_ixP, s_ixO, s_par, s_ins0, s_ins1, s_inF, s_inT, s_put0, s_put1, e_m, e_ty, e_tyL, e_tyS, e_app, e_appO, e_ext, e_extO, atI_0, atI_1, atI_2, atI_3, atI_4, atI_5, atI_last, PyData.isInt, PyData.isBool, PyData.isStr, PyData.isTuple, PyData.isList, List.map_cons, List.map_nil, List.length_cons, List.length_nil, List.cons_append, List.nil_append, List.replicate, Nat.reduceAdd, Nat.reduceSub, List.getElem?_cons_zero, List.getElem?_cons_succ, List.getElem?_nil, List.set_cons_zero, List.set_cons_succ, Option.bind_some, Option.map_some, Option.bind_none, Option.map_none, Nat.zero_add, Int.reduceLE, Int.reduceLT, Nat.reduceLT, Nat.reduceLeDiff, and_self, and_true, true_and, if_true, if_false, ite_true, ite_false, decide_true, decide_false, ↓reduceIte, Bool.false_eq_true, Bool.not_true, Bool.not_false, List.mem_cons, forall_eq_or_imp, List.not_mem_nil, forall_const, List.all_cons, List.all_nil, Bool.and_true, Bool.and_self, Bool.true_and, g_eqS, hway, lit2, hadd _ (w.take i) (by rw [List.length_take]; omega)]
  · have hne : Str.ofString "left" ≠ Str.ofString "once" := by decide
    have hne2 : ("left" : String) ≠ "once" := by decide
    simp -dsimp only [bnd_some, bnd_none, f_sem, f_rt, f_nx, f_rD, f_rN, f_rS, f_rkO, f_rkD, f_p0, f_p1, f_pk, f_vD, f_vN, f_st0, f_st1, f_call0, f_k0, f_call1, f_c1, f_c2, f_pP, f_pO, f_k1P, f_k1O, f_k2, f_callK, e_nm, e_nmD, e_nmO, e_nmP, e_rdD, e_rdN, e_rdS, e_rkD, e_rkO, e_rkP, e_fzD, e_fzN, e_fzS, e_fkD, e_fkO, e_K, e_aN, e_aC, e_tup, e_lst, e_fzs0, e_fzs1, e_d2, e_kS, e_dB, e_bK, e_tA, e_tO, e_tN, e_eA, e_eO, e_eN, e_if, e_call, e_k1, e_k2, e_isi, e_neg, e_negK, e_ch, g_lt, g_le, g_ge, g_gt, g_ltI, g_sub, g_inS, g_isB, g_isnB, e_add, e_addI, e_ix, e_ixL, e_ixT, e_oN, e_oS, e_soK, e_sl, e_slL, e_slT, e_rev, e_revT, e_revL, h_lenL, h_lenT, h_abs, h_int, h_max, h_min, h_tupL, h_tupT, h_lstL, h_lstT, s_seq, s_nx, s_rt, s_bk, s_ct, s_ret, s_retN, s_nxE, s_bkE, s_if, s_ex, s_as, s_nmF, s_nmT, s_gs0, s_gs1, s_tp, s_tpT, s_ix, s_ixK, s_ixP, s_ixO, s_par, s_ins0, s_ins1, s_inF, s_inT, s_put0, s_put1, e_m, e_ty, e_tyL, e_tyS, e_app, e_appO, e_ext, e_extO, atI_0, atI_1, atI_2, atI_3, atI_4, atI_5, atI_last, PyData.isInt, PyData.isBool, PyData.isStr, PyData.isTuple, PyData.isList, List.map_cons, List.map_nil, List.length_cons, List.length_nil, List.cons_append, List.nil_append, List.replicate, Nat.reduceAdd, Nat.reduceSub, List.getElem?_cons_zero, List.getElem?_cons_succ, List.getElem?_nil, List.set_cons_zero, List.set_cons_succ, Option.bind_some, Option.map_some, Option.bind_none, Option.map_none, Nat.zero_add, Int.reduceLE, Int.reduceLT, Nat.reduceLT, Nat.reduceLeDiff, and_self, and_true, true_and, if_true, if_false, ite_true, ite_false, decide_true, decide_false, ↓reduceIte, Bool.false_eq_true, Bool.not_true, Bool.not_false, List.mem_cons, forall_eq_or_imp, List.not_mem_nil, forall_const, List.all_cons, List.all_nil, Bool.and_true, Bool.and_self, Bool.true_and, g_eqS, lit2, hne, hne2, hadd _ made hm]
theorem lawB (hi : i < w.length) (hl : w.length ≤ 1000) : xLawB (lawE way f ms b h w made i c9 c10 c11 c12) = some (.dat (.str (S (w.drop (i + 1) ++ [35, 35]))), lawE way f ms b h w made i c9 c10 c11 c12) := by
  have hway : ∀ env, slK (some ((i : Int) + 1)) none env (some (.str (S w))) = some (.dat (.str (S (w.drop (i + 1)))), env) := fun env => by
    have := cutS_drop (w := w) (i := i + 1) (by omega)
    rw [e_slS (by rw [S_len]; omega), ← this]
    rfl
  have hadd : ∀ env v, v.length ≤ 10000 → addK2 env (some (.str (S v))) (some (.str (S [35, 35]))) = some (.dat (.str (S (v ++ [35, 35]))), env) := fun env v hv => by
    rw [e_addS (by rw [S_len, S_len]; simp; omega), S_app]
  unfold xLawB lawE
  simp -dsimp only [bnd_some, bnd_none, f_sem, f_rt, f_nx, f_rD, f_rN, f_rS, f_rkO, f_rkD, f_p0, f_p1, f_pk, f_vD, f_vN, f_st0, f_st1, f_call0, f_k0, f_call1, f_c1, f_c2, f_pP, f_pO, f_k1P, f_k1O, f_k2, f_callK, e_nm, e_nmD, e_nmO, e_nmP, e_rdD, e_rdN, e_rdS, e_rkD, e_rkO, e_rkP, e_fzD, e_fzN, e_fzS, e_fkD, e_fkO, e_K, e_aN, e_aC, e_tup, e_lst, e_fzs0, e_fzs1, e_d2, e_kS, e_dB, e_bK, e_tA, e_tO, e_tN, e_eA, e_eO, e_eN, e_if, e_call, e_k1, e_k2, e_isi, e_neg, e_negK, e_ch, g_lt, g_le, g_ge, g_gt, g_ltI, g_sub, g_inS, g_isB, g_isnB, e_add, e_addI, e_ix, e_ixL, e_ixT, e_oN, e_oS, e_soK, e_sl, e_slL, e_slT, e_rev, e_revT, e_revL, h_lenL, h_lenT, h_abs, h_int, h_max, h_min, h_tupL, h_tupT, h_lstL, h_lstT, s_seq, s_nx, s_rt, s_bk, s_ct, s_ret, s_retN, s_nxE, s_bkE, s_if, s_ex, s_as, s_nmF, s_nmT, s_gs0, s_gs1, s_tp, s_tpT, s_ix, s_ixK, s_ixP, s_ixO, s_par, s_ins0, s_ins1, s_inF, s_inT, s_put0, s_put1, e_m, e_ty, e_tyL, e_tyS, e_app, e_appO, e_ext, e_extO, atI_0, atI_1, atI_2, atI_3, atI_4, atI_5, atI_last, PyData.isInt, PyData.isBool, PyData.isStr, PyData.isTuple, PyData.isList, List.map_cons, List.map_nil, List.length_cons, List.length_nil, List.cons_append, List.nil_append, List.replicate, Nat.reduceAdd, Nat.reduceSub, List.getElem?_cons_zero, List.getElem?_cons_succ, List.getElem?_nil, List.set_cons_zero, List.set_cons_succ, Option.bind_some, Option.map_some, Option.bind_none, Option.map_none, Nat.zero_add, Int.reduceLE, Int.reduceLT, Nat.reduceLT, Nat.reduceLeDiff, and_self, and_true, true_and, if_true, if_false, ite_true, ite_false, decide_true, decide_false, ↓reduceIte, Bool.false_eq_true, Bool.not_true, Bool.not_false, List.mem_cons, forall_eq_or_imp, List.not_mem_nil, forall_const, List.all_cons, List.all_nil, Bool.and_true, Bool.and_self, Bool.true_and, hway, lit2, hadd _ (w.drop (i + 1)) (by rw [List.length_drop]; omega)]
theorem lawC {l : List Nat} (hb : b.length ≤ 2) (hl : l.length ≤ 100000) : xLawC (lawE way f ms b h w made i (some (.dat (.str (S l)))) c10 c11 c12) = some (.dat (.bool (zipA b.reverse l.reverse)), lawE way f ms b h w made i (some (.dat (.str (S l)))) c10 c11 c12) := by
  have hr : ∀ env, revK env (some (.str (S l))) = some (.dat (.str (S l.reverse)), env) := fun env => by rw [e_revS (by rw [S_len]; omega), S_rev]
  have hit : itemsD (.str (S l.reverse)) = some (sgs (S l.reverse)) := e_itS (by rw [S_len, List.length_reverse]; omega)
  have hm : (b.map fun w => PyData.str (S w)).reverse = b.reverse.map fun w => PyData.str (S w) := by rw [List.map_reverse]
  unfold xLawC lawE
  simp -dsimp only [bnd_some, bnd_none, f_sem, f_rt, f_nx, f_rD, f_rN, f_rS, f_rkO, f_rkD, f_p0, f_p1, f_pk, f_vD, f_vN, f_st0, f_st1, f_call0, f_k0, f_call1, f_c1, f_c2, f_pP, f_pO, f_k1P, f_k1O, f_k2, f_callK, e_nm, e_nmD, e_nmO, e_nmP, e_rdD, e_rdN, e_rdS, e_rkD, e_rkO, e_rkP, e_fzD, e_fzN, e_fzS, e_fkD, e_fkO, e_K, e_aN, e_aC, e_tup, e_lst, e_fzs0, e_fzs1, e_d2, e_kS, e_dB, e_bK, e_tA, e_tO, e_tN, e_eA, e_eO, e_eN, e_if, e_call, e_k1, e_k2, e_isi, e_neg, e_negK, e_ch, g_lt, g_le, g_ge, g_gt, g_ltI, g_sub, g_inS, g_isB, g_isnB, e_add, e_addI, e_ix, e_ixL, e_ixT, e_oN, e_oS, e_soK, e_sl, e_slL, e_slT, e_rev, e_revT, e_revL, h_lenL, h_lenT, h_abs, h_int, h_max, h_min, h_tupL, h_tupT, h_lstL, h_lstT, s_seq, s_nx, s_rt, s_bk, s_ct, s_ret, s_retN, s_nxE, s_bkE, s_if, s_ex, s_as, s_nmF, s_nmT, s_gs0, s_gs1, s_tp, s_tpT, s_ix, s_ixK, s_ixP, s_ixO, s_par, s_ins0, s_ins1, s_inF, s_inT, s_put0, s_put1, e_m, e_ty, e_tyL, e_tyS, e_app, e_appO, e_ext, e_extO, atI_0, atI_1, atI_2, atI_3, atI_4, atI_5, atI_last, PyData.isInt, PyData.isBool, PyData.isStr, PyData.isTuple, PyData.isList, List.map_cons, List.map_nil, List.length_cons, List.length_nil, List.cons_append, List.nil_append, List.replicate, Nat.reduceAdd, Nat.reduceSub, List.getElem?_cons_zero, List.getElem?_cons_succ, List.getElem?_nil, List.set_cons_zero, List.set_cons_succ, Option.bind_some, Option.map_some, Option.bind_none, Option.map_none, Nat.zero_add, Int.reduceLE, Int.reduceLT, Nat.reduceLT, Nat.reduceLeDiff, and_self, and_true, true_and, if_true, if_false, ite_true, ite_false, decide_true, decide_false, ↓reduceIte, Bool.false_eq_true, Bool.not_true, Bool.not_false, List.mem_cons, forall_eq_or_imp, List.not_mem_nil, forall_const, List.all_cons, List.all_nil, Bool.and_true, Bool.and_self, Bool.true_and, e_lc, e_iZp, hr, hit, hm, e_itT, e_zpK, e_wipe0, e_wipe1, zip_loop b.reverse l.reverse (by rw [List.length_reverse]; exact hb), e_rest0, e_rest1, List.getD_cons_zero, List.getD_cons_succ, h_all]
  rfl
theorem lawD {l : List Nat} (hb : h.length ≤ 2) (hl : l.length ≤ 100000) : xLawD (lawE way f ms b h w made i c9 (some (.dat (.str (S l)))) c11 c12) = some (.dat (.bool (zipA h l)), lawE way f ms b h w made i c9 (some (.dat (.str (S l)))) c11 c12) := by
  have hit : itemsD (.str (S l)) = some (sgs (S l)) := e_itS (by rw [S_len]; omega)
  unfold xLawD lawE
  simp -dsimp only [bnd_some, bnd_none, f_sem, f_rt, f_nx, f_rD, f_rN, f_rS, f_rkO, f_rkD, f_p0, f_p1, f_pk, f_vD, f_vN, f_st0, f_st1, f_call0, f_k0, f_call1, f_c1, f_c2, f_pP, f_pO, f_k1P, f_k1O, f_k2, f_callK, e_nm, e_nmD, e_nmO, e_nmP, e_rdD, e_rdN, e_rdS, e_rkD, e_rkO, e_rkP, e_fzD, e_fzN, e_fzS, e_fkD, e_fkO, e_K, e_aN, e_aC, e_tup, e_lst, e_fzs0, e_fzs1, e_d2, e_kS, e_dB, e_bK, e_tA, e_tO, e_tN, e_eA, e_eO, e_eN, e_if, e_call, e_k1, e_k2, e_isi, e_neg, e_negK, e_ch, g_lt, g_le, g_ge, g_gt, g_ltI, g_sub, g_inS, g_isB, g_isnB, e_add, e_addI, e_ix, e_ixL, e_ixT, e_oN, e_oS, e_soK, e_sl, e_slL, e_slT, e_rev, e_revT, e_revL, h_lenL, h_lenT, h_abs, h_int, h_max, h_min, h_tupL, h_tupT, h_lstL, h_lstT, s_seq, s_nx, s_rt, s_bk, s_ct, s_ret, s_retN, s_nxE, s_bkE, s_if, s_ex, s_as, s_nmF, s_nmT, s_gs0, s_gs1, s_tp, s_tpT, s_ix, s_ixK, s_ixP, s_ixO, s_par, s_ins0, s_ins1, s_inF, s_inT, s_put0, s_put1, e_m, e_ty, e_tyL, e_tyS, e_app, e_appO, e_ext, e_extO, atI_0, atI_1, atI_2, atI_3, atI_4, atI_5, atI_last, PyData.isInt, PyData.isBool, PyData.isStr, PyData.isTuple, PyData.isList, List.map_cons, List.map_nil, List.length_cons, List.length_nil, List.cons_append, List.nil_append, List.replicate, Nat.reduceAdd, Nat.reduceSub, List.getElem?_cons_zero, List.getElem?_cons_succ, List.getElem?_nil, List.set_cons_zero, List.set_cons_succ, Option.bind_some, Option.map_some, Option.bind_none, Option.map_none, Nat.zero_add, Int.reduceLE, Int.reduceLT, Nat.reduceLT, Nat.reduceLeDiff, and_self, and_true, true_and, if_true, if_false, ite_true, ite_false, decide_true, decide_false, ↓reduceIte, Bool.false_eq_true, Bool.not_true, Bool.not_false, List.mem_cons, forall_eq_or_imp, List.not_mem_nil, forall_const, List.all_cons, List.all_nil, Bool.and_true, Bool.and_self, Bool.true_and, e_lc, e_iZp, hit, e_itT, e_zpK, e_wipe0, e_wipe1, zip_loop h l hb, e_rest0, e_rest1, List.getD_cons_zero, List.getD_cons_succ, h_all]
  rfl
theorem lawS (hs : Sg sg) (hk : ShOk sg way f ms b h) (hi : i < w.length) (hl : w.length ≤ 1000) (hm : made.length ≤ 10000) (ho : (outA way f ms b h w i made).length ≤ 2) :
    xLawS (lawE way f ms b h w made i c9 c10 (some (.dat (.bool (fitA b (aheadA way w i made))))) (some (.dat (.bool (fitB h w (i : Int)))))) = some (.nx (lawE way f ms b h w (made ++ outA way f ms b h w i made) (i + 1) c9 c10 (some (.dat (.bool (fitA b (aheadA way w i made))))) (some (.dat (.bool (fitB h w (i : Int))))))) := by
  obtain ⟨hw1, hfn, hfs, hml, hmo, hbl, hbo, hhl, hho⟩ := hk
  have hx : ∀ env, ixK2 env (some (.str (S w))) (some (.int (i : Int))) = some (.dat (.str (S [cA w i])), env) := fun env => by
    rw [e_ixS (by rw [S_len]; omega), S_cps, atI_nat, List.getElem?_eq_getElem hi]
    unfold cA
    rw [List.getD_eq_getElem?_getD, List.getElem?_eq_getElem hi]
    rfl
  have hadd : ∀ env v, v.length ≤ 2 → addK2 env (some (.str (S made))) (some (.str (S v))) = some (.dat (.str (S (made ++ v))), env) := fun env v hv => by
    rw [e_addS (by rw [S_len, S_len]; omega), S_app]
  have hmem : ∀ c, gIn (.str (S [c])) (.str (S f)) = some (.bool (decide (c ∈ f))) := fun c => g_inW
  have hf : fireA way f b h w i made = (decide (cA w i ∈ f) && (fitA b (aheadA way w i made) && fitB h w (i : Int))) := rfl
  unfold xLawS
  by_cases hfi : fireA way f b h w i made = true
  · have hout : outA way f ms b h w i made = ms.getD (f.idxOf (cA w i)) [] := if_pos hfi
    rw [hf, Bool.and_eq_true, Bool.and_eq_true] at hfi
    obtain ⟨hc, ha, hb⟩ := hfi
    have hc := of_decide_eq_true hc
    have hix : ∀ env, kIndexS (.dat (.str (S f))) [.dat (.str (S [cA w i]))] env = some (.dat (.int (f.idxOf (cA w i) : Nat)), env) := fun env => e_indexS rfl rfl (occ_ok hs hfs hc)
    have h1 : f.idxOf (cA w i) < ms.length := by rw [hml]; exact List.idxOf_lt_length_iff.mpr hc
    have hms : (ms.map fun w => PyData.str (S w))[f.idxOf (cA w i)]? = some (.str (S (ms.getD (f.idxOf (cA w i)) []))) := by
      rw [List.getElem?_map, List.getD_eq_getElem?_getD, List.getElem?_eq_getElem h1]
      rfl
    rw [hout] at ho ⊢
    unfold lawE
    simp -dsimp only [bnd_some, bnd_none, f_sem, f_rt, f_nx, f_rD, f_rN, f_rS, f_rkO, f_rkD, f_p0, f_p1, f_pk, f_vD, f_vN, f_st0, f_st1, f_call0, f_k0, f_call1, f_c1, f_c2, f_pP, f_pO, f_k1P, f_k1O, f_k2, f_callK, e_nm, e_nmD, e_nmO, e_nmP, e_rdD, e_rdN, e_rdS, e_rkD, e_rkO, e_rkP, e_fzD, e_fzN, e_fzS, e_fkD, e_fkO, e_K, e_aN, e_aC, e_tup, e_lst, e_fzs0, e_fzs1, e_d2, e_kS, e_dB, e_bK, e_tA, e_tO, e_tN, e_eA, e_eO, e_eN, e_if, e_call, e_k1, e_k2, e_isi, e_neg, e_negK, e_ch, g_lt, g_le, g_ge, g_gt, g_ltI, g_sub, g_inS, g_isB, g_isnB, e_add, e_addI, e_ix, e_ixL, e_ixT, e_oN, e_oS, e_soK, e_sl, e_slL, e_slT, e_rev, e_revT, e_revL, h_lenL, h_lenT, h_abs, h_int, h_max, h_min, h_tupL, h_tupT, h_lstL, h_lstT, s_seq, s_nx, s_rt, s_bk, s_ct, s_ret, s_retN, s_nxE, s_bkE, s_if, s_ex, s_as, s_nmF, s_nmT, s_gs0, s_gs1, s_tp, s_tpT, s_ix, s_ixK, s_ixP, s_ixO, s_par, s_ins0, s_ins1, s_inF, s_inT, s_put0, s_put1, e_m, e_ty, e_tyL, e_tyS, e_app, e_appO, e_ext, e_extO, atI_0, atI_1, atI_2, atI_3, atI_4, atI_5, atI_last, PyData.isInt, PyData.isBool, PyData.isStr, PyData.isTuple, PyData.isList, List.map_cons, List.map_nil, List.length_cons, List.length_nil, List.cons_append, List.nil_append, List.replicate, Nat.reduceAdd, Nat.reduceSub, List.getElem?_cons_zero, List.getElem?_cons_succ, List.getElem?_nil, List.set_cons_zero, List.set_cons_succ, Option.bind_some, Option.map_some, Option.bind_none, Option.map_none, Nat.zero_add, Int.reduceLE, Int.reduceLT, Nat.reduceLT, Nat.reduceLeDiff, and_self, and_true, true_and, if_true, if_false, ite_true, ite_false, decide_true, decide_false, ↓reduceIte, Bool.false_eq_true, Bool.not_true, Bool.not_false, List.mem_cons, forall_eq_or_imp, List.not_mem_nil, forall_const, List.all_cons, List.all_nil, Bool.and_true, Bool.and_self, Bool.true_and, hx, hmem, hc, ha, hb, hix, atI_nat, hms, hadd _ _ ho]
    rfl
  · have hout : outA way f ms b h w i made = [cA w i] := if_neg hfi
    rw [hout]
    unfold lawE
    by_cases hc : cA w i ∈ f
    · by_cases ha : fitA b (aheadA way w i made) = true
      · have hb : fitB h w (i : Int) = false := by
          rw [hf, ha, decide_eq_true hc, Bool.true_and, Bool.true_and] at hfi
          exact Bool.eq_false_iff.mpr hfi
        simp -dsimp only [bnd_some, bnd_none, f_sem, f_rt, f_nx, f_rD, f_rN, f_rS, f_rkO, f_rkD, f_p0, f_p1, f_pk, f_vD, f_vN, f_st0, f_st1, f_call0, f_k0, f_call1, f_c1, f_c2, f_pP, f_pO, f_k1P, f_k1O, f_k2, f_callK, e_nm, e_nmD, e_nmO, e_nmP, e_rdD, e_rdN, e_rdS, e_rkD, e_rkO, e_rkP, e_fzD, e_fzN, e_fzS, e_fkD, e_fkO, e_K, e_aN, e_aC, e_tup, e_lst, e_fzs0, e_fzs1, e_d2, e_kS, e_dB, e_bK, e_tA, e_tO, e_tN, e_eA, e_eO, e_eN, e_if, e_call, e_k1, e_k2, e_isi, e_neg, e_negK, e_ch, g_lt, g_le, g_ge, g_gt, g_ltI, g_sub, g_inS, g_isB, g_isnB, e_add, e_addI, e_ix, e_ixL, e_ixT, e_oN, e_oS, e_soK, e_sl, e_slL, e_slT, e_rev, e_revT, e_revL, h_lenL, h_lenT, h_abs, h_int, h_max, h_min, h_tupL, h_tupT, h_lstL, h_lstT, s_seq, s_nx, s_rt, s_bk, s_ct, s_ret, s_retN, s_nxE, s_bkE, s_if, s_ex, s_as, s_nmF, s_nmT, s_gs0, s_gs1, s_tp, s_tpT, s_ix, s_ixK, s_ixP, s_ixO, s_par, s_ins0, s_ins1, s_inF, s_inT, s_put0, s_put1, e_m, e_ty, e_tyL, e_tyS, e_app, e_appO, e_ext, e_extO, atI_0, atI_1, atI_2, atI_3, atI_4, atI_5, atI_last, PyData.isInt, PyData.isBool, PyData.isStr, PyData.isTuple, PyData.isList, List.map_cons, List.map_nil, List.length_cons, List.length_nil, List.cons_append, List.nil_append, List.replicate, Nat.reduceAdd, Nat.reduceSub, List.getElem?_cons_zero, List.getElem?_cons_succ, List.getElem?_nil, List.set_cons_zero, List.set_cons_succ, Option.bind_some, Option.map_some, Option.bind_none, Option.map_none, Nat.zero_add, Int.reduceLE, Int.reduceLT, Nat.reduceLT, Nat.reduceLeDiff, and_self, and_true, true_and, if_true, if_false, ite_true, ite_false, decide_true, decide_false, ↓reduceIte, Bool.false_eq_true, Bool.not_true, Bool.not_false, List.mem_cons, forall_eq_or_imp, List.not_mem_nil, forall_const, List.all_cons, List.all_nil, Bool.and_true, Bool.and_self, Bool.true_and, hx, hmem, hc, ha, hb, hadd _ [cA w i] (by simp)]
        rfl
      · have ha := Bool.eq_false_iff.mpr ha
        simp -dsimp only [bnd_some, bnd_none, f_sem, f_rt, f_nx, f_rD, f_rN, f_rS, f_rkO, f_rkD, f_p0, f_p1, f_pk, f_vD, f_vN, f_st0, f_st1, f_call0, f_k0, f_call1, f_c1, f_c2, f_pP, f_pO, f_k1P, f_k1O, f_k2, f_callK, e_nm, e_nmD, e_nmO, e_nmP, e_rdD, e_rdN, e_rdS, e_rkD, e_rkO, e_rkP, e_fzD, e_fzN, e_fzS, e_fkD, e_fkO, e_K, e_aN, e_aC, e_tup, e_lst, e_fzs0, e_fzs1, e_d2, e_kS, e_dB, e_bK, e_tA, e_tO, e_tN, e_eA, e_eO, e_eN, e_if, e_call, e_k1, e_k2, e_isi, e_neg, e_negK, e_ch, g_lt, g_le, g_ge, g_gt, g_ltI, g_sub, g_inS, g_isB, g_isnB, e_add, e_addI, e_ix, e_ixL, e_ixT, e_oN, e_oS, e_soK, e_sl, e_slL, e_slT, e_rev, e_revT, e_revL, h_lenL, h_lenT, h_abs, h_int, h_max, h_min, h_tupL, h_tupT, h_lstL, h_lstT, s_seq, s_nx, s_rt, s_bk, s_ct, s_ret, s_retN, s_nxE, s_bkE, s_if, s_ex, s_as, s_nmF, s_nmT, s_gs0, s_gs1, s_tp, s_tpT, s_ix, s_ixK, s_ixP, s_ixO, s_par, s_ins0, s_ins1, s_inF, s_inT, s_put0, s_put1, e_m, e_ty, e_tyL, e_tyS, e_app, e_appO, e_ext, e_extO, atI_0, atI_1, atI_2, atI_3, atI_4, atI_5, atI_last, PyData.isInt, PyData.isBool, PyData.isStr, PyData.isTuple, PyData.isList, List.map_cons, List.map_nil, List.length_cons, List.length_nil, List.cons_append, List.nil_append, List.replicate, Nat.reduceAdd, Nat.reduceSub, List.getElem?_cons_zero, List.getElem?_cons_succ, List.getElem?_nil, List.set_cons_zero, List.set_cons_succ, Option.bind_some, Option.map_some, Option.bind_none, Option.map_none, Nat.zero_add, Int.reduceLE, Int.reduceLT, Nat.reduceLT, Nat.reduceLeDiff, and_self, and_true, true_and, if_true, if_false, ite_true, ite_false, decide_true, decide_false, ↓reduceIte, Bool.false_eq_true, Bool.not_true, Bool.not_false, List.mem_cons, forall_eq_or_imp, List.not_mem_nil, forall_const, List.all_cons, List.all_nil, Bool.and_true, Bool.and_self, Bool.true_and, hx, hmem, hc, ha, hadd _ [cA w i] (by simp)]
        rfl
    · simp -dsimp only [bnd_some, bnd_none, f_sem, f_rt, f_nx, f_rD, f_rN, f_rS, f_rkO, f_rkD, f_p0, f_p1, f_pk, f_vD, f_vN, f_st0, f_st1, f_call0, f_k0, f_call1, f_c1, f_c2, f_pP, f_pO, f_k1P, f_k1O, f_k2, f_callK, e_nm, e_nmD, e_nmO, e_nmP, e_rdD, e_rdN, e_rdS, e_rkD, e_rkO, e_rkP, e_fzD, e_fzN, e_fzS, e_fkD, e_fkO, e_K, e_aN, e_aC, e_tup, e_lst, e_fzs0, e_fzs1, e_d2, e_kS, e_dB, e_bK, e_tA, e_tO, e_tN, e_eA, e_eO, e_eN, e_if, e_call, e_k1, e_k2, e_isi, e_neg, e_negK, e_ch, g_lt, g_le, g_ge, g_gt, g_ltI, g_sub, g_inS, g_isB, g_isnB, e_add, e_addI, e_ix, e_ixL, e_ixT, e_oN, e_oS, e_soK, e_sl, e_slL, e_slT, e_rev, e_revT, e_revL, h_lenL, h_lenT, h_abs, h_int, h_max, h_min, h_tupL, h_tupT, h_lstL, h_lstT, s_seq, s_nx, s_rt, s_bk, s_ct, s_ret, s_retN, s_nxE, s_bkE, s_if, s_ex, s_as, s_nmF, s_nmT, s_gs0, s_gs1, s_tp, s_tpT, s_ix, s_ixK, s_ixP, s_ixO, s_par, s_ins0, s_ins1, s_inF, s_inT, s_put0, s_put1, e_m, e_ty, e_tyL, e_tyS, e_app, e_appO, e_ext, e_extO, atI_0, atI_1, atI_2, atI_3, atI_4, atI_5, atI_last, PyData.isInt, PyData.isBool, PyData.isStr, PyData.isTuple, PyData.isList, List.map_cons, List.map_nil, List.length_cons, List.length_nil, List.cons_append, List.nil_append, List.replicate, Nat.reduceAdd, Nat.reduceSub, List.getElem?_cons_zero, List.getElem?_cons_succ, List.getElem?_nil, List.set_cons_zero, List.set_cons_succ, Option.bind_some, Option.map_some, Option.bind_none, Option.map_none, Nat.zero_add, Int.reduceLE, Int.reduceLT, Nat.reduceLT, Nat.reduceLeDiff, and_self, and_true, true_and, if_true, if_false, ite_true, ite_false, decide_true, decide_false, ↓reduceIte, Bool.false_eq_true, Bool.not_true, Bool.not_false, List.mem_cons, forall_eq_or_imp, List.not_mem_nil, forall_const, List.all_cons, List.all_nil, Bool.and_true, Bool.and_self, Bool.true_and, hx, hmem, hc, hadd _ [cA w i] (by simp)]
      rfl
end
end EW

/-! k81, mathematics 9: the law's daughter is the shift's. -/
namespace EW
open PySem L2
theorem fuel_ge3 : 1000 ≤ fuel := by unfold fuel; decide
def xLawT : DT := dB (d2 (dNm 8) (dCall (aCons (dNm 1) (aNil)) (k1 hLen)) (kS gLt))
def xLawW : DS := sSeq (sAs xLawA (gNm false 9)) (sSeq (sAs xLawB (gNm false 10)) (sSeq (sAs xLawC (gNm false 11)) (sSeq (sAs xLawD (gNm false 12)) xLawS)))
section
variable {sg : List Nat} {way : String} {f : List Nat} {ms b h : List (List Nat)} {w made : List Nat} {i : Nat} {c9 c10 c11 c12 : Option Cell}
theorem lawT (hl : w.length ≤ 1000) : xLawT (lawE way f ms b h w made i c9 c10 c11 c12) = some (decide (i < w.length), lawE way f ms b h w made i c9 c10 c11 c12) := by
  have hlen : ∀ env, hLen (.str (S w)) env = some (.dat (.int (w.length : Int)), env) := fun env => by rw [h_lenS (by rw [S_len]; omega), S_len]
  unfold xLawT lawE
  simp -dsimp only [bnd_some, bnd_none, f_sem, f_rt, f_nx, f_rD, f_rN, f_rS, f_rkO, f_rkD, f_p0, f_p1, f_pk, f_vD, f_vN, f_st0, f_st1, f_call0, f_k0, f_call1, f_c1, f_c2, f_pP, f_pO, f_k1P, f_k1O, f_k2, f_callK, e_nm, e_nmD, e_nmO, e_nmP, e_rdD, e_rdN, e_rdS, e_rkD, e_rkO, e_rkP, e_fzD, e_fzN, e_fzS, e_fkD, e_fkO, e_K, e_aN, e_aC, e_tup, e_lst, e_fzs0, e_fzs1, e_d2, e_kS, e_dB, e_bK, e_tA, e_tO, e_tN, e_eA, e_eO, e_eN, e_if, e_call, e_k1, e_k2, e_isi, e_neg, e_negK, e_ch, g_lt, g_le, g_ge, g_gt, g_ltI, g_sub, g_inS, g_isB, g_isnB, e_add, e_addI, e_ix, e_ixL, e_ixT, e_oN, e_oS, e_soK, e_sl, e_slL, e_slT, e_rev, e_revT, e_revL, h_lenL, h_lenT, h_abs, h_int, h_max, h_min, h_tupL, h_tupT, h_lstL, h_lstT, s_seq, s_nx, s_rt, s_bk, s_ct, s_ret, s_retN, s_nxE, s_bkE, s_if, s_ex, s_as, s_nmF, s_nmT, s_gs0, s_gs1, s_tp, s_tpT, s_ix, s_ixK, s_ixP, s_ixO, s_par, s_ins0, s_ins1, s_inF, s_inT, s_put0, s_put1, e_m, e_ty, e_tyL, e_tyS, e_app, e_appO, e_ext, e_extO, atI_0, atI_1, atI_2, atI_3, atI_4, atI_5, atI_last, PyData.isInt, PyData.isBool, PyData.isStr, PyData.isTuple, PyData.isList, List.map_cons, List.map_nil, List.length_cons, List.length_nil, List.cons_append, List.nil_append, List.replicate, Nat.reduceAdd, Nat.reduceSub, List.getElem?_cons_zero, List.getElem?_cons_succ, List.getElem?_nil, List.set_cons_zero, List.set_cons_succ, Option.bind_some, Option.map_some, Option.bind_none, Option.map_none, Nat.zero_add, Int.reduceLE, Int.reduceLT, Nat.reduceLT, Nat.reduceLeDiff, and_self, and_true, true_and, if_true, if_false, ite_true, ite_false, decide_true, decide_false, ↓reduceIte, Bool.false_eq_true, Bool.not_true, Bool.not_false, List.mem_cons, forall_eq_or_imp, List.not_mem_nil, forall_const, List.all_cons, List.all_nil, Bool.and_true, Bool.and_self, Bool.true_and, hlen, Int.ofNat_lt]
theorem lawP9 {d : D} : (gNm false 9) (.dat d) (lawE way f ms b h w made i c9 c10 c11 c12) = some (lawE way f ms b h w made i (some (.dat d)) c10 c11 c12) := by
  unfold lawE
  simp -dsimp only [bnd_some, bnd_none, f_sem, f_rt, f_nx, f_rD, f_rN, f_rS, f_rkO, f_rkD, f_p0, f_p1, f_pk, f_vD, f_vN, f_st0, f_st1, f_call0, f_k0, f_call1, f_c1, f_c2, f_pP, f_pO, f_k1P, f_k1O, f_k2, f_callK, e_nm, e_nmD, e_nmO, e_nmP, e_rdD, e_rdN, e_rdS, e_rkD, e_rkO, e_rkP, e_fzD, e_fzN, e_fzS, e_fkD, e_fkO, e_K, e_aN, e_aC, e_tup, e_lst, e_fzs0, e_fzs1, e_d2, e_kS, e_dB, e_bK, e_tA, e_tO, e_tN, e_eA, e_eO, e_eN, e_if, e_call, e_k1, e_k2, e_isi, e_neg, e_negK, e_ch, g_lt, g_le, g_ge, g_gt, g_ltI, g_sub, g_inS, g_isB, g_isnB, e_add, e_addI, e_ix, e_ixL, e_ixT, e_oN, e_oS, e_soK, e_sl, e_slL, e_slT, e_rev, e_revT, e_revL, h_lenL, h_lenT, h_abs, h_int, h_max, h_min, h_tupL, h_tupT, h_lstL, h_lstT, s_seq, s_nx, s_rt, s_bk, s_ct, s_ret, s_retN, s_nxE, s_bkE, s_if, s_ex, s_as, s_nmF, s_nmT, s_gs0, s_gs1, s_tp, s_tpT, s_ix, s_ixK, s_ixP, s_ixO, s_par, s_ins0, s_ins1, s_inF, s_inT, s_put0, s_put1, e_m, e_ty, e_tyL, e_tyS, e_app, e_appO, e_ext, e_extO, atI_0, atI_1, atI_2, atI_3, atI_4, atI_5, atI_last, PyData.isInt, PyData.isBool, PyData.isStr, PyData.isTuple, PyData.isList, List.map_cons, List.map_nil, List.length_cons, List.length_nil, List.cons_append, List.nil_append, List.replicate, Nat.reduceAdd, Nat.reduceSub, List.getElem?_cons_zero, List.getElem?_cons_succ, List.getElem?_nil, List.set_cons_zero, List.set_cons_succ, Option.bind_some, Option.map_some, Option.bind_none, Option.map_none, Nat.zero_add, Int.reduceLE, Int.reduceLT, Nat.reduceLT, Nat.reduceLeDiff, and_self, and_true, true_and, if_true, if_false, ite_true, ite_false, decide_true, decide_false, ↓reduceIte, Bool.false_eq_true, Bool.not_true, Bool.not_false, List.mem_cons, forall_eq_or_imp, List.not_mem_nil, forall_const, List.all_cons, List.all_nil, Bool.and_true, Bool.and_self, Bool.true_and]
theorem lawP10 {d : D} : (gNm false 10) (.dat d) (lawE way f ms b h w made i c9 c10 c11 c12) = some (lawE way f ms b h w made i c9 (some (.dat d)) c11 c12) := by
  unfold lawE
  simp -dsimp only [bnd_some, bnd_none, f_sem, f_rt, f_nx, f_rD, f_rN, f_rS, f_rkO, f_rkD, f_p0, f_p1, f_pk, f_vD, f_vN, f_st0, f_st1, f_call0, f_k0, f_call1, f_c1, f_c2, f_pP, f_pO, f_k1P, f_k1O, f_k2, f_callK, e_nm, e_nmD, e_nmO, e_nmP, e_rdD, e_rdN, e_rdS, e_rkD, e_rkO, e_rkP, e_fzD, e_fzN, e_fzS, e_fkD, e_fkO, e_K, e_aN, e_aC, e_tup, e_lst, e_fzs0, e_fzs1, e_d2, e_kS, e_dB, e_bK, e_tA, e_tO, e_tN, e_eA, e_eO, e_eN, e_if, e_call, e_k1, e_k2, e_isi, e_neg, e_negK, e_ch, g_lt, g_le, g_ge, g_gt, g_ltI, g_sub, g_inS, g_isB, g_isnB, e_add, e_addI, e_ix, e_ixL, e_ixT, e_oN, e_oS, e_soK, e_sl, e_slL, e_slT, e_rev, e_revT, e_revL, h_lenL, h_lenT, h_abs, h_int, h_max, h_min, h_tupL, h_tupT, h_lstL, h_lstT, s_seq, s_nx, s_rt, s_bk, s_ct, s_ret, s_retN, s_nxE, s_bkE, s_if, s_ex, s_as, s_nmF, s_nmT, s_gs0, s_gs1, s_tp, s_tpT, s_ix, s_ixK, s_ixP, s_ixO, s_par, s_ins0, s_ins1, s_inF, s_inT, s_put0, s_put1, e_m, e_ty, e_tyL, e_tyS, e_app, e_appO, e_ext, e_extO, atI_0, atI_1, atI_2, atI_3, atI_4, atI_5, atI_last, PyData.isInt, PyData.isBool, PyData.isStr, PyData.isTuple, PyData.isList, List.map_cons, List.map_nil, List.length_cons, List.length_nil, List.cons_append, List.nil_append, List.replicate, Nat.reduceAdd, Nat.reduceSub, List.getElem?_cons_zero, List.getElem?_cons_succ, List.getElem?_nil, List.set_cons_zero, List.set_cons_succ, Option.bind_some, Option.map_some, Option.bind_none, Option.map_none, Nat.zero_add, Int.reduceLE, Int.reduceLT, Nat.reduceLT, Nat.reduceLeDiff, and_self, and_true, true_and, if_true, if_false, ite_true, ite_false, decide_true, decide_false, ↓reduceIte, Bool.false_eq_true, Bool.not_true, Bool.not_false, List.mem_cons, forall_eq_or_imp, List.not_mem_nil, forall_const, List.all_cons, List.all_nil, Bool.and_true, Bool.and_self, Bool.true_and]
theorem lawP11 {d : D} : (gNm false 11) (.dat d) (lawE way f ms b h w made i c9 c10 c11 c12) = some (lawE way f ms b h w made i c9 c10 (some (.dat d)) c12) := by
  unfold lawE
  simp -dsimp only [bnd_some, bnd_none, f_sem, f_rt, f_nx, f_rD, f_rN, f_rS, f_rkO, f_rkD, f_p0, f_p1, f_pk, f_vD, f_vN, f_st0, f_st1, f_call0, f_k0, f_call1, f_c1, f_c2, f_pP, f_pO, f_k1P, f_k1O, f_k2, f_callK, e_nm, e_nmD, e_nmO, e_nmP, e_rdD, e_rdN, e_rdS, e_rkD, e_rkO, e_rkP, e_fzD, e_fzN, e_fzS, e_fkD, e_fkO, e_K, e_aN, e_aC, e_tup, e_lst, e_fzs0, e_fzs1, e_d2, e_kS, e_dB, e_bK, e_tA, e_tO, e_tN, e_eA, e_eO, e_eN, e_if, e_call, e_k1, e_k2, e_isi, e_neg, e_negK, e_ch, g_lt, g_le, g_ge, g_gt, g_ltI, g_sub, g_inS, g_isB, g_isnB, e_add, e_addI, e_ix, e_ixL, e_ixT, e_oN, e_oS, e_soK, e_sl, e_slL, e_slT, e_rev, e_revT, e_revL, h_lenL, h_lenT, h_abs, h_int, h_max, h_min, h_tupL, h_tupT, h_lstL, h_lstT, s_seq, s_nx, s_rt, s_bk, s_ct, s_ret, s_retN, s_nxE, s_bkE, s_if, s_ex, s_as, s_nmF, s_nmT, s_gs0, s_gs1, s_tp, s_tpT, s_ix, s_ixK, s_ixP, s_ixO, s_par, s_ins0, s_ins1, s_inF, s_inT, s_put0, s_put1, e_m, e_ty, e_tyL, e_tyS, e_app, e_appO, e_ext, e_extO, atI_0, atI_1, atI_2, atI_3, atI_4, atI_5, atI_last, PyData.isInt, PyData.isBool, PyData.isStr, PyData.isTuple, PyData.isList, List.map_cons, List.map_nil, List.length_cons, List.length_nil, List.cons_append, List.nil_append, List.replicate, Nat.reduceAdd, Nat.reduceSub, List.getElem?_cons_zero, List.getElem?_cons_succ, List.getElem?_nil, List.set_cons_zero, List.set_cons_succ, Option.bind_some, Option.map_some, Option.bind_none, Option.map_none, Nat.zero_add, Int.reduceLE, Int.reduceLT, Nat.reduceLT, Nat.reduceLeDiff, and_self, and_true, true_and, if_true, if_false, ite_true, ite_false, decide_true, decide_false, ↓reduceIte, Bool.false_eq_true, Bool.not_true, Bool.not_false, List.mem_cons, forall_eq_or_imp, List.not_mem_nil, forall_const, List.all_cons, List.all_nil, Bool.and_true, Bool.and_self, Bool.true_and]
theorem lawP12 {d : D} : (gNm false 12) (.dat d) (lawE way f ms b h w made i c9 c10 c11 c12) = some (lawE way f ms b h w made i c9 c10 c11 (some (.dat d))) := by
  unfold lawE
  simp -dsimp only [bnd_some, bnd_none, f_sem, f_rt, f_nx, f_rD, f_rN, f_rS, f_rkO, f_rkD, f_p0, f_p1, f_pk, f_vD, f_vN, f_st0, f_st1, f_call0, f_k0, f_call1, f_c1, f_c2, f_pP, f_pO, f_k1P, f_k1O, f_k2, f_callK, e_nm, e_nmD, e_nmO, e_nmP, e_rdD, e_rdN, e_rdS, e_rkD, e_rkO, e_rkP, e_fzD, e_fzN, e_fzS, e_fkD, e_fkO, e_K, e_aN, e_aC, e_tup, e_lst, e_fzs0, e_fzs1, e_d2, e_kS, e_dB, e_bK, e_tA, e_tO, e_tN, e_eA, e_eO, e_eN, e_if, e_call, e_k1, e_k2, e_isi, e_neg, e_negK, e_ch, g_lt, g_le, g_ge, g_gt, g_ltI, g_sub, g_inS, g_isB, g_isnB, e_add, e_addI, e_ix, e_ixL, e_ixT, e_oN, e_oS, e_soK, e_sl, e_slL, e_slT, e_rev, e_revT, e_revL, h_lenL, h_lenT, h_abs, h_int, h_max, h_min, h_tupL, h_tupT, h_lstL, h_lstT, s_seq, s_nx, s_rt, s_bk, s_ct, s_ret, s_retN, s_nxE, s_bkE, s_if, s_ex, s_as, s_nmF, s_nmT, s_gs0, s_gs1, s_tp, s_tpT, s_ix, s_ixK, s_ixP, s_ixO, s_par, s_ins0, s_ins1, s_inF, s_inT, s_put0, s_put1, e_m, e_ty, e_tyL, e_tyS, e_app, e_appO, e_ext, e_extO, atI_0, atI_1, atI_2, atI_3, atI_4, atI_5, atI_last, PyData.isInt, PyData.isBool, PyData.isStr, PyData.isTuple, PyData.isList, List.map_cons, List.map_nil, List.length_cons, List.length_nil, List.cons_append, List.nil_append, List.replicate, Nat.reduceAdd, Nat.reduceSub, List.getElem?_cons_zero, List.getElem?_cons_succ, List.getElem?_nil, List.set_cons_zero, List.set_cons_succ, Option.bind_some, Option.map_some, Option.bind_none, Option.map_none, Nat.zero_add, Int.reduceLE, Int.reduceLT, Nat.reduceLT, Nat.reduceLeDiff, and_self, and_true, true_and, if_true, if_false, ite_true, ite_false, decide_true, decide_false, ↓reduceIte, Bool.false_eq_true, Bool.not_true, Bool.not_false, List.mem_cons, forall_eq_or_imp, List.not_mem_nil, forall_const, List.all_cons, List.all_nil, Bool.and_true, Bool.and_self, Bool.true_and]
theorem lawW (hs : Sg sg) (hk : ShOk sg way f ms b h) (hi : i < w.length) (hl : w.length ≤ 1000) (hm : made.length ≤ 10000) (ho : (outA way f ms b h w i made).length ≤ 2) :
    ∃ c9' c10' c11' c12' : Option Cell, xLawW (lawE way f ms b h w made i c9 c10 c11 c12) = some (.nx (lawE way f ms b h w (made ++ outA way f ms b h w i made) (i + 1) c9' c10' c11' c12')) := by
  have hal : (aheadA way w i made).length ≤ 10000 := by
    unfold aheadA
    split
    · rw [List.length_take]; omega
    · exact hm
  have e3 : zipA b.reverse ([35, 35] ++ aheadA way w i made).reverse = fitA b (aheadA way w i made) := by
    rw [fitA_zip hk.bl, List.reverse_append]
    rfl
  have e4 : zipA h (w.drop (i + 1) ++ [35, 35]) = fitB h w (i : Int) := (fitB_zip hk.hl).symm
  refine ⟨some (.dat (.str (S ([35, 35] ++ aheadA way w i made)))), some (.dat (.str (S (w.drop (i + 1) ++ [35, 35])))), some (.dat (.bool (fitA b (aheadA way w i made)))), some (.dat (.bool (fitB h w (i : Int)))), ?_⟩
  unfold xLawW
  have eC := fun c10 c11 c12 => @lawC way f ms b h w made i c10 c11 c12 ([35, 35] ++ aheadA way w i made) hk.bl (by simp; omega)
  have eD := fun c9 c11 c12 => @lawD way f ms b h w made i c9 c11 c12 (w.drop (i + 1) ++ [35, 35]) hk.hl (by simp; omega)
  rw [e3] at eC
  rw [e4] at eD
  have eA := fun c9 c10 c11 c12 => @lawA way f ms b h w made i c9 c10 c11 c12 hk.way hi hl hm
  have eB := fun c9 c10 c11 c12 => @lawB way f ms b h w made i c9 c10 c11 c12 hi hl
  have eS := fun c9 c10 => @lawS sg way f ms b h w made i c9 c10 hs hk hi hl hm ho
  simp only [s_seq, s_as, eA, lawP9, bnd_some, s_nx, eB, lawP10, eC, lawP11, eD, lawP12, eS]
end
theorem law_daughter_ok {sg : List Nat} {way : String} {f : List Nat} {ms b h : List (List Nat)} {w : List Nat} (hs : Sg sg) (hk : ShOk sg way f ms b h) (hw : ∀ x ∈ w, x ∈ sg) (hl : w.length ≤ 900) :
    m__law_daughter none [shD way f ms b h, .str (S w)] = some (.dat (.str (S (rowA way f ms b h w w.length).flatten)), none) := by
  obtain ⟨env', h1, c9, c10, c11, c12, rfl⟩ := loopW_inv (c := xLawT) (b := xLawW)
    (Inv := fun m env => ∃ i c9 c10 c11 c12, i + m = w.length ∧ env = lawE way f ms b h w (rowA way f ms b h w i).flatten i c9 c10 c11 c12) (Post := fun env => ∃ c9 c10 c11 c12, env = lawE way f ms b h w (rowA way f ms b h w w.length).flatten w.length c9 c10 c11 c12) (by
      rintro m env ⟨i, c9, c10, c11, c12, him, rfl⟩
      by_cases hi : i < w.length
      · obtain ⟨h3, h4⟩ := rowA_ok hk hw i (by omega)
        obtain ⟨c9', c10', c11', c12', e⟩ := lawW (made := (rowA way f ms b h w i).flatten) (c9 := c9) (c10 := c10) (c11 := c11) (c12 := c12) hs hk hi (by omega) (by omega) (outA_ok hk hw hi).1
        refine .inr ⟨_, _, m - 1, ?_, e, by omega, i + 1, c9', c10', c11', c12', by omega, ?_⟩
        · rw [lawT (by omega), decide_eq_true hi]
        · rw [rowA, List.flatten_append]
          simp only [List.flatten_cons, List.flatten_nil, List.append_nil]
      · have : i = w.length := by omega
        subst this
        refine .inl ⟨_, ?_, c9, c10, c11, c12, rfl⟩
        rw [lawT (by omega), decide_eq_false hi]) fuel w.length (lawE way f ms b h w [] 0 none none none none) (by have := fuel_ge3; omega) ⟨0, none, none, none, none, by omega, rfl⟩
  have z : ((0 : Nat) : Int) = 0 := rfl
  unfold lawE shD at h1
  rw [z] at h1
  unfold xLawT xLawW xLawA xLawB xLawC xLawD xLawS at h1
  unfold m__law_daughter d__law_daughter N__law_daughter shD
  have hcut : ∀ a b c d e g : D, cutG [a, b, c, d, e, g] (some 1) none = [b, c, d, e, g] := fun a b c d e g => rfl
  simp -dsimp only [bnd_some, bnd_none, f_sem, f_rt, f_nx, f_rD, f_rN, f_rS, f_rkO, f_rkD, f_p0, f_p1, f_pk, f_vD, f_vN, f_st0, f_st1, f_call0, f_k0, f_call1, f_c1, f_c2, f_pP, f_pO, f_k1P, f_k1O, f_k2, f_callK, e_nm, e_nmD, e_nmO, e_nmP, e_rdD, e_rdN, e_rdS, e_rkD, e_rkO, e_rkP, e_fzD, e_fzN, e_fzS, e_fkD, e_fkO, e_K, e_aN, e_aC, e_tup, e_lst, e_fzs0, e_fzs1, e_d2, e_kS, e_dB, e_bK, e_tA, e_tO, e_tN, e_eA, e_eO, e_eN, e_if, e_call, e_k1, e_k2, e_isi, e_neg, e_negK, e_ch, g_lt, g_le, g_ge, g_gt, g_ltI, g_sub, g_inS, g_isB, g_isnB, e_add, e_addI, e_ix, e_ixL, e_ixT, e_oN, e_oS, e_soK, e_sl, e_slL, e_slT, e_rev, e_revT, e_revL, h_lenL, h_lenT, h_abs, h_int, h_max, h_min, h_tupL, h_tupT, h_lstL, h_lstT, s_seq, s_nx, s_rt, s_bk, s_ct, s_ret, s_retN, s_nxE, s_bkE, s_if, s_ex, s_as, s_nmF, s_nmT, s_gs0, s_gs1, s_tp, s_tpT, s_ix, s_ixK, s_ixP, s_ixO, s_par, s_ins0, s_ins1, s_inF, s_inT, s_put0, s_put1, e_m, e_ty, e_tyL, e_tyS, e_app, e_appO, e_ext, e_extO, atI_0, atI_1, atI_2, atI_3, atI_4, atI_5, atI_last, PyData.isInt, PyData.isBool, PyData.isStr, PyData.isTuple, PyData.isList, List.map_cons, List.map_nil, List.length_cons, List.length_nil, List.cons_append, List.nil_append, List.replicate, Nat.reduceAdd, Nat.reduceSub, List.getElem?_cons_zero, List.getElem?_cons_succ, List.getElem?_nil, List.set_cons_zero, List.set_cons_succ, Option.bind_some, Option.map_some, Option.bind_none, Option.map_none, Nat.zero_add, Int.reduceLE, Int.reduceLT, Nat.reduceLT, Nat.reduceLeDiff, and_self, and_true, true_and, if_true, if_false, ite_true, ite_false, decide_true, decide_false, ↓reduceIte, Bool.false_eq_true, Bool.not_true, Bool.not_false, List.mem_cons, forall_eq_or_imp, List.not_mem_nil, forall_const, List.all_cons, List.all_nil, Bool.and_true, Bool.and_self, Bool.true_and, hcut, lit0, s_wh, h1]
end EW

/-! k81, mathematics 10: stages. -/
namespace EW
open PySem L2
def resS : Option (Res × Option Ob) → List Nat
  | some (.dat (.str z), _) => z.cps.toList
  | _ => []
def dauF (w : List Nat) (d : D) : List Nat := resS (m__law_daughter none [d, .str (S w)])
theorem dau_ok {sg : List Nat} {d : D} {w : List Nat} (hs : Sg sg) (hd : IsSh sg d) (hw : ∀ x ∈ w, x ∈ sg) (hl : w.length ≤ 900) :
    m__law_daughter none [d, .str (S w)] = some (.dat (.str (S (dauF w d))), none) ∧ (∃ ps, m_strike_of none [d, .str (S w)] = some (.dat (.tuple [.str (S (dauF w d)), .list ps]), none)) ∧ (dauF w d).length ≤ 2 * w.length ∧ ∀ x ∈ dauF w d, x ∈ sg := by
  obtain ⟨way, f, ms, b, h, rfl, hk⟩ := hd
  have e := law_daughter_ok hs hk hw hl
  have e2 := strike_ok hs hk hw hl
  have e3 := rowA_ok hk hw w.length (Nat.le_refl _)
  have e4 : dauF w (shD way f ms b h) = (rowA way f ms b h w w.length).flatten := by
    unfold dauF
    rw [e]
    exact S_cps _
  rw [e4]
  exact ⟨e, e2, e3⟩
def runF (ds : List D) (w : List Nat) : List Nat := ds.foldl dauF w
/-- shift behind shift: each word on the way is of the signs and not too long -/
def RunOk (sg : List Nat) : List D → List Nat → Prop
  | [], w => (∀ x ∈ w, x ∈ sg) ∧ w.length ≤ 1800
  | d :: ds, w => IsSh sg d ∧ (∀ x ∈ w, x ∈ sg) ∧ w.length ≤ 900 ∧ RunOk sg ds (dauF w d)
theorem RunOk.of_len {sg : List Nat} (hs : Sg sg) : ∀ (ds : List D) (w : List Nat), (∀ d ∈ ds, IsSh sg d) → (∀ x ∈ w, x ∈ sg) → w.length * 2 ^ ds.length ≤ 900 → RunOk sg ds w
  | [], w, _, hw, hl => ⟨hw, by simp at hl; omega⟩
  | d :: ds, w, hd, hw, hl => by
    have hp : 0 < 2 ^ ds.length := Nat.two_pow_pos _
    rw [List.length_cons, Nat.pow_succ] at hl
    have h1 : w.length * (2 ^ ds.length * 2) = (2 * w.length) * 2 ^ ds.length := by
      rw [Nat.mul_comm (2 ^ ds.length) 2, ← Nat.mul_assoc, Nat.mul_comm w.length 2]
    rw [h1] at hl
    have h2 : 2 * w.length ≤ (2 * w.length) * 2 ^ ds.length := Nat.le_mul_of_pos_right _ hp
    obtain ⟨_, _, h3, h4⟩ := dau_ok hs (hd d List.mem_cons_self) hw (by omega)
    have h5 : (dauF w d).length * 2 ^ ds.length ≤ (2 * w.length) * 2 ^ ds.length := Nat.mul_le_mul_right _ h3
    exact ⟨hd d List.mem_cons_self, hw, by omega, RunOk.of_len hs ds _ (fun x hx => hd x (List.mem_cons_of_mem _ hx)) h4 (by omega)⟩
theorem RunOk.fin {sg : List Nat} : ∀ {ds : List D} {w : List Nat}, RunOk sg ds w → (∀ x ∈ runF ds w, x ∈ sg) ∧ (runF ds w).length ≤ 1800
  | [], _, h => h
  | d :: ds, w, h => RunOk.fin (ds := ds) (w := dauF w d) h.2.2.2
theorem run_app {a b : List D} {w : List Nat} : runF (a ++ b) w = runF b (runF a w) := List.foldl_append ..
theorem RunOk.app {sg : List Nat} : ∀ {a b : List D} {w : List Nat}, RunOk sg (a ++ b) w → RunOk sg b (runF a w)
  | [], _, _, h => h
  | d :: a, b, w, h => RunOk.app (a := a) (b := b) (w := dauF w d) h.2.2.2
def stgE (bk : D) (w : List Nat) (found : List (List Nat)) (c : Option Cell) : Env := [some (.dat bk), some (.dat (.str (S w))), some (.own (.l (found.map fun w => .str (S w)))), c]
def xStgA : DS := sEx (dM "list" (dNm 2) (aCons (d2 (dF 2 false m_strike_of (aCons (dNm 3) (aCons (d2 (dNm 2) (dNeg (dK (.int 1))) kIx) (aNil)))) (dK (.int 0)) kIx) (aNil)) kApp)
def xStgB : DS := sEx (dM "list" (dNm 2) (aCons (dF 2 false m__law_daughter (aCons (dNm 3) (aCons (d2 (dNm 2) (dNeg (dK (.int 1))) kIx) (aNil)))) (aNil)) kApp)
theorem stg_last {found : List (List Nat)} {v : List Nat} (h : found.getLast? = some v) : (found.map fun w => PyData.str (S w)).getLast? = some (.str (S v)) := by
  rw [List.getLast?_map, h]
  rfl
theorem stg_loop {sg : List Nat} {bk : D} {w0 : List Nat} (hs : Sg sg) (b : DS) (hb : b = xStgA ∨ b = xStgB) : ∀ (ds : List D) (w : List Nat) (found : List (List Nat)) (c : Option Cell), RunOk sg ds w → found.getLast? = some w → found.length + ds.length ≤ 1000 →
    ∃ found' c', loopF (gNm false 3) b ds (stgE bk w0 found c) = some (.nx (stgE bk w0 found' c')) ∧ found'.getLast? = some (runF ds w)
  | [], w, found, c, _, hf, _ => ⟨found, c, rfl, hf⟩
  | d :: ds, w, found, c, ⟨hd, hw, hl, hr⟩, hf, hn => by
    obtain ⟨e1, ⟨ps, e2⟩, h3, h4⟩ := dau_ok hs hd hw hl
    rw [List.length_cons] at hn
    obtain ⟨found', c', h6, h7⟩ := stg_loop hs b hb ds (dauF w d) (found ++ [dauF w d]) (some (.dat d)) hr (by simp) (by simp; omega)
    refine ⟨found', c', ?_, h7⟩
    have hlast := stg_last hf
    have hfl : (found.map fun w => PyData.str (S w)).length ≤ 1000000 := by rw [List.length_map]; omega
    have hmap : (found.map fun w => PyData.str (S w)) ++ [.str (S (dauF w d))] = (found ++ [dauF w d]).map fun w => PyData.str (S w) := by simp
    have hneg : (-1 : Int) = -1 := rfl
    rw [loopF_cons (e1 := stgE bk w0 found (some (.dat d))) (e2 := stgE bk w0 (found ++ [dauF w d]) (some (.dat d))) (by unfold stgE; simp -dsimp only [bnd_some, bnd_none, f_sem, f_rt, f_nx, f_rD, f_rN, f_rS, f_rkO, f_rkD, f_p0, f_p1, f_pk, f_vD, f_vN, f_st0, f_st1, f_call0, f_k0, f_call1, f_c1, f_c2, f_pP, f_pO, f_k1P, f_k1O, f_k2, f_callK, e_nm, e_nmD, e_nmO, e_nmP, e_rdD, e_rdN, e_rdS, e_rkD, e_rkO, e_rkP, e_fzD, e_fzN, e_fzS, e_fkD, e_fkO, e_K, e_aN, e_aC, e_tup, e_lst, e_fzs0, e_fzs1, e_d2, e_kS, e_dB, e_bK, e_tA, e_tO, e_tN, e_eA, e_eO, e_eN, e_if, e_call, e_k1, e_k2, e_isi, e_neg, e_negK, e_ch, g_lt, g_le, g_ge, g_gt, g_ltI, g_sub, g_inS, g_isB, g_isnB, e_add, e_addI, e_ix, e_ixL, e_ixT, e_oN, e_oS, e_soK, e_sl, e_slL, e_slT, e_rev, e_revT, e_revL, h_lenL, h_lenT, h_abs, h_int, h_max, h_min, h_tupL, h_tupT, h_lstL, h_lstT, s_seq, s_nx, s_rt, s_bk, s_ct, s_ret, s_retN, s_nxE, s_bkE, s_if, s_ex, s_as, s_nmF, s_nmT, s_gs0, s_gs1, s_tp, s_tpT, s_ix, s_ixK, s_ixP, s_ixO, s_par, s_ins0, s_ins1, s_inF, s_inT, s_put0, s_put1, e_m, e_ty, e_tyL, e_tyS, e_app, e_appO, e_ext, e_extO, atI_0, atI_1, atI_2, atI_3, atI_4, atI_5, atI_last, PyData.isInt, PyData.isBool, PyData.isStr, PyData.isTuple, PyData.isList, List.map_cons, List.map_nil, List.length_cons, List.length_nil, List.cons_append, List.nil_append, List.replicate, Nat.reduceAdd, Nat.reduceSub, List.getElem?_cons_zero, List.getElem?_cons_succ, List.getElem?_nil, List.set_cons_zero, List.set_cons_succ, Option.bind_some, Option.map_some, Option.bind_none, Option.map_none, Nat.zero_add, Int.reduceLE, Int.reduceLT, Nat.reduceLT, Nat.reduceLeDiff, and_self, and_true, true_and, if_true, if_false, ite_true, ite_false, decide_true, decide_false, ↓reduceIte, Bool.false_eq_true, Bool.not_true, Bool.not_false, List.mem_cons, forall_eq_or_imp, List.not_mem_nil, forall_const, List.all_cons, List.all_nil, Bool.and_true, Bool.and_self, Bool.true_and]) ?_]
    · exact h6
    · rcases hb with rfl | rfl
      · unfold xStgA stgE
        simp -dsimp only [bnd_some, bnd_none, f_sem, f_rt, f_nx, f_rD, f_rN, f_rS, f_rkO, f_rkD, f_p0, f_p1, f_pk, f_vD, f_vN, f_st0, f_st1, f_call0, f_k0, f_call1, f_c1, f_c2, f_pP, f_pO, f_k1P, f_k1O, f_k2, f_callK, e_nm, e_nmD, e_nmO, e_nmP, e_rdD, e_rdN, e_rdS, e_rkD, e_rkO, e_rkP, e_fzD, e_fzN, e_fzS, e_fkD, e_fkO, e_K, e_aN, e_aC, e_tup, e_lst, e_fzs0, e_fzs1, e_d2, e_kS, e_dB, e_bK, e_tA, e_tO, e_tN, e_eA, e_eO, e_eN, e_if, e_call, e_k1, e_k2, e_isi, e_neg, e_negK, e_ch, g_lt, g_le, g_ge, g_gt, g_ltI, g_sub, g_inS, g_isB, g_isnB, e_add, e_addI, e_ix, e_ixL, e_ixT, e_oN, e_oS, e_soK, e_sl, e_slL, e_slT, e_rev, e_revT, e_revL, h_lenL, h_lenT, h_abs, h_int, h_max, h_min, h_tupL, h_tupT, h_lstL, h_lstT, s_seq, s_nx, s_rt, s_bk, s_ct, s_ret, s_retN, s_nxE, s_bkE, s_if, s_ex, s_as, s_nmF, s_nmT, s_gs0, s_gs1, s_tp, s_tpT, s_ix, s_ixK, s_ixP, s_ixO, s_par, s_ins0, s_ins1, s_inF, s_inT, s_put0, s_put1, e_m, e_ty, e_tyL, e_tyS, e_app, e_appO, e_ext, e_extO, atI_0, atI_1, atI_2, atI_3, atI_4, atI_5, atI_last, PyData.isInt, PyData.isBool, PyData.isStr, PyData.isTuple, PyData.isList, List.map_cons, List.map_nil, List.length_cons, List.length_nil, List.cons_append, List.nil_append, List.replicate, Nat.reduceAdd, Nat.reduceSub, List.getElem?_cons_zero, List.getElem?_cons_succ, List.getElem?_nil, List.set_cons_zero, List.set_cons_succ, Option.bind_some, Option.map_some, Option.bind_none, Option.map_none, Nat.zero_add, Int.reduceLE, Int.reduceLT, Nat.reduceLT, Nat.reduceLeDiff, and_self, and_true, true_and, if_true, if_false, ite_true, ite_false, decide_true, decide_false, ↓reduceIte, Bool.false_eq_true, Bool.not_true, Bool.not_false, List.mem_cons, forall_eq_or_imp, List.not_mem_nil, forall_const, List.all_cons, List.all_nil, Bool.and_true, Bool.and_self, Bool.true_and, hlast, e2, hfl, hmap]
      · unfold xStgB stgE
        simp -dsimp only [bnd_some, bnd_none, f_sem, f_rt, f_nx, f_rD, f_rN, f_rS, f_rkO, f_rkD, f_p0, f_p1, f_pk, f_vD, f_vN, f_st0, f_st1, f_call0, f_k0, f_call1, f_c1, f_c2, f_pP, f_pO, f_k1P, f_k1O, f_k2, f_callK, e_nm, e_nmD, e_nmO, e_nmP, e_rdD, e_rdN, e_rdS, e_rkD, e_rkO, e_rkP, e_fzD, e_fzN, e_fzS, e_fkD, e_fkO, e_K, e_aN, e_aC, e_tup, e_lst, e_fzs0, e_fzs1, e_d2, e_kS, e_dB, e_bK, e_tA, e_tO, e_tN, e_eA, e_eO, e_eN, e_if, e_call, e_k1, e_k2, e_isi, e_neg, e_negK, e_ch, g_lt, g_le, g_ge, g_gt, g_ltI, g_sub, g_inS, g_isB, g_isnB, e_add, e_addI, e_ix, e_ixL, e_ixT, e_oN, e_oS, e_soK, e_sl, e_slL, e_slT, e_rev, e_revT, e_revL, h_lenL, h_lenT, h_abs, h_int, h_max, h_min, h_tupL, h_tupT, h_lstL, h_lstT, s_seq, s_nx, s_rt, s_bk, s_ct, s_ret, s_retN, s_nxE, s_bkE, s_if, s_ex, s_as, s_nmF, s_nmT, s_gs0, s_gs1, s_tp, s_tpT, s_ix, s_ixK, s_ixP, s_ixO, s_par, s_ins0, s_ins1, s_inF, s_inT, s_put0, s_put1, e_m, e_ty, e_tyL, e_tyS, e_app, e_appO, e_ext, e_extO, atI_0, atI_1, atI_2, atI_3, atI_4, atI_5, atI_last, PyData.isInt, PyData.isBool, PyData.isStr, PyData.isTuple, PyData.isList, List.map_cons, List.map_nil, List.length_cons, List.length_nil, List.cons_append, List.nil_append, List.replicate, Nat.reduceAdd, Nat.reduceSub, List.getElem?_cons_zero, List.getElem?_cons_succ, List.getElem?_nil, List.set_cons_zero, List.set_cons_succ, Option.bind_some, Option.map_some, Option.bind_none, Option.map_none, Nat.zero_add, Int.reduceLE, Int.reduceLT, Nat.reduceLT, Nat.reduceLeDiff, and_self, and_true, true_and, if_true, if_false, ite_true, ite_false, decide_true, decide_false, ↓reduceIte, Bool.false_eq_true, Bool.not_true, Bool.not_false, List.mem_cons, forall_eq_or_imp, List.not_mem_nil, forall_const, List.all_cons, List.all_nil, Bool.and_true, Bool.and_self, Bool.true_and, hlast, e1, hfl, hmap]
def bookD (sg : List Nat) (ds : List D) : D := .tuple [.str (Str.ofString "book"), .str (S sg), .tuple ds]
theorem daughter_in_ok {sg : List Nat} {ds : List D} {w : List Nat} (hs : Sg sg) (hr : RunOk sg ds w) (hn : ds.length ≤ 900) : m_daughter_in none [bookD sg ds, .str (S w)] = some (.dat (.str (S (runF ds w))), none) := by
  obtain ⟨found, c, h1, h2⟩ := stg_loop (bk := bookD sg ds) (w0 := w) hs xStgA (.inl rfl) ds w [w] none hr rfl (by simp; omega)
  have h3 := stg_last h2
  have e : m_stages_in none [bookD sg ds, .str (S w)] = some (.new (.l (found.map fun w => .str (S w))), none) := by
    unfold m_stages_in d_stages_in N_stages_in
    unfold stgE xStgA at h1
    simp only [List.map_cons, List.map_nil] at h1
    unfold bookD at h1 ⊢
    simp -dsimp only [bnd_some, bnd_none, f_sem, f_rt, f_nx, f_rD, f_rN, f_rS, f_rkO, f_rkD, f_p0, f_p1, f_pk, f_vD, f_vN, f_st0, f_st1, f_call0, f_k0, f_call1, f_c1, f_c2, f_pP, f_pO, f_k1P, f_k1O, f_k2, f_callK, e_nm, e_nmD, e_nmO, e_nmP, e_rdD, e_rdN, e_rdS, e_rkD, e_rkO, e_rkP, e_fzD, e_fzN, e_fzS, e_fkD, e_fkO, e_K, e_aN, e_aC, e_tup, e_lst, e_fzs0, e_fzs1, e_d2, e_kS, e_dB, e_bK, e_tA, e_tO, e_tN, e_eA, e_eO, e_eN, e_if, e_call, e_k1, e_k2, e_isi, e_neg, e_negK, e_ch, g_lt, g_le, g_ge, g_gt, g_ltI, g_sub, g_inS, g_isB, g_isnB, e_add, e_addI, e_ix, e_ixL, e_ixT, e_oN, e_oS, e_soK, e_sl, e_slL, e_slT, e_rev, e_revT, e_revL, h_lenL, h_lenT, h_abs, h_int, h_max, h_min, h_tupL, h_tupT, h_lstL, h_lstT, s_seq, s_nx, s_rt, s_bk, s_ct, s_ret, s_retN, s_nxE, s_bkE, s_if, s_ex, s_as, s_nmF, s_nmT, s_gs0, s_gs1, s_tp, s_tpT, s_ix, s_ixK, s_ixP, s_ixO, s_par, s_ins0, s_ins1, s_inF, s_inT, s_put0, s_put1, e_m, e_ty, e_tyL, e_tyS, e_app, e_appO, e_ext, e_extO, atI_0, atI_1, atI_2, atI_3, atI_4, atI_5, atI_last, PyData.isInt, PyData.isBool, PyData.isStr, PyData.isTuple, PyData.isList, List.map_cons, List.map_nil, List.length_cons, List.length_nil, List.cons_append, List.nil_append, List.replicate, Nat.reduceAdd, Nat.reduceSub, List.getElem?_cons_zero, List.getElem?_cons_succ, List.getElem?_nil, List.set_cons_zero, List.set_cons_succ, Option.bind_some, Option.map_some, Option.bind_none, Option.map_none, Nat.zero_add, Int.reduceLE, Int.reduceLT, Nat.reduceLT, Nat.reduceLeDiff, and_self, and_true, true_and, if_true, if_false, ite_true, ite_false, decide_true, decide_false, ↓reduceIte, Bool.false_eq_true, Bool.not_true, Bool.not_false, List.mem_cons, forall_eq_or_imp, List.not_mem_nil, forall_const, List.all_cons, List.all_nil, Bool.and_true, Bool.and_self, Bool.true_and, s_for, e_iIt, e_itT, h1]
  unfold m_daughter_in d_daughter_in N_daughter_in
  simp -dsimp only [bnd_some, bnd_none, f_sem, f_rt, f_nx, f_rD, f_rN, f_rS, f_rkO, f_rkD, f_p0, f_p1, f_pk, f_vD, f_vN, f_st0, f_st1, f_call0, f_k0, f_call1, f_c1, f_c2, f_pP, f_pO, f_k1P, f_k1O, f_k2, f_callK, e_nm, e_nmD, e_nmO, e_nmP, e_rdD, e_rdN, e_rdS, e_rkD, e_rkO, e_rkP, e_fzD, e_fzN, e_fzS, e_fkD, e_fkO, e_K, e_aN, e_aC, e_tup, e_lst, e_fzs0, e_fzs1, e_d2, e_kS, e_dB, e_bK, e_tA, e_tO, e_tN, e_eA, e_eO, e_eN, e_if, e_call, e_k1, e_k2, e_isi, e_neg, e_negK, e_ch, g_lt, g_le, g_ge, g_gt, g_ltI, g_sub, g_inS, g_isB, g_isnB, e_add, e_addI, e_ix, e_ixL, e_ixT, e_oN, e_oS, e_soK, e_sl, e_slL, e_slT, e_rev, e_revT, e_revL, h_lenL, h_lenT, h_abs, h_int, h_max, h_min, h_tupL, h_tupT, h_lstL, h_lstT, s_seq, s_nx, s_rt, s_bk, s_ct, s_ret, s_retN, s_nxE, s_bkE, s_if, s_ex, s_as, s_nmF, s_nmT, s_gs0, s_gs1, s_tp, s_tpT, s_ix, s_ixK, s_ixP, s_ixO, s_par, s_ins0, s_ins1, s_inF, s_inT, s_put0, s_put1, e_m, e_ty, e_tyL, e_tyS, e_app, e_appO, e_ext, e_extO, atI_0, atI_1, atI_2, atI_3, atI_4, atI_5, atI_last, PyData.isInt, PyData.isBool, PyData.isStr, PyData.isTuple, PyData.isList, List.map_cons, List.map_nil, List.length_cons, List.length_nil, List.cons_append, List.nil_append, List.replicate, Nat.reduceAdd, Nat.reduceSub, List.getElem?_cons_zero, List.getElem?_cons_succ, List.getElem?_nil, List.set_cons_zero, List.set_cons_succ, Option.bind_some, Option.map_some, Option.bind_none, Option.map_none, Nat.zero_add, Int.reduceLE, Int.reduceLT, Nat.reduceLT, Nat.reduceLeDiff, and_self, and_true, true_and, if_true, if_false, ite_true, ite_false, decide_true, decide_false, ↓reduceIte, Bool.false_eq_true, Bool.not_true, Bool.not_false, List.mem_cons, forall_eq_or_imp, List.not_mem_nil, forall_const, List.all_cons, List.all_nil, Bool.and_true, Bool.and_self, Bool.true_and, e, h3]
theorem law_told_ok {sg : List Nat} {ds : List D} {w : List Nat} (hs : Sg sg) (hr : RunOk sg ds w) (hn : ds.length ≤ 900) : m__law_told none [bookD sg ds, .str (S w)] = some (.dat (.str (S (runF ds w))), none) := by
  obtain ⟨found, c, h1, h2⟩ := stg_loop (bk := bookD sg ds) (w0 := w) hs xStgB (.inr rfl) ds w [w] none hr rfl (by simp; omega)
  have h3 := stg_last h2
  have e : m__law_stages none [bookD sg ds, .str (S w)] = some (.new (.l (found.map fun w => .str (S w))), none) := by
    unfold m__law_stages d__law_stages N__law_stages
    unfold stgE xStgB at h1
    simp only [List.map_cons, List.map_nil] at h1
    unfold bookD at h1 ⊢
    simp -dsimp only [bnd_some, bnd_none, f_sem, f_rt, f_nx, f_rD, f_rN, f_rS, f_rkO, f_rkD, f_p0, f_p1, f_pk, f_vD, f_vN, f_st0, f_st1, f_call0, f_k0, f_call1, f_c1, f_c2, f_pP, f_pO, f_k1P, f_k1O, f_k2, f_callK, e_nm, e_nmD, e_nmO, e_nmP, e_rdD, e_rdN, e_rdS, e_rkD, e_rkO, e_rkP, e_fzD, e_fzN, e_fzS, e_fkD, e_fkO, e_K, e_aN, e_aC, e_tup, e_lst, e_fzs0, e_fzs1, e_d2, e_kS, e_dB, e_bK, e_tA, e_tO, e_tN, e_eA, e_eO, e_eN, e_if, e_call, e_k1, e_k2, e_isi, e_neg, e_negK, e_ch, g_lt, g_le, g_ge, g_gt, g_ltI, g_sub, g_inS, g_isB, g_isnB, e_add, e_addI, e_ix, e_ixL, e_ixT, e_oN, e_oS, e_soK, e_sl, e_slL, e_slT, e_rev, e_revT, e_revL, h_lenL, h_lenT, h_abs, h_int, h_max, h_min, h_tupL, h_tupT, h_lstL, h_lstT, s_seq, s_nx, s_rt, s_bk, s_ct, s_ret, s_retN, s_nxE, s_bkE, s_if, s_ex, s_as, s_nmF, s_nmT, s_gs0, s_gs1, s_tp, s_tpT, s_ix, s_ixK, s_ixP, s_ixO, s_par, s_ins0, s_ins1, s_inF, s_inT, s_put0, s_put1, e_m, e_ty, e_tyL, e_tyS, e_app, e_appO, e_ext, e_extO, atI_0, atI_1, atI_2, atI_3, atI_4, atI_5, atI_last, PyData.isInt, PyData.isBool, PyData.isStr, PyData.isTuple, PyData.isList, List.map_cons, List.map_nil, List.length_cons, List.length_nil, List.cons_append, List.nil_append, List.replicate, Nat.reduceAdd, Nat.reduceSub, List.getElem?_cons_zero, List.getElem?_cons_succ, List.getElem?_nil, List.set_cons_zero, List.set_cons_succ, Option.bind_some, Option.map_some, Option.bind_none, Option.map_none, Nat.zero_add, Int.reduceLE, Int.reduceLT, Nat.reduceLT, Nat.reduceLeDiff, and_self, and_true, true_and, if_true, if_false, ite_true, ite_false, decide_true, decide_false, ↓reduceIte, Bool.false_eq_true, Bool.not_true, Bool.not_false, List.mem_cons, forall_eq_or_imp, List.not_mem_nil, forall_const, List.all_cons, List.all_nil, Bool.and_true, Bool.and_self, Bool.true_and, s_for, e_iIt, e_itT, h1]
  unfold m__law_told d__law_told N__law_told
  simp -dsimp only [bnd_some, bnd_none, f_sem, f_rt, f_nx, f_rD, f_rN, f_rS, f_rkO, f_rkD, f_p0, f_p1, f_pk, f_vD, f_vN, f_st0, f_st1, f_call0, f_k0, f_call1, f_c1, f_c2, f_pP, f_pO, f_k1P, f_k1O, f_k2, f_callK, e_nm, e_nmD, e_nmO, e_nmP, e_rdD, e_rdN, e_rdS, e_rkD, e_rkO, e_rkP, e_fzD, e_fzN, e_fzS, e_fkD, e_fkO, e_K, e_aN, e_aC, e_tup, e_lst, e_fzs0, e_fzs1, e_d2, e_kS, e_dB, e_bK, e_tA, e_tO, e_tN, e_eA, e_eO, e_eN, e_if, e_call, e_k1, e_k2, e_isi, e_neg, e_negK, e_ch, g_lt, g_le, g_ge, g_gt, g_ltI, g_sub, g_inS, g_isB, g_isnB, e_add, e_addI, e_ix, e_ixL, e_ixT, e_oN, e_oS, e_soK, e_sl, e_slL, e_slT, e_rev, e_revT, e_revL, h_lenL, h_lenT, h_abs, h_int, h_max, h_min, h_tupL, h_tupT, h_lstL, h_lstT, s_seq, s_nx, s_rt, s_bk, s_ct, s_ret, s_retN, s_nxE, s_bkE, s_if, s_ex, s_as, s_nmF, s_nmT, s_gs0, s_gs1, s_tp, s_tpT, s_ix, s_ixK, s_ixP, s_ixO, s_par, s_ins0, s_ins1, s_inF, s_inT, s_put0, s_put1, e_m, e_ty, e_tyL, e_tyS, e_app, e_appO, e_ext, e_extO, atI_0, atI_1, atI_2, atI_3, atI_4, atI_5, atI_last, PyData.isInt, PyData.isBool, PyData.isStr, PyData.isTuple, PyData.isList, List.map_cons, List.map_nil, List.length_cons, List.length_nil, List.cons_append, List.nil_append, List.replicate, Nat.reduceAdd, Nat.reduceSub, List.getElem?_cons_zero, List.getElem?_cons_succ, List.getElem?_nil, List.set_cons_zero, List.set_cons_succ, Option.bind_some, Option.map_some, Option.bind_none, Option.map_none, Nat.zero_add, Int.reduceLE, Int.reduceLT, Nat.reduceLT, Nat.reduceLeDiff, and_self, and_true, true_and, if_true, if_false, ite_true, ite_false, decide_true, decide_false, ↓reduceIte, Bool.false_eq_true, Bool.not_true, Bool.not_false, List.mem_cons, forall_eq_or_imp, List.not_mem_nil, forall_const, List.all_cons, List.all_nil, Bool.and_true, Bool.and_self, Bool.true_and, e, h3]
end EW

/-! k81, mathematics 11: what the program tells of a tree. -/
namespace EW
open PySem L2
section
variable {sg : List Nat} {nodes : List Nd}
theorem is_tree_ok (t : TreeOk sg nodes) : m_is_tree none [treeD sg nodes] = yes := by
  have e := tree_any_ok t
  unfold yes at e ⊢
  unfold m_is_tree d_is_tree N_is_tree
  simp -dsimp only [bnd_some, bnd_none, f_sem, f_rt, f_nx, f_rD, f_rN, f_rS, f_rkO, f_rkD, f_p0, f_p1, f_pk, f_vD, f_vN, f_st0, f_st1, f_call0, f_k0, f_call1, f_c1, f_c2, f_pP, f_pO, f_k1P, f_k1O, f_k2, f_callK, e_nm, e_nmD, e_nmO, e_nmP, e_rdD, e_rdN, e_rdS, e_rkD, e_rkO, e_rkP, e_fzD, e_fzN, e_fzS, e_fkD, e_fkO, e_K, e_aN, e_aC, e_tup, e_lst, e_fzs0, e_fzs1, e_d2, e_kS, e_dB, e_bK, e_tA, e_tO, e_tN, e_eA, e_eO, e_eN, e_if, e_call, e_k1, e_k2, e_isi, e_neg, e_negK, e_ch, g_lt, g_le, g_ge, g_gt, g_ltI, g_sub, g_inS, g_isB, g_isnB, e_add, e_addI, e_ix, e_ixL, e_ixT, e_oN, e_oS, e_soK, e_sl, e_slL, e_slT, e_rev, e_revT, e_revL, h_lenL, h_lenT, h_abs, h_int, h_max, h_min, h_tupL, h_tupT, h_lstL, h_lstT, s_seq, s_nx, s_rt, s_bk, s_ct, s_ret, s_retN, s_nxE, s_bkE, s_if, s_ex, s_as, s_nmF, s_nmT, s_gs0, s_gs1, s_tp, s_tpT, s_ix, s_ixK, s_ixP, s_ixO, s_par, s_ins0, s_ins1, s_inF, s_inT, s_put0, s_put1, e_m, e_ty, e_tyL, e_tyS, e_app, e_appO, e_ext, e_extO, atI_0, atI_1, atI_2, atI_3, atI_4, atI_5, atI_last, PyData.isInt, PyData.isBool, PyData.isStr, PyData.isTuple, PyData.isList, List.map_cons, List.map_nil, List.length_cons, List.length_nil, List.cons_append, List.nil_append, List.replicate, Nat.reduceAdd, Nat.reduceSub, List.getElem?_cons_zero, List.getElem?_cons_succ, List.getElem?_nil, List.set_cons_zero, List.set_cons_succ, Option.bind_some, Option.map_some, Option.bind_none, Option.map_none, Nat.zero_add, Int.reduceLE, Int.reduceLT, Nat.reduceLT, Nat.reduceLeDiff, and_self, and_true, true_and, if_true, if_false, ite_true, ite_false, decide_true, decide_false, ↓reduceIte, Bool.false_eq_true, Bool.not_true, Bool.not_false, List.mem_cons, forall_eq_or_imp, List.not_mem_nil, forall_const, List.all_cons, List.all_nil, Bool.and_true, Bool.and_self, Bool.true_and, e]
theorem want_tree_ok (t : TreeOk sg nodes) : m_want_tree none [treeD sg nodes] = some (.dat .none, none) := by
  have e := tree_any_ok t
  unfold yes at e
  unfold m_want_tree d_want_tree N_want_tree
  simp -dsimp only [bnd_some, bnd_none, f_sem, f_rt, f_nx, f_rD, f_rN, f_rS, f_rkO, f_rkD, f_p0, f_p1, f_pk, f_vD, f_vN, f_st0, f_st1, f_call0, f_k0, f_call1, f_c1, f_c2, f_pP, f_pO, f_k1P, f_k1O, f_k2, f_callK, e_nm, e_nmD, e_nmO, e_nmP, e_rdD, e_rdN, e_rdS, e_rkD, e_rkO, e_rkP, e_fzD, e_fzN, e_fzS, e_fkD, e_fkO, e_K, e_aN, e_aC, e_tup, e_lst, e_fzs0, e_fzs1, e_d2, e_kS, e_dB, e_bK, e_tA, e_tO, e_tN, e_eA, e_eO, e_eN, e_if, e_call, e_k1, e_k2, e_isi, e_neg, e_negK, e_ch, g_lt, g_le, g_ge, g_gt, g_ltI, g_sub, g_inS, g_isB, g_isnB, e_add, e_addI, e_ix, e_ixL, e_ixT, e_oN, e_oS, e_soK, e_sl, e_slL, e_slT, e_rev, e_revT, e_revL, h_lenL, h_lenT, h_abs, h_int, h_max, h_min, h_tupL, h_tupT, h_lstL, h_lstT, s_seq, s_nx, s_rt, s_bk, s_ct, s_ret, s_retN, s_nxE, s_bkE, s_if, s_ex, s_as, s_nmF, s_nmT, s_gs0, s_gs1, s_tp, s_tpT, s_ix, s_ixK, s_ixP, s_ixO, s_par, s_ins0, s_ins1, s_inF, s_inT, s_put0, s_put1, e_m, e_ty, e_tyL, e_tyS, e_app, e_appO, e_ext, e_extO, atI_0, atI_1, atI_2, atI_3, atI_4, atI_5, atI_last, PyData.isInt, PyData.isBool, PyData.isStr, PyData.isTuple, PyData.isList, List.map_cons, List.map_nil, List.length_cons, List.length_nil, List.cons_append, List.nil_append, List.replicate, Nat.reduceAdd, Nat.reduceSub, List.getElem?_cons_zero, List.getElem?_cons_succ, List.getElem?_nil, List.set_cons_zero, List.set_cons_succ, Option.bind_some, Option.map_some, Option.bind_none, Option.map_none, Nat.zero_add, Int.reduceLE, Int.reduceLT, Nat.reduceLT, Nat.reduceLeDiff, and_self, and_true, true_and, if_true, if_false, ite_true, ite_false, decide_true, decide_false, ↓reduceIte, Bool.false_eq_true, Bool.not_true, Bool.not_false, List.mem_cons, forall_eq_or_imp, List.not_mem_nil, forall_const, List.all_cons, List.all_nil, Bool.and_true, Bool.and_self, Bool.true_and, e]
theorem want_tree_word_ok {w : List Nat} (hw : ∀ x ∈ w, x ∈ sg) (hl : w.length ≤ 60) : m_want_tree_word none [treeD sg nodes, .str (S w)] = some (.dat .none, none) := by
  have e := text_ok (sg := sg) (n := 60) hw (by omega) (by omega)
  unfold yes at e
  have e2 : m_is_word_of none [.str (S sg), .str (S w)] = some (.dat (.bool true), none) := by
    unfold m_is_word_of d_is_word_of N_is_word_of
    simp -dsimp only [bnd_some, bnd_none, f_sem, f_rt, f_nx, f_rD, f_rN, f_rS, f_rkO, f_rkD, f_p0, f_p1, f_pk, f_vD, f_vN, f_st0, f_st1, f_call0, f_k0, f_call1, f_c1, f_c2, f_pP, f_pO, f_k1P, f_k1O, f_k2, f_callK, e_nm, e_nmD, e_nmO, e_nmP, e_rdD, e_rdN, e_rdS, e_rkD, e_rkO, e_rkP, e_fzD, e_fzN, e_fzS, e_fkD, e_fkO, e_K, e_aN, e_aC, e_tup, e_lst, e_fzs0, e_fzs1, e_d2, e_kS, e_dB, e_bK, e_tA, e_tO, e_tN, e_eA, e_eO, e_eN, e_if, e_call, e_k1, e_k2, e_isi, e_neg, e_negK, e_ch, g_lt, g_le, g_ge, g_gt, g_ltI, g_sub, g_inS, g_isB, g_isnB, e_add, e_addI, e_ix, e_ixL, e_ixT, e_oN, e_oS, e_soK, e_sl, e_slL, e_slT, e_rev, e_revT, e_revL, h_lenL, h_lenT, h_abs, h_int, h_max, h_min, h_tupL, h_tupT, h_lstL, h_lstT, s_seq, s_nx, s_rt, s_bk, s_ct, s_ret, s_retN, s_nxE, s_bkE, s_if, s_ex, s_as, s_nmF, s_nmT, s_gs0, s_gs1, s_tp, s_tpT, s_ix, s_ixK, s_ixP, s_ixO, s_par, s_ins0, s_ins1, s_inF, s_inT, s_put0, s_put1, e_m, e_ty, e_tyL, e_tyS, e_app, e_appO, e_ext, e_extO, atI_0, atI_1, atI_2, atI_3, atI_4, atI_5, atI_last, PyData.isInt, PyData.isBool, PyData.isStr, PyData.isTuple, PyData.isList, List.map_cons, List.map_nil, List.length_cons, List.length_nil, List.cons_append, List.nil_append, List.replicate, Nat.reduceAdd, Nat.reduceSub, List.getElem?_cons_zero, List.getElem?_cons_succ, List.getElem?_nil, List.set_cons_zero, List.set_cons_succ, Option.bind_some, Option.map_some, Option.bind_none, Option.map_none, Nat.zero_add, Int.reduceLE, Int.reduceLT, Nat.reduceLT, Nat.reduceLeDiff, and_self, and_true, true_and, if_true, if_false, ite_true, ite_false, decide_true, decide_false, ↓reduceIte, Bool.false_eq_true, Bool.not_true, Bool.not_false, List.mem_cons, forall_eq_or_imp, List.not_mem_nil, forall_const, List.all_cons, List.all_nil, Bool.and_true, Bool.and_self, Bool.true_and, e]
  unfold m_want_tree_word d_want_tree_word N_want_tree_word treeD
  simp -dsimp only [bnd_some, bnd_none, f_sem, f_rt, f_nx, f_rD, f_rN, f_rS, f_rkO, f_rkD, f_p0, f_p1, f_pk, f_vD, f_vN, f_st0, f_st1, f_call0, f_k0, f_call1, f_c1, f_c2, f_pP, f_pO, f_k1P, f_k1O, f_k2, f_callK, e_nm, e_nmD, e_nmO, e_nmP, e_rdD, e_rdN, e_rdS, e_rkD, e_rkO, e_rkP, e_fzD, e_fzN, e_fzS, e_fkD, e_fkO, e_K, e_aN, e_aC, e_tup, e_lst, e_fzs0, e_fzs1, e_d2, e_kS, e_dB, e_bK, e_tA, e_tO, e_tN, e_eA, e_eO, e_eN, e_if, e_call, e_k1, e_k2, e_isi, e_neg, e_negK, e_ch, g_lt, g_le, g_ge, g_gt, g_ltI, g_sub, g_inS, g_isB, g_isnB, e_add, e_addI, e_ix, e_ixL, e_ixT, e_oN, e_oS, e_soK, e_sl, e_slL, e_slT, e_rev, e_revT, e_revL, h_lenL, h_lenT, h_abs, h_int, h_max, h_min, h_tupL, h_tupT, h_lstL, h_lstT, s_seq, s_nx, s_rt, s_bk, s_ct, s_ret, s_retN, s_nxE, s_bkE, s_if, s_ex, s_as, s_nmF, s_nmT, s_gs0, s_gs1, s_tp, s_tpT, s_ix, s_ixK, s_ixP, s_ixO, s_par, s_ins0, s_ins1, s_inF, s_inT, s_put0, s_put1, e_m, e_ty, e_tyL, e_tyS, e_app, e_appO, e_ext, e_extO, atI_0, atI_1, atI_2, atI_3, atI_4, atI_5, atI_last, PyData.isInt, PyData.isBool, PyData.isStr, PyData.isTuple, PyData.isList, List.map_cons, List.map_nil, List.length_cons, List.length_nil, List.cons_append, List.nil_append, List.replicate, Nat.reduceAdd, Nat.reduceSub, List.getElem?_cons_zero, List.getElem?_cons_succ, List.getElem?_nil, List.set_cons_zero, List.set_cons_succ, Option.bind_some, Option.map_some, Option.bind_none, Option.map_none, Nat.zero_add, Int.reduceLE, Int.reduceLT, Nat.reduceLT, Nat.reduceLeDiff, and_self, and_true, true_and, if_true, if_false, ite_true, ite_false, decide_true, decide_false, ↓reduceIte, Bool.false_eq_true, Bool.not_true, Bool.not_false, List.mem_cons, forall_eq_or_imp, List.not_mem_nil, forall_const, List.all_cons, List.all_nil, Bool.and_true, Bool.and_self, Bool.true_and, e2]
theorem node_book_ok (t : TreeOk sg nodes) {i : Nat} (hi : i < nodes.length) : m_node_book none [treeD sg nodes, .int (i : Int)] = some (.dat (bookD sg ((alongs nodes).getD i [])), none) := by
  have e := want_tree_ok t
  have e2 := shifts_along_ok t
  have hl2 := t.l2
  have e3 := within_ok (v := (i : Int)) (a := 0) (b := (nodes.length : Int) - 1) (by omega) (by omega)
  unfold yes at e3
  have hlm : (nodes.map Nd.d).length = nodes.length := List.length_map _
  have ha : i < (alongs nodes).length := by rw [alongs_len]; exact hi
  have hat : ((alongs nodes).map PyData.tuple)[i]? = some (.tuple ((alongs nodes).getD i [])) := by
    rw [List.getElem?_map, List.getElem?_eq_getElem ha]
    simp only [List.getD_eq_getElem?_getD, List.getElem?_eq_getElem ha]
    rfl
  unfold treeD at e ⊢
  unfold m_node_book d_node_book N_node_book bookD
  simp -dsimp only [bnd_some, bnd_none, f_sem, f_rt, f_nx, f_rD, f_rN, f_rS, f_rkO, f_rkD, f_p0, f_p1, f_pk, f_vD, f_vN, f_st0, f_st1, f_call0, f_k0, f_call1, f_c1, f_c2, f_pP, f_pO, f_k1P, f_k1O, f_k2, f_callK, e_nm, e_nmD, e_nmO, e_nmP, e_rdD, e_rdN, e_rdS, e_rkD, e_rkO, e_rkP, e_fzD, e_fzN, e_fzS, e_fkD, e_fkO, e_K, e_aN, e_aC, e_tup, e_lst, e_fzs0, e_fzs1, e_d2, e_kS, e_dB, e_bK, e_tA, e_tO, e_tN, e_eA, e_eO, e_eN, e_if, e_call, e_k1, e_k2, e_isi, e_neg, e_negK, e_ch, g_lt, g_le, g_ge, g_gt, g_ltI, g_sub, g_inS, g_isB, g_isnB, e_add, e_addI, e_ix, e_ixL, e_ixT, e_oN, e_oS, e_soK, e_sl, e_slL, e_slT, e_rev, e_revT, e_revL, h_lenL, h_lenT, h_abs, h_int, h_max, h_min, h_tupL, h_tupT, h_lstL, h_lstT, s_seq, s_nx, s_rt, s_bk, s_ct, s_ret, s_retN, s_nxE, s_bkE, s_if, s_ex, s_as, s_nmF, s_nmT, s_gs0, s_gs1, s_tp, s_tpT, s_ix, s_ixK, s_ixP, s_ixO, s_par, s_ins0, s_ins1, s_inF, s_inT, s_put0, s_put1, e_m, e_ty, e_tyL, e_tyS, e_app, e_appO, e_ext, e_extO, atI_0, atI_1, atI_2, atI_3, atI_4, atI_5, atI_last, PyData.isInt, PyData.isBool, PyData.isStr, PyData.isTuple, PyData.isList, List.map_cons, List.map_nil, List.length_cons, List.length_nil, List.cons_append, List.nil_append, List.replicate, Nat.reduceAdd, Nat.reduceSub, List.getElem?_cons_zero, List.getElem?_cons_succ, List.getElem?_nil, List.set_cons_zero, List.set_cons_succ, Option.bind_some, Option.map_some, Option.bind_none, Option.map_none, Nat.zero_add, Int.reduceLE, Int.reduceLT, Nat.reduceLT, Nat.reduceLeDiff, and_self, and_true, true_and, if_true, if_false, ite_true, ite_false, decide_true, decide_false, ↓reduceIte, Bool.false_eq_true, Bool.not_true, Bool.not_false, List.mem_cons, forall_eq_or_imp, List.not_mem_nil, forall_const, List.all_cons, List.all_nil, Bool.and_true, Bool.and_self, Bool.true_and, e, e2, e3, hlm, atI_nat, hat]
/-! the way up to the root -/
theorem nodes_at {i : Nat} {n : Nd} (h : nodes[i]? = some n) : (nodes.map Nd.d)[i]? = some n.d := by
  rw [List.getElem?_map, h]
  rfl
def alE (sg : List Nat) (nodes : List Nd) (k : Int) (found : List D) (here : Int) : Env := [some (.dat (treeD sg nodes)), some (.dat (.int k)), some (.dat (.tuple found)), some (.dat (.int here))]
def xAlT : DT := dB (d2 (dNm 3) (dK (.int 0)) (kS gGe))
def xAlB : DS := sPar [2, 3] [false, false] (aCons (d2 (d2 (d2 (d2 (dNm 0) (dK (.int 2)) kIx) (dNm 3) kIx) (dK (.int 2)) kIx) (dNm 2) kAdd) (aCons (d2 (d2 (d2 (dNm 0) (dK (.int 2)) kIx) (dNm 3) kIx) (dK (.int 1)) kIx) (aNil)))
theorem along_turn {k : Int} {found : List D} {i : Nat} {n : Nd} (h : nodes[i]? = some n) (hl : n.sh.length + found.length ≤ 1000) : xAlB (alE sg nodes k found (i : Int)) = some (.nx (alE sg nodes k (n.sh ++ found) n.par)) := by
  have e := nodes_at h
  unfold xAlB alE treeD
  have e3 : ∀ env, addK2 env (some (.tuple n.sh)) (some (.tuple found)) = some (.dat (.tuple (n.sh ++ found)), env) := fun env => e_addT (by omega)
  have e4 : n.d = .tuple [.str n.name, .int n.par, .tuple n.sh] := rfl
  rw [e4] at e
  simp -dsimp only [bnd_some, bnd_none, f_sem, f_rt, f_nx, f_rD, f_rN, f_rS, f_rkO, f_rkD, f_p0, f_p1, f_pk, f_vD, f_vN, f_st0, f_st1, f_call0, f_k0, f_call1, f_c1, f_c2, f_pP, f_pO, f_k1P, f_k1O, f_k2, f_callK, e_nm, e_nmD, e_nmO, e_nmP, e_rdD, e_rdN, e_rdS, e_rkD, e_rkO, e_rkP, e_fzD, e_fzN, e_fzS, e_fkD, e_fkO, e_K, e_aN, e_aC, e_tup, e_lst, e_fzs0, e_fzs1, e_d2, e_kS, e_dB, e_bK, e_tA, e_tO, e_tN, e_eA, e_eO, e_eN, e_if, e_call, e_k1, e_k2, e_isi, e_neg, e_negK, e_ch, g_lt, g_le, g_ge, g_gt, g_ltI, g_sub, g_inS, g_isB, g_isnB, e_add, e_addI, e_ix, e_ixL, e_ixT, e_oN, e_oS, e_soK, e_sl, e_slL, e_slT, e_rev, e_revT, e_revL, h_lenL, h_lenT, h_abs, h_int, h_max, h_min, h_tupL, h_tupT, h_lstL, h_lstT, s_seq, s_nx, s_rt, s_bk, s_ct, s_ret, s_retN, s_nxE, s_bkE, s_if, s_ex, s_as, s_nmF, s_nmT, s_gs0, s_gs1, s_tp, s_tpT, s_ix, s_ixK, s_ixP, s_ixO, s_par, s_ins0, s_ins1, s_inF, s_inT, s_put0, s_put1, e_m, e_ty, e_tyL, e_tyS, e_app, e_appO, e_ext, e_extO, atI_0, atI_1, atI_2, atI_3, atI_4, atI_5, atI_last, PyData.isInt, PyData.isBool, PyData.isStr, PyData.isTuple, PyData.isList, List.map_cons, List.map_nil, List.length_cons, List.length_nil, List.cons_append, List.nil_append, List.replicate, Nat.reduceAdd, Nat.reduceSub, List.getElem?_cons_zero, List.getElem?_cons_succ, List.getElem?_nil, List.set_cons_zero, List.set_cons_succ, Option.bind_some, Option.map_some, Option.bind_none, Option.map_none, Nat.zero_add, Int.reduceLE, Int.reduceLT, Nat.reduceLT, Nat.reduceLeDiff, and_self, and_true, true_and, if_true, if_false, ite_true, ite_false, decide_true, decide_false, ↓reduceIte, Bool.false_eq_true, Bool.not_true, Bool.not_false, List.mem_cons, forall_eq_or_imp, List.not_mem_nil, forall_const, List.all_cons, List.all_nil, Bool.and_true, Bool.and_self, Bool.true_and, atI_nat, e, e3, List.all_cons, List.all_nil]
end
end EW

/-! k81, mathematics 12: the law's own walk up. -/
namespace EW
open PySem L2
section
variable {sg : List Nat} {nodes : List Nd}
def alA (nodes : List Nd) (k : Int) : List D := if 0 ≤ k then (alongs nodes).getD k.toNat [] else []
theorem alA_at (t : TreeOk sg nodes) {i : Nat} {n : Nd} (h : nodes[i]? = some n) : alA nodes (i : Int) = alA nodes n.par ++ n.sh := by
  have e := alongs_at h
  obtain ⟨hp, _, hq⟩ := t.any h
  have hl : i < nodes.length := (List.getElem?_eq_some_iff.mp h).1
  unfold alA
  rw [if_pos (by omega), show ((i : Int)).toNat = i by omega]
  simp only [List.getD_eq_getElem?_getD]
  rw [e]
  show (if 0 ≤ n.par then (alongs (nodes.take i)).getD n.par.toNat [] else []) ++ n.sh = _
  by_cases h0 : 0 ≤ n.par
  · rw [if_pos h0, if_pos h0]
    congr 1
    obtain ⟨b, hb⟩ := alongs_pre nodes i
    have hl2 : (alongs (nodes.take i)).length = i := by rw [alongs_len, List.length_take]; omega
    rw [hb, List.getElem?_append_left (by omega), List.getD_eq_getElem?_getD]
  · rw [if_neg h0, if_neg h0]
theorem alA_len (t : TreeOk sg nodes) (k : Int) : (alA nodes k).length ≤ 6 := by
  unfold alA
  split
  · rw [List.getD_eq_getElem?_getD]
    cases hq : (alongs nodes)[k.toNat]? with
    | none => simp
    | some a => exact t.al a (List.mem_of_getElem? hq)
  · simp
theorem along_T {k here : Int} {found : List D} : xAlT (alE sg nodes k found here) = some (decide (0 ≤ here), alE sg nodes k found here) := by
  unfold xAlT alE
  simp -dsimp only [bnd_some, bnd_none, f_sem, f_rt, f_nx, f_rD, f_rN, f_rS, f_rkO, f_rkD, f_p0, f_p1, f_pk, f_vD, f_vN, f_st0, f_st1, f_call0, f_k0, f_call1, f_c1, f_c2, f_pP, f_pO, f_k1P, f_k1O, f_k2, f_callK, e_nm, e_nmD, e_nmO, e_nmP, e_rdD, e_rdN, e_rdS, e_rkD, e_rkO, e_rkP, e_fzD, e_fzN, e_fzS, e_fkD, e_fkO, e_K, e_aN, e_aC, e_tup, e_lst, e_fzs0, e_fzs1, e_d2, e_kS, e_dB, e_bK, e_tA, e_tO, e_tN, e_eA, e_eO, e_eN, e_if, e_call, e_k1, e_k2, e_isi, e_neg, e_negK, e_ch, g_lt, g_le, g_ge, g_gt, g_ltI, g_sub, g_inS, g_isB, g_isnB, e_add, e_addI, e_ix, e_ixL, e_ixT, e_oN, e_oS, e_soK, e_sl, e_slL, e_slT, e_rev, e_revT, e_revL, h_lenL, h_lenT, h_abs, h_int, h_max, h_min, h_tupL, h_tupT, h_lstL, h_lstT, s_seq, s_nx, s_rt, s_bk, s_ct, s_ret, s_retN, s_nxE, s_bkE, s_if, s_ex, s_as, s_nmF, s_nmT, s_gs0, s_gs1, s_tp, s_tpT, s_ix, s_ixK, s_ixP, s_ixO, s_par, s_ins0, s_ins1, s_inF, s_inT, s_put0, s_put1, e_m, e_ty, e_tyL, e_tyS, e_app, e_appO, e_ext, e_extO, atI_0, atI_1, atI_2, atI_3, atI_4, atI_5, atI_last, PyData.isInt, PyData.isBool, PyData.isStr, PyData.isTuple, PyData.isList, List.map_cons, List.map_nil, List.length_cons, List.length_nil, List.cons_append, List.nil_append, List.replicate, Nat.reduceAdd, Nat.reduceSub, List.getElem?_cons_zero, List.getElem?_cons_succ, List.getElem?_nil, List.set_cons_zero, List.set_cons_succ, Option.bind_some, Option.map_some, Option.bind_none, Option.map_none, Nat.zero_add, Int.reduceLE, Int.reduceLT, Nat.reduceLT, Nat.reduceLeDiff, and_self, and_true, true_and, if_true, if_false, ite_true, ite_false, decide_true, decide_false, ↓reduceIte, Bool.false_eq_true, Bool.not_true, Bool.not_false, List.mem_cons, forall_eq_or_imp, List.not_mem_nil, forall_const, List.all_cons, List.all_nil, Bool.and_true, Bool.and_self, Bool.true_and]
theorem law_along_ok (t : TreeOk sg nodes) {i : Nat} (hi : i < nodes.length) : m__law_along none [treeD sg nodes, .int (i : Int)] = some (.dat (.tuple ((alongs nodes).getD i [])), none) := by
  have hA := alA_len t (i : Int)
  have hl2 := t.l2
  obtain ⟨env', h1, here, rfl⟩ := loopW_inv (c := xAlT) (b := xAlB) (Inv := fun m env => ∃ here found, env = alE sg nodes (i : Int) found here ∧ -1 ≤ here ∧ here < (nodes.length : Int) ∧ (m : Int) = here + 1 ∧ alA nodes here ++ found = alA nodes (i : Int)) (Post := fun env => ∃ here, env = alE sg nodes (i : Int) (alA nodes (i : Int)) here) (by
    rintro m env ⟨here, found, rfl, g1, g2, g3, g4⟩
    by_cases h0 : 0 ≤ here
    · obtain ⟨j, rfl⟩ := Int.eq_ofNat_of_zero_le h0
      have hj : j < nodes.length := by omega
      have hn := List.getElem?_eq_getElem hj
      obtain ⟨hp, _, hq⟩ := t.any hn
      have e := alA_at t hn
      rw [e] at g4
      have hlen : (alA nodes (nodes[j]).par ++ (nodes[j]).sh ++ found).length ≤ 6 := by rw [g4]; exact hA
      simp only [List.length_append] at hlen
      refine .inr ⟨_, _, ((nodes[j]).par + 1).toNat, ?_, along_turn (found := found) hn (by omega), by omega, (nodes[j]).par, _, rfl, by omega, by omega, by omega, ?_⟩
      · rw [along_T, decide_eq_true h0]
      · rw [← List.append_assoc]; exact g4
    · have : found = alA nodes (i : Int) := by
        rw [← g4]
        unfold alA
        rw [if_neg h0]
        rfl
      subst this
      refine .inl ⟨_, ?_, here, rfl⟩
      rw [along_T, decide_eq_false h0]) fuel (i + 1) (alE sg nodes (i : Int) [] (i : Int)) (by have := fuel_ge3; omega) ⟨i, [], rfl, by omega, by omega, by omega, by simp⟩
  have e : (alongs nodes).getD i [] = alA nodes (i : Int) := by unfold alA; rw [if_pos (by omega)]; rfl
  rw [e]
  unfold alE xAlT xAlB at h1
  unfold m__law_along d__law_along N__law_along
  simp -dsimp only [bnd_some, bnd_none, f_sem, f_rt, f_nx, f_rD, f_rN, f_rS, f_rkO, f_rkD, f_p0, f_p1, f_pk, f_vD, f_vN, f_st0, f_st1, f_call0, f_k0, f_call1, f_c1, f_c2, f_pP, f_pO, f_k1P, f_k1O, f_k2, f_callK, e_nm, e_nmD, e_nmO, e_nmP, e_rdD, e_rdN, e_rdS, e_rkD, e_rkO, e_rkP, e_fzD, e_fzN, e_fzS, e_fkD, e_fkO, e_K, e_aN, e_aC, e_tup, e_lst, e_fzs0, e_fzs1, e_d2, e_kS, e_dB, e_bK, e_tA, e_tO, e_tN, e_eA, e_eO, e_eN, e_if, e_call, e_k1, e_k2, e_isi, e_neg, e_negK, e_ch, g_lt, g_le, g_ge, g_gt, g_ltI, g_sub, g_inS, g_isB, g_isnB, e_add, e_addI, e_ix, e_ixL, e_ixT, e_oN, e_oS, e_soK, e_sl, e_slL, e_slT, e_rev, e_revT, e_revL, h_lenL, h_lenT, h_abs, h_int, h_max, h_min, h_tupL, h_tupT, h_lstL, h_lstT, s_seq, s_nx, s_rt, s_bk, s_ct, s_ret, s_retN, s_nxE, s_bkE, s_if, s_ex, s_as, s_nmF, s_nmT, s_gs0, s_gs1, s_tp, s_tpT, s_ix, s_ixK, s_ixP, s_ixO, s_par, s_ins0, s_ins1, s_inF, s_inT, s_put0, s_put1, e_m, e_ty, e_tyL, e_tyS, e_app, e_appO, e_ext, e_extO, atI_0, atI_1, atI_2, atI_3, atI_4, atI_5, atI_last, PyData.isInt, PyData.isBool, PyData.isStr, PyData.isTuple, PyData.isList, List.map_cons, List.map_nil, List.length_cons, List.length_nil, List.cons_append, List.nil_append, List.replicate, Nat.reduceAdd, Nat.reduceSub, List.getElem?_cons_zero, List.getElem?_cons_succ, List.getElem?_nil, List.set_cons_zero, List.set_cons_succ, Option.bind_some, Option.map_some, Option.bind_none, Option.map_none, Nat.zero_add, Int.reduceLE, Int.reduceLT, Nat.reduceLT, Nat.reduceLeDiff, and_self, and_true, true_and, if_true, if_false, ite_true, ite_false, decide_true, decide_false, ↓reduceIte, Bool.false_eq_true, Bool.not_true, Bool.not_false, List.mem_cons, forall_eq_or_imp, List.not_mem_nil, forall_const, List.all_cons, List.all_nil, Bool.and_true, Bool.and_self, Bool.true_and, s_wh, h1, List.all_cons, List.all_nil]
end
end EW

/-! k81, mathematics 13: leaves. -/
namespace EW
open PySem L2
section
variable {sg : List Nat} {nodes : List Nd}
def isPar (nodes : List Nd) (i : Int) : Bool := nodes.any fun n => decide (n.par = i)
def leafψ (nodes : List Nd) : D → Option D
  | .int i => if isPar nodes i = true then none else some (.int i)
  | _ => none
def leafD (nodes : List Nd) : List D := (rngD 0 nodes.length).filterMap (leafψ nodes)
theorem parφ_loop {a0 a1 a3 : Option Cell} (hl : nodes.length ≤ 12) : loopC [2] (cNm 2) tYs (d2 (dNm 2) (dK (.int 1)) kIx) (nodes.map Nd.d) [] [a0, a1, none, a3] = some (nodes.map fun n => .int n.par, [a0, a1, none, a3]) := by
  have hc := loopC_map (vs := [2]) (g := cNm 2) (tt := tYs) (fe := d2 (dNm 2) (dK (.int 1)) kIx) (φ := fun d => match d with | .tuple [_, p, _] => p | _ => .none) (nodes.map Nd.d) [] [a0, a1, none, a3] (fun d hd => by
    obtain ⟨n, _, rfl⟩ := List.mem_map.mp hd
    unfold stepC Nd.d
    simp -dsimp only [bnd_some, bnd_none, f_sem, f_rt, f_nx, f_rD, f_rN, f_rS, f_rkO, f_rkD, f_p0, f_p1, f_pk, f_vD, f_vN, f_st0, f_st1, f_call0, f_k0, f_call1, f_c1, f_c2, f_pP, f_pO, f_k1P, f_k1O, f_k2, f_callK, e_nm, e_nmD, e_nmO, e_nmP, e_rdD, e_rdN, e_rdS, e_rkD, e_rkO, e_rkP, e_fzD, e_fzN, e_fzS, e_fkD, e_fkO, e_K, e_aN, e_aC, e_tup, e_lst, e_fzs0, e_fzs1, e_d2, e_kS, e_dB, e_bK, e_tA, e_tO, e_tN, e_eA, e_eO, e_eN, e_if, e_call, e_k1, e_k2, e_isi, e_neg, e_negK, e_ch, g_lt, g_le, g_ge, g_gt, g_ltI, g_sub, g_inS, g_isB, g_isnB, e_add, e_addI, e_ix, e_ixL, e_ixT, e_oN, e_oS, e_soK, e_sl, e_slL, e_slT, e_rev, e_revT, e_revL, h_lenL, h_lenT, h_abs, h_int, h_max, h_min, h_tupL, h_tupT, h_lstL, h_lstT, s_seq, s_nx, s_rt, s_bk, s_ct, s_ret, s_retN, s_nxE, s_bkE, s_if, s_ex, s_as, s_nmF, s_nmT, s_gs0, s_gs1, s_tp, s_tpT, s_ix, s_ixK, s_ixP, s_ixO, s_par, s_ins0, s_ins1, s_inF, s_inT, s_put0, s_put1, e_m, e_ty, e_tyL, e_tyS, e_app, e_appO, e_ext, e_extO, atI_0, atI_1, atI_2, atI_3, atI_4, atI_5, atI_last, PyData.isInt, PyData.isBool, PyData.isStr, PyData.isTuple, PyData.isList, List.map_cons, List.map_nil, List.length_cons, List.length_nil, List.cons_append, List.nil_append, List.replicate, Nat.reduceAdd, Nat.reduceSub, List.getElem?_cons_zero, List.getElem?_cons_succ, List.getElem?_nil, List.set_cons_zero, List.set_cons_succ, Option.bind_some, Option.map_some, Option.bind_none, Option.map_none, Nat.zero_add, Int.reduceLE, Int.reduceLT, Nat.reduceLT, Nat.reduceLeDiff, and_self, and_true, true_and, if_true, if_false, ite_true, ite_false, decide_true, decide_false, ↓reduceIte, Bool.false_eq_true, Bool.not_true, Bool.not_false, List.mem_cons, forall_eq_or_imp, List.not_mem_nil, forall_const, List.all_cons, List.all_nil, Bool.and_true, Bool.and_self, Bool.true_and, e_cNm, e_tYs, e_wipe0, e_wipe1]) (by rw [List.length_map, List.length_nil]; omega)
  rw [hc, List.nil_append, List.map_map]
  rfl
theorem ints_dep (ns : List Nd) : PyData.depthAll (ns.map fun n => PyData.int n.par) ≤ 1 := by
  induction ns with
  | nil => simp [PyData.depthAll]
  | cons n ns ih => simpa [PyData.depthAll, PyData.depth] using ih
theorem g_niP (i : Int) : gNi (.int i) (.list (nodes.map fun n => PyData.int n.par)) = some (.bool (!isPar nodes i)) := by
  rw [g_niL (by have := ints_dep nodes; omega)]
  unfold isPar
  rw [List.any_map]
  congr 3
theorem mem_rng {n : Nat} {d : D} (h : d ∈ rngD 0 n) : ∃ i : Nat, i < n ∧ d = .int (i : Int) := by
  unfold rngD at h
  obtain ⟨i, hi, rfl⟩ := List.mem_map.mp h
  exact ⟨i, List.mem_range.mp hi, by simp⟩
theorem leaves_of_ok (hl : nodes.length ≤ 12) : m_leaves_of none [treeD sg nodes] = some (.new (.l (leafD nodes)), none) := by
  have hlm : (nodes.map Nd.d).length = nodes.length := List.length_map _
  have hp := fun a0 a1 a3 => @parφ_loop nodes a0 a1 a3 hl
  have hr : ∀ env, r1K env (some (.int (nodes.length : Int))) = some (rngD 0 nodes.length, env) := fun env => by rw [e_r1K (by omega)]; rfl
  have hc := loopC_fm (vs := [3]) (g := cNm 3) (tt := dB (d2 (dNm 3) (dNm 1) (kS gNi))) (fe := dNm 3) (ψ := leafψ nodes) (rngD 0 nodes.length) [] [some (.dat (treeD sg nodes)), some (.dat (.list (nodes.map fun n => .int n.par))), none, none] (fun d hd => by
    obtain ⟨i, _, rfl⟩ := mem_rng hd
    unfold stepC leafψ
    cases hq : isPar nodes (i : Int) with
    | true => simp -dsimp only [bnd_some, bnd_none, f_sem, f_rt, f_nx, f_rD, f_rN, f_rS, f_rkO, f_rkD, f_p0, f_p1, f_pk, f_vD, f_vN, f_st0, f_st1, f_call0, f_k0, f_call1, f_c1, f_c2, f_pP, f_pO, f_k1P, f_k1O, f_k2, f_callK, e_nm, e_nmD, e_nmO, e_nmP, e_rdD, e_rdN, e_rdS, e_rkD, e_rkO, e_rkP, e_fzD, e_fzN, e_fzS, e_fkD, e_fkO, e_K, e_aN, e_aC, e_tup, e_lst, e_fzs0, e_fzs1, e_d2, e_kS, e_dB, e_bK, e_tA, e_tO, e_tN, e_eA, e_eO, e_eN, e_if, e_call, e_k1, e_k2, e_isi, e_neg, e_negK, e_ch, g_lt, g_le, g_ge, g_gt, g_ltI, g_sub, g_inS, g_isB, g_isnB, e_add, e_addI, e_ix, e_ixL, e_ixT, e_oN, e_oS, e_soK, e_sl, e_slL, e_slT, e_rev, e_revT, e_revL, h_lenL, h_lenT, h_abs, h_int, h_max, h_min, h_tupL, h_tupT, h_lstL, h_lstT, s_seq, s_nx, s_rt, s_bk, s_ct, s_ret, s_retN, s_nxE, s_bkE, s_if, s_ex, s_as, s_nmF, s_nmT, s_gs0, s_gs1, s_tp, s_tpT, s_ix, s_ixK, s_ixP, s_ixO, s_par, s_ins0, s_ins1, s_inF, s_inT, s_put0, s_put1, e_m, e_ty, e_tyL, e_tyS, e_app, e_appO, e_ext, e_extO, atI_0, atI_1, atI_2, atI_3, atI_4, atI_5, atI_last, PyData.isInt, PyData.isBool, PyData.isStr, PyData.isTuple, PyData.isList, List.map_cons, List.map_nil, List.length_cons, List.length_nil, List.cons_append, List.nil_append, List.replicate, Nat.reduceAdd, Nat.reduceSub, List.getElem?_cons_zero, List.getElem?_cons_succ, List.getElem?_nil, List.set_cons_zero, List.set_cons_succ, Option.bind_some, Option.map_some, Option.bind_none, Option.map_none, Nat.zero_add, Int.reduceLE, Int.reduceLT, Nat.reduceLT, Nat.reduceLeDiff, and_self, and_true, true_and, if_true, if_false, ite_true, ite_false, decide_true, decide_false, ↓reduceIte, Bool.false_eq_true, Bool.not_true, Bool.not_false, List.mem_cons, forall_eq_or_imp, List.not_mem_nil, forall_const, List.all_cons, List.all_nil, Bool.and_true, Bool.and_self, Bool.true_and, e_cNm, g_niP, hq, e_wipe0, e_wipe1]
    | false => simp -dsimp only [bnd_some, bnd_none, f_sem, f_rt, f_nx, f_rD, f_rN, f_rS, f_rkO, f_rkD, f_p0, f_p1, f_pk, f_vD, f_vN, f_st0, f_st1, f_call0, f_k0, f_call1, f_c1, f_c2, f_pP, f_pO, f_k1P, f_k1O, f_k2, f_callK, e_nm, e_nmD, e_nmO, e_nmP, e_rdD, e_rdN, e_rdS, e_rkD, e_rkO, e_rkP, e_fzD, e_fzN, e_fzS, e_fkD, e_fkO, e_K, e_aN, e_aC, e_tup, e_lst, e_fzs0, e_fzs1, e_d2, e_kS, e_dB, e_bK, e_tA, e_tO, e_tN, e_eA, e_eO, e_eN, e_if, e_call, e_k1, e_k2, e_isi, e_neg, e_negK, e_ch, g_lt, g_le, g_ge, g_gt, g_ltI, g_sub, g_inS, g_isB, g_isnB, e_add, e_addI, e_ix, e_ixL, e_ixT, e_oN, e_oS, e_soK, e_sl, e_slL, e_slT, e_rev, e_revT, e_revL, h_lenL, h_lenT, h_abs, h_int, h_max, h_min, h_tupL, h_tupT, h_lstL, h_lstT, s_seq, s_nx, s_rt, s_bk, s_ct, s_ret, s_retN, s_nxE, s_bkE, s_if, s_ex, s_as, s_nmF, s_nmT, s_gs0, s_gs1, s_tp, s_tpT, s_ix, s_ixK, s_ixP, s_ixO, s_par, s_ins0, s_ins1, s_inF, s_inT, s_put0, s_put1, e_m, e_ty, e_tyL, e_tyS, e_app, e_appO, e_ext, e_extO, atI_0, atI_1, atI_2, atI_3, atI_4, atI_5, atI_last, PyData.isInt, PyData.isBool, PyData.isStr, PyData.isTuple, PyData.isList, List.map_cons, List.map_nil, List.length_cons, List.length_nil, List.cons_append, List.nil_append, List.replicate, Nat.reduceAdd, Nat.reduceSub, List.getElem?_cons_zero, List.getElem?_cons_succ, List.getElem?_nil, List.set_cons_zero, List.set_cons_succ, Option.bind_some, Option.map_some, Option.bind_none, Option.map_none, Nat.zero_add, Int.reduceLE, Int.reduceLT, Nat.reduceLT, Nat.reduceLeDiff, and_self, and_true, true_and, if_true, if_false, ite_true, ite_false, decide_true, decide_false, ↓reduceIte, Bool.false_eq_true, Bool.not_true, Bool.not_false, List.mem_cons, forall_eq_or_imp, List.not_mem_nil, forall_const, List.all_cons, List.all_nil, Bool.and_true, Bool.and_self, Bool.true_and, e_cNm, g_niP, hq, e_wipe0, e_wipe1]) (by simp [rngD]; omega)
  rw [List.nil_append] at hc
  unfold treeD at hc ⊢
  unfold m_leaves_of d_leaves_of N_leaves_of leafD
  simp -dsimp only [bnd_some, bnd_none, f_sem, f_rt, f_nx, f_rD, f_rN, f_rS, f_rkO, f_rkD, f_p0, f_p1, f_pk, f_vD, f_vN, f_st0, f_st1, f_call0, f_k0, f_call1, f_c1, f_c2, f_pP, f_pO, f_k1P, f_k1O, f_k2, f_callK, e_nm, e_nmD, e_nmO, e_nmP, e_rdD, e_rdN, e_rdS, e_rkD, e_rkO, e_rkP, e_fzD, e_fzN, e_fzS, e_fkD, e_fkO, e_K, e_aN, e_aC, e_tup, e_lst, e_fzs0, e_fzs1, e_d2, e_kS, e_dB, e_bK, e_tA, e_tO, e_tN, e_eA, e_eO, e_eN, e_if, e_call, e_k1, e_k2, e_isi, e_neg, e_negK, e_ch, g_lt, g_le, g_ge, g_gt, g_ltI, g_sub, g_inS, g_isB, g_isnB, e_add, e_addI, e_ix, e_ixL, e_ixT, e_oN, e_oS, e_soK, e_sl, e_slL, e_slT, e_rev, e_revT, e_revL, h_lenL, h_lenT, h_abs, h_int, h_max, h_min, h_tupL, h_tupT, h_lstL, h_lstT, s_seq, s_nx, s_rt, s_bk, s_ct, s_ret, s_retN, s_nxE, s_bkE, s_if, s_ex, s_as, s_nmF, s_nmT, s_gs0, s_gs1, s_tp, s_tpT, s_ix, s_ixK, s_ixP, s_ixO, s_par, s_ins0, s_ins1, s_inF, s_inT, s_put0, s_put1, e_m, e_ty, e_tyL, e_tyS, e_app, e_appO, e_ext, e_extO, atI_0, atI_1, atI_2, atI_3, atI_4, atI_5, atI_last, PyData.isInt, PyData.isBool, PyData.isStr, PyData.isTuple, PyData.isList, List.map_cons, List.map_nil, List.length_cons, List.length_nil, List.cons_append, List.nil_append, List.replicate, Nat.reduceAdd, Nat.reduceSub, List.getElem?_cons_zero, List.getElem?_cons_succ, List.getElem?_nil, List.set_cons_zero, List.set_cons_succ, Option.bind_some, Option.map_some, Option.bind_none, Option.map_none, Nat.zero_add, Int.reduceLE, Int.reduceLT, Nat.reduceLT, Nat.reduceLeDiff, and_self, and_true, true_and, if_true, if_false, ite_true, ite_false, decide_true, decide_false, ↓reduceIte, Bool.false_eq_true, Bool.not_true, Bool.not_false, List.mem_cons, forall_eq_or_imp, List.not_mem_nil, forall_const, List.all_cons, List.all_nil, Bool.and_true, Bool.and_self, Bool.true_and, e_lc, e_iIt, e_itT, hp, hlm, e_iR1, hr, hc, e_wipe0, e_wipe1, e_rest0, e_rest1, List.getD_cons_zero, List.getD_cons_succ, List.getD_nil]
theorem eqφ_loop {i : Int} {a0 : Option Cell} (hl : nodes.length ≤ 12) : loopC [2] (cNm 2) tYs (d2 (d2 (dNm 2) (dK (.int 1)) kIx) (dNm 1) (kS gEq)) (nodes.map Nd.d) [] [a0, some (.dat (.int i)), none] = some ((nodes.map fun n => decide (n.par = i)).map PyData.bool, [a0, some (.dat (.int i)), none]) := by
  have hc := loopC_map (vs := [2]) (g := cNm 2) (tt := tYs) (fe := d2 (d2 (dNm 2) (dK (.int 1)) kIx) (dNm 1) (kS gEq)) (φ := fun d => match d with | .tuple [_, .int p, _] => .bool (decide (p = i)) | _ => .none) (nodes.map Nd.d) [] [a0, some (.dat (.int i)), none] (fun d hd => by
    obtain ⟨n, _, rfl⟩ := List.mem_map.mp hd
    unfold stepC Nd.d
    simp -dsimp only [bnd_some, bnd_none, f_sem, f_rt, f_nx, f_rD, f_rN, f_rS, f_rkO, f_rkD, f_p0, f_p1, f_pk, f_vD, f_vN, f_st0, f_st1, f_call0, f_k0, f_call1, f_c1, f_c2, f_pP, f_pO, f_k1P, f_k1O, f_k2, f_callK, e_nm, e_nmD, e_nmO, e_nmP, e_rdD, e_rdN, e_rdS, e_rkD, e_rkO, e_rkP, e_fzD, e_fzN, e_fzS, e_fkD, e_fkO, e_K, e_aN, e_aC, e_tup, e_lst, e_fzs0, e_fzs1, e_d2, e_kS, e_dB, e_bK, e_tA, e_tO, e_tN, e_eA, e_eO, e_eN, e_if, e_call, e_k1, e_k2, e_isi, e_neg, e_negK, e_ch, g_lt, g_le, g_ge, g_gt, g_ltI, g_sub, g_inS, g_isB, g_isnB, e_add, e_addI, e_ix, e_ixL, e_ixT, e_oN, e_oS, e_soK, e_sl, e_slL, e_slT, e_rev, e_revT, e_revL, h_lenL, h_lenT, h_abs, h_int, h_max, h_min, h_tupL, h_tupT, h_lstL, h_lstT, s_seq, s_nx, s_rt, s_bk, s_ct, s_ret, s_retN, s_nxE, s_bkE, s_if, s_ex, s_as, s_nmF, s_nmT, s_gs0, s_gs1, s_tp, s_tpT, s_ix, s_ixK, s_ixP, s_ixO, s_par, s_ins0, s_ins1, s_inF, s_inT, s_put0, s_put1, e_m, e_ty, e_tyL, e_tyS, e_app, e_appO, e_ext, e_extO, atI_0, atI_1, atI_2, atI_3, atI_4, atI_5, atI_last, PyData.isInt, PyData.isBool, PyData.isStr, PyData.isTuple, PyData.isList, List.map_cons, List.map_nil, List.length_cons, List.length_nil, List.cons_append, List.nil_append, List.replicate, Nat.reduceAdd, Nat.reduceSub, List.getElem?_cons_zero, List.getElem?_cons_succ, List.getElem?_nil, List.set_cons_zero, List.set_cons_succ, Option.bind_some, Option.map_some, Option.bind_none, Option.map_none, Nat.zero_add, Int.reduceLE, Int.reduceLT, Nat.reduceLT, Nat.reduceLeDiff, and_self, and_true, true_and, if_true, if_false, ite_true, ite_false, decide_true, decide_false, ↓reduceIte, Bool.false_eq_true, Bool.not_true, Bool.not_false, List.mem_cons, forall_eq_or_imp, List.not_mem_nil, forall_const, List.all_cons, List.all_nil, Bool.and_true, Bool.and_self, Bool.true_and, e_cNm, e_tYs, g_eqI, e_wipe0, e_wipe1]) (by rw [List.length_map, List.length_nil]; omega)
  rw [hc, List.nil_append, List.map_map, List.map_map]
  rfl
theorem law_leaves_ok (hl : nodes.length ≤ 12) : m__law_leaves none [treeD sg nodes] = some (.new (.l (leafD nodes)), none) := by
  have hlm : (nodes.map Nd.d).length = nodes.length := List.length_map _
  have hr : ∀ env, r1K env (some (.int (nodes.length : Int))) = some (rngD 0 nodes.length, env) := fun env => by rw [e_r1K (by omega)]; rfl
  have hp := fun i a0 => @eqφ_loop nodes i a0 hl
  have hany : ∀ i : Int, (nodes.map fun n => decide (n.par = i)).any id = isPar nodes i := fun i => by unfold isPar; rw [List.any_map]; rfl
  have hc := loopC_fm (vs := [1]) (g := cNm 1) (tt := tN (dB (dCall (aCons (dLc [2] (iIt (d2 (dNm 0) (dK (.int 2)) kIx)) (cNm 2) (tYs) (d2 (d2 (dNm 2) (dK (.int 1)) kIx) (dNm 1) (kS gEq))) (aNil)) (k1 hAny)))) (fe := dNm 1) (ψ := leafψ nodes) (rngD 0 nodes.length) [] [some (.dat (treeD sg nodes)), none, none] (fun d hd => by
    obtain ⟨i, _, rfl⟩ := mem_rng hd
    unfold stepC leafψ treeD
    cases hq : isPar nodes (i : Int) with
    | true => simp -dsimp only [bnd_some, bnd_none, f_sem, f_rt, f_nx, f_rD, f_rN, f_rS, f_rkO, f_rkD, f_p0, f_p1, f_pk, f_vD, f_vN, f_st0, f_st1, f_call0, f_k0, f_call1, f_c1, f_c2, f_pP, f_pO, f_k1P, f_k1O, f_k2, f_callK, e_nm, e_nmD, e_nmO, e_nmP, e_rdD, e_rdN, e_rdS, e_rkD, e_rkO, e_rkP, e_fzD, e_fzN, e_fzS, e_fkD, e_fkO, e_K, e_aN, e_aC, e_tup, e_lst, e_fzs0, e_fzs1, e_d2, e_kS, e_dB, e_bK, e_tA, e_tO, e_tN, e_eA, e_eO, e_eN, e_if, e_call, e_k1, e_k2, e_isi, e_neg, e_negK, e_ch, g_lt, g_le, g_ge, g_gt, g_ltI, g_sub, g_inS, g_isB, g_isnB, e_add, e_addI, e_ix, e_ixL, e_ixT, e_oN, e_oS, e_soK, e_sl, e_slL, e_slT, e_rev, e_revT, e_revL, h_lenL, h_lenT, h_abs, h_int, h_max, h_min, h_tupL, h_tupT, h_lstL, h_lstT, s_seq, s_nx, s_rt, s_bk, s_ct, s_ret, s_retN, s_nxE, s_bkE, s_if, s_ex, s_as, s_nmF, s_nmT, s_gs0, s_gs1, s_tp, s_tpT, s_ix, s_ixK, s_ixP, s_ixO, s_par, s_ins0, s_ins1, s_inF, s_inT, s_put0, s_put1, e_m, e_ty, e_tyL, e_tyS, e_app, e_appO, e_ext, e_extO, atI_0, atI_1, atI_2, atI_3, atI_4, atI_5, atI_last, PyData.isInt, PyData.isBool, PyData.isStr, PyData.isTuple, PyData.isList, List.map_cons, List.map_nil, List.length_cons, List.length_nil, List.cons_append, List.nil_append, List.replicate, Nat.reduceAdd, Nat.reduceSub, List.getElem?_cons_zero, List.getElem?_cons_succ, List.getElem?_nil, List.set_cons_zero, List.set_cons_succ, Option.bind_some, Option.map_some, Option.bind_none, Option.map_none, Nat.zero_add, Int.reduceLE, Int.reduceLT, Nat.reduceLT, Nat.reduceLeDiff, and_self, and_true, true_and, if_true, if_false, ite_true, ite_false, decide_true, decide_false, ↓reduceIte, Bool.false_eq_true, Bool.not_true, Bool.not_false, List.mem_cons, forall_eq_or_imp, List.not_mem_nil, forall_const, List.all_cons, List.all_nil, Bool.and_true, Bool.and_self, Bool.true_and, e_cNm, e_lc, e_iIt, e_itT, hp, h_any, hany, hq, e_wipe0, e_wipe1, e_rest0, e_rest1, List.getD_cons_zero, List.getD_cons_succ]
    | false => simp -dsimp only [bnd_some, bnd_none, f_sem, f_rt, f_nx, f_rD, f_rN, f_rS, f_rkO, f_rkD, f_p0, f_p1, f_pk, f_vD, f_vN, f_st0, f_st1, f_call0, f_k0, f_call1, f_c1, f_c2, f_pP, f_pO, f_k1P, f_k1O, f_k2, f_callK, e_nm, e_nmD, e_nmO, e_nmP, e_rdD, e_rdN, e_rdS, e_rkD, e_rkO, e_rkP, e_fzD, e_fzN, e_fzS, e_fkD, e_fkO, e_K, e_aN, e_aC, e_tup, e_lst, e_fzs0, e_fzs1, e_d2, e_kS, e_dB, e_bK, e_tA, e_tO, e_tN, e_eA, e_eO, e_eN, e_if, e_call, e_k1, e_k2, e_isi, e_neg, e_negK, e_ch, g_lt, g_le, g_ge, g_gt, g_ltI, g_sub, g_inS, g_isB, g_isnB, e_add, e_addI, e_ix, e_ixL, e_ixT, e_oN, e_oS, e_soK, e_sl, e_slL, e_slT, e_rev, e_revT, e_revL, h_lenL, h_lenT, h_abs, h_int, h_max, h_min, h_tupL, h_tupT, h_lstL, h_lstT, s_seq, s_nx, s_rt, s_bk, s_ct, s_ret, s_retN, s_nxE, s_bkE, s_if, s_ex, s_as, s_nmF, s_nmT, s_gs0, s_gs1, s_tp, s_tpT, s_ix, s_ixK, s_ixP, s_ixO, s_par, s_ins0, s_ins1, s_inF, s_inT, s_put0, s_put1, e_m, e_ty, e_tyL, e_tyS, e_app, e_appO, e_ext, e_extO, atI_0, atI_1, atI_2, atI_3, atI_4, atI_5, atI_last, PyData.isInt, PyData.isBool, PyData.isStr, PyData.isTuple, PyData.isList, List.map_cons, List.map_nil, List.length_cons, List.length_nil, List.cons_append, List.nil_append, List.replicate, Nat.reduceAdd, Nat.reduceSub, List.getElem?_cons_zero, List.getElem?_cons_succ, List.getElem?_nil, List.set_cons_zero, List.set_cons_succ, Option.bind_some, Option.map_some, Option.bind_none, Option.map_none, Nat.zero_add, Int.reduceLE, Int.reduceLT, Nat.reduceLT, Nat.reduceLeDiff, and_self, and_true, true_and, if_true, if_false, ite_true, ite_false, decide_true, decide_false, ↓reduceIte, Bool.false_eq_true, Bool.not_true, Bool.not_false, List.mem_cons, forall_eq_or_imp, List.not_mem_nil, forall_const, List.all_cons, List.all_nil, Bool.and_true, Bool.and_self, Bool.true_and, e_cNm, e_lc, e_iIt, e_itT, hp, h_any, hany, hq, e_wipe0, e_wipe1, e_rest0, e_rest1, List.getD_cons_zero, List.getD_cons_succ]) (by simp [rngD]; omega)
  rw [List.nil_append] at hc
  unfold treeD at hc ⊢
  unfold m__law_leaves d__law_leaves N__law_leaves leafD
  simp -dsimp only [bnd_some, bnd_none, f_sem, f_rt, f_nx, f_rD, f_rN, f_rS, f_rkO, f_rkD, f_p0, f_p1, f_pk, f_vD, f_vN, f_st0, f_st1, f_call0, f_k0, f_call1, f_c1, f_c2, f_pP, f_pO, f_k1P, f_k1O, f_k2, f_callK, e_nm, e_nmD, e_nmO, e_nmP, e_rdD, e_rdN, e_rdS, e_rkD, e_rkO, e_rkP, e_fzD, e_fzN, e_fzS, e_fkD, e_fkO, e_K, e_aN, e_aC, e_tup, e_lst, e_fzs0, e_fzs1, e_d2, e_kS, e_dB, e_bK, e_tA, e_tO, e_tN, e_eA, e_eO, e_eN, e_if, e_call, e_k1, e_k2, e_isi, e_neg, e_negK, e_ch, g_lt, g_le, g_ge, g_gt, g_ltI, g_sub, g_inS, g_isB, g_isnB, e_add, e_addI, e_ix, e_ixL, e_ixT, e_oN, e_oS, e_soK, e_sl, e_slL, e_slT, e_rev, e_revT, e_revL, h_lenL, h_lenT, h_abs, h_int, h_max, h_min, h_tupL, h_tupT, h_lstL, h_lstT, s_seq, s_nx, s_rt, s_bk, s_ct, s_ret, s_retN, s_nxE, s_bkE, s_if, s_ex, s_as, s_nmF, s_nmT, s_gs0, s_gs1, s_tp, s_tpT, s_ix, s_ixK, s_ixP, s_ixO, s_par, s_ins0, s_ins1, s_inF, s_inT, s_put0, s_put1, e_m, e_ty, e_tyL, e_tyS, e_app, e_appO, e_ext, e_extO, atI_0, atI_1, atI_2, atI_3, atI_4, atI_5, atI_last, PyData.isInt, PyData.isBool, PyData.isStr, PyData.isTuple, PyData.isList, List.map_cons, List.map_nil, List.length_cons, List.length_nil, List.cons_append, List.nil_append, List.replicate, Nat.reduceAdd, Nat.reduceSub, List.getElem?_cons_zero, List.getElem?_cons_succ, List.getElem?_nil, List.set_cons_zero, List.set_cons_succ, Option.bind_some, Option.map_some, Option.bind_none, Option.map_none, Nat.zero_add, Int.reduceLE, Int.reduceLT, Nat.reduceLT, Nat.reduceLeDiff, and_self, and_true, true_and, if_true, if_false, ite_true, ite_false, decide_true, decide_false, ↓reduceIte, Bool.false_eq_true, Bool.not_true, Bool.not_false, List.mem_cons, forall_eq_or_imp, List.not_mem_nil, forall_const, List.all_cons, List.all_nil, Bool.and_true, Bool.and_self, Bool.true_and, e_lc, hlm, e_iR1, hr, hc, e_wipe0, e_wipe1, e_rest0, e_rest1, List.getD_cons_zero, List.getD_cons_succ]
end
end EW

/-! k81, mathematics 14: the leaves' names. -/
namespace EW
open PySem L2
section
variable {sg : List Nat} {nodes : List Nd}
def nmφ (nodes : List Nd) : D → D
  | .int i => match nodes[i.toNat]? with
    | some n => .str n.name
    | none => .none
  | _ => .none
def lnD (nodes : List Nd) : List D := (leafD nodes).map (nmφ nodes)
theorem mem_leaf {d : D} (h : d ∈ leafD nodes) : ∃ (i : Nat) (n : Nd), nodes[i]? = some n ∧ d = .int (i : Int) := by
  unfold leafD at h
  obtain ⟨x, hx, e⟩ := List.mem_filterMap.mp h
  obtain ⟨i, hi, rfl⟩ := mem_rng hx
  change (if isPar nodes (i : Int) = true then none else some (PyData.int (i : Int))) = some d at e
  by_cases hq : isPar nodes (i : Int) = true
  · rw [if_pos hq] at e; cases e
  · rw [if_neg hq] at e
    exact ⟨i, _, List.getElem?_eq_getElem hi, (Option.some.inj e).symm⟩
theorem leaf_len : (leafD nodes).length ≤ nodes.length := by
  unfold leafD
  refine Nat.le_trans (List.length_filterMap_le _ _) ?_
  simp [rngD]
theorem strs_sort {ds : List D} (h : ∀ d ∈ ds, ∃ z, d = PyData.str z) : alikeA ds = true ∧ sortOk ds = true ∧ PyData.depthAll ds ≤ 100 := by
  refine ⟨?_, ?_, ?_⟩
  · unfold alikeA
    rw [List.all_eq_true]
    intro a ha
    rw [List.all_eq_true]
    intro b hb
    obtain ⟨x, rfl⟩ := h a ha
    obtain ⟨y, rfl⟩ := h b hb
    simp [PySem.W.alike]
  · unfold sortOk
    rw [Bool.or_eq_true]
    refine .inr ?_
    rw [List.all_eq_true]
    intro a ha
    obtain ⟨x, rfl⟩ := h a ha
    rfl
  · induction ds with
    | nil => simp [PyData.depthAll]
    | cons d ds ih =>
      obtain ⟨z, rfl⟩ := h d List.mem_cons_self
      have := ih fun x hx => h x (List.mem_cons_of_mem _ hx)
      simpa [PyData.depthAll, PyData.depth] using this
theorem ln_sort (env : Env) (hl : nodes.length ≤ 12) : hSorted (.list (lnD nodes)) env = some (.new (.l (sortD (lnD nodes))), env) := by
  obtain ⟨a, b, c⟩ := strs_sort (ds := lnD nodes) (fun d hd => by
    unfold lnD at hd
    obtain ⟨x, hx, rfl⟩ := List.mem_map.mp hd
    obtain ⟨i, n, hn, rfl⟩ := mem_leaf hx
    refine ⟨n.name, ?_⟩
    unfold nmφ
    simp only [Int.toNat_natCast, hn])
  refine h_sort ⟨a, b, c, ?_⟩
  have := leaf_len (nodes := nodes)
  unfold lnD
  rw [List.length_map]
  omega
theorem leaf_names_ok (t : TreeOk sg nodes) : m_leaf_names none [treeD sg nodes] = some (.new (.l (sortD (lnD nodes))), none) := by
  have e := want_tree_ok t
  have hl := t.l2
  have e2 := leaves_of_ok (sg := sg) (nodes := nodes) hl
  have e3 := fun env => ln_sort (nodes := nodes) env hl
  have hll := leaf_len (nodes := nodes)
  have hc := loopC_map (vs := [1]) (g := cNm 1) (tt := tYs) (fe := d2 (d2 (d2 (dNm 0) (dK (.int 2)) kIx) (dNm 1) kIx) (dK (.int 0)) kIx) (φ := nmφ nodes) (leafD nodes) [] [some (.dat (treeD sg nodes)), none] (fun d hd => by
    obtain ⟨i, n, hn, rfl⟩ := mem_leaf hd
    have hn2 := nodes_at hn
    have e4 : n.d = .tuple [.str n.name, .int n.par, .tuple n.sh] := rfl
    rw [e4] at hn2
    unfold stepC nmφ treeD
    simp -dsimp only [bnd_some, bnd_none, f_sem, f_rt, f_nx, f_rD, f_rN, f_rS, f_rkO, f_rkD, f_p0, f_p1, f_pk, f_vD, f_vN, f_st0, f_st1, f_call0, f_k0, f_call1, f_c1, f_c2, f_pP, f_pO, f_k1P, f_k1O, f_k2, f_callK, e_nm, e_nmD, e_nmO, e_nmP, e_rdD, e_rdN, e_rdS, e_rkD, e_rkO, e_rkP, e_fzD, e_fzN, e_fzS, e_fkD, e_fkO, e_K, e_aN, e_aC, e_tup, e_lst, e_fzs0, e_fzs1, e_d2, e_kS, e_dB, e_bK, e_tA, e_tO, e_tN, e_eA, e_eO, e_eN, e_if, e_call, e_k1, e_k2, e_isi, e_neg, e_negK, e_ch, g_lt, g_le, g_ge, g_gt, g_ltI, g_sub, g_inS, g_isB, g_isnB, e_add, e_addI, e_ix, e_ixL, e_ixT, e_oN, e_oS, e_soK, e_sl, e_slL, e_slT, e_rev, e_revT, e_revL, h_lenL, h_lenT, h_abs, h_int, h_max, h_min, h_tupL, h_tupT, h_lstL, h_lstT, s_seq, s_nx, s_rt, s_bk, s_ct, s_ret, s_retN, s_nxE, s_bkE, s_if, s_ex, s_as, s_nmF, s_nmT, s_gs0, s_gs1, s_tp, s_tpT, s_ix, s_ixK, s_ixP, s_ixO, s_par, s_ins0, s_ins1, s_inF, s_inT, s_put0, s_put1, e_m, e_ty, e_tyL, e_tyS, e_app, e_appO, e_ext, e_extO, atI_0, atI_1, atI_2, atI_3, atI_4, atI_5, atI_last, PyData.isInt, PyData.isBool, PyData.isStr, PyData.isTuple, PyData.isList, List.map_cons, List.map_nil, List.length_cons, List.length_nil, List.cons_append, List.nil_append, List.replicate, Nat.reduceAdd, Nat.reduceSub, List.getElem?_cons_zero, List.getElem?_cons_succ, List.getElem?_nil, List.set_cons_zero, List.set_cons_succ, Option.bind_some, Option.map_some, Option.bind_none, Option.map_none, Nat.zero_add, Int.reduceLE, Int.reduceLT, Nat.reduceLT, Nat.reduceLeDiff, and_self, and_true, true_and, if_true, if_false, ite_true, ite_false, decide_true, decide_false, ↓reduceIte, Bool.false_eq_true, Bool.not_true, Bool.not_false, List.mem_cons, forall_eq_or_imp, List.not_mem_nil, forall_const, List.all_cons, List.all_nil, Bool.and_true, Bool.and_self, Bool.true_and, e_cNm, e_tYs, atI_nat, hn2, Int.toNat_natCast, hn, e_wipe0, e_wipe1]) (by rw [List.length_nil]; omega)
  rw [List.nil_append] at hc
  unfold lnD at e3 ⊢
  unfold treeD at e e2 hc ⊢
  unfold m_leaf_names d_leaf_names N_leaf_names
  simp -dsimp only [bnd_some, bnd_none, f_sem, f_rt, f_nx, f_rD, f_rN, f_rS, f_rkO, f_rkD, f_p0, f_p1, f_pk, f_vD, f_vN, f_st0, f_st1, f_call0, f_k0, f_call1, f_c1, f_c2, f_pP, f_pO, f_k1P, f_k1O, f_k2, f_callK, e_nm, e_nmD, e_nmO, e_nmP, e_rdD, e_rdN, e_rdS, e_rkD, e_rkO, e_rkP, e_fzD, e_fzN, e_fzS, e_fkD, e_fkO, e_K, e_aN, e_aC, e_tup, e_lst, e_fzs0, e_fzs1, e_d2, e_kS, e_dB, e_bK, e_tA, e_tO, e_tN, e_eA, e_eO, e_eN, e_if, e_call, e_k1, e_k2, e_isi, e_neg, e_negK, e_ch, g_lt, g_le, g_ge, g_gt, g_ltI, g_sub, g_inS, g_isB, g_isnB, e_add, e_addI, e_ix, e_ixL, e_ixT, e_oN, e_oS, e_soK, e_sl, e_slL, e_slT, e_rev, e_revT, e_revL, h_lenL, h_lenT, h_abs, h_int, h_max, h_min, h_tupL, h_tupT, h_lstL, h_lstT, s_seq, s_nx, s_rt, s_bk, s_ct, s_ret, s_retN, s_nxE, s_bkE, s_if, s_ex, s_as, s_nmF, s_nmT, s_gs0, s_gs1, s_tp, s_tpT, s_ix, s_ixK, s_ixP, s_ixO, s_par, s_ins0, s_ins1, s_inF, s_inT, s_put0, s_put1, e_m, e_ty, e_tyL, e_tyS, e_app, e_appO, e_ext, e_extO, atI_0, atI_1, atI_2, atI_3, atI_4, atI_5, atI_last, PyData.isInt, PyData.isBool, PyData.isStr, PyData.isTuple, PyData.isList, List.map_cons, List.map_nil, List.length_cons, List.length_nil, List.cons_append, List.nil_append, List.replicate, Nat.reduceAdd, Nat.reduceSub, List.getElem?_cons_zero, List.getElem?_cons_succ, List.getElem?_nil, List.set_cons_zero, List.set_cons_succ, Option.bind_some, Option.map_some, Option.bind_none, Option.map_none, Nat.zero_add, Int.reduceLE, Int.reduceLT, Nat.reduceLT, Nat.reduceLeDiff, and_self, and_true, true_and, if_true, if_false, ite_true, ite_false, decide_true, decide_false, ↓reduceIte, Bool.false_eq_true, Bool.not_true, Bool.not_false, List.mem_cons, forall_eq_or_imp, List.not_mem_nil, forall_const, List.all_cons, List.all_nil, Bool.and_true, Bool.and_self, Bool.true_and, e, e_lc, e_iIt, e2, e_itL, e_itT, hc, e_wipe0, e_wipe1, e_rest0, e_rest1, List.getD_cons_zero, List.getD_cons_succ, e3]
end
end EW

/-! k81, mathematics 16: forms. -/
namespace EW
open PySem L2
section
variable {sg : List Nat} {nodes : List Nd} {w : List Nat}
def formsD (nodes : List Nd) (w : List Nat) : List D := (nodes.zip (alongs nodes)).map fun p => .tuple [.str p.1.name, .str (S (runF p.2 w))]
def fmφ (w : List Nat) : D → D
  | .tuple [.tuple [n, _, _], .tuple a] => .tuple [n, .str (S (runF a w))]
  | _ => .none
structure FormOk (sg : List Nat) (nodes : List Nd) (w : List Nat) : Prop where
  hw : ∀ x ∈ w, x ∈ sg
  hl : w.length ≤ 60
  hr : ∀ a ∈ alongs nodes, RunOk sg a w
theorem forms_ok (t : TreeOk sg nodes) (f : FormOk sg nodes w) : m_forms none [treeD sg nodes, .str (S w)] = some (.new (.l (formsD nodes w)), none) := by
  have e := want_tree_ok t
  have e2 := want_tree_word_ok (nodes := nodes) f.hw f.hl
  have e3 := shifts_along_ok t
  have hl2 := t.l2
  have hc := loopC_map (vs := [3, 4]) (g := cTp 2 (csCons (cNm 3) (csCons (cNm 4) (csNil)))) (tt := tYs) (fe := dTup (aCons (d2 (dNm 3) (dK (.int 0)) kIx) (aCons (dF 2 false m_daughter_in (aCons (dTup (aCons (dK (.str "book")) (aCons (d2 (dNm 0) (dK (.int 1)) kIx) (aCons (dNm 4) (aNil))))) (aCons (dNm 1) (aNil)))) (aNil)))) (φ := fmφ w)
    (dsZip (nodes.map Nd.d) ((alongs nodes).map PyData.tuple)) [] [some (.dat (treeD sg nodes)), some (.dat (.str (S w))), some (.dat (.list ((alongs nodes).map PyData.tuple))), none, none] (fun d hd => by
      unfold dsZip at hd
      rw [List.zip_map, List.map_map] at hd
      obtain ⟨p, hp, rfl⟩ := List.mem_map.mp hd
      obtain ⟨n, a⟩ := p
      have ha := (List.of_mem_zip hp).2
      have ed := daughter_in_ok t.sgo (f.hr a ha) (by have := t.al a ha; omega)
      unfold bookD at ed
      unfold stepC treeD
      simp only [Function.comp_apply, Prod.map_apply, Nd.d]
      simp -dsimp only [bnd_some, bnd_none, f_sem, f_rt, f_nx, f_rD, f_rN, f_rS, f_rkO, f_rkD, f_p0, f_p1, f_pk, f_vD, f_vN, f_st0, f_st1, f_call0, f_k0, f_call1, f_c1, f_c2, f_pP, f_pO, f_k1P, f_k1O, f_k2, f_callK, e_nm, e_nmD, e_nmO, e_nmP, e_rdD, e_rdN, e_rdS, e_rkD, e_rkO, e_rkP, e_fzD, e_fzN, e_fzS, e_fkD, e_fkO, e_K, e_aN, e_aC, e_tup, e_lst, e_fzs0, e_fzs1, e_d2, e_kS, e_dB, e_bK, e_tA, e_tO, e_tN, e_eA, e_eO, e_eN, e_if, e_call, e_k1, e_k2, e_isi, e_neg, e_negK, e_ch, g_lt, g_le, g_ge, g_gt, g_ltI, g_sub, g_inS, g_isB, g_isnB, e_add, e_addI, e_ix, e_ixL, e_ixT, e_oN, e_oS, e_soK, e_sl, e_slL, e_slT, e_rev, e_revT, e_revL, h_lenL, h_lenT, h_abs, h_int, h_max, h_min, h_tupL, h_tupT, h_lstL, h_lstT, s_seq, s_nx, s_rt, s_bk, s_ct, s_ret, s_retN, s_nxE, s_bkE, s_if, s_ex, s_as, s_nmF, s_nmT, s_gs0, s_gs1, s_tp, s_tpT, s_ix, s_ixK, s_ixP, s_ixO, s_par, s_ins0, s_ins1, s_inF, s_inT, s_put0, s_put1, e_m, e_ty, e_tyL, e_tyS, e_app, e_appO, e_ext, e_extO, atI_0, atI_1, atI_2, atI_3, atI_4, atI_5, atI_last, PyData.isInt, PyData.isBool, PyData.isStr, PyData.isTuple, PyData.isList, List.map_cons, List.map_nil, List.length_cons, List.length_nil, List.cons_append, List.nil_append, List.replicate, Nat.reduceAdd, Nat.reduceSub, List.getElem?_cons_zero, List.getElem?_cons_succ, List.getElem?_nil, List.set_cons_zero, List.set_cons_succ, Option.bind_some, Option.map_some, Option.bind_none, Option.map_none, Nat.zero_add, Int.reduceLE, Int.reduceLT, Nat.reduceLT, Nat.reduceLeDiff, and_self, and_true, true_and, if_true, if_false, ite_true, ite_false, decide_true, decide_false, ↓reduceIte, Bool.false_eq_true, Bool.not_true, Bool.not_false, List.mem_cons, forall_eq_or_imp, List.not_mem_nil, forall_const, List.all_cons, List.all_nil, Bool.and_true, Bool.and_self, Bool.true_and, e_cTp, e_cs0, e_cs1, e_cNm, e_tYs, ed, e_wipe0, e_wipe1, fmφ]) (by rw [dsZip_length, List.length_map, List.length_nil]; omega)
  have hm : (dsZip (nodes.map Nd.d) ((alongs nodes).map PyData.tuple)).map (fmφ w) = formsD nodes w := by
    unfold dsZip formsD
    rw [List.zip_map, List.map_map, List.map_map]
    rfl
  rw [hm, List.nil_append] at hc
  unfold m_forms d_forms N_forms
  unfold treeD at e e2 hc ⊢
  simp -dsimp only [bnd_some, bnd_none, f_sem, f_rt, f_nx, f_rD, f_rN, f_rS, f_rkO, f_rkD, f_p0, f_p1, f_pk, f_vD, f_vN, f_st0, f_st1, f_call0, f_k0, f_call1, f_c1, f_c2, f_pP, f_pO, f_k1P, f_k1O, f_k2, f_callK, e_nm, e_nmD, e_nmO, e_nmP, e_rdD, e_rdN, e_rdS, e_rkD, e_rkO, e_rkP, e_fzD, e_fzN, e_fzS, e_fkD, e_fkO, e_K, e_aN, e_aC, e_tup, e_lst, e_fzs0, e_fzs1, e_d2, e_kS, e_dB, e_bK, e_tA, e_tO, e_tN, e_eA, e_eO, e_eN, e_if, e_call, e_k1, e_k2, e_isi, e_neg, e_negK, e_ch, g_lt, g_le, g_ge, g_gt, g_ltI, g_sub, g_inS, g_isB, g_isnB, e_add, e_addI, e_ix, e_ixL, e_ixT, e_oN, e_oS, e_soK, e_sl, e_slL, e_slT, e_rev, e_revT, e_revL, h_lenL, h_lenT, h_abs, h_int, h_max, h_min, h_tupL, h_tupT, h_lstL, h_lstT, s_seq, s_nx, s_rt, s_bk, s_ct, s_ret, s_retN, s_nxE, s_bkE, s_if, s_ex, s_as, s_nmF, s_nmT, s_gs0, s_gs1, s_tp, s_tpT, s_ix, s_ixK, s_ixP, s_ixO, s_par, s_ins0, s_ins1, s_inF, s_inT, s_put0, s_put1, e_m, e_ty, e_tyL, e_tyS, e_app, e_appO, e_ext, e_extO, atI_0, atI_1, atI_2, atI_3, atI_4, atI_5, atI_last, PyData.isInt, PyData.isBool, PyData.isStr, PyData.isTuple, PyData.isList, List.map_cons, List.map_nil, List.length_cons, List.length_nil, List.cons_append, List.nil_append, List.replicate, Nat.reduceAdd, Nat.reduceSub, List.getElem?_cons_zero, List.getElem?_cons_succ, List.getElem?_nil, List.set_cons_zero, List.set_cons_succ, Option.bind_some, Option.map_some, Option.bind_none, Option.map_none, Nat.zero_add, Int.reduceLE, Int.reduceLT, Nat.reduceLT, Nat.reduceLeDiff, and_self, and_true, true_and, if_true, if_false, ite_true, ite_false, decide_true, decide_false, ↓reduceIte, Bool.false_eq_true, Bool.not_true, Bool.not_false, List.mem_cons, forall_eq_or_imp, List.not_mem_nil, forall_const, List.all_cons, List.all_nil, Bool.and_true, Bool.and_self, Bool.true_and, e, e2, e3, e_lc, e_iZp, e_itT, e_itL, e_zpK, e_wipe0, e_wipe1, hc, e_rest0, e_rest1, List.getD_cons_zero, List.getD_cons_succ]
def dueφ (nodes : List Nd) (w : List Nat) : D → D
  | .tuple [.int i, .tuple [n, _, _]] => .tuple [n, .str (S (runF ((alongs nodes).getD i.toNat []) w))]
  | _ => .none
theorem due_map : (dsEnum (nodes.map Nd.d)).map (dueφ nodes w) = formsD nodes w := by
  have hl := alongs_len nodes
  refine List.ext_getElem? fun i => ?_
  unfold formsD
  rw [List.getElem?_map, dsEnum_get, List.getElem?_map, List.getElem?_map]
  cases hq : nodes[i]? with
  | none =>
    have : nodes.length ≤ i := List.getElem?_eq_none_iff.mp hq
    rw [List.getElem?_eq_none (by simp; omega)]
    rfl
  | some n =>
    have hi : i < nodes.length := (List.getElem?_eq_some_iff.mp hq).1
    have ha : (alongs nodes)[i]? = some ((alongs nodes).getD i []) := by
      rw [List.getD_eq_getElem?_getD, List.getElem?_eq_getElem (by omega)]
      rfl
    rw [List.getElem?_zip_eq_some (z := (n, (alongs nodes).getD i [])) |>.mpr ⟨hq, ha⟩]
    rfl
theorem formsD_len : (formsD nodes w).length = nodes.length := by
  have hl := alongs_len nodes
  unfold formsD
  simp [hl]
theorem Sg.lt {c : Nat} (hs : Sg sg) (h : c ∈ sg) : c < 1000 := by
  rcases hs with rfl | rfl <;> simp at h <;> omega
end
end EW

/-! k81, mathematics 17: the law's look at forms. -/
namespace EW
open PySem L2
section
variable {sg : List Nat} {nodes : List Nd} {w : List Nat}
def NmOk (nodes : List Nd) : Prop := ∀ n ∈ nodes, ∃ v : List Nat, n.name = S v ∧ v.length ≤ 8 ∧ ∀ c ∈ v, c < 1000
theorem formsD_at {j : Nat} {n : Nd} (h : nodes[j]? = some n) : (formsD nodes w)[j]? = some (.tuple [.str n.name, .str (S (runF ((alongs nodes).getD j []) w))]) := by
  rw [← due_map, List.getElem?_map, dsEnum_get, List.getElem?_map, h]
  rfl
theorem formsD_rp (t : TreeOk sg nodes) (f : FormOk sg nodes w) (hn : NmOk nodes) : RPA 1 21732 (formsD nodes w) := by
  refine RPA.alls (a := 1810) (m := 12) (fun d hd => ?_) (by rw [formsD_len]; exact t.l2)
  unfold formsD at hd
  obtain ⟨p, hp, rfl⟩ := List.mem_map.mp hd
  obtain ⟨n, a⟩ := p
  have h1 := (List.of_mem_zip hp).1
  have h2 := (List.of_mem_zip hp).2
  obtain ⟨v, e, hv1, hv2⟩ := hn n h1
  obtain ⟨g1, g2⟩ := (f.hr a h2).fin
  simp only [e]
  exact (RPA.con (RP.str (k := 0) (n := 8) hv2 hv1) (RPA.con (RP.str (n := 1800) (fun c hc => t.sgo.lt (g1 c hc)) g2) (RPA.nil (n := 0)))).tup
theorem alA_run (t : TreeOk sg nodes) (f : FormOk sg nodes w) {j : Nat} {n : Nd} (h : nodes[j]? = some n) : runF ((alongs nodes).getD j []) w = runF n.sh (runF (alA nodes n.par) w) ∧ RunOk sg n.sh (runF (alA nodes n.par) w) := by
  have e := alA_at t h
  have hj : j < nodes.length := (List.getElem?_eq_some_iff.mp h).1
  have e2 : alA nodes (j : Int) = (alongs nodes).getD j [] := by unfold alA; rw [if_pos (by omega)]; rfl
  rw [← e2, e, run_app]
  refine ⟨rfl, ?_⟩
  have hm : alA nodes (j : Int) ∈ alongs nodes := by
    rw [e2, List.getD_eq_getElem?_getD, List.getElem?_eq_getElem (by rw [alongs_len]; exact hj)]
    exact List.getElem_mem _
  have := f.hr _ hm
  rw [e] at this
  exact this.app
abbrev lfE (sg : List Nat) (nodes : List Nd) (w : List Nat) (c3 c4 c5 c6 c7 c8 : Option Cell) : Env := [some (.dat (treeD sg nodes)), some (.dat (.str (S w))), some (.dat (.list (formsD nodes w))), c3, c4, c5, c6, c7, c8, none, none]
def xLfG : DG := gTp 2 (gsCons (gTp 2 (gsCons (gNm false 4) (gsCons (gNm false 5) (gsNil)))) (gsCons (gTp 3 (gsCons (gNm false 6) (gsCons (gNm false 7) (gsCons (gNm false 8) (gsNil))))) (gsNil)))
def xLfB : DS := sIf (dB (d2 (dNm 5) (dF 2 false m__law_told (aCons (dTup (aCons (dK (.str "book")) (aCons (d2 (dNm 0) (dK (.int 1)) kIx) (aCons (dNm 8) (aNil))))) (aCons (dIf (dB (d2 (dNm 7) (dK (.int 0)) (kS gGe))) (d2 (d2 (dNm 3) (dNm 7) kIx) (dK (.int 1)) kIx) (dNm 1)) (aNil)))) (kS gNe))) (sRet (dK (.bool false))) (sNx)
theorem lf_turn (t : TreeOk sg nodes) (f : FormOk sg nodes w) {j : Nat} {n : Nd} (h : nodes[j]? = some n) (c4 c5 c6 c7 c8 : Option Cell) :
    ∃ e1, xLfG (.dat (.tuple [.tuple [.str n.name, .str (S (runF ((alongs nodes).getD j []) w))], n.d])) (lfE sg nodes w (some (.par 0 (.l (formsD nodes w)))) c4 c5 c6 c7 c8) = some e1 ∧ ∃ c4 c5 c6 c7 c8, xLfB e1 = some (.nx (lfE sg nodes w (some (.par 0 (.l (formsD nodes w)))) c4 c5 c6 c7 c8)) := by
  obtain ⟨e1, e2⟩ := alA_run t f h
  obtain ⟨hp, hs, hq⟩ := t.any h
  refine ⟨lfE sg nodes w (some (.par 0 (.l (formsD nodes w)))) (some (.dat (.str n.name))) (some (.dat (.str (S (runF ((alongs nodes).getD j []) w))))) (some (.dat (.str n.name))) (some (.dat (.int n.par))) (some (.dat (.tuple n.sh))), ?_, some (.dat (.str n.name)), some (.dat (.str (S (runF ((alongs nodes).getD j []) w)))), some (.dat (.str n.name)), some (.dat (.int n.par)), some (.dat (.tuple n.sh)), ?_⟩
  · unfold xLfG Nd.d
    simp -dsimp only [bnd_some, bnd_none, f_sem, f_rt, f_nx, f_rD, f_rN, f_rS, f_rkO, f_rkD, f_p0, f_p1, f_pk, f_vD, f_vN, f_st0, f_st1, f_call0, f_k0, f_call1, f_c1, f_c2, f_pP, f_pO, f_k1P, f_k1O, f_k2, f_callK, e_nm, e_nmD, e_nmO, e_nmP, e_rdD, e_rdN, e_rdS, e_rkD, e_rkO, e_rkP, e_fzD, e_fzN, e_fzS, e_fkD, e_fkO, e_K, e_aN, e_aC, e_tup, e_lst, e_fzs0, e_fzs1, e_d2, e_kS, e_dB, e_bK, e_tA, e_tO, e_tN, e_eA, e_eO, e_eN, e_if, e_call, e_k1, e_k2, e_isi, e_neg, e_negK, e_ch, g_lt, g_le, g_ge, g_gt, g_ltI, g_sub, g_inS, g_isB, g_isnB, e_add, e_addI, e_ix, e_ixL, e_ixT, e_oN, e_oS, e_soK, e_sl, e_slL, e_slT, e_rev, e_revT, e_revL, h_lenL, h_lenT, h_abs, h_int, h_max, h_min, h_tupL, h_tupT, h_lstL, h_lstT, s_seq, s_nx, s_rt, s_bk, s_ct, s_ret, s_retN, s_nxE, s_bkE, s_if, s_ex, s_as, s_nmF, s_nmT, s_gs0, s_gs1, s_tp, s_tpT, s_ix, s_ixK, s_ixP, s_ixO, s_par, s_ins0, s_ins1, s_inF, s_inT, s_put0, s_put1, e_m, e_ty, e_tyL, e_tyS, e_app, e_appO, e_ext, e_extO, atI_0, atI_1, atI_2, atI_3, atI_4, atI_5, atI_last, PyData.isInt, PyData.isBool, PyData.isStr, PyData.isTuple, PyData.isList, List.map_cons, List.map_nil, List.length_cons, List.length_nil, List.cons_append, List.nil_append, List.replicate, Nat.reduceAdd, Nat.reduceSub, List.getElem?_cons_zero, List.getElem?_cons_succ, List.getElem?_nil, List.set_cons_zero, List.set_cons_succ, Option.bind_some, Option.map_some, Option.bind_none, Option.map_none, Nat.zero_add, Int.reduceLE, Int.reduceLT, Nat.reduceLT, Nat.reduceLeDiff, and_self, and_true, true_and, if_true, if_false, ite_true, ite_false, decide_true, decide_false, ↓reduceIte, Bool.false_eq_true, Bool.not_true, Bool.not_false, List.mem_cons, forall_eq_or_imp, List.not_mem_nil, forall_const, List.all_cons, List.all_nil, Bool.and_true, Bool.and_self, Bool.true_and, s_tp]
  · have et := law_told_ok t.sgo e2 (by omega)
    unfold bookD at et
    rw [e1]
    unfold xLfB lfE treeD
    rcases hq with h0 | h0
    · have hj : n.par.toNat < nodes.length := by
        have := (List.getElem?_eq_some_iff.mp h).1
        omega
      have hat : atI (formsD nodes w) n.par = some (.tuple [.str (nodes[n.par.toNat]).name, .str (S (runF (alA nodes n.par) w))]) := by
        have := atI_nat (xs := formsD nodes w) (n := n.par.toNat)
        rw [Int.toNat_of_nonneg h0] at this
        rw [this, formsD_at (List.getElem?_eq_getElem hj)]
        unfold alA
        rw [if_pos h0]
      simp -dsimp only [bnd_some, bnd_none, f_sem, f_rt, f_nx, f_rD, f_rN, f_rS, f_rkO, f_rkD, f_p0, f_p1, f_pk, f_vD, f_vN, f_st0, f_st1, f_call0, f_k0, f_call1, f_c1, f_c2, f_pP, f_pO, f_k1P, f_k1O, f_k2, f_callK, e_nm, e_nmD, e_nmO, e_nmP, e_rdD, e_rdN, e_rdS, e_rkD, e_rkO, e_rkP, e_fzD, e_fzN, e_fzS, e_fkD, e_fkO, e_K, e_aN, e_aC, e_tup, e_lst, e_fzs0, e_fzs1, e_d2, e_kS, e_dB, e_bK, e_tA, e_tO, e_tN, e_eA, e_eO, e_eN, e_if, e_call, e_k1, e_k2, e_isi, e_neg, e_negK, e_ch, g_lt, g_le, g_ge, g_gt, g_ltI, g_sub, g_inS, g_isB, g_isnB, e_add, e_addI, e_ix, e_ixL, e_ixT, e_oN, e_oS, e_soK, e_sl, e_slL, e_slT, e_rev, e_revT, e_revL, h_lenL, h_lenT, h_abs, h_int, h_max, h_min, h_tupL, h_tupT, h_lstL, h_lstT, s_seq, s_nx, s_rt, s_bk, s_ct, s_ret, s_retN, s_nxE, s_bkE, s_if, s_ex, s_as, s_nmF, s_nmT, s_gs0, s_gs1, s_tp, s_tpT, s_ix, s_ixK, s_ixP, s_ixO, s_par, s_ins0, s_ins1, s_inF, s_inT, s_put0, s_put1, e_m, e_ty, e_tyL, e_tyS, e_app, e_appO, e_ext, e_extO, atI_0, atI_1, atI_2, atI_3, atI_4, atI_5, atI_last, PyData.isInt, PyData.isBool, PyData.isStr, PyData.isTuple, PyData.isList, List.map_cons, List.map_nil, List.length_cons, List.length_nil, List.cons_append, List.nil_append, List.replicate, Nat.reduceAdd, Nat.reduceSub, List.getElem?_cons_zero, List.getElem?_cons_succ, List.getElem?_nil, List.set_cons_zero, List.set_cons_succ, Option.bind_some, Option.map_some, Option.bind_none, Option.map_none, Nat.zero_add, Int.reduceLE, Int.reduceLT, Nat.reduceLT, Nat.reduceLeDiff, and_self, and_true, true_and, if_true, if_false, ite_true, ite_false, decide_true, decide_false, ↓reduceIte, Bool.false_eq_true, Bool.not_true, Bool.not_false, List.mem_cons, forall_eq_or_imp, List.not_mem_nil, forall_const, List.all_cons, List.all_nil, Bool.and_true, Bool.and_self, Bool.true_and, h0, hat, et, g_neS]
    · have h0' : ¬ 0 ≤ n.par := by omega
      have hw : runF (alA nodes n.par) w = w := by
        unfold alA
        rw [if_neg h0']
        rfl
      rw [hw] at et
      rw [hw]
      simp -dsimp only [bnd_some, bnd_none, f_sem, f_rt, f_nx, f_rD, f_rN, f_rS, f_rkO, f_rkD, f_p0, f_p1, f_pk, f_vD, f_vN, f_st0, f_st1, f_call0, f_k0, f_call1, f_c1, f_c2, f_pP, f_pO, f_k1P, f_k1O, f_k2, f_callK, e_nm, e_nmD, e_nmO, e_nmP, e_rdD, e_rdN, e_rdS, e_rkD, e_rkO, e_rkP, e_fzD, e_fzN, e_fzS, e_fkD, e_fkO, e_K, e_aN, e_aC, e_tup, e_lst, e_fzs0, e_fzs1, e_d2, e_kS, e_dB, e_bK, e_tA, e_tO, e_tN, e_eA, e_eO, e_eN, e_if, e_call, e_k1, e_k2, e_isi, e_neg, e_negK, e_ch, g_lt, g_le, g_ge, g_gt, g_ltI, g_sub, g_inS, g_isB, g_isnB, e_add, e_addI, e_ix, e_ixL, e_ixT, e_oN, e_oS, e_soK, e_sl, e_slL, e_slT, e_rev, e_revT, e_revL, h_lenL, h_lenT, h_abs, h_int, h_max, h_min, h_tupL, h_tupT, h_lstL, h_lstT, s_seq, s_nx, s_rt, s_bk, s_ct, s_ret, s_retN, s_nxE, s_bkE, s_if, s_ex, s_as, s_nmF, s_nmT, s_gs0, s_gs1, s_tp, s_tpT, s_ix, s_ixK, s_ixP, s_ixO, s_par, s_ins0, s_ins1, s_inF, s_inT, s_put0, s_put1, e_m, e_ty, e_tyL, e_tyS, e_app, e_appO, e_ext, e_extO, atI_0, atI_1, atI_2, atI_3, atI_4, atI_5, atI_last, PyData.isInt, PyData.isBool, PyData.isStr, PyData.isTuple, PyData.isList, List.map_cons, List.map_nil, List.length_cons, List.length_nil, List.cons_append, List.nil_append, List.replicate, Nat.reduceAdd, Nat.reduceSub, List.getElem?_cons_zero, List.getElem?_cons_succ, List.getElem?_nil, List.set_cons_zero, List.set_cons_succ, Option.bind_some, Option.map_some, Option.bind_none, Option.map_none, Nat.zero_add, Int.reduceLE, Int.reduceLT, Nat.reduceLT, Nat.reduceLeDiff, and_self, and_true, true_and, if_true, if_false, ite_true, ite_false, decide_true, decide_false, ↓reduceIte, Bool.false_eq_true, Bool.not_true, Bool.not_false, List.mem_cons, forall_eq_or_imp, List.not_mem_nil, forall_const, List.all_cons, List.all_nil, Bool.and_true, Bool.and_self, Bool.true_and, h0', et, g_neS]
theorem law_forms_right_ok (t : TreeOk sg nodes) (f : FormOk sg nodes w) (hn : NmOk nodes) : m__law_forms_right none [treeD sg nodes, .str (S w)] = yes := by
  have e := forms_ok t f
  have hl2 := t.l2
  have hlm : (nodes.map Nd.d).length = nodes.length := List.length_map _
  have rp := formsD_rp t f hn
  have hc := loopC_map (vs := [9, 10]) (g := cTp 2 (csCons (cNm 9) (csCons (cNm 10) (csNil)))) (tt := tYs) (fe := dTup (aCons (d2 (dNm 10) (dK (.int 0)) kIx) (aCons (dF 2 false m__law_told (aCons (dTup (aCons (dK (.str "book")) (aCons (d2 (dNm 0) (dK (.int 1)) kIx) (aCons (dF 2 false m__law_along (aCons (dNm 0) (aCons (dNm 9) (aNil)))) (aNil))))) (aCons (dNm 1) (aNil)))) (aNil)))) (φ := dueφ nodes w)
    (dsEnum (nodes.map Nd.d)) [] [some (.dat (treeD sg nodes)), some (.dat (.str (S w))), none, none, none, none, none, none, none, none, none] (fun d hd => by
      obtain ⟨i, x, hx, rfl⟩ := mem_enum hd
      rw [List.getElem?_map, Option.map_eq_some_iff] at hx
      obtain ⟨n, hnn, rfl⟩ := hx
      have hi : i < nodes.length := (List.getElem?_eq_some_iff.mp hnn).1
      have ea := law_along_ok t hi
      have hm : (alongs nodes).getD i [] ∈ alongs nodes := by
        rw [List.getD_eq_getElem?_getD, List.getElem?_eq_getElem (by rw [alongs_len]; exact hi)]
        exact List.getElem_mem _
      have et := law_told_ok t.sgo (f.hr _ hm) (by have := t.al _ hm; omega)
      unfold bookD at et
      unfold stepC
      unfold treeD at ea ⊢
      have e4 : n.d = .tuple [.str n.name, .int n.par, .tuple n.sh] := rfl
      rw [e4]
      simp -dsimp only [bnd_some, bnd_none, f_sem, f_rt, f_nx, f_rD, f_rN, f_rS, f_rkO, f_rkD, f_p0, f_p1, f_pk, f_vD, f_vN, f_st0, f_st1, f_call0, f_k0, f_call1, f_c1, f_c2, f_pP, f_pO, f_k1P, f_k1O, f_k2, f_callK, e_nm, e_nmD, e_nmO, e_nmP, e_rdD, e_rdN, e_rdS, e_rkD, e_rkO, e_rkP, e_fzD, e_fzN, e_fzS, e_fkD, e_fkO, e_K, e_aN, e_aC, e_tup, e_lst, e_fzs0, e_fzs1, e_d2, e_kS, e_dB, e_bK, e_tA, e_tO, e_tN, e_eA, e_eO, e_eN, e_if, e_call, e_k1, e_k2, e_isi, e_neg, e_negK, e_ch, g_lt, g_le, g_ge, g_gt, g_ltI, g_sub, g_inS, g_isB, g_isnB, e_add, e_addI, e_ix, e_ixL, e_ixT, e_oN, e_oS, e_soK, e_sl, e_slL, e_slT, e_rev, e_revT, e_revL, h_lenL, h_lenT, h_abs, h_int, h_max, h_min, h_tupL, h_tupT, h_lstL, h_lstT, s_seq, s_nx, s_rt, s_bk, s_ct, s_ret, s_retN, s_nxE, s_bkE, s_if, s_ex, s_as, s_nmF, s_nmT, s_gs0, s_gs1, s_tp, s_tpT, s_ix, s_ixK, s_ixP, s_ixO, s_par, s_ins0, s_ins1, s_inF, s_inT, s_put0, s_put1, e_m, e_ty, e_tyL, e_tyS, e_app, e_appO, e_ext, e_extO, atI_0, atI_1, atI_2, atI_3, atI_4, atI_5, atI_last, PyData.isInt, PyData.isBool, PyData.isStr, PyData.isTuple, PyData.isList, List.map_cons, List.map_nil, List.length_cons, List.length_nil, List.cons_append, List.nil_append, List.replicate, Nat.reduceAdd, Nat.reduceSub, List.getElem?_cons_zero, List.getElem?_cons_succ, List.getElem?_nil, List.set_cons_zero, List.set_cons_succ, Option.bind_some, Option.map_some, Option.bind_none, Option.map_none, Nat.zero_add, Int.reduceLE, Int.reduceLT, Nat.reduceLT, Nat.reduceLeDiff, and_self, and_true, true_and, if_true, if_false, ite_true, ite_false, decide_true, decide_false, ↓reduceIte, Bool.false_eq_true, Bool.not_true, Bool.not_false, List.mem_cons, forall_eq_or_imp, List.not_mem_nil, forall_const, List.all_cons, List.all_nil, Bool.and_true, Bool.and_self, Bool.true_and, e_cTp, e_cs0, e_cs1, e_cNm, e_tYs, ea, et, e_wipe0, e_wipe1, dueφ, Int.toNat_natCast]) (by rw [dsEnum_length, hlm, List.length_nil]; omega)
  rw [due_map, List.nil_append] at hc
  have hf1 : ∀ env, hRepr (.list (formsD nodes w)) env = some (.dat (.str (PyData.list (formsD nodes w)).shown), env) := fun env => rp.lst.repr rfl (by omega) (by omega)
  have hf2 : ∀ env, hRepr (.list [.list (formsD nodes w), .list (formsD nodes w)]) env = some (.dat (.str (PyData.list [.list (formsD nodes w), .list (formsD nodes w)]).shown), env) := fun env => (RPA.con rp.lst (RPA.con rp.lst (RPA.nil (n := 0)))).lst.repr rfl (by omega) (by omega)
  obtain ⟨env', h1, c4, c5, c6, c7, c8, h2⟩ := loopB_inv (i := 3) (l := formsD nodes w) (g := xLfG) (b := xLfB) (Inv := fun _ env => ∃ c4 c5 c6 c7 c8, env = lfE sg nodes w (some (.par 0 (.l (formsD nodes w)))) c4 c5 c6 c7 c8)
    (dsZip (formsD nodes w) (nodes.map Nd.d)) 0 (lfE sg nodes w (some (.par 0 (.l (formsD nodes w)))) none none none none none) (by
      rintro j d env hd ⟨c4, c5, c6, c7, c8, rfl⟩
      unfold dsZip at hd
      rw [List.getElem?_map, Option.map_eq_some_iff] at hd
      obtain ⟨p, hp, rfl⟩ := hd
      obtain ⟨hp1, hp2⟩ := List.getElem?_zip_eq_some.mp hp
      rw [List.getElem?_map, Option.map_eq_some_iff] at hp2
      obtain ⟨n, hnn, e2⟩ := hp2
      rw [formsD_at hnn] at hp1
      have e1 := Option.some.inj hp1
      rw [← e1, ← e2]
      obtain ⟨e1, h1, c4', c5', c6', c7', c8', h2⟩ := lf_turn t f hnn c4 c5 c6 c7 c8
      exact ⟨e1, _, h1, h2, rfl, c4', c5', c6', c7', c8', rfl⟩) ⟨none, none, none, none, none, rfl⟩
  subst h2
  have hz : ∀ env0 : Env, env0 = [some (.dat (treeD sg nodes)), some (.dat (.str (S w))), some (.dat (.list (formsD nodes w))), some (.own (.l (formsD nodes w))), none, none, none, none, none, none, none] → zbK 3 (d2 (dNm 0) (dK (.int 2)) kIx) xLfG xLfB env0 (some (some (.own (.l (formsD nodes w))))) = some (.nx (lfE sg nodes w (some (.own (.l (formsD nodes w)))) (c4.map dnC) (c5.map dnC) (c6.map dnC) (c7.map dnC) (c8.map dnC))) := by
    rintro env0 rfl
    rw [s_zbK (y := .dat (.tuple (nodes.map Nd.d))) (d := .tuple (nodes.map Nd.d)) (es := nodes.map Nd.d) (env1 := lfE sg nodes w (some (.par 0 (.l (formsD nodes w)))) none none none none none) (env' := lfE sg nodes w (some (.par 0 (.l (formsD nodes w)))) none none none none none) ?_ rfl rfl (show lentE 3 (formsD nodes w) _ from rfl)]
    · rw [h1]; rfl
    · have : ((upE [some (.dat (treeD sg nodes)), some (.dat (.str (S w))), some (.dat (.list (formsD nodes w))), some (.own (.l (formsD nodes w))), none, none, none, none, none, none, none]).set 3 (some (.par 0 (.l (formsD nodes w))))) = lfE sg nodes w (some (.par 0 (.l (formsD nodes w)))) none none none none none := rfl
      rw [this]
      unfold lfE treeD
      simp -dsimp only [bnd_some, bnd_none, f_sem, f_rt, f_nx, f_rD, f_rN, f_rS, f_rkO, f_rkD, f_p0, f_p1, f_pk, f_vD, f_vN, f_st0, f_st1, f_call0, f_k0, f_call1, f_c1, f_c2, f_pP, f_pO, f_k1P, f_k1O, f_k2, f_callK, e_nm, e_nmD, e_nmO, e_nmP, e_rdD, e_rdN, e_rdS, e_rkD, e_rkO, e_rkP, e_fzD, e_fzN, e_fzS, e_fkD, e_fkO, e_K, e_aN, e_aC, e_tup, e_lst, e_fzs0, e_fzs1, e_d2, e_kS, e_dB, e_bK, e_tA, e_tO, e_tN, e_eA, e_eO, e_eN, e_if, e_call, e_k1, e_k2, e_isi, e_neg, e_negK, e_ch, g_lt, g_le, g_ge, g_gt, g_ltI, g_sub, g_inS, g_isB, g_isnB, e_add, e_addI, e_ix, e_ixL, e_ixT, e_oN, e_oS, e_soK, e_sl, e_slL, e_slT, e_rev, e_revT, e_revL, h_lenL, h_lenT, h_abs, h_int, h_max, h_min, h_tupL, h_tupT, h_lstL, h_lstT, s_seq, s_nx, s_rt, s_bk, s_ct, s_ret, s_retN, s_nxE, s_bkE, s_if, s_ex, s_as, s_nmF, s_nmT, s_gs0, s_gs1, s_tp, s_tpT, s_ix, s_ixK, s_ixP, s_ixO, s_par, s_ins0, s_ins1, s_inF, s_inT, s_put0, s_put1, e_m, e_ty, e_tyL, e_tyS, e_app, e_appO, e_ext, e_extO, atI_0, atI_1, atI_2, atI_3, atI_4, atI_5, atI_last, PyData.isInt, PyData.isBool, PyData.isStr, PyData.isTuple, PyData.isList, List.map_cons, List.map_nil, List.length_cons, List.length_nil, List.cons_append, List.nil_append, List.replicate, Nat.reduceAdd, Nat.reduceSub, List.getElem?_cons_zero, List.getElem?_cons_succ, List.getElem?_nil, List.set_cons_zero, List.set_cons_succ, Option.bind_some, Option.map_some, Option.bind_none, Option.map_none, Nat.zero_add, Int.reduceLE, Int.reduceLT, Nat.reduceLT, Nat.reduceLeDiff, and_self, and_true, true_and, if_true, if_false, ite_true, ite_false, decide_true, decide_false, ↓reduceIte, Bool.false_eq_true, Bool.not_true, Bool.not_false, List.mem_cons, forall_eq_or_imp, List.not_mem_nil, forall_const, List.all_cons, List.all_nil, Bool.and_true, Bool.and_self, Bool.true_and]
  have hlen : (formsD nodes w).length ≤ 1000000 := by rw [formsD_len]; omega
  unfold m__law_forms_right d__law_forms_right N__law_forms_right
  have hz2 := hz _ rfl
  unfold xLfG xLfB lfE at hz2
  unfold treeD at hc e hz2 ⊢
  have hk : ∀ a b : D, permL PyData.none [1, 0] [a, b] = [b, a] := fun _ _ => rfl
  simp -dsimp only [bnd_some, bnd_none, f_sem, f_rt, f_nx, f_rD, f_rN, f_rS, f_rkO, f_rkD, f_p0, f_p1, f_pk, f_vD, f_vN, f_st0, f_st1, f_call0, f_k0, f_call1, f_c1, f_c2, f_pP, f_pO, f_k1P, f_k1O, f_k2, f_callK, e_nm, e_nmD, e_nmO, e_nmP, e_rdD, e_rdN, e_rdS, e_rkD, e_rkO, e_rkP, e_fzD, e_fzN, e_fzS, e_fkD, e_fkO, e_K, e_aN, e_aC, e_tup, e_lst, e_fzs0, e_fzs1, e_d2, e_kS, e_dB, e_bK, e_tA, e_tO, e_tN, e_eA, e_eO, e_eN, e_if, e_call, e_k1, e_k2, e_isi, e_neg, e_negK, e_ch, g_lt, g_le, g_ge, g_gt, g_ltI, g_sub, g_inS, g_isB, g_isnB, e_add, e_addI, e_ix, e_ixL, e_ixT, e_oN, e_oS, e_soK, e_sl, e_slL, e_slT, e_rev, e_revT, e_revL, h_lenL, h_lenT, h_abs, h_int, h_max, h_min, h_tupL, h_tupT, h_lstL, h_lstT, s_seq, s_nx, s_rt, s_bk, s_ct, s_ret, s_retN, s_nxE, s_bkE, s_if, s_ex, s_as, s_nmF, s_nmT, s_gs0, s_gs1, s_tp, s_tpT, s_ix, s_ixK, s_ixP, s_ixO, s_par, s_ins0, s_ins1, s_inF, s_inT, s_put0, s_put1, e_m, e_ty, e_tyL, e_tyS, e_app, e_appO, e_ext, e_extO, atI_0, atI_1, atI_2, atI_3, atI_4, atI_5, atI_last, PyData.isInt, PyData.isBool, PyData.isStr, PyData.isTuple, PyData.isList, List.map_cons, List.map_nil, List.length_cons, List.length_nil, List.cons_append, List.nil_append, List.replicate, Nat.reduceAdd, Nat.reduceSub, List.getElem?_cons_zero, List.getElem?_cons_succ, List.getElem?_nil, List.set_cons_zero, List.set_cons_succ, Option.bind_some, Option.map_some, Option.bind_none, Option.map_none, Nat.zero_add, Int.reduceLE, Int.reduceLT, Nat.reduceLT, Nat.reduceLeDiff, and_self, and_true, true_and, if_true, if_false, ite_true, ite_false, decide_true, decide_false, ↓reduceIte, Bool.false_eq_true, Bool.not_true, Bool.not_false, List.mem_cons, forall_eq_or_imp, List.not_mem_nil, forall_const, List.all_cons, List.all_nil, Bool.and_true, Bool.and_self, Bool.true_and, e_lc, e_iEn, e_itT, e_wipe0, e_wipe1, hc, e_rest0, e_rest1, List.getD_cons_zero, List.getD_cons_succ, e, e_reprL, hk, e_rds0, e_rds1, hf2, g_neS, s_forZB, hz2, hlen, hf1, g_eqS]
end
end EW

/-! k81, mathematics 18: drawn trees. -/
namespace EW
open PySem L2
def nine : List Str := ["root", "west", "east", "north", "south", "mid", "far", "near", "old"].map Str.ofString
theorem nine_nm : ∀ z ∈ nine, m_is_name none [.str z] = yes := fun z hz => by
  have h : (nine.all fun z => isT (m_is_name none [.str z])) = true := by decide +kernel
  exact isT_ok (List.all_eq_true.mp h z hz)
theorem nine_ok : ∀ z ∈ nine, ∃ v : List Nat, z = S v ∧ v.length ≤ 8 ∧ ∀ c ∈ v, c < 1000 := fun z hz => by
  have h : (nine.all fun z => decide (z.cps.toList.length ≤ 8) && z.cps.toList.all fun c => decide (c < 1000)) = true := by decide +kernel
  have h1 := List.all_eq_true.mp h z hz
  rw [Bool.and_eq_true, List.all_eq_true] at h1
  exact ⟨z.cps.toList, (S_of z).symm, of_decide_eq_true h1.1, fun c hc => of_decide_eq_true (h1.2 c hc)⟩
theorem nine_nodup : nine.Nodup := by decide +kernel
theorem alongs_app (nodes : List Nd) (n : Nd) : alongs (nodes ++ [n]) = alongs nodes ++ [alA nodes n.par ++ n.sh] := by
  unfold alongs
  rw [List.foldl_append]
  rfl
/-- a tree as far as it is drawn: names still left -/
structure DrOk (sg : List Nat) (nodes : List Nd) (left : List Str) : Prop where
  ln : nodes.length + left.length = 9
  nd : (nodes.map Nd.name ++ left).Nodup
  nm : ∀ z ∈ nodes.map Nd.name ++ left, z ∈ nine
  zero : ∀ n : Nd, nodes[0]? = some n → n.par = -1 ∧ n.sh = []
  pos : ∀ (i : Nat) (n : Nd), nodes[i + 1]? = some n → 0 ≤ n.par ∧ n.par ≤ (i : Int) ∧ n.sh.length ≤ 2 ∧ ∀ d ∈ n.sh, IsSh sg d
  al : ∀ a ∈ alongs nodes, a.length ≤ 4 ∧ ∀ d ∈ a, IsSh sg d
theorem erase_perm {α : Type} : ∀ (l : List α) (r : Nat) (h : r < l.length), List.Perm l (l[r] :: l.eraseIdx r)
  | x :: l, 0, _ => .refl _
  | x :: l, r + 1, h => ((erase_perm l r (by simpa using h)).cons x).trans (.swap ..)
theorem perm_pop {α : Type} {left : List α} {r : Nat} (h : r < left.length) (ns : List α) (hn : (ns ++ left).Nodup) : ((ns ++ [left[r]]) ++ left.eraseIdx r).Nodup ∧ ∀ z ∈ (ns ++ [left[r]]) ++ left.eraseIdx r, z ∈ ns ++ left := by
  have hp : List.Perm left (left[r] :: left.eraseIdx r) := erase_perm left r h
  have hp2 : List.Perm (ns ++ left) ((ns ++ [left[r]]) ++ left.eraseIdx r) := by
    rw [List.append_assoc]
    exact hp.append_left ns
  exact ⟨hp2.nodup_iff.mp hn, fun z hz => hp2.mem_iff.mpr hz⟩
section
variable {sg : List Nat} {nodes : List Nd} {left : List Str}
theorem DrOk.app (d : DrOk sg nodes left) {r : Nat} (h : r < left.length) {par : Int} {sh : List D} (h0 : nodes = [] → par = -1 ∧ sh = []) (h1 : nodes ≠ [] → 0 ≤ par ∧ par < (nodes.length : Int) ∧ sh.length ≤ 2 ∧ (∀ d ∈ sh, IsSh sg d) ∧ (alA nodes par).length + sh.length ≤ 4) :
    DrOk sg (nodes ++ [⟨left[r], par, sh⟩]) (left.eraseIdx r) := by
  have hh := perm_pop h (nodes.map Nd.name) d.nd
  have hal : ∀ k : Int, ∀ x ∈ alA nodes k, IsSh sg x := fun k x hx => by
    unfold alA at hx
    split at hx
    · rw [List.getD_eq_getElem?_getD] at hx
      cases q : (alongs nodes)[k.toNat]? with
      | none => rw [q] at hx; simp at hx
      | some a => rw [q] at hx; exact (d.al a (List.mem_of_getElem? q)).2 x hx
    · simp at hx
  refine ⟨?_, ?_, ?_, ?_, ?_, ?_⟩
  · have := d.ln
    rw [List.length_append, List.length_eraseIdx, if_pos h]
    simp only [List.length_cons, List.length_nil]
    omega
  · rw [List.map_append]; exact hh.1
  · rw [List.map_append]; exact fun z hz => d.nm z (hh.2 z hz)
  · intro n hn
    cases nodes with
    | nil => cases hn; exact h0 rfl
    | cons m ms => exact d.zero n (by simpa using hn)
  · intro i n hn
    by_cases hi : i + 1 < nodes.length
    · rw [List.getElem?_append_left hi] at hn
      exact d.pos i n hn
    · have hl := (List.getElem?_eq_some_iff.mp hn).1
      rw [List.length_append] at hl
      simp only [List.length_cons, List.length_nil] at hl
      have e : i + 1 = nodes.length := by omega
      rw [List.getElem?_append_right (by omega), e, Nat.sub_self] at hn
      cases hn
      obtain ⟨a, b, c, dd, _⟩ := h1 (by intro z; rw [z] at e; simp at e)
      exact ⟨a, by show par ≤ (i : Int); omega, c, dd⟩
  · intro a ha
    rw [alongs_app] at ha
    rcases List.mem_append.mp ha with ha | ha
    · exact d.al a ha
    · simp only [List.mem_singleton] at ha
      subst ha
      by_cases hq : nodes = []
      · obtain ⟨e1, e2⟩ := h0 hq
        have : alA nodes par = [] := by unfold alA; rw [if_neg (by omega)]
        show (alA nodes par ++ sh).length ≤ 4 ∧ ∀ d ∈ alA nodes par ++ sh, IsSh sg d
        rw [this, e2]
        simp
      · obtain ⟨_, _, _, c, e⟩ := h1 hq
        refine ⟨by rw [List.length_append]; exact e, fun x hx => ?_⟩
        rcases List.mem_append.mp hx with hx | hx
        · exact hal _ x hx
        · exact c x hx
theorem DrOk.tree (d : DrOk sg nodes left) (hs : Sg sg) (h1 : 1 ≤ nodes.length) : TreeOk sg nodes ∧ NmOk nodes := by
  have hm : ∀ n ∈ nodes, n.name ∈ nine := fun n hn => d.nm _ (List.mem_append_left _ (List.mem_map.mpr ⟨n, hn, rfl⟩))
  refine ⟨⟨hs, h1, by have := d.ln; omega, (List.nodup_append.mp d.nd).1, fun n hn => nine_nm _ (hm n hn), d.zero, fun i n hn => ?_, fun a ha => by have := (d.al a ha).1; omega⟩, fun n hn => nine_ok _ (hm n hn)⟩
  obtain ⟨a, b, c, e⟩ := d.pos i n hn
  exact ⟨a, b, by omega, e⟩
end
end EW

/-! k81, mathematics 19: the drawn tree's walk. -/
namespace EW
open PySem L2
section
variable {sg : List Nat} {nodes : List Nd} {left : List Str} {o : Ob} {most : Int} {stock : List D}
def alD (nodes : List Nd) : List D := if nodes.isEmpty then [.int 0] else (alongs nodes).map fun a => .int (a.length : Int)
def trE (o : Ob) (most : Int) (sg : List Nat) (stock : List D) (nodes : List Nd) (left : List Str) (c3 c8 c9 c10 : Option Cell) : Env :=
  [some (.par 0 o), some (.dat (.int most)), some (.dat (.str (S sg))), c3, some (.dat (.list stock)), some (.own (.l (alD nodes))), some (.own (.l (left.map PyData.str))), some (.own (.l (nodes.map Nd.d))), c8, c9, c10, none]
def xTrP : DS := sAs (dM "list" (dNm 6) (aCons (dF 2 true m__law_draw (aCons (dNm 0) (aCons (dCall (aCons (dNm 6) (aNil)) (k1 hLen)) (aNil)))) (aNil)) kPopAt) (gNm false 8)
def xTr0 : DS := sEx (dM "list" (dNm 7) (aCons (dTup (aCons (dNm 8) (aCons (dNeg (dK (.int 1))) (aCons (dTup (aNil)) (aNil))))) (aNil)) kApp)
def xTrL : DE := dLc [11] (iR1 (dCall (aCons (dF 2 true m__law_draw (aCons (dNm 0) (aCons (dK (.int 3)) (aNil)))) (aCons (d2 (dK (.int 4)) (d2 (dNm 5) (dNm 9) kIx) (kS gSub)) (aNil))) (k2 hMin2))) (cNm 11) (tYs) (dF 2 true m__law_pick (aCons (dNm 0) (aCons (dNm 4) (aNil))))
def xTrA : DS := sEx (dM "list" (dNm 5) (aCons (d2 (d2 (dNm 5) (dNm 9) kIx) (dCall (aCons (dNm 10) (aNil)) (k1 hLen)) kAdd) (aNil)) kApp)
def xTrN : DS := sEx (dM "list" (dNm 7) (aCons (dTup (aCons (dNm 8) (aCons (dNm 9) (aCons (dNm 10) (aNil))))) (aNil)) kApp)
def xTr1 : DS := sSeq (sAs (dF 2 true m__law_draw (aCons (dNm 0) (aCons (dNm 3) (aNil)))) (gNm false 9)) (sSeq (sAs (dCall (aCons xTrL (aNil)) (k1 hTuple)) (gNm false 10)) (sSeq xTrA xTrN))
def xTrB : DS := sSeq xTrP (sIf (dB (d2 (dNm 3) (dK (.int 0)) (kS gEq))) xTr0 xTr1)
theorem d_tree_eq : d__law_tree = sSeq (sAs (dF 2 true m__law_pick (aCons (dNm 0) (aCons (dLst (aCons (dK (.str "ab")) (aCons (dK (.str "ab")) (aCons (dK (.str "abc")) (aNil))))) (aNil)))) (gNm false 2)) (sSeq (sPar [4, 5] [false, true] (aCons (dLc [11] (iR1 (d2 (dK (.int 1)) (dF 2 true m__law_draw (aCons (dNm 0) (aCons (dK (.int 3)) (aNil)))) kAdd)) (cNm 11) (tYs) (dF 2 true m__law_small (aCons (dNm 0) (aCons (dNm 2) (aNil))))) (aCons (dLst (aCons (dK (.int 0)) (aNil))) (aNil)))) (sSeq (sPar [6, 7] [true, true] (aCons (dLst (aCons (dK (.str "root")) (aCons (dK (.str "west")) (aCons (dK (.str "east")) (aCons (dK (.str "north")) (aCons (dK (.str "south")) (aCons (dK (.str "mid")) (aCons (dK (.str "far")) (aCons (dK (.str "near")) (aCons (dK (.str "old")) (aNil))))))))))) (aCons (dLst (aNil)) (aNil)))) (sSeq (sFor (iR1 (d2 (dK (.int 1)) (dF 2 true m__law_draw (aCons (dNm 0) (aCons (dNm 1) (aNil)))) kAdd)) (gNm false 3) xTrB) (sRet (dTup (aCons (dK (.str "tree")) (aCons (dNm 2) (aCons (dCall (aCons (dNm 7) (aNil)) (k1 hTuple)) (aNil))))))))) := rfl
theorem tr_pop (d : DrOk sg nodes left) (ho : PotOk o) (hl : nodes.length < 9) (c3 c8 c9 c10 : Option Cell) : ∃ (r : Nat) (hr : r < left.length) (o' : Ob), xTrP (trE o most sg stock nodes left c3 c8 c9 c10) = some (.nx (trE o' most sg stock nodes (left.eraseIdx r) c3 (some (.dat (.str left[r]))) c9 c10)) ∧ PotOk o' := by
  have hln := d.ln
  obtain ⟨r, o', e, h1, h2, h3⟩ := draw_spec (o := o) (((left.map PyData.str).length : Nat) : Int) ho (by rw [List.length_map]; omega) (by rw [List.length_map]; omega)
  rw [List.length_map] at h2
  have hr : r.toNat < left.length := by omega
  refine ⟨r.toNat, hr, o', ?_, h3⟩
  have hp : kPopAt (.slot 6) [.dat (.int r)] (trE o' most sg stock nodes left c3 c8 c9 c10) = some (.dat (.str left[r.toNat]), trE o' most sg stock nodes (left.eraseIdx r.toNat) c3 c8 c9 c10) := by
    rw [e_popO (ds := left.map PyData.str) rfl rfl (by omega), PySem.seqIndex_of h1 (by rw [List.length_map]; exact h2), bnd_some, List.getElem?_eq_getElem (by rw [List.length_map]; exact hr)]
    simp only [bnd_some, List.getElem_map, erase_map]
    rfl
  unfold xTrP
  unfold trE at hp ⊢
  simp -dsimp only [bnd_some, bnd_none, f_sem, f_rt, f_nx, f_rD, f_rN, f_rS, f_rkO, f_rkD, f_p0, f_p1, f_pk, f_vD, f_vN, f_st0, f_st1, f_call0, f_k0, f_call1, f_c1, f_c2, f_pP, f_pO, f_k1P, f_k1O, f_k2, f_callK, e_nm, e_nmD, e_nmO, e_nmP, e_rdD, e_rdN, e_rdS, e_rkD, e_rkO, e_rkP, e_fzD, e_fzN, e_fzS, e_fkD, e_fkO, e_K, e_aN, e_aC, e_tup, e_lst, e_fzs0, e_fzs1, e_d2, e_kS, e_dB, e_bK, e_tA, e_tO, e_tN, e_eA, e_eO, e_eN, e_if, e_call, e_k1, e_k2, e_isi, e_neg, e_negK, e_ch, g_lt, g_le, g_ge, g_gt, g_ltI, g_sub, g_inS, g_isB, g_isnB, e_add, e_addI, e_ix, e_ixL, e_ixT, e_oN, e_oS, e_soK, e_sl, e_slL, e_slT, e_rev, e_revT, e_revL, h_lenL, h_lenT, h_abs, h_int, h_max, h_min, h_tupL, h_tupT, h_lstL, h_lstT, s_seq, s_nx, s_rt, s_bk, s_ct, s_ret, s_retN, s_nxE, s_bkE, s_if, s_ex, s_as, s_nmF, s_nmT, s_gs0, s_gs1, s_tp, s_tpT, s_ix, s_ixK, s_ixP, s_ixO, s_par, s_ins0, s_ins1, s_inF, s_inT, s_put0, s_put1, e_m, e_ty, e_tyL, e_tyS, e_app, e_appO, e_ext, e_extO, atI_0, atI_1, atI_2, atI_3, atI_4, atI_5, atI_last, PyData.isInt, PyData.isBool, PyData.isStr, PyData.isTuple, PyData.isList, List.map_cons, List.map_nil, List.length_cons, List.length_nil, List.cons_append, List.nil_append, List.replicate, Nat.reduceAdd, Nat.reduceSub, List.getElem?_cons_zero, List.getElem?_cons_succ, List.getElem?_nil, List.set_cons_zero, List.set_cons_succ, Option.bind_some, Option.map_some, Option.bind_none, Option.map_none, Nat.zero_add, Int.reduceLE, Int.reduceLT, Nat.reduceLT, Nat.reduceLeDiff, and_self, and_true, true_and, if_true, if_false, ite_true, ite_false, decide_true, decide_false, ↓reduceIte, Bool.false_eq_true, Bool.not_true, Bool.not_false, List.mem_cons, forall_eq_or_imp, List.not_mem_nil, forall_const, List.all_cons, List.all_nil, Bool.and_true, Bool.and_self, Bool.true_and, e, hp]
theorem alD_at (hn : nodes ≠ []) {k : Nat} (hk : k < nodes.length) : (alD nodes)[k]? = some (.int ((alA nodes (k : Int)).length : Int)) := by
  have h1 : (alongs nodes)[k]? = some (alA nodes (k : Int)) := by
    unfold alA
    rw [if_pos (by omega)]
    show _ = some ((alongs nodes).getD k [])
    rw [List.getD_eq_getElem?_getD, List.getElem?_eq_getElem (by rw [alongs_len]; exact hk)]
    rfl
  unfold alD
  rw [if_neg (by simpa using hn), List.getElem?_map, h1]
  rfl
theorem alD_app (hn : nodes ≠ []) (n : Nd) : alD (nodes ++ [n]) = alD nodes ++ [.int (((alA nodes n.par).length : Int) + (n.sh.length : Int))] := by
  unfold alD
  rw [if_neg (by simp), if_neg (by simpa using hn), alongs_app, List.map_append]
  simp
theorem alD_0 (n : Nd) (h : n.par = -1 ∧ n.sh = []) : alD ([] ++ [n]) = alD [] := by
  unfold alD
  rw [alongs_app]
  have : alA [] n.par = [] := by unfold alA; rw [if_neg (by omega)]
  rw [this, h.2]
  rfl
theorem alD_len : (alD nodes).length ≤ nodes.length + 1 := by
  unfold alD
  split
  · simp
  · rw [List.length_map, alongs_len]; omega
theorem tr_turn (hs : Sg sg) (d : DrOk sg nodes left) (ho : PotOk o) (hst : stock ≠ [] ∧ stock.length ≤ 3 ∧ ∀ x ∈ stock, IsSh sg x) (hl : nodes.length < 9) (c8 c9 c10 : Option Cell) :
    ∃ (n : Nd) (left' : List Str) (o' : Ob) (c8' c9' c10' : Option Cell), xTrB (trE o most sg stock nodes left (some (.dat (.int (nodes.length : Int)))) c8 c9 c10) = some (.nx (trE o' most sg stock (nodes ++ [n]) left' (some (.dat (.int (nodes.length : Int)))) c8' c9' c10')) ∧ DrOk sg (nodes ++ [n]) left' ∧ PotOk o' := by
  obtain ⟨r, hr, o1, e1, h1⟩ := tr_pop (most := most) (stock := stock) d ho hl (some (.dat (.int (nodes.length : Int)))) c8 c9 c10
  have hnl : (nodes.map Nd.d).length ≤ 1000000 := by rw [List.length_map]; omega
  unfold xTrB
  simp only [s_seq, e1, bnd_some, s_nx]
  by_cases hn : nodes = []
  · subst hn
    refine ⟨⟨left[r], -1, []⟩, left.eraseIdx r, o1, some (.dat (.str left[r])), c9, c10, ?_, d.app hr (fun _ => ⟨rfl, rfl⟩) (fun h => absurd rfl h), h1⟩
    have e2 := alD_0 ⟨left[r], -1, []⟩ ⟨rfl, rfl⟩
    unfold xTr0 trE
    rw [e2]
    have z : ((([] : List Nd).length : Nat) : Int) = 0 := rfl
    have e3 : (([] : List Nd) ++ [(⟨left[r], -1, []⟩ : Nd)]).map Nd.d = [] ++ [.tuple [.str left[r], .int (-1), .tuple []]] := rfl
    rw [z, e3]
    simp -dsimp only [bnd_some, bnd_none, f_sem, f_rt, f_nx, f_rD, f_rN, f_rS, f_rkO, f_rkD, f_p0, f_p1, f_pk, f_vD, f_vN, f_st0, f_st1, f_call0, f_k0, f_call1, f_c1, f_c2, f_pP, f_pO, f_k1P, f_k1O, f_k2, f_callK, e_nm, e_nmD, e_nmO, e_nmP, e_rdD, e_rdN, e_rdS, e_rkD, e_rkO, e_rkP, e_fzD, e_fzN, e_fzS, e_fkD, e_fkO, e_K, e_aN, e_aC, e_tup, e_lst, e_fzs0, e_fzs1, e_d2, e_kS, e_dB, e_bK, e_tA, e_tO, e_tN, e_eA, e_eO, e_eN, e_if, e_call, e_k1, e_k2, e_isi, e_neg, e_negK, e_ch, g_lt, g_le, g_ge, g_gt, g_ltI, g_sub, g_inS, g_isB, g_isnB, e_add, e_addI, e_ix, e_ixL, e_ixT, e_oN, e_oS, e_soK, e_sl, e_slL, e_slT, e_rev, e_revT, e_revL, h_lenL, h_lenT, h_abs, h_int, h_max, h_min, h_tupL, h_tupT, h_lstL, h_lstT, s_seq, s_nx, s_rt, s_bk, s_ct, s_ret, s_retN, s_nxE, s_bkE, s_if, s_ex, s_as, s_nmF, s_nmT, s_gs0, s_gs1, s_tp, s_tpT, s_ix, s_ixK, s_ixP, s_ixO, s_par, s_ins0, s_ins1, s_inF, s_inT, s_put0, s_put1, e_m, e_ty, e_tyL, e_tyS, e_app, e_appO, e_ext, e_extO, atI_0, atI_1, atI_2, atI_3, atI_4, atI_5, atI_last, PyData.isInt, PyData.isBool, PyData.isStr, PyData.isTuple, PyData.isList, List.map_cons, List.map_nil, List.length_cons, List.length_nil, List.cons_append, List.nil_append, List.replicate, Nat.reduceAdd, Nat.reduceSub, List.getElem?_cons_zero, List.getElem?_cons_succ, List.getElem?_nil, List.set_cons_zero, List.set_cons_succ, Option.bind_some, Option.map_some, Option.bind_none, Option.map_none, Nat.zero_add, Int.reduceLE, Int.reduceLT, Nat.reduceLT, Nat.reduceLeDiff, and_self, and_true, true_and, if_true, if_false, ite_true, ite_false, decide_true, decide_false, ↓reduceIte, Bool.false_eq_true, Bool.not_true, Bool.not_false, List.mem_cons, forall_eq_or_imp, List.not_mem_nil, forall_const, List.all_cons, List.all_nil, Bool.and_true, Bool.and_self, Bool.true_and, g_eqI, hnl]
  · have hpos : 0 < nodes.length := List.length_pos_iff.mpr hn
    have hne : ¬ ((nodes.length : Int) = 0) := by omega
    obtain ⟨p, o2, e2, hp1, hp2, h2⟩ := draw_spec (o := o1) (nodes.length : Int) h1 (by omega) (by omega)
    obtain ⟨k, rfl⟩ := Int.eq_ofNat_of_zero_le hp1
    have hk : k < nodes.length := by omega
    obtain ⟨q, o3, e3, hq1, hq2, h3⟩ := draw_spec (o := o2) 3 h2 (by decide) (by decide)
    have hal := alD_at hn hk
    have ha4 : (alA nodes (k : Int)).length ≤ 4 := by
      have : alA nodes (k : Int) ∈ alongs nodes := by
        unfold alA
        rw [if_pos (by omega)]
        show (alongs nodes).getD k [] ∈ _
        rw [List.getD_eq_getElem?_getD, List.getElem?_eq_getElem (by rw [alongs_len]; exact hk)]
        exact List.getElem_mem _
      exact (d.al _ this).1
    obtain ⟨m, hm, hm1, hm2⟩ : ∃ m : Nat, (if 4 - ((alA nodes (k : Int)).length : Int) < q then 4 - ((alA nodes (k : Int)).length : Int) else q) = (m : Int) ∧ m ≤ 2 ∧ (alA nodes (k : Int)).length + m ≤ 4 := by
      split
      · exact ⟨4 - (alA nodes (k : Int)).length, by omega, by omega, by omega⟩
      · exact ⟨q.toNat, by omega, by omega, by omega⟩
    obtain ⟨out, env', e4, hol, hoP, o4, rfl, h4⟩ := range_ex (vs := [11]) (g := cNm 11) (fe := dF 2 true m__law_pick (aCons (dNm 0) (aCons (dNm 4) (aNil)))) (Inv := fun env => ∃ o, env = trE o most sg stock nodes (left.eraseIdx r) (some (.dat (.int (nodes.length : Int)))) (some (.dat (.str left[r]))) (some (.dat (.int (k : Int)))) c10 ∧ PotOk o) (P := fun v => IsSh sg v) (n := m) (trE o3 most sg stock nodes (left.eraseIdx r) (some (.dat (.int (nodes.length : Int)))) (some (.dat (.str left[r]))) (some (.dat (.int (k : Int)))) c10) (by
      rintro dd env ⟨o5, rfl, h5⟩
      obtain ⟨x, o6, e5, hx, h6⟩ := pick_spec (o := o5) (ds := stock) h5 hst.1 (by omega)
      refine ⟨x, _, ?_, hst.2.2 x hx, o6, rfl, h6⟩
      unfold stepC trE
      simp -dsimp only [bnd_some, bnd_none, f_sem, f_rt, f_nx, f_rD, f_rN, f_rS, f_rkO, f_rkD, f_p0, f_p1, f_pk, f_vD, f_vN, f_st0, f_st1, f_call0, f_k0, f_call1, f_c1, f_c2, f_pP, f_pO, f_k1P, f_k1O, f_k2, f_callK, e_nm, e_nmD, e_nmO, e_nmP, e_rdD, e_rdN, e_rdS, e_rkD, e_rkO, e_rkP, e_fzD, e_fzN, e_fzS, e_fkD, e_fkO, e_K, e_aN, e_aC, e_tup, e_lst, e_fzs0, e_fzs1, e_d2, e_kS, e_dB, e_bK, e_tA, e_tO, e_tN, e_eA, e_eO, e_eN, e_if, e_call, e_k1, e_k2, e_isi, e_neg, e_negK, e_ch, g_lt, g_le, g_ge, g_gt, g_ltI, g_sub, g_inS, g_isB, g_isnB, e_add, e_addI, e_ix, e_ixL, e_ixT, e_oN, e_oS, e_soK, e_sl, e_slL, e_slT, e_rev, e_revT, e_revL, h_lenL, h_lenT, h_abs, h_int, h_max, h_min, h_tupL, h_tupT, h_lstL, h_lstT, s_seq, s_nx, s_rt, s_bk, s_ct, s_ret, s_retN, s_nxE, s_bkE, s_if, s_ex, s_as, s_nmF, s_nmT, s_gs0, s_gs1, s_tp, s_tpT, s_ix, s_ixK, s_ixP, s_ixO, s_par, s_ins0, s_ins1, s_inF, s_inT, s_put0, s_put1, e_m, e_ty, e_tyL, e_tyS, e_app, e_appO, e_ext, e_extO, atI_0, atI_1, atI_2, atI_3, atI_4, atI_5, atI_last, PyData.isInt, PyData.isBool, PyData.isStr, PyData.isTuple, PyData.isList, List.map_cons, List.map_nil, List.length_cons, List.length_nil, List.cons_append, List.nil_append, List.replicate, Nat.reduceAdd, Nat.reduceSub, List.getElem?_cons_zero, List.getElem?_cons_succ, List.getElem?_nil, List.set_cons_zero, List.set_cons_succ, Option.bind_some, Option.map_some, Option.bind_none, Option.map_none, Nat.zero_add, Int.reduceLE, Int.reduceLT, Nat.reduceLT, Nat.reduceLeDiff, and_self, and_true, true_and, if_true, if_false, ite_true, ite_false, decide_true, decide_false, ↓reduceIte, Bool.false_eq_true, Bool.not_true, Bool.not_false, List.mem_cons, forall_eq_or_imp, List.not_mem_nil, forall_const, List.all_cons, List.all_nil, Bool.and_true, Bool.and_self, Bool.true_and, e_cNm, e_tYs, e5, e_wipe0, e_wipe1]) ⟨o3, rfl, h3⟩ (by omega)
    have hr1 : ∀ env, r1K env (some (.int (m : Int))) = some (rngD 0 m, env) := fun env => by rw [e_r1K (by omega)]; rfl
    have eL : xTrL (trE o2 most sg stock nodes (left.eraseIdx r) (some (.dat (.int (nodes.length : Int)))) (some (.dat (.str left[r]))) (some (.dat (.int (k : Int)))) c10) = some (.new (.l out), trE o4 most sg stock nodes (left.eraseIdx r) (some (.dat (.int (nodes.length : Int)))) (some (.dat (.str left[r]))) (some (.dat (.int (k : Int)))) c10) := by
      unfold xTrL
      unfold trE at e4 ⊢
      simp -dsimp only [bnd_some, bnd_none, f_sem, f_rt, f_nx, f_rD, f_rN, f_rS, f_rkO, f_rkD, f_p0, f_p1, f_pk, f_vD, f_vN, f_st0, f_st1, f_call0, f_k0, f_call1, f_c1, f_c2, f_pP, f_pO, f_k1P, f_k1O, f_k2, f_callK, e_nm, e_nmD, e_nmO, e_nmP, e_rdD, e_rdN, e_rdS, e_rkD, e_rkO, e_rkP, e_fzD, e_fzN, e_fzS, e_fkD, e_fkO, e_K, e_aN, e_aC, e_tup, e_lst, e_fzs0, e_fzs1, e_d2, e_kS, e_dB, e_bK, e_tA, e_tO, e_tN, e_eA, e_eO, e_eN, e_if, e_call, e_k1, e_k2, e_isi, e_neg, e_negK, e_ch, g_lt, g_le, g_ge, g_gt, g_ltI, g_sub, g_inS, g_isB, g_isnB, e_add, e_addI, e_ix, e_ixL, e_ixT, e_oN, e_oS, e_soK, e_sl, e_slL, e_slT, e_rev, e_revT, e_revL, h_lenL, h_lenT, h_abs, h_int, h_max, h_min, h_tupL, h_tupT, h_lstL, h_lstT, s_seq, s_nx, s_rt, s_bk, s_ct, s_ret, s_retN, s_nxE, s_bkE, s_if, s_ex, s_as, s_nmF, s_nmT, s_gs0, s_gs1, s_tp, s_tpT, s_ix, s_ixK, s_ixP, s_ixO, s_par, s_ins0, s_ins1, s_inF, s_inT, s_put0, s_put1, e_m, e_ty, e_tyL, e_tyS, e_app, e_appO, e_ext, e_extO, atI_0, atI_1, atI_2, atI_3, atI_4, atI_5, atI_last, PyData.isInt, PyData.isBool, PyData.isStr, PyData.isTuple, PyData.isList, List.map_cons, List.map_nil, List.length_cons, List.length_nil, List.cons_append, List.nil_append, List.replicate, Nat.reduceAdd, Nat.reduceSub, List.getElem?_cons_zero, List.getElem?_cons_succ, List.getElem?_nil, List.set_cons_zero, List.set_cons_succ, Option.bind_some, Option.map_some, Option.bind_none, Option.map_none, Nat.zero_add, Int.reduceLE, Int.reduceLT, Nat.reduceLT, Nat.reduceLeDiff, and_self, and_true, true_and, if_true, if_false, ite_true, ite_false, decide_true, decide_false, ↓reduceIte, Bool.false_eq_true, Bool.not_true, Bool.not_false, List.mem_cons, forall_eq_or_imp, List.not_mem_nil, forall_const, List.all_cons, List.all_nil, Bool.and_true, Bool.and_self, Bool.true_and, e_lc, e_iR1, e3, atI_nat, hal, hm, hr1, e_wipe0, e_wipe1, e4, e_rest0, e_rest1, List.getD_cons_zero, List.getD_cons_succ]
    refine ⟨⟨left[r], (k : Int), out⟩, left.eraseIdx r, o4, some (.dat (.str left[r])), some (.dat (.int (k : Int))), some (.dat (.tuple out)), ?_, d.app hr (fun h => absurd h hn) (fun _ => ⟨by omega, by omega, by omega, hoP, by omega⟩), h4⟩
    have eA := alD_app hn ⟨left[r], (k : Int), out⟩
    have e6 : (nodes ++ [(⟨left[r], (k : Int), out⟩ : Nd)]).map Nd.d = nodes.map Nd.d ++ [.tuple [.str left[r], .int (k : Int), .tuple out]] := by rw [List.map_append]; rfl
    have hall : (alD nodes).length ≤ 1000000 := by have := alD_len (nodes := nodes); omega
    unfold xTr1 xTrA xTrN
    unfold trE at eL ⊢
    rw [eA, e6]
    simp -dsimp only [bnd_some, bnd_none, f_sem, f_rt, f_nx, f_rD, f_rN, f_rS, f_rkO, f_rkD, f_p0, f_p1, f_pk, f_vD, f_vN, f_st0, f_st1, f_call0, f_k0, f_call1, f_c1, f_c2, f_pP, f_pO, f_k1P, f_k1O, f_k2, f_callK, e_nm, e_nmD, e_nmO, e_nmP, e_rdD, e_rdN, e_rdS, e_rkD, e_rkO, e_rkP, e_fzD, e_fzN, e_fzS, e_fkD, e_fkO, e_K, e_aN, e_aC, e_tup, e_lst, e_fzs0, e_fzs1, e_d2, e_kS, e_dB, e_bK, e_tA, e_tO, e_tN, e_eA, e_eO, e_eN, e_if, e_call, e_k1, e_k2, e_isi, e_neg, e_negK, e_ch, g_lt, g_le, g_ge, g_gt, g_ltI, g_sub, g_inS, g_isB, g_isnB, e_add, e_addI, e_ix, e_ixL, e_ixT, e_oN, e_oS, e_soK, e_sl, e_slL, e_slT, e_rev, e_revT, e_revL, h_lenL, h_lenT, h_abs, h_int, h_max, h_min, h_tupL, h_tupT, h_lstL, h_lstT, s_seq, s_nx, s_rt, s_bk, s_ct, s_ret, s_retN, s_nxE, s_bkE, s_if, s_ex, s_as, s_nmF, s_nmT, s_gs0, s_gs1, s_tp, s_tpT, s_ix, s_ixK, s_ixP, s_ixO, s_par, s_ins0, s_ins1, s_inF, s_inT, s_put0, s_put1, e_m, e_ty, e_tyL, e_tyS, e_app, e_appO, e_ext, e_extO, atI_0, atI_1, atI_2, atI_3, atI_4, atI_5, atI_last, PyData.isInt, PyData.isBool, PyData.isStr, PyData.isTuple, PyData.isList, List.map_cons, List.map_nil, List.length_cons, List.length_nil, List.cons_append, List.nil_append, List.replicate, Nat.reduceAdd, Nat.reduceSub, List.getElem?_cons_zero, List.getElem?_cons_succ, List.getElem?_nil, List.set_cons_zero, List.set_cons_succ, Option.bind_some, Option.map_some, Option.bind_none, Option.map_none, Nat.zero_add, Int.reduceLE, Int.reduceLT, Nat.reduceLT, Nat.reduceLeDiff, and_self, and_true, true_and, if_true, if_false, ite_true, ite_false, decide_true, decide_false, ↓reduceIte, Bool.false_eq_true, Bool.not_true, Bool.not_false, List.mem_cons, forall_eq_or_imp, List.not_mem_nil, forall_const, List.all_cons, List.all_nil, Bool.and_true, Bool.and_self, Bool.true_and, g_eqI, hne, e2, eL, atI_nat, hal, hall, hnl]
end
end EW

/-! k81, mathematics 20: the drawn tree. -/
namespace EW
open PySem L2
theorem rng_get {n i : Nat} {d : D} (h : (rngD 0 n)[i]? = some d) : i < n ∧ d = .int (i : Int) := by
  unfold rngD at h
  rw [List.getElem?_map, Option.map_eq_some_iff] at h
  obtain ⟨x, hx, rfl⟩ := h
  obtain ⟨hi, e⟩ := List.getElem?_eq_some_iff.mp hx
  rw [List.length_range] at hi
  rw [List.getElem_range] at e
  subst e
  exact ⟨hi, by simp⟩
theorem pickSg {o : Ob} (ho : PotOk o) : ∃ sg o', m__law_pick (some o) [.list [.str (Str.ofString "ab"), .str (Str.ofString "ab"), .str (Str.ofString "abc")]] = some (.dat (.str (S sg)), some o') ∧ Sg sg ∧ PotOk o' := by
  obtain ⟨d, o', e, h1, h2⟩ := pick_spec (o := o) (ds := [.str (Str.ofString "ab"), .str (Str.ofString "ab"), .str (Str.ofString "abc")]) ho (by simp) (by simp)
  simp only [List.mem_cons, List.not_mem_nil, or_false] at h1
  rcases h1 with rfl | rfl | rfl
  · exact ⟨[97, 98], o', e, .inl rfl, h2⟩
  · exact ⟨[97, 98], o', e, .inl rfl, h2⟩
  · exact ⟨[97, 98, 99], o', e, .inr rfl, h2⟩
theorem tree_spec {o : Ob} (most : Int) (h1 : 0 < most) (h2 : most ≤ 8) (ho : PotOk o) :
    ∃ sg nodes left o', m__law_tree (some o) [.int most] = some (.dat (treeD sg nodes), some o') ∧ Sg sg ∧ 1 ≤ nodes.length ∧ DrOk sg nodes left ∧ PotOk o' := by
  obtain ⟨sg, o1, e1, hs, ho1⟩ := pickSg ho
  obtain ⟨q, o2, e2, hq1, hq2, ho2⟩ := draw_spec (o := o1) 3 ho1 (by decide) (by decide)
  obtain ⟨m, rfl⟩ := Int.eq_ofNat_of_zero_le hq1
  obtain ⟨stock, env', e3, hst, hsP, o3, rfl, ho3⟩ := range_ex (vs := [11]) (g := cNm 11) (fe := dF 2 true m__law_small (aCons (dNm 0) (aCons (dNm 2) (aNil)))) (Inv := fun env => ∃ o, env = [some (.par 0 o), some (.dat (.int most)), some (.dat (.str (S sg))), none, none, none, none, none, none, none, none, none] ∧ PotOk o) (P := fun v => IsSh sg v) (n := 1 + m) [some (.par 0 o2), some (.dat (.int most)), some (.dat (.str (S sg))), none, none, none, none, none, none, none, none, none] (by
      rintro dd env ⟨o5, rfl, h5⟩
      obtain ⟨x, o6, e5, hx, h6⟩ := small_spec hs h5
      refine ⟨x, _, ?_, hx, o6, rfl, h6⟩
      unfold stepC
      simp -dsimp only [bnd_some, bnd_none, f_sem, f_rt, f_nx, f_rD, f_rN, f_rS, f_rkO, f_rkD, f_p0, f_p1, f_pk, f_vD, f_vN, f_st0, f_st1, f_call0, f_k0, f_call1, f_c1, f_c2, f_pP, f_pO, f_k1P, f_k1O, f_k2, f_callK, e_nm, e_nmD, e_nmO, e_nmP, e_rdD, e_rdN, e_rdS, e_rkD, e_rkO, e_rkP, e_fzD, e_fzN, e_fzS, e_fkD, e_fkO, e_K, e_aN, e_aC, e_tup, e_lst, e_fzs0, e_fzs1, e_d2, e_kS, e_dB, e_bK, e_tA, e_tO, e_tN, e_eA, e_eO, e_eN, e_if, e_call, e_k1, e_k2, e_isi, e_neg, e_negK, e_ch, g_lt, g_le, g_ge, g_gt, g_ltI, g_sub, g_inS, g_isB, g_isnB, e_add, e_addI, e_ix, e_ixL, e_ixT, e_oN, e_oS, e_soK, e_sl, e_slL, e_slT, e_rev, e_revT, e_revL, h_lenL, h_lenT, h_abs, h_int, h_max, h_min, h_tupL, h_tupT, h_lstL, h_lstT, s_seq, s_nx, s_rt, s_bk, s_ct, s_ret, s_retN, s_nxE, s_bkE, s_if, s_ex, s_as, s_nmF, s_nmT, s_gs0, s_gs1, s_tp, s_tpT, s_ix, s_ixK, s_ixP, s_ixO, s_par, s_ins0, s_ins1, s_inF, s_inT, s_put0, s_put1, e_m, e_ty, e_tyL, e_tyS, e_app, e_appO, e_ext, e_extO, atI_0, atI_1, atI_2, atI_3, atI_4, atI_5, atI_last, PyData.isInt, PyData.isBool, PyData.isStr, PyData.isTuple, PyData.isList, List.map_cons, List.map_nil, List.length_cons, List.length_nil, List.cons_append, List.nil_append, List.replicate, Nat.reduceAdd, Nat.reduceSub, List.getElem?_cons_zero, List.getElem?_cons_succ, List.getElem?_nil, List.set_cons_zero, List.set_cons_succ, Option.bind_some, Option.map_some, Option.bind_none, Option.map_none, Nat.zero_add, Int.reduceLE, Int.reduceLT, Nat.reduceLT, Nat.reduceLeDiff, and_self, and_true, true_and, if_true, if_false, ite_true, ite_false, decide_true, decide_false, ↓reduceIte, Bool.false_eq_true, Bool.not_true, Bool.not_false, List.mem_cons, forall_eq_or_imp, List.not_mem_nil, forall_const, List.all_cons, List.all_nil, Bool.and_true, Bool.and_self, Bool.true_and, e_cNm, e_tYs, e5, e_wipe0, e_wipe1]) ⟨o2, rfl, ho2⟩ (by omega)
  have hr1 : ∀ env, r1K env (some (.int (1 + (m : Int)))) = some (rngD 0 (1 + m), env) := fun env => by
    rw [e_r1K (by omega)]
    have : (1 + (m : Int)).toNat = 1 + m := by omega
    rw [this]
  obtain ⟨p, o4, e4, hp1, hp2, ho4⟩ := draw_spec (o := o3) most ho3 h1 (by omega)
  obtain ⟨k, rfl⟩ := Int.eq_ofNat_of_zero_le hp1
  have hr2 : ∀ env, r1K env (some (.int (1 + (k : Int)))) = some (rngD 0 (1 + k), env) := fun env => by
    rw [e_r1K (by omega)]
    have : (1 + (k : Int)).toNat = 1 + k := by omega
    rw [this]
  have hstn : stock ≠ [] ∧ stock.length ≤ 3 ∧ ∀ x ∈ stock, IsSh sg x := ⟨by intro z; rw [z] at hst; simp at hst; omega, by omega, hsP⟩
  have d0 : DrOk sg [] nine := ⟨rfl, nine_nodup, fun z h => h, fun n h => (by simp at h), fun i n h => (by simp at h), fun a h => (by simp [alongs] at h)⟩
  obtain ⟨env', e5, o5, nodes, left, c3, c8, c9, c10, rfl, hn, hd, ho5⟩ := loopF_inv (g := gNm false 3) (b := xTrB) (Inv := fun i env => ∃ o nodes left c3 c8 c9 c10, env = trE o most sg stock nodes left c3 c8 c9 c10 ∧ nodes.length = i ∧ DrOk sg nodes left ∧ PotOk o)
    (rngD 0 (1 + k)) 0 (trE o4 most sg stock [] nine none none none none) (by
      rintro i d env hd ⟨o5, nodes, left, c3, c8, c9, c10, rfl, hn, hdr, ho5⟩
      obtain ⟨hi, rfl⟩ := rng_get hd
      rw [Nat.zero_add] at hn ⊢
      obtain ⟨n, left', o6, c8', c9', c10', e6, hdr', ho6⟩ := tr_turn (most := most) hs hdr ho5 hstn (by omega) c8 c9 c10
      rw [hn] at e6
      refine ⟨trE o5 most sg stock nodes left (some (.dat (.int (i : Int)))) c8 c9 c10, _, ?_, e6, o6, nodes ++ [n], left', _, c8', c9', c10', rfl, by simp [hn], hdr', ho6⟩
      unfold trE
      simp -dsimp only [bnd_some, bnd_none, f_sem, f_rt, f_nx, f_rD, f_rN, f_rS, f_rkO, f_rkD, f_p0, f_p1, f_pk, f_vD, f_vN, f_st0, f_st1, f_call0, f_k0, f_call1, f_c1, f_c2, f_pP, f_pO, f_k1P, f_k1O, f_k2, f_callK, e_nm, e_nmD, e_nmO, e_nmP, e_rdD, e_rdN, e_rdS, e_rkD, e_rkO, e_rkP, e_fzD, e_fzN, e_fzS, e_fkD, e_fkO, e_K, e_aN, e_aC, e_tup, e_lst, e_fzs0, e_fzs1, e_d2, e_kS, e_dB, e_bK, e_tA, e_tO, e_tN, e_eA, e_eO, e_eN, e_if, e_call, e_k1, e_k2, e_isi, e_neg, e_negK, e_ch, g_lt, g_le, g_ge, g_gt, g_ltI, g_sub, g_inS, g_isB, g_isnB, e_add, e_addI, e_ix, e_ixL, e_ixT, e_oN, e_oS, e_soK, e_sl, e_slL, e_slT, e_rev, e_revT, e_revL, h_lenL, h_lenT, h_abs, h_int, h_max, h_min, h_tupL, h_tupT, h_lstL, h_lstT, s_seq, s_nx, s_rt, s_bk, s_ct, s_ret, s_retN, s_nxE, s_bkE, s_if, s_ex, s_as, s_nmF, s_nmT, s_gs0, s_gs1, s_tp, s_tpT, s_ix, s_ixK, s_ixP, s_ixO, s_par, s_ins0, s_ins1, s_inF, s_inT, s_put0, s_put1, e_m, e_ty, e_tyL, e_tyS, e_app, e_appO, e_ext, e_extO, atI_0, atI_1, atI_2, atI_3, atI_4, atI_5, atI_last, PyData.isInt, PyData.isBool, PyData.isStr, PyData.isTuple, PyData.isList, List.map_cons, List.map_nil, List.length_cons, List.length_nil, List.cons_append, List.nil_append, List.replicate, Nat.reduceAdd, Nat.reduceSub, List.getElem?_cons_zero, List.getElem?_cons_succ, List.getElem?_nil, List.set_cons_zero, List.set_cons_succ, Option.bind_some, Option.map_some, Option.bind_none, Option.map_none, Nat.zero_add, Int.reduceLE, Int.reduceLT, Nat.reduceLT, Nat.reduceLeDiff, and_self, and_true, true_and, if_true, if_false, ite_true, ite_false, decide_true, decide_false, ↓reduceIte, Bool.false_eq_true, Bool.not_true, Bool.not_false, List.mem_cons, forall_eq_or_imp, List.not_mem_nil, forall_const, List.all_cons, List.all_nil, Bool.and_true, Bool.and_self, Bool.true_and]) ⟨o4, [], nine, none, none, none, none, rfl, rfl, d0, ho4⟩
  have hnl : (rngD 0 (1 + k)).length = 1 + k := by simp [rngD]
  rw [hnl, Nat.zero_add] at hn
  refine ⟨sg, nodes, left, o5, ?_, hs, by omega, hd, ho5⟩
  have hnn : nine.map PyData.str = [.str (Str.ofString "root"), .str (Str.ofString "west"), .str (Str.ofString "east"), .str (Str.ofString "north"), .str (Str.ofString "south"), .str (Str.ofString "mid"), .str (Str.ofString "far"), .str (Str.ofString "near"), .str (Str.ofString "old")] := rfl
  have ha0 : alD [] = [.int 0] := rfl
  unfold m__law_tree N__law_tree
  rw [d_tree_eq]
  unfold trE at e5
  rw [hnn, ha0] at e5
  simp only [List.map_nil] at e5
  unfold treeD
  simp -dsimp only [bnd_some, bnd_none, f_sem, f_rt, f_nx, f_rD, f_rN, f_rS, f_rkO, f_rkD, f_p0, f_p1, f_pk, f_vD, f_vN, f_st0, f_st1, f_call0, f_k0, f_call1, f_c1, f_c2, f_pP, f_pO, f_k1P, f_k1O, f_k2, f_callK, e_nm, e_nmD, e_nmO, e_nmP, e_rdD, e_rdN, e_rdS, e_rkD, e_rkO, e_rkP, e_fzD, e_fzN, e_fzS, e_fkD, e_fkO, e_K, e_aN, e_aC, e_tup, e_lst, e_fzs0, e_fzs1, e_d2, e_kS, e_dB, e_bK, e_tA, e_tO, e_tN, e_eA, e_eO, e_eN, e_if, e_call, e_k1, e_k2, e_isi, e_neg, e_negK, e_ch, g_lt, g_le, g_ge, g_gt, g_ltI, g_sub, g_inS, g_isB, g_isnB, e_add, e_addI, e_ix, e_ixL, e_ixT, e_oN, e_oS, e_soK, e_sl, e_slL, e_slT, e_rev, e_revT, e_revL, h_lenL, h_lenT, h_abs, h_int, h_max, h_min, h_tupL, h_tupT, h_lstL, h_lstT, s_seq, s_nx, s_rt, s_bk, s_ct, s_ret, s_retN, s_nxE, s_bkE, s_if, s_ex, s_as, s_nmF, s_nmT, s_gs0, s_gs1, s_tp, s_tpT, s_ix, s_ixK, s_ixP, s_ixO, s_par, s_ins0, s_ins1, s_inF, s_inT, s_put0, s_put1, e_m, e_ty, e_tyL, e_tyS, e_app, e_appO, e_ext, e_extO, atI_0, atI_1, atI_2, atI_3, atI_4, atI_5, atI_last, PyData.isInt, PyData.isBool, PyData.isStr, PyData.isTuple, PyData.isList, List.map_cons, List.map_nil, List.length_cons, List.length_nil, List.cons_append, List.nil_append, List.replicate, Nat.reduceAdd, Nat.reduceSub, List.getElem?_cons_zero, List.getElem?_cons_succ, List.getElem?_nil, List.set_cons_zero, List.set_cons_succ, Option.bind_some, Option.map_some, Option.bind_none, Option.map_none, Nat.zero_add, Int.reduceLE, Int.reduceLT, Nat.reduceLT, Nat.reduceLeDiff, and_self, and_true, true_and, if_true, if_false, ite_true, ite_false, decide_true, decide_false, ↓reduceIte, Bool.false_eq_true, Bool.not_true, Bool.not_false, List.mem_cons, forall_eq_or_imp, List.not_mem_nil, forall_const, List.all_cons, List.all_nil, Bool.and_true, Bool.and_self, Bool.true_and, e1, e_lc, e_iR1, e2, hr1, e_wipe0, e_wipe1, e3, e_rest0, e_rest1, List.getD_cons_zero, List.getD_cons_succ, s_for, e4, hr2, e5]
end EW

/-! k81, mathematics 21: a row of twelve nodes. -/
namespace EW
open PySem L2
def swD : D := shD "once" [97, 98] [[98], [97]] [] []
theorem sg2 : Sg [97, 98] := .inl rfl
theorem sw_ok : ShOk [97, 98] "once" [97, 98] [[98], [97]] [] [] := ⟨.inl rfl, by simp, List.Sublist.refl _, rfl, by simp, by simp, by simp, by simp, by simp⟩
theorem sw_is : IsSh [97, 98] swD := ⟨_, _, _, _, _, rfl, sw_ok⟩
def sw (c : Nat) : Nat := if c = 97 then 98 else 97
theorem sw_row {w : List Nat} (hw : ∀ x ∈ w, x ∈ [97, 98]) : ∀ i, i ≤ w.length → (rowA "once" [97, 98] [[98], [97]] [] [] w i).flatten = (w.take i).map sw
  | 0, _ => rfl
  | i + 1, h => by
    have hi : i < w.length := by omega
    have hc : w[i] ∈ [97, 98] := hw _ (List.getElem_mem hi)
    have hcA : cA w i = w[i] := by unfold cA; rw [List.getD_eq_getElem?_getD, List.getElem?_eq_getElem hi]; rfl
    have ho : ∀ made, outA "once" [97, 98] [[98], [97]] [] [] w i made = [sw w[i]] := fun made => by
      unfold outA fireA
      rw [hcA, decide_eq_true hc]
      have h1 : fitA [] (aheadA "once" w i made) = true := rfl
      have h2 : fitB [] w (i : Int) = true := rfl
      rw [h1, h2]
      simp only [List.mem_cons, List.not_mem_nil, or_false] at hc
      rcases hc with hc | hc <;> rw [hc] <;> rfl
    rw [rowA, List.flatten_append, sw_row hw i (by omega), ho, List.take_succ_eq_append_getElem hi, List.map_append]
    rfl
theorem sw_dau {w : List Nat} (hw : ∀ x ∈ w, x ∈ [97, 98]) (hl : w.length ≤ 900) : dauF w swD = w.map sw := by
  have e := law_daughter_ok sg2 sw_ok hw hl
  rw [sw_row hw w.length (Nat.le_refl _), List.take_length] at e
  unfold dauF swD
  rw [e]
  exact S_cps _
theorem sw_mem {w : List Nat} : ∀ x ∈ w.map sw, x ∈ [97, 98] := fun x hx => by
  obtain ⟨c, _, rfl⟩ := List.mem_map.mp hx
  unfold sw
  split <;> simp
theorem sw_sw {w : List Nat} (hw : ∀ x ∈ w, x ∈ [97, 98]) : (w.map sw).map sw = w := by
  rw [List.map_map]
  conv => rhs; rw [← List.map_id w]
  refine List.map_congr_left fun x hx => ?_
  have := hw x hx
  simp only [List.mem_cons, List.not_mem_nil, or_false] at this
  rcases this with rfl | rfl <;> rfl
theorem sw_run : ∀ (k : Nat) {w : List Nat}, (∀ x ∈ w, x ∈ [97, 98]) → w.length ≤ 900 → runF (List.replicate k swD) w = (if k % 2 = 1 then w.map sw else w) ∧ RunOk [97, 98] (List.replicate k swD) w
  | 0, w, hw, hl => ⟨rfl, hw, by omega⟩
  | k + 1, w, hw, hl => by
    have e := sw_dau hw hl
    obtain ⟨h1, h2⟩ := sw_run k (w := w.map sw) sw_mem (by rw [List.length_map]; exact hl)
    rw [List.replicate_succ]
    refine ⟨?_, sw_is, hw, hl, ?_⟩
    · show runF (List.replicate k swD) (dauF w swD) = _
      rw [e, h1]
      by_cases hk : k % 2 = 1
      · rw [if_pos hk, if_neg (by omega), sw_sw hw]
      · rw [if_neg hk, if_pos (by omega)]
    · rw [e]; exact h2
def nmR (k : Nat) : Str := if k = 0 then S [120] else S [120, 97 + k]
def ndR (ms : List Nat) (k : Nat) : Nd := ⟨nmR k, (k : Int) - 1, if k ∈ ms then [swD] else []⟩
def rowN (ms : List Nat) (k : Nat) : List Nd := (List.range k).map (ndR ms)
def cn (ms : List Nat) (k : Nat) : Nat := ms.countP fun j => decide (j ≤ k)
theorem cn_succ {ms : List Nat} (h : ms.Nodup) (k : Nat) : cn ms (k + 1) = cn ms k + (if k + 1 ∈ ms then 1 else 0) := by
  unfold cn
  induction ms with
  | nil => rfl
  | cons x ms ih =>
    obtain ⟨h1, h2⟩ := List.nodup_cons.mp h
    have ih := ih h2
    rw [List.countP_cons, List.countP_cons, ih]
    by_cases hx : x = k + 1
    · subst hx
      have : k + 1 ∉ ms := h1
      simp [this]
    · by_cases hm : k + 1 ∈ ms
      · have : k + 1 ∈ x :: ms := List.mem_cons_of_mem _ hm
        simp only [this, hm, if_true, decide_eq_true_eq]
        by_cases hk : x ≤ k
        · rw [if_pos hk, if_pos (by omega)]
        · rw [if_neg hk, if_neg (by omega)]
      · have : k + 1 ∉ x :: ms := fun z => (List.mem_cons.mp z).elim (fun e => hx e.symm) hm
        simp only [this, hm, if_false, decide_eq_true_eq]
        by_cases hk : x ≤ k
        · rw [if_pos hk, if_pos (by omega)]
        · rw [if_neg hk, if_neg (by omega)]
theorem cn_zero {ms : List Nat} (h : ∀ x ∈ ms, 1 ≤ x) : cn ms 0 = 0 := by
  unfold cn
  rw [List.countP_eq_zero]
  intro x hx
  have := h x hx
  simp
  omega
theorem rowN_succ (ms : List Nat) (k : Nat) : rowN ms (k + 1) = rowN ms k ++ [ndR ms k] := by
  unfold rowN
  rw [List.range_succ, List.map_append]
  rfl
theorem rowN_along {ms : List Nat} (h : ms.Nodup) (h1 : ∀ x ∈ ms, 1 ≤ x) : ∀ k, alongs (rowN ms k) = (List.range k).map fun j => List.replicate (cn ms j) swD
  | 0 => rfl
  | k + 1 => by
    rw [rowN_succ, alongs_app, rowN_along h h1 k, List.range_succ, List.map_append]
    congr 1
    simp only [List.map_cons, List.map_nil]
    congr 1
    cases k with
    | zero =>
      have h0 : ¬ (0 ∈ ms) := fun z => by have := h1 0 z; omega
      rw [cn_zero h1]
      simp [ndR, alA, h0]
    | succ k =>
      have e1 : (ndR ms (k + 1)).par = (k : Int) := by simp [ndR]
      have e2 : alA (rowN ms (k + 1)) (k : Int) = List.replicate (cn ms k) swD := by
        unfold alA
        rw [if_pos (by omega), rowN_along h h1 (k + 1)]
        have : ((k : Int)).toNat = k := by omega
        rw [this, List.getD_eq_getElem?_getD, List.getElem?_map, List.getElem?_range (by omega)]
        rfl
      rw [e1, e2, cn_succ h]
      show List.replicate (cn ms k) swD ++ (if k + 1 ∈ ms then [swD] else []) = _
      by_cases hm : k + 1 ∈ ms
      · rw [if_pos hm, if_pos hm, List.replicate_succ']
      · rw [if_neg hm, if_neg hm]; simp
def nmsR : List Str := (List.range 12).map nmR
theorem rowN_ok {ms : List Nat} (h : ms.Nodup) (h1 : ∀ x ∈ ms, 1 ≤ x) (hl : ms.length ≤ 6) : TreeOk [97, 98] (rowN ms 12) ∧ NmOk (rowN ms 12) := by
  have hn : (rowN ms 12).map Nd.name = nmsR := by unfold rowN nmsR; rw [List.map_map]; rfl
  have hlen : (rowN ms 12).length = 12 := by unfold rowN; simp
  have hnm : (nmsR.all fun z => isT (m_is_name none [.str z])) = true := by decide +kernel
  have hok : (nmsR.all fun z => decide (z.cps.toList.length ≤ 8) && z.cps.toList.all fun c => decide (c < 1000)) = true := by decide +kernel
  have hmem : ∀ n ∈ rowN ms 12, n.name ∈ nmsR := fun n hm => by rw [← hn]; exact List.mem_map.mpr ⟨n, hm, rfl⟩
  have hat : ∀ (i : Nat) (n : Nd), (rowN ms 12)[i]? = some n → n = ndR ms i := fun i n hi => by
    unfold rowN at hi
    rw [List.getElem?_map, Option.map_eq_some_iff] at hi
    obtain ⟨x, hx, rfl⟩ := hi
    obtain ⟨_, e⟩ := List.getElem?_eq_some_iff.mp hx
    rw [List.getElem_range] at e
    rw [e]
  have hcn : ∀ k, cn ms k ≤ 6 := fun k => Nat.le_trans List.countP_le_length hl
  refine ⟨⟨sg2, by omega, by omega, ?_, fun n hm => isT_ok (List.all_eq_true.mp hnm _ (hmem n hm)), fun n hi => ?_, fun i n hi => ?_, fun a ha => ?_⟩, fun n hm => ?_⟩
  · rw [hn]; decide +kernel
  · rw [hat 0 n hi]
    have h0 : ¬ (0 ∈ ms) := fun z => by have := h1 0 z; omega
    simp [ndR, h0]
  · rw [hat _ n hi]
    refine ⟨by simp [ndR], by simp [ndR], ?_, ?_⟩
    · simp only [ndR]; split <;> simp
    · simp only [ndR]
      intro d hd
      split at hd
      · rw [List.mem_singleton] at hd; subst hd; exact sw_is
      · simp at hd
  · rw [rowN_along h h1] at ha
    obtain ⟨k, _, rfl⟩ := List.mem_map.mp ha
    rw [List.length_replicate]
    exact hcn k
  · have h2 := List.all_eq_true.mp hok _ (hmem n hm)
    rw [Bool.and_eq_true, List.all_eq_true] at h2
    exact ⟨n.name.cps.toList, (S_of _).symm, of_decide_eq_true h2.1, fun c hc => of_decide_eq_true (h2.2 c hc)⟩
def rowF (ms w : List Nat) (k : Nat) : D := .tuple [.str (nmR k), .str (S (if cn ms k % 2 = 1 then w.map sw else w))]
theorem rowN_forms {ms w : List Nat} (h : ms.Nodup) (h1 : ∀ x ∈ ms, 1 ≤ x) (hw : ∀ x ∈ w, x ∈ [97, 98]) (hl : w.length ≤ 60) : FormOk [97, 98] (rowN ms 12) w ∧ formsD (rowN ms 12) w = (List.range 12).map (rowF ms w) := by
  refine ⟨⟨hw, hl, fun a ha => ?_⟩, ?_⟩
  · rw [rowN_along h h1] at ha
    obtain ⟨k, _, rfl⟩ := List.mem_map.mp ha
    exact (sw_run _ hw (by omega)).2
  · unfold formsD
    rw [rowN_along h h1]
    unfold rowN
    rw [List.zip_map', List.map_map]
    refine List.map_congr_left fun k _ => ?_
    simp only [Function.comp_apply, rowF]
    rw [(sw_run _ hw (by omega)).1]
    rfl
theorem rowN_ln (ms : List Nat) : lnD (rowN ms 12) = [.str (S [120, 108])] := rfl
end EW

/-! k81, mathematics 22: the walk of the row of twelve. -/
namespace EW
open PySem L2
def intsD (l : List Nat) : List D := l.map fun (n : Nat) => .int (n : Int)
theorem intsD_dep (l : List Nat) : PyData.depthAll (intsD l) ≤ 1 := by
  unfold intsD
  induction l with
  | nil => simp [PyData.depthAll]
  | cons n ns ih => simpa [PyData.depthAll, PyData.depth] using ih
theorem g_inInts (l : List Nat) (k : Nat) : gIn (.int (k : Int)) (.list (intsD l)) = some (.bool (decide (k ∈ l))) := by
  rw [g_inL (by have := intsD_dep l; omega)]
  congr 2
  unfold intsD
  rw [List.any_map]
  induction l with
  | nil => rfl
  | cons n l ih =>
    rw [List.any_cons, ih]
    simp only [Function.comp_apply, eqv_int, List.mem_cons]
    by_cases h : k = n
    · subst h; simp
    · have : ¬ ((n : Int) = (k : Int)) := by omega
      simp [h, this]
structure PkOk (many left : List Nat) : Prop where
  ln : many.length + left.length = 11
  nd : (many ++ left).Nodup
  rg : ∀ x ∈ many ++ left, 1 ≤ x ∧ x ≤ 11
def rrE (o : Ob) (many left : List Nat) (nodes : List D) : Env := [some (.par 0 o), some (.own (.l (intsD left))), none, none, none, some (.dat swD), some (.own (.l nodes)), some (.own (.l (intsD many))), none, none, none, none]
def xRrT : DT := dB (d2 (dCall (aCons (dNm 7) (aNil)) (k1 hLen)) (dK (.int 6)) (kS gLt))
def xRrW : DS := sEx (dM "list" (dNm 7) (aCons (dM "list" (dNm 1) (aCons (dF 2 true m__law_draw (aCons (dNm 0) (aCons (dCall (aCons (dNm 1) (aNil)) (k1 hLen)) (aNil)))) (aNil)) kPopAt) (aNil)) kApp)
theorem intsD_len (l : List Nat) : (intsD l).length = l.length := by unfold intsD; simp
theorem intsD_app (l : List Nat) (k : Nat) : intsD l ++ [.int (k : Int)] = intsD (l ++ [k]) := by unfold intsD; simp
theorem rr_loop {o : Ob} {nodes : List D} (ho : PotOk o) : ∃ many left o', loopW xRrT xRrW fuel (rrE o [] [1, 2, 3, 4, 5, 6, 7, 8, 9, 10, 11] nodes) = some (.nx (rrE o' many left nodes)) ∧ PkOk many left ∧ many.length = 6 ∧ PotOk o' := by
  obtain ⟨env', h1, many, left, o', rfl, h2, h3, h4⟩ := loopW_inv (c := xRrT) (b := xRrW) (Inv := fun m env => ∃ many left o, env = rrE o many left nodes ∧ PkOk many left ∧ many.length + m = 6 ∧ PotOk o) (Post := fun env => ∃ many left o, env = rrE o many left nodes ∧ PkOk many left ∧ many.length = 6 ∧ PotOk o) (by
    rintro m env ⟨many, left, o, rfl, hp, hm, ho⟩
    have hln := hp.ln
    by_cases h : many.length < 6
    · obtain ⟨r, o2, e, g1, g2, g3⟩ := draw_spec (o := o) (((intsD left).length : Nat) : Int) ho (by rw [intsD_len]; omega) (by rw [intsD_len]; omega)
      rw [intsD_len] at g2
      have hr : r.toNat < left.length := by omega
      have hpp := perm_pop hr many hp.nd
      have hlt : (many.length : Int) < 6 := by omega
      refine .inr ⟨rrE o many left nodes, rrE o2 (many ++ [left[r.toNat]]) (left.eraseIdx r.toNat) nodes, m - 1, ?_, ?_, by omega, _, _, o2, rfl, ⟨?_, hpp.1, fun x hx => hp.rg x (hpp.2 x hx)⟩, ?_, g3⟩
      · unfold xRrT rrE
        simp -dsimp only [bnd_some, bnd_none, f_sem, f_rt, f_nx, f_rD, f_rN, f_rS, f_rkO, f_rkD, f_p0, f_p1, f_pk, f_vD, f_vN, f_st0, f_st1, f_call0, f_k0, f_call1, f_c1, f_c2, f_pP, f_pO, f_k1P, f_k1O, f_k2, f_callK, e_nm, e_nmD, e_nmO, e_nmP, e_rdD, e_rdN, e_rdS, e_rkD, e_rkO, e_rkP, e_fzD, e_fzN, e_fzS, e_fkD, e_fkO, e_K, e_aN, e_aC, e_tup, e_lst, e_fzs0, e_fzs1, e_d2, e_kS, e_dB, e_bK, e_tA, e_tO, e_tN, e_eA, e_eO, e_eN, e_if, e_call, e_k1, e_k2, e_isi, e_neg, e_negK, e_ch, g_lt, g_le, g_ge, g_gt, g_ltI, g_sub, g_inS, g_isB, g_isnB, e_add, e_addI, e_ix, e_ixL, e_ixT, e_oN, e_oS, e_soK, e_sl, e_slL, e_slT, e_rev, e_revT, e_revL, h_lenL, h_lenT, h_abs, h_int, h_max, h_min, h_tupL, h_tupT, h_lstL, h_lstT, s_seq, s_nx, s_rt, s_bk, s_ct, s_ret, s_retN, s_nxE, s_bkE, s_if, s_ex, s_as, s_nmF, s_nmT, s_gs0, s_gs1, s_tp, s_tpT, s_ix, s_ixK, s_ixP, s_ixO, s_par, s_ins0, s_ins1, s_inF, s_inT, s_put0, s_put1, e_m, e_ty, e_tyL, e_tyS, e_app, e_appO, e_ext, e_extO, atI_0, atI_1, atI_2, atI_3, atI_4, atI_5, atI_last, PyData.isInt, PyData.isBool, PyData.isStr, PyData.isTuple, PyData.isList, List.map_cons, List.map_nil, List.length_cons, List.length_nil, List.cons_append, List.nil_append, List.replicate, Nat.reduceAdd, Nat.reduceSub, List.getElem?_cons_zero, List.getElem?_cons_succ, List.getElem?_nil, List.set_cons_zero, List.set_cons_succ, Option.bind_some, Option.map_some, Option.bind_none, Option.map_none, Nat.zero_add, Int.reduceLE, Int.reduceLT, Nat.reduceLT, Nat.reduceLeDiff, and_self, and_true, true_and, if_true, if_false, ite_true, ite_false, decide_true, decide_false, ↓reduceIte, Bool.false_eq_true, Bool.not_true, Bool.not_false, List.mem_cons, forall_eq_or_imp, List.not_mem_nil, forall_const, List.all_cons, List.all_nil, Bool.and_true, Bool.and_self, Bool.true_and, intsD_len, hlt]
      · have hpo : kPopAt (.slot 1) [.dat (.int r)] (rrE o2 many left nodes) = some (.dat (.int (left[r.toNat] : Nat)), rrE o2 many (left.eraseIdx r.toNat) nodes) := by
          rw [e_popO (ds := intsD left) rfl rfl (by omega), PySem.seqIndex_of g1 (by rw [intsD_len]; exact g2), bnd_some, List.getElem?_eq_getElem (by rw [intsD_len]; exact hr)]
          unfold intsD
          simp only [bnd_some, List.getElem_map, erase_map]
          rfl
        have hml : (intsD many).length ≤ 1000000 := by rw [intsD_len]; omega
        unfold xRrW
        unfold rrE at hpo ⊢
        rw [← intsD_app]
        simp -dsimp only [bnd_some, bnd_none, f_sem, f_rt, f_nx, f_rD, f_rN, f_rS, f_rkO, f_rkD, f_p0, f_p1, f_pk, f_vD, f_vN, f_st0, f_st1, f_call0, f_k0, f_call1, f_c1, f_c2, f_pP, f_pO, f_k1P, f_k1O, f_k2, f_callK, e_nm, e_nmD, e_nmO, e_nmP, e_rdD, e_rdN, e_rdS, e_rkD, e_rkO, e_rkP, e_fzD, e_fzN, e_fzS, e_fkD, e_fkO, e_K, e_aN, e_aC, e_tup, e_lst, e_fzs0, e_fzs1, e_d2, e_kS, e_dB, e_bK, e_tA, e_tO, e_tN, e_eA, e_eO, e_eN, e_if, e_call, e_k1, e_k2, e_isi, e_neg, e_negK, e_ch, g_lt, g_le, g_ge, g_gt, g_ltI, g_sub, g_inS, g_isB, g_isnB, e_add, e_addI, e_ix, e_ixL, e_ixT, e_oN, e_oS, e_soK, e_sl, e_slL, e_slT, e_rev, e_revT, e_revL, h_lenL, h_lenT, h_abs, h_int, h_max, h_min, h_tupL, h_tupT, h_lstL, h_lstT, s_seq, s_nx, s_rt, s_bk, s_ct, s_ret, s_retN, s_nxE, s_bkE, s_if, s_ex, s_as, s_nmF, s_nmT, s_gs0, s_gs1, s_tp, s_tpT, s_ix, s_ixK, s_ixP, s_ixO, s_par, s_ins0, s_ins1, s_inF, s_inT, s_put0, s_put1, e_m, e_ty, e_tyL, e_tyS, e_app, e_appO, e_ext, e_extO, atI_0, atI_1, atI_2, atI_3, atI_4, atI_5, atI_last, PyData.isInt, PyData.isBool, PyData.isStr, PyData.isTuple, PyData.isList, List.map_cons, List.map_nil, List.length_cons, List.length_nil, List.cons_append, List.nil_append, List.replicate, Nat.reduceAdd, Nat.reduceSub, List.getElem?_cons_zero, List.getElem?_cons_succ, List.getElem?_nil, List.set_cons_zero, List.set_cons_succ, Option.bind_some, Option.map_some, Option.bind_none, Option.map_none, Nat.zero_add, Int.reduceLE, Int.reduceLT, Nat.reduceLT, Nat.reduceLeDiff, and_self, and_true, true_and, if_true, if_false, ite_true, ite_false, decide_true, decide_false, ↓reduceIte, Bool.false_eq_true, Bool.not_true, Bool.not_false, List.mem_cons, forall_eq_or_imp, List.not_mem_nil, forall_const, List.all_cons, List.all_nil, Bool.and_true, Bool.and_self, Bool.true_and, e, hpo, hml]
      · rw [List.length_append, List.length_eraseIdx, if_pos hr]
        simp only [List.length_cons, List.length_nil]
        omega
      · rw [List.length_append]
        simp only [List.length_cons, List.length_nil]
        omega
    · refine .inl ⟨rrE o many left nodes, ?_, many, left, o, rfl, hp, by omega, ho⟩
      have hlt : ¬ (many.length : Int) < 6 := by omega
      unfold xRrT rrE
      simp -dsimp only [bnd_some, bnd_none, f_sem, f_rt, f_nx, f_rD, f_rN, f_rS, f_rkO, f_rkD, f_p0, f_p1, f_pk, f_vD, f_vN, f_st0, f_st1, f_call0, f_k0, f_call1, f_c1, f_c2, f_pP, f_pO, f_k1P, f_k1O, f_k2, f_callK, e_nm, e_nmD, e_nmO, e_nmP, e_rdD, e_rdN, e_rdS, e_rkD, e_rkO, e_rkP, e_fzD, e_fzN, e_fzS, e_fkD, e_fkO, e_K, e_aN, e_aC, e_tup, e_lst, e_fzs0, e_fzs1, e_d2, e_kS, e_dB, e_bK, e_tA, e_tO, e_tN, e_eA, e_eO, e_eN, e_if, e_call, e_k1, e_k2, e_isi, e_neg, e_negK, e_ch, g_lt, g_le, g_ge, g_gt, g_ltI, g_sub, g_inS, g_isB, g_isnB, e_add, e_addI, e_ix, e_ixL, e_ixT, e_oN, e_oS, e_soK, e_sl, e_slL, e_slT, e_rev, e_revT, e_revL, h_lenL, h_lenT, h_abs, h_int, h_max, h_min, h_tupL, h_tupT, h_lstL, h_lstT, s_seq, s_nx, s_rt, s_bk, s_ct, s_ret, s_retN, s_nxE, s_bkE, s_if, s_ex, s_as, s_nmF, s_nmT, s_gs0, s_gs1, s_tp, s_tpT, s_ix, s_ixK, s_ixP, s_ixO, s_par, s_ins0, s_ins1, s_inF, s_inT, s_put0, s_put1, e_m, e_ty, e_tyL, e_tyS, e_app, e_appO, e_ext, e_extO, atI_0, atI_1, atI_2, atI_3, atI_4, atI_5, atI_last, PyData.isInt, PyData.isBool, PyData.isStr, PyData.isTuple, PyData.isList, List.map_cons, List.map_nil, List.length_cons, List.length_nil, List.cons_append, List.nil_append, List.replicate, Nat.reduceAdd, Nat.reduceSub, List.getElem?_cons_zero, List.getElem?_cons_succ, List.getElem?_nil, List.set_cons_zero, List.set_cons_succ, Option.bind_some, Option.map_some, Option.bind_none, Option.map_none, Nat.zero_add, Int.reduceLE, Int.reduceLT, Nat.reduceLT, Nat.reduceLeDiff, and_self, and_true, true_and, if_true, if_false, ite_true, ite_false, decide_true, decide_false, ↓reduceIte, Bool.false_eq_true, Bool.not_true, Bool.not_false, List.mem_cons, forall_eq_or_imp, List.not_mem_nil, forall_const, List.all_cons, List.all_nil, Bool.and_true, Bool.and_self, Bool.true_and, intsD_len, hlt]) fuel 6 (rrE o [] [1, 2, 3, 4, 5, 6, 7, 8, 9, 10, 11] nodes) (by have := fuel_ge3; omega) ⟨[], _, o, rfl, ⟨rfl, by decide, by decide⟩, rfl, ho⟩
  exact ⟨many, left, o', h1, h2, h3, h4⟩
/-! the nodes -/
def rnE (o : Ob) (many left : List Nat) (nodes : List D) (c2 : Option Cell) : Env := [some (.par 0 o), some (.own (.l (intsD left))), c2, none, none, some (.dat swD), some (.own (.l nodes)), some (.own (.l (intsD many))), none, none, none, none]
def xRnB : DS := sEx (dM "list" (dNm 6) (aCons (dTup (aCons (d2 (dK (.str "x")) (d2 (dK (.str "abcdefghijkl")) (dNm 2) kIx) kAdd) (aCons (d2 (dNm 2) (dK (.int 1)) (kS gSub)) (aCons (dIf (dB (d2 (dNm 2) (dNm 7) (kS gIn))) (dTup (aCons (dNm 5) (aNil))) (dTup (aNil))) (aNil))))) (aNil)) kApp)
theorem rn_turn {o : Ob} {many left : List Nat} {k : Nat} (h0 : 1 ≤ k) (h1 : k ≤ 11) : xRnB (rnE o many left ((rowN many k).map Nd.d) (some (.dat (.int (k : Int))))) = some (.nx (rnE o many left ((rowN many (k + 1)).map Nd.d) (some (.dat (.int (k : Int)))))) := by
  have hix : ∀ env, ixK2 env (some (.str (Str.ofString "abcdefghijkl"))) (some (.int (k : Int))) = some (.dat (.str (S [97 + k])), env) := fun env => by
    have : k = 1 ∨ k = 2 ∨ k = 3 ∨ k = 4 ∨ k = 5 ∨ k = 6 ∨ k = 7 ∨ k = 8 ∨ k = 9 ∨ k = 10 ∨ k = 11 := by omega
    rcases this with rfl | rfl | rfl | rfl | rfl | rfl | rfl | rfl | rfl | rfl | rfl <;> rfl
  have hadd : ∀ env, addK2 env (some (.str (Str.ofString "x"))) (some (.str (S [97 + k]))) = some (.dat (.str (nmR k)), env) := fun env => by
    rw [show Str.ofString "x" = S [120] from rfl, e_addS (by rw [S_len, S_len]; simp), S_app]
    unfold nmR
    rw [if_neg (by omega)]
    rfl
  have hl : ((rowN many k).map Nd.d).length ≤ 1000000 := by unfold rowN; simp; omega
  have hs : (rowN many (k + 1)).map Nd.d = (rowN many k).map Nd.d ++ [.tuple [.str (nmR k), .int ((k : Int) - 1), .tuple (if k ∈ many then [swD] else [])]] := by
    rw [rowN_succ, List.map_append]
    rfl
  unfold xRnB rnE
  rw [hs]
  by_cases hm : k ∈ many
  · simp -dsimp only [bnd_some, bnd_none, f_sem, f_rt, f_nx, f_rD, f_rN, f_rS, f_rkO, f_rkD, f_p0, f_p1, f_pk, f_vD, f_vN, f_st0, f_st1, f_call0, f_k0, f_call1, f_c1, f_c2, f_pP, f_pO, f_k1P, f_k1O, f_k2, f_callK, e_nm, e_nmD, e_nmO, e_nmP, e_rdD, e_rdN, e_rdS, e_rkD, e_rkO, e_rkP, e_fzD, e_fzN, e_fzS, e_fkD, e_fkO, e_K, e_aN, e_aC, e_tup, e_lst, e_fzs0, e_fzs1, e_d2, e_kS, e_dB, e_bK, e_tA, e_tO, e_tN, e_eA, e_eO, e_eN, e_if, e_call, e_k1, e_k2, e_isi, e_neg, e_negK, e_ch, g_lt, g_le, g_ge, g_gt, g_ltI, g_sub, g_inS, g_isB, g_isnB, e_add, e_addI, e_ix, e_ixL, e_ixT, e_oN, e_oS, e_soK, e_sl, e_slL, e_slT, e_rev, e_revT, e_revL, h_lenL, h_lenT, h_abs, h_int, h_max, h_min, h_tupL, h_tupT, h_lstL, h_lstT, s_seq, s_nx, s_rt, s_bk, s_ct, s_ret, s_retN, s_nxE, s_bkE, s_if, s_ex, s_as, s_nmF, s_nmT, s_gs0, s_gs1, s_tp, s_tpT, s_ix, s_ixK, s_ixP, s_ixO, s_par, s_ins0, s_ins1, s_inF, s_inT, s_put0, s_put1, e_m, e_ty, e_tyL, e_tyS, e_app, e_appO, e_ext, e_extO, atI_0, atI_1, atI_2, atI_3, atI_4, atI_5, atI_last, PyData.isInt, PyData.isBool, PyData.isStr, PyData.isTuple, PyData.isList, List.map_cons, List.map_nil, List.length_cons, List.length_nil, List.cons_append, List.nil_append, List.replicate, Nat.reduceAdd, Nat.reduceSub, List.getElem?_cons_zero, List.getElem?_cons_succ, List.getElem?_nil, List.set_cons_zero, List.set_cons_succ, Option.bind_some, Option.map_some, Option.bind_none, Option.map_none, Nat.zero_add, Int.reduceLE, Int.reduceLT, Nat.reduceLT, Nat.reduceLeDiff, and_self, and_true, true_and, if_true, if_false, ite_true, ite_false, decide_true, decide_false, ↓reduceIte, Bool.false_eq_true, Bool.not_true, Bool.not_false, List.mem_cons, forall_eq_or_imp, List.not_mem_nil, forall_const, List.all_cons, List.all_nil, Bool.and_true, Bool.and_self, Bool.true_and, hix, hadd, g_inInts, hm, hl]
  · simp -dsimp only [bnd_some, bnd_none, f_sem, f_rt, f_nx, f_rD, f_rN, f_rS, f_rkO, f_rkD, f_p0, f_p1, f_pk, f_vD, f_vN, f_st0, f_st1, f_call0, f_k0, f_call1, f_c1, f_c2, f_pP, f_pO, f_k1P, f_k1O, f_k2, f_callK, e_nm, e_nmD, e_nmO, e_nmP, e_rdD, e_rdN, e_rdS, e_rkD, e_rkO, e_rkP, e_fzD, e_fzN, e_fzS, e_fkD, e_fkO, e_K, e_aN, e_aC, e_tup, e_lst, e_fzs0, e_fzs1, e_d2, e_kS, e_dB, e_bK, e_tA, e_tO, e_tN, e_eA, e_eO, e_eN, e_if, e_call, e_k1, e_k2, e_isi, e_neg, e_negK, e_ch, g_lt, g_le, g_ge, g_gt, g_ltI, g_sub, g_inS, g_isB, g_isnB, e_add, e_addI, e_ix, e_ixL, e_ixT, e_oN, e_oS, e_soK, e_sl, e_slL, e_slT, e_rev, e_revT, e_revL, h_lenL, h_lenT, h_abs, h_int, h_max, h_min, h_tupL, h_tupT, h_lstL, h_lstT, s_seq, s_nx, s_rt, s_bk, s_ct, s_ret, s_retN, s_nxE, s_bkE, s_if, s_ex, s_as, s_nmF, s_nmT, s_gs0, s_gs1, s_tp, s_tpT, s_ix, s_ixK, s_ixP, s_ixO, s_par, s_ins0, s_ins1, s_inF, s_inT, s_put0, s_put1, e_m, e_ty, e_tyL, e_tyS, e_app, e_appO, e_ext, e_extO, atI_0, atI_1, atI_2, atI_3, atI_4, atI_5, atI_last, PyData.isInt, PyData.isBool, PyData.isStr, PyData.isTuple, PyData.isList, List.map_cons, List.map_nil, List.length_cons, List.length_nil, List.cons_append, List.nil_append, List.replicate, Nat.reduceAdd, Nat.reduceSub, List.getElem?_cons_zero, List.getElem?_cons_succ, List.getElem?_nil, List.set_cons_zero, List.set_cons_succ, Option.bind_some, Option.map_some, Option.bind_none, Option.map_none, Nat.zero_add, Int.reduceLE, Int.reduceLT, Nat.reduceLT, Nat.reduceLeDiff, and_self, and_true, true_and, if_true, if_false, ite_true, ite_false, decide_true, decide_false, ↓reduceIte, Bool.false_eq_true, Bool.not_true, Bool.not_false, List.mem_cons, forall_eq_or_imp, List.not_mem_nil, forall_const, List.all_cons, List.all_nil, Bool.and_true, Bool.and_self, Bool.true_and, hix, hadd, g_inInts, hm, hl]
theorem rn_loop {o : Ob} {many left : List Nat} : ∃ c2, loopF (gNm false 2) xRnB (rngD 1 11) (rnE o many left ((rowN many 1).map Nd.d) none) = some (.nx (rnE o many left ((rowN many 12).map Nd.d) c2)) := by
  obtain ⟨env', h1, c2, h2⟩ := loopF_inv (g := gNm false 2) (b := xRnB) (Inv := fun i env => ∃ c2, env = rnE o many left ((rowN many i).map Nd.d) c2) (rngD 1 11) 1 (rnE o many left ((rowN many 1).map Nd.d) none) (by
    rintro i d env hd ⟨c2, rfl⟩
    unfold rngD at hd
    rw [List.getElem?_map, Option.map_eq_some_iff] at hd
    obtain ⟨x, hx, rfl⟩ := hd
    obtain ⟨hi, e⟩ := List.getElem?_eq_some_iff.mp hx
    rw [List.length_range] at hi
    rw [List.getElem_range] at e
    subst e
    have e1 : (1 : Int) + (i : Int) = ((1 + i : Nat) : Int) := by omega
    rw [e1]
    refine ⟨rnE o many left ((rowN many (1 + i)).map Nd.d) (some (.dat (.int ((1 + i : Nat) : Int)))), _, ?_, rn_turn (by omega) (by omega), _, rfl⟩
    unfold rnE
    simp -dsimp only [bnd_some, bnd_none, f_sem, f_rt, f_nx, f_rD, f_rN, f_rS, f_rkO, f_rkD, f_p0, f_p1, f_pk, f_vD, f_vN, f_st0, f_st1, f_call0, f_k0, f_call1, f_c1, f_c2, f_pP, f_pO, f_k1P, f_k1O, f_k2, f_callK, e_nm, e_nmD, e_nmO, e_nmP, e_rdD, e_rdN, e_rdS, e_rkD, e_rkO, e_rkP, e_fzD, e_fzN, e_fzS, e_fkD, e_fkO, e_K, e_aN, e_aC, e_tup, e_lst, e_fzs0, e_fzs1, e_d2, e_kS, e_dB, e_bK, e_tA, e_tO, e_tN, e_eA, e_eO, e_eN, e_if, e_call, e_k1, e_k2, e_isi, e_neg, e_negK, e_ch, g_lt, g_le, g_ge, g_gt, g_ltI, g_sub, g_inS, g_isB, g_isnB, e_add, e_addI, e_ix, e_ixL, e_ixT, e_oN, e_oS, e_soK, e_sl, e_slL, e_slT, e_rev, e_revT, e_revL, h_lenL, h_lenT, h_abs, h_int, h_max, h_min, h_tupL, h_tupT, h_lstL, h_lstT, s_seq, s_nx, s_rt, s_bk, s_ct, s_ret, s_retN, s_nxE, s_bkE, s_if, s_ex, s_as, s_nmF, s_nmT, s_gs0, s_gs1, s_tp, s_tpT, s_ix, s_ixK, s_ixP, s_ixO, s_par, s_ins0, s_ins1, s_inF, s_inT, s_put0, s_put1, e_m, e_ty, e_tyL, e_tyS, e_app, e_appO, e_ext, e_extO, atI_0, atI_1, atI_2, atI_3, atI_4, atI_5, atI_last, PyData.isInt, PyData.isBool, PyData.isStr, PyData.isTuple, PyData.isList, List.map_cons, List.map_nil, List.length_cons, List.length_nil, List.cons_append, List.nil_append, List.replicate, Nat.reduceAdd, Nat.reduceSub, List.getElem?_cons_zero, List.getElem?_cons_succ, List.getElem?_nil, List.set_cons_zero, List.set_cons_succ, Option.bind_some, Option.map_some, Option.bind_none, Option.map_none, Nat.zero_add, Int.reduceLE, Int.reduceLT, Nat.reduceLT, Nat.reduceLeDiff, and_self, and_true, true_and, if_true, if_false, ite_true, ite_false, decide_true, decide_false, ↓reduceIte, Bool.false_eq_true, Bool.not_true, Bool.not_false, List.mem_cons, forall_eq_or_imp, List.not_mem_nil, forall_const, List.all_cons, List.all_nil, Bool.and_true, Bool.and_self, Bool.true_and]) ⟨none, rfl⟩
  have : (rngD 1 11).length = 11 := by simp [rngD]
  rw [this] at h2
  exact ⟨c2, by rw [h1, h2]⟩
end EW

/-! k81, mathematics 23: the row of twelve, looked at. -/
namespace EW
open PySem L2
section
variable {o : Ob} {many left w : List Nat} {tr : D}
def rdE' (o : Ob) (many left w : List Nat) (tr : D) (due : List D) (c2 c7 : Option Cell) : Env := [some (.par 0 o), some (.own (.l (intsD left))), c2, some (.dat (.str (S (w.map sw)))), some (.own (.l due)), some (.dat swD), some (.own (.l ((rowN many 12).map Nd.d))), c7, some (.dat tr), some (.dat (.str (S w))), none, none]
def xRdC : DE := dLc [11] (iIt (dNm 7)) (cNm 11) (dB (d2 (dNm 11) (dNm 2) (kS gLe))) (dNm 11)
def xRdB : DS := sEx (dM "list" (dNm 4) (aCons (dTup (aCons (d2 (d2 (dNm 6) (dNm 2) kIx) (dK (.int 0)) kIx) (aCons (dIf (dB (d2 (d2 (dCall (aCons xRdC (aNil)) (k1 hLen)) (dK (.int 2)) (kS gMod)) (dK (.int 1)) (kS gEq))) (dNm 3) (dNm 9)) (aNil)))) (aNil)) kApp)
def leψ (k : Nat) : D → Option D
  | .int n => if n ≤ (k : Int) then some (.int n) else none
  | _ => none
theorem le_len (many : List Nat) (k : Nat) : ((intsD many).filterMap (leψ k)).length = cn many k := by
  unfold intsD cn
  induction many with
  | nil => rfl
  | cons n l ih =>
    rw [List.countP_cons, List.map_cons, List.filterMap_cons]
    by_cases h : n ≤ k
    · have : (n : Int) ≤ (k : Int) := by omega
      simp only [leψ, this, if_true, List.length_cons, ih, decide_eq_true h]
    · have : ¬ (n : Int) ≤ (k : Int) := by omega
      simp only [leψ, this, if_false, ih, decide_eq_false h]
      simp
theorem rd_cond {k : Nat} (hm : many.length = 6) (due : List D) (c7 : Option Cell) (h7 : c7 = some (.own (.l (intsD many))) ∨ c7 = some (.dat (.list (intsD many)))) :
    xRdC (rdE' o many left w tr due (some (.dat (.int (k : Int)))) c7) = some (.new (.l ((intsD many).filterMap (leψ k))), rdE' o many left w tr due (some (.dat (.int (k : Int)))) (some (.dat (.list (intsD many))))) := by
  have hc := loopC_fm (vs := [11]) (g := cNm 11) (tt := dB (d2 (dNm 11) (dNm 2) (kS gLe))) (fe := dNm 11) (ψ := leψ k) (intsD many) [] (rdE' o many left w tr due (some (.dat (.int (k : Int)))) (some (.dat (.list (intsD many))))) (fun d hd => by
    unfold intsD at hd
    obtain ⟨n, _, rfl⟩ := List.mem_map.mp hd
    unfold stepC rdE' leψ
    by_cases h : (n : Int) ≤ (k : Int)
    · simp -dsimp only [bnd_some, bnd_none, f_sem, f_rt, f_nx, f_rD, f_rN, f_rS, f_rkO, f_rkD, f_p0, f_p1, f_pk, f_vD, f_vN, f_st0, f_st1, f_call0, f_k0, f_call1, f_c1, f_c2, f_pP, f_pO, f_k1P, f_k1O, f_k2, f_callK, e_nm, e_nmD, e_nmO, e_nmP, e_rdD, e_rdN, e_rdS, e_rkD, e_rkO, e_rkP, e_fzD, e_fzN, e_fzS, e_fkD, e_fkO, e_K, e_aN, e_aC, e_tup, e_lst, e_fzs0, e_fzs1, e_d2, e_kS, e_dB, e_bK, e_tA, e_tO, e_tN, e_eA, e_eO, e_eN, e_if, e_call, e_k1, e_k2, e_isi, e_neg, e_negK, e_ch, g_lt, g_le, g_ge, g_gt, g_ltI, g_sub, g_inS, g_isB, g_isnB, e_add, e_addI, e_ix, e_ixL, e_ixT, e_oN, e_oS, e_soK, e_sl, e_slL, e_slT, e_rev, e_revT, e_revL, h_lenL, h_lenT, h_abs, h_int, h_max, h_min, h_tupL, h_tupT, h_lstL, h_lstT, s_seq, s_nx, s_rt, s_bk, s_ct, s_ret, s_retN, s_nxE, s_bkE, s_if, s_ex, s_as, s_nmF, s_nmT, s_gs0, s_gs1, s_tp, s_tpT, s_ix, s_ixK, s_ixP, s_ixO, s_par, s_ins0, s_ins1, s_inF, s_inT, s_put0, s_put1, e_m, e_ty, e_tyL, e_tyS, e_app, e_appO, e_ext, e_extO, atI_0, atI_1, atI_2, atI_3, atI_4, atI_5, atI_last, PyData.isInt, PyData.isBool, PyData.isStr, PyData.isTuple, PyData.isList, List.map_cons, List.map_nil, List.length_cons, List.length_nil, List.cons_append, List.nil_append, List.replicate, Nat.reduceAdd, Nat.reduceSub, List.getElem?_cons_zero, List.getElem?_cons_succ, List.getElem?_nil, List.set_cons_zero, List.set_cons_succ, Option.bind_some, Option.map_some, Option.bind_none, Option.map_none, Nat.zero_add, Int.reduceLE, Int.reduceLT, Nat.reduceLT, Nat.reduceLeDiff, and_self, and_true, true_and, if_true, if_false, ite_true, ite_false, decide_true, decide_false, ↓reduceIte, Bool.false_eq_true, Bool.not_true, Bool.not_false, List.mem_cons, forall_eq_or_imp, List.not_mem_nil, forall_const, List.all_cons, List.all_nil, Bool.and_true, Bool.and_self, Bool.true_and, e_cNm, h, e_wipe0, e_wipe1]
    · simp -dsimp only [bnd_some, bnd_none, f_sem, f_rt, f_nx, f_rD, f_rN, f_rS, f_rkO, f_rkD, f_p0, f_p1, f_pk, f_vD, f_vN, f_st0, f_st1, f_call0, f_k0, f_call1, f_c1, f_c2, f_pP, f_pO, f_k1P, f_k1O, f_k2, f_callK, e_nm, e_nmD, e_nmO, e_nmP, e_rdD, e_rdN, e_rdS, e_rkD, e_rkO, e_rkP, e_fzD, e_fzN, e_fzS, e_fkD, e_fkO, e_K, e_aN, e_aC, e_tup, e_lst, e_fzs0, e_fzs1, e_d2, e_kS, e_dB, e_bK, e_tA, e_tO, e_tN, e_eA, e_eO, e_eN, e_if, e_call, e_k1, e_k2, e_isi, e_neg, e_negK, e_ch, g_lt, g_le, g_ge, g_gt, g_ltI, g_sub, g_inS, g_isB, g_isnB, e_add, e_addI, e_ix, e_ixL, e_ixT, e_oN, e_oS, e_soK, e_sl, e_slL, e_slT, e_rev, e_revT, e_revL, h_lenL, h_lenT, h_abs, h_int, h_max, h_min, h_tupL, h_tupT, h_lstL, h_lstT, s_seq, s_nx, s_rt, s_bk, s_ct, s_ret, s_retN, s_nxE, s_bkE, s_if, s_ex, s_as, s_nmF, s_nmT, s_gs0, s_gs1, s_tp, s_tpT, s_ix, s_ixK, s_ixP, s_ixO, s_par, s_ins0, s_ins1, s_inF, s_inT, s_put0, s_put1, e_m, e_ty, e_tyL, e_tyS, e_app, e_appO, e_ext, e_extO, atI_0, atI_1, atI_2, atI_3, atI_4, atI_5, atI_last, PyData.isInt, PyData.isBool, PyData.isStr, PyData.isTuple, PyData.isList, List.map_cons, List.map_nil, List.length_cons, List.length_nil, List.cons_append, List.nil_append, List.replicate, Nat.reduceAdd, Nat.reduceSub, List.getElem?_cons_zero, List.getElem?_cons_succ, List.getElem?_nil, List.set_cons_zero, List.set_cons_succ, Option.bind_some, Option.map_some, Option.bind_none, Option.map_none, Nat.zero_add, Int.reduceLE, Int.reduceLT, Nat.reduceLT, Nat.reduceLeDiff, and_self, and_true, true_and, if_true, if_false, ite_true, ite_false, decide_true, decide_false, ↓reduceIte, Bool.false_eq_true, Bool.not_true, Bool.not_false, List.mem_cons, forall_eq_or_imp, List.not_mem_nil, forall_const, List.all_cons, List.all_nil, Bool.and_true, Bool.and_self, Bool.true_and, e_cNm, h, e_wipe0, e_wipe1]) (by rw [intsD_len, List.length_nil]; omega)
  rw [List.nil_append] at hc
  unfold xRdC
  unfold rdE' at hc ⊢
  rcases h7 with rfl | rfl
  · simp -dsimp only [bnd_some, bnd_none, f_sem, f_rt, f_nx, f_rD, f_rN, f_rS, f_rkO, f_rkD, f_p0, f_p1, f_pk, f_vD, f_vN, f_st0, f_st1, f_call0, f_k0, f_call1, f_c1, f_c2, f_pP, f_pO, f_k1P, f_k1O, f_k2, f_callK, e_nm, e_nmD, e_nmO, e_nmP, e_rdD, e_rdN, e_rdS, e_rkD, e_rkO, e_rkP, e_fzD, e_fzN, e_fzS, e_fkD, e_fkO, e_K, e_aN, e_aC, e_tup, e_lst, e_fzs0, e_fzs1, e_d2, e_kS, e_dB, e_bK, e_tA, e_tO, e_tN, e_eA, e_eO, e_eN, e_if, e_call, e_k1, e_k2, e_isi, e_neg, e_negK, e_ch, g_lt, g_le, g_ge, g_gt, g_ltI, g_sub, g_inS, g_isB, g_isnB, e_add, e_addI, e_ix, e_ixL, e_ixT, e_oN, e_oS, e_soK, e_sl, e_slL, e_slT, e_rev, e_revT, e_revL, h_lenL, h_lenT, h_abs, h_int, h_max, h_min, h_tupL, h_tupT, h_lstL, h_lstT, s_seq, s_nx, s_rt, s_bk, s_ct, s_ret, s_retN, s_nxE, s_bkE, s_if, s_ex, s_as, s_nmF, s_nmT, s_gs0, s_gs1, s_tp, s_tpT, s_ix, s_ixK, s_ixP, s_ixO, s_par, s_ins0, s_ins1, s_inF, s_inT, s_put0, s_put1, e_m, e_ty, e_tyL, e_tyS, e_app, e_appO, e_ext, e_extO, atI_0, atI_1, atI_2, atI_3, atI_4, atI_5, atI_last, PyData.isInt, PyData.isBool, PyData.isStr, PyData.isTuple, PyData.isList, List.map_cons, List.map_nil, List.length_cons, List.length_nil, List.cons_append, List.nil_append, List.replicate, Nat.reduceAdd, Nat.reduceSub, List.getElem?_cons_zero, List.getElem?_cons_succ, List.getElem?_nil, List.set_cons_zero, List.set_cons_succ, Option.bind_some, Option.map_some, Option.bind_none, Option.map_none, Nat.zero_add, Int.reduceLE, Int.reduceLT, Nat.reduceLT, Nat.reduceLeDiff, and_self, and_true, true_and, if_true, if_false, ite_true, ite_false, decide_true, decide_false, ↓reduceIte, Bool.false_eq_true, Bool.not_true, Bool.not_false, List.mem_cons, forall_eq_or_imp, List.not_mem_nil, forall_const, List.all_cons, List.all_nil, Bool.and_true, Bool.and_self, Bool.true_and, e_lc, e_iIt, e_itL, e_wipe0, e_wipe1, hc, e_rest0, e_rest1, List.getD_cons_zero, List.getD_cons_succ]
  · simp -dsimp only [bnd_some, bnd_none, f_sem, f_rt, f_nx, f_rD, f_rN, f_rS, f_rkO, f_rkD, f_p0, f_p1, f_pk, f_vD, f_vN, f_st0, f_st1, f_call0, f_k0, f_call1, f_c1, f_c2, f_pP, f_pO, f_k1P, f_k1O, f_k2, f_callK, e_nm, e_nmD, e_nmO, e_nmP, e_rdD, e_rdN, e_rdS, e_rkD, e_rkO, e_rkP, e_fzD, e_fzN, e_fzS, e_fkD, e_fkO, e_K, e_aN, e_aC, e_tup, e_lst, e_fzs0, e_fzs1, e_d2, e_kS, e_dB, e_bK, e_tA, e_tO, e_tN, e_eA, e_eO, e_eN, e_if, e_call, e_k1, e_k2, e_isi, e_neg, e_negK, e_ch, g_lt, g_le, g_ge, g_gt, g_ltI, g_sub, g_inS, g_isB, g_isnB, e_add, e_addI, e_ix, e_ixL, e_ixT, e_oN, e_oS, e_soK, e_sl, e_slL, e_slT, e_rev, e_revT, e_revL, h_lenL, h_lenT, h_abs, h_int, h_max, h_min, h_tupL, h_tupT, h_lstL, h_lstT, s_seq, s_nx, s_rt, s_bk, s_ct, s_ret, s_retN, s_nxE, s_bkE, s_if, s_ex, s_as, s_nmF, s_nmT, s_gs0, s_gs1, s_tp, s_tpT, s_ix, s_ixK, s_ixP, s_ixO, s_par, s_ins0, s_ins1, s_inF, s_inT, s_put0, s_put1, e_m, e_ty, e_tyL, e_tyS, e_app, e_appO, e_ext, e_extO, atI_0, atI_1, atI_2, atI_3, atI_4, atI_5, atI_last, PyData.isInt, PyData.isBool, PyData.isStr, PyData.isTuple, PyData.isList, List.map_cons, List.map_nil, List.length_cons, List.length_nil, List.cons_append, List.nil_append, List.replicate, Nat.reduceAdd, Nat.reduceSub, List.getElem?_cons_zero, List.getElem?_cons_succ, List.getElem?_nil, List.set_cons_zero, List.set_cons_succ, Option.bind_some, Option.map_some, Option.bind_none, Option.map_none, Nat.zero_add, Int.reduceLE, Int.reduceLT, Nat.reduceLT, Nat.reduceLeDiff, and_self, and_true, true_and, if_true, if_false, ite_true, ite_false, decide_true, decide_false, ↓reduceIte, Bool.false_eq_true, Bool.not_true, Bool.not_false, List.mem_cons, forall_eq_or_imp, List.not_mem_nil, forall_const, List.all_cons, List.all_nil, Bool.and_true, Bool.and_self, Bool.true_and, e_lc, e_iIt, e_itL, e_wipe0, e_wipe1, hc, e_rest0, e_rest1, List.getD_cons_zero, List.getD_cons_succ]
theorem rd_turn {k : Nat} (hk : k < 12) (hm : many.length = 6) (due : List D) (hd : due.length ≤ 100) (c7 : Option Cell) (h7 : c7 = some (.own (.l (intsD many))) ∨ c7 = some (.dat (.list (intsD many)))) :
    xRdB (rdE' o many left w tr due (some (.dat (.int (k : Int)))) c7) = some (.nx (rdE' o many left w tr (due ++ [rowF many w k]) (some (.dat (.int (k : Int)))) (some (.dat (.list (intsD many)))))) := by
  have e := rd_cond (o := o) (left := left) (w := w) (tr := tr) (k := k) hm due c7 h7
  have hat : ((rowN many 12).map Nd.d)[k]? = some (.tuple [.str (nmR k), .int ((k : Int) - 1), .tuple (if k ∈ many then [swD] else [])]) := by
    unfold rowN
    rw [List.getElem?_map, List.getElem?_map, List.getElem?_range hk]
    rfl
  have hdl : due.length ≤ 1000000 := by omega
  have hmod : ((cn many k : Nat) : Int) % 2 = ((cn many k % 2 : Nat) : Int) := by omega
  unfold xRdB
  unfold rdE' at e ⊢
  by_cases h : cn many k % 2 = 1
  · have h2 : ((cn many k : Nat) : Int) % 2 = 1 := by omega
    have e2 : rowF many w k = .tuple [.str (nmR k), .str (S (w.map sw))] := by unfold rowF; rw [if_pos h]
    rw [e2]
    simp -dsimp only [bnd_some, bnd_none, f_sem, f_rt, f_nx, f_rD, f_rN, f_rS, f_rkO, f_rkD, f_p0, f_p1, f_pk, f_vD, f_vN, f_st0, f_st1, f_call0, f_k0, f_call1, f_c1, f_c2, f_pP, f_pO, f_k1P, f_k1O, f_k2, f_callK, e_nm, e_nmD, e_nmO, e_nmP, e_rdD, e_rdN, e_rdS, e_rkD, e_rkO, e_rkP, e_fzD, e_fzN, e_fzS, e_fkD, e_fkO, e_K, e_aN, e_aC, e_tup, e_lst, e_fzs0, e_fzs1, e_d2, e_kS, e_dB, e_bK, e_tA, e_tO, e_tN, e_eA, e_eO, e_eN, e_if, e_call, e_k1, e_k2, e_isi, e_neg, e_negK, e_ch, g_lt, g_le, g_ge, g_gt, g_ltI, g_sub, g_inS, g_isB, g_isnB, e_add, e_addI, e_ix, e_ixL, e_ixT, e_oN, e_oS, e_soK, e_sl, e_slL, e_slT, e_rev, e_revT, e_revL, h_lenL, h_lenT, h_abs, h_int, h_max, h_min, h_tupL, h_tupT, h_lstL, h_lstT, s_seq, s_nx, s_rt, s_bk, s_ct, s_ret, s_retN, s_nxE, s_bkE, s_if, s_ex, s_as, s_nmF, s_nmT, s_gs0, s_gs1, s_tp, s_tpT, s_ix, s_ixK, s_ixP, s_ixO, s_par, s_ins0, s_ins1, s_inF, s_inT, s_put0, s_put1, e_m, e_ty, e_tyL, e_tyS, e_app, e_appO, e_ext, e_extO, atI_0, atI_1, atI_2, atI_3, atI_4, atI_5, atI_last, PyData.isInt, PyData.isBool, PyData.isStr, PyData.isTuple, PyData.isList, List.map_cons, List.map_nil, List.length_cons, List.length_nil, List.cons_append, List.nil_append, List.replicate, Nat.reduceAdd, Nat.reduceSub, List.getElem?_cons_zero, List.getElem?_cons_succ, List.getElem?_nil, List.set_cons_zero, List.set_cons_succ, Option.bind_some, Option.map_some, Option.bind_none, Option.map_none, Nat.zero_add, Int.reduceLE, Int.reduceLT, Nat.reduceLT, Nat.reduceLeDiff, and_self, and_true, true_and, if_true, if_false, ite_true, ite_false, decide_true, decide_false, ↓reduceIte, Bool.false_eq_true, Bool.not_true, Bool.not_false, List.mem_cons, forall_eq_or_imp, List.not_mem_nil, forall_const, List.all_cons, List.all_nil, Bool.and_true, Bool.and_self, Bool.true_and, atI_nat, hat, e, le_len, fun i => @g_mod i 2 (show (0 : Int) < 2 by decide), h2, g_eqI, hdl]
  · have h2 : ¬ ((cn many k : Nat) : Int) % 2 = 1 := by omega
    have e2 : rowF many w k = .tuple [.str (nmR k), .str (S w)] := by unfold rowF; rw [if_neg h]
    rw [e2]
    simp -dsimp only [bnd_some, bnd_none, f_sem, f_rt, f_nx, f_rD, f_rN, f_rS, f_rkO, f_rkD, f_p0, f_p1, f_pk, f_vD, f_vN, f_st0, f_st1, f_call0, f_k0, f_call1, f_c1, f_c2, f_pP, f_pO, f_k1P, f_k1O, f_k2, f_callK, e_nm, e_nmD, e_nmO, e_nmP, e_rdD, e_rdN, e_rdS, e_rkD, e_rkO, e_rkP, e_fzD, e_fzN, e_fzS, e_fkD, e_fkO, e_K, e_aN, e_aC, e_tup, e_lst, e_fzs0, e_fzs1, e_d2, e_kS, e_dB, e_bK, e_tA, e_tO, e_tN, e_eA, e_eO, e_eN, e_if, e_call, e_k1, e_k2, e_isi, e_neg, e_negK, e_ch, g_lt, g_le, g_ge, g_gt, g_ltI, g_sub, g_inS, g_isB, g_isnB, e_add, e_addI, e_ix, e_ixL, e_ixT, e_oN, e_oS, e_soK, e_sl, e_slL, e_slT, e_rev, e_revT, e_revL, h_lenL, h_lenT, h_abs, h_int, h_max, h_min, h_tupL, h_tupT, h_lstL, h_lstT, s_seq, s_nx, s_rt, s_bk, s_ct, s_ret, s_retN, s_nxE, s_bkE, s_if, s_ex, s_as, s_nmF, s_nmT, s_gs0, s_gs1, s_tp, s_tpT, s_ix, s_ixK, s_ixP, s_ixO, s_par, s_ins0, s_ins1, s_inF, s_inT, s_put0, s_put1, e_m, e_ty, e_tyL, e_tyS, e_app, e_appO, e_ext, e_extO, atI_0, atI_1, atI_2, atI_3, atI_4, atI_5, atI_last, PyData.isInt, PyData.isBool, PyData.isStr, PyData.isTuple, PyData.isList, List.map_cons, List.map_nil, List.length_cons, List.length_nil, List.cons_append, List.nil_append, List.replicate, Nat.reduceAdd, Nat.reduceSub, List.getElem?_cons_zero, List.getElem?_cons_succ, List.getElem?_nil, List.set_cons_zero, List.set_cons_succ, Option.bind_some, Option.map_some, Option.bind_none, Option.map_none, Nat.zero_add, Int.reduceLE, Int.reduceLT, Nat.reduceLT, Nat.reduceLeDiff, and_self, and_true, true_and, if_true, if_false, ite_true, ite_false, decide_true, decide_false, ↓reduceIte, Bool.false_eq_true, Bool.not_true, Bool.not_false, List.mem_cons, forall_eq_or_imp, List.not_mem_nil, forall_const, List.all_cons, List.all_nil, Bool.and_true, Bool.and_self, Bool.true_and, atI_nat, hat, e, le_len, fun i => @g_mod i 2 (show (0 : Int) < 2 by decide), h2, g_eqI, hdl]
theorem rd_loop (hm : many.length = 6) (c2 : Option Cell) : ∃ c2' c7', loopF (gNm false 2) xRdB (rngD 0 12) (rdE' o many left w tr [] c2 (some (.own (.l (intsD many))))) = some (.nx (rdE' o many left w tr ((List.range 12).map (rowF many w)) c2' c7')) := by
  obtain ⟨env', h1, c2', c7', _, h2⟩ := loopF_inv (g := gNm false 2) (b := xRdB) (Inv := fun i env => ∃ c2 c7, (c7 = some (.own (.l (intsD many))) ∨ c7 = some (.dat (.list (intsD many)))) ∧ env = rdE' o many left w tr ((List.range i).map (rowF many w)) c2 c7) (rngD 0 12) 0 (rdE' o many left w tr [] c2 (some (.own (.l (intsD many))))) (by
    rintro i d env hd ⟨c2, c7, h7, rfl⟩
    obtain ⟨hi, rfl⟩ := rng_get hd
    rw [Nat.zero_add]
    refine ⟨rdE' o many left w tr ((List.range i).map (rowF many w)) (some (.dat (.int (i : Int)))) c7, _, ?_, rd_turn hi hm _ (by simp; omega) c7 h7, some (.dat (.int (i : Int))), some (.dat (.list (intsD many))), .inr rfl, ?_⟩
    · unfold rdE'
      simp -dsimp only [bnd_some, bnd_none, f_sem, f_rt, f_nx, f_rD, f_rN, f_rS, f_rkO, f_rkD, f_p0, f_p1, f_pk, f_vD, f_vN, f_st0, f_st1, f_call0, f_k0, f_call1, f_c1, f_c2, f_pP, f_pO, f_k1P, f_k1O, f_k2, f_callK, e_nm, e_nmD, e_nmO, e_nmP, e_rdD, e_rdN, e_rdS, e_rkD, e_rkO, e_rkP, e_fzD, e_fzN, e_fzS, e_fkD, e_fkO, e_K, e_aN, e_aC, e_tup, e_lst, e_fzs0, e_fzs1, e_d2, e_kS, e_dB, e_bK, e_tA, e_tO, e_tN, e_eA, e_eO, e_eN, e_if, e_call, e_k1, e_k2, e_isi, e_neg, e_negK, e_ch, g_lt, g_le, g_ge, g_gt, g_ltI, g_sub, g_inS, g_isB, g_isnB, e_add, e_addI, e_ix, e_ixL, e_ixT, e_oN, e_oS, e_soK, e_sl, e_slL, e_slT, e_rev, e_revT, e_revL, h_lenL, h_lenT, h_abs, h_int, h_max, h_min, h_tupL, h_tupT, h_lstL, h_lstT, s_seq, s_nx, s_rt, s_bk, s_ct, s_ret, s_retN, s_nxE, s_bkE, s_if, s_ex, s_as, s_nmF, s_nmT, s_gs0, s_gs1, s_tp, s_tpT, s_ix, s_ixK, s_ixP, s_ixO, s_par, s_ins0, s_ins1, s_inF, s_inT, s_put0, s_put1, e_m, e_ty, e_tyL, e_tyS, e_app, e_appO, e_ext, e_extO, atI_0, atI_1, atI_2, atI_3, atI_4, atI_5, atI_last, PyData.isInt, PyData.isBool, PyData.isStr, PyData.isTuple, PyData.isList, List.map_cons, List.map_nil, List.length_cons, List.length_nil, List.cons_append, List.nil_append, List.replicate, Nat.reduceAdd, Nat.reduceSub, List.getElem?_cons_zero, List.getElem?_cons_succ, List.getElem?_nil, List.set_cons_zero, List.set_cons_succ, Option.bind_some, Option.map_some, Option.bind_none, Option.map_none, Nat.zero_add, Int.reduceLE, Int.reduceLT, Nat.reduceLT, Nat.reduceLeDiff, and_self, and_true, true_and, if_true, if_false, ite_true, ite_false, decide_true, decide_false, ↓reduceIte, Bool.false_eq_true, Bool.not_true, Bool.not_false, List.mem_cons, forall_eq_or_imp, List.not_mem_nil, forall_const, List.all_cons, List.all_nil, Bool.and_true, Bool.and_self, Bool.true_and]
    · rw [List.range_succ, List.map_append]; rfl) ⟨c2, _, .inl rfl, rfl⟩
  exact ⟨c2', c7', by rw [h1, h2]; rfl⟩
end
theorem pickW {o : Ob} (ho : PotOk o) : ∃ w o', m__law_pick (some o) [.list [.str (Str.ofString "a"), .str (Str.ofString "ab"), .str (repS (Str.ofString "ab") 30)]] = some (.dat (.str (S w)), some o') ∧ (∀ x ∈ w, x ∈ [97, 98]) ∧ w.length ≤ 60 ∧ PotOk o' := by
  obtain ⟨d, o', e, h1, h2⟩ := pick_spec (o := o) (ds := [.str (Str.ofString "a"), .str (Str.ofString "ab"), .str (repS (Str.ofString "ab") 30)]) ho (by simp) (by simp)
  simp only [List.mem_cons, List.not_mem_nil, or_false] at h1
  have h60 : repS (Str.ofString "ab") 30 = S ((List.replicate 30 [97, 98]).flatten) := by decide +kernel
  rcases h1 with rfl | rfl | rfl
  · exact ⟨[97], o', e, by decide, by decide, h2⟩
  · exact ⟨[97, 98], o', e, by decide, by decide, h2⟩
  · rw [h60] at e ⊢
    exact ⟨_, o', e, by decide +kernel, by decide +kernel, h2⟩
def swφ : D → D
  | .str z => .str (S (z.cps.toList.map sw))
  | _ => .none
theorem row_right_ok {o : Ob} (ho : PotOk o) : ∃ o', m__law_row_right (some o) [] = some (.dat (.bool true), some o') ∧ PotOk o' := by
  obtain ⟨many, left, o1, e1, hp, hm, ho1⟩ := rr_loop (nodes := (rowN [] 1).map Nd.d) ho
  obtain ⟨c2, e2⟩ := rn_loop (o := o1) (many := many) (left := left)
  obtain ⟨w, o2, e3, hw, hwl, ho2⟩ := pickW ho1
  have hnd := (List.nodup_append.mp hp.nd).1
  have h1 : ∀ x ∈ many, 1 ≤ x := fun x hx => (hp.rg x (List.mem_append_left _ hx)).1
  obtain ⟨t, hn⟩ := rowN_ok hnd h1 (by omega)
  obtain ⟨f, ef⟩ := rowN_forms hnd h1 hw hwl
  obtain ⟨c2', c7', e4⟩ := rd_loop (o := o2) (many := many) (left := left) (w := w) (tr := treeD [97, 98] (rowN many 12)) hm c2
  rw [← ef] at e4
  have et := is_tree_ok t
  have efo := forms_ok t f
  have eln := leaf_names_ok t
  have esr : sortD (lnD (rowN many 12)) = [.str (S [120, 108])] := by
    rw [rowN_ln]
    exact List.mergeSort_singleton _
  rw [esr] at eln
  have rp := formsD_rp t f hn
  have hf1 : ∀ env, hRepr (.list (formsD (rowN many 12) w)) env = some (.dat (.str (PyData.list (formsD (rowN many 12) w)).shown), env) := fun env => rp.lst.repr rfl (by omega) (by omega)
  have hn1 : ∀ ms : List Nat, (rowN ms 1).map Nd.d = [.tuple [.str (Str.ofString "x"), .int (-1), .tuple (if 0 ∈ ms then [swD] else [])]] := fun ms => rfl
  have h0 : ¬ (0 ∈ many) := fun z => by have := h1 0 z; omega
  have hsw : swD = .tuple [.str (Str.ofString "shift"), .str (Str.ofString "once"), .str (Str.ofString "ab"), .tuple [.str (Str.ofString "b"), .str (Str.ofString "a")], .tuple [], .tuple []] := rfl
  have hrng : ∀ env, r2K env (some (.int 1)) (some (.int 12)) = some (rngD 1 11, env) := fun env => e_r2K (by decide)
  have hrng0 : ∀ env, r1K env (some (.int 12)) = some (rngD 0 12, env) := fun env => e_r1K (by decide)
  have hl0 : rngD 1 11 = intsD [1, 2, 3, 4, 5, 6, 7, 8, 9, 10, 11] := rfl
  have hrep : gRep (.str (Str.ofString "ab")) (.int 30) = some (.str (repS (Str.ofString "ab") 30)) := rfl
  have hc : ∀ env : Env, env = [some (.par 0 o2), some (.own (.l (intsD left))), c2, none, none, some (.dat swD), some (.own (.l ((rowN many 12).map Nd.d))), some (.own (.l (intsD many))), some (.dat (treeD [97, 98] (rowN many 12))), some (.dat (.str (S w))), none, none] → loopC [10] (cNm 10) tYs (dIf (dB (d2 (dNm 10) (dK (.str "a")) (kS gEq))) (dK (.str "b")) (dK (.str "a"))) (sgs (S w)) [] env = some ((w.map sw).map fun c => .str (S [c]), env) := by
    rintro env rfl
    rw [loopC_map (φ := swφ) _ _ _ (fun d hd => by
      obtain ⟨c, hcc, rfl⟩ := mem_sgs hd
      have := hw c hcc
      simp only [List.mem_cons, List.not_mem_nil, or_false] at this
      have ha : Str.ofString "a" = S [97] := rfl
      have hb : Str.ofString "b" = S [98] := rfl
      unfold stepC swφ
      rcases this with rfl | rfl
      · simp -dsimp only [bnd_some, bnd_none, f_sem, f_rt, f_nx, f_rD, f_rN, f_rS, f_rkO, f_rkD, f_p0, f_p1, f_pk, f_vD, f_vN, f_st0, f_st1, f_call0, f_k0, f_call1, f_c1, f_c2, f_pP, f_pO, f_k1P, f_k1O, f_k2, f_callK, e_nm, e_nmD, e_nmO, e_nmP, e_rdD, e_rdN, e_rdS, e_rkD, e_rkO, e_rkP, e_fzD, e_fzN, e_fzS, e_fkD, e_fkO, e_K, e_aN, e_aC, e_tup, e_lst, e_fzs0, e_fzs1, e_d2, e_kS, e_dB, e_bK, e_tA, e_tO, e_tN, e_eA, e_eO, e_eN, e_if, e_call, e_k1, e_k2, e_isi, e_neg, e_negK, e_ch, g_lt, g_le, g_ge, g_gt, g_ltI, g_sub, g_inS, g_isB, g_isnB, e_add, e_addI, e_ix, e_ixL, e_ixT, e_oN, e_oS, e_soK, e_sl, e_slL, e_slT, e_rev, e_revT, e_revL, h_lenL, h_lenT, h_abs, h_int, h_max, h_min, h_tupL, h_tupT, h_lstL, h_lstT, s_seq, s_nx, s_rt, s_bk, s_ct, s_ret, s_retN, s_nxE, s_bkE, s_if, s_ex, s_as, s_nmF, s_nmT, s_gs0, s_gs1, s_tp, s_tpT, s_ix, s_ixK, s_ixP, s_ixO, s_par, s_ins0, s_ins1, s_inF, s_inT, s_put0, s_put1, e_m, e_ty, e_tyL, e_tyS, e_app, e_appO, e_ext, e_extO, atI_0, atI_1, atI_2, atI_3, atI_4, atI_5, atI_last, PyData.isInt, PyData.isBool, PyData.isStr, PyData.isTuple, PyData.isList, List.map_cons, List.map_nil, List.length_cons, List.length_nil, List.cons_append, List.nil_append, List.replicate, Nat.reduceAdd, Nat.reduceSub, List.getElem?_cons_zero, List.getElem?_cons_succ, List.getElem?_nil, List.set_cons_zero, List.set_cons_succ, Option.bind_some, Option.map_some, Option.bind_none, Option.map_none, Nat.zero_add, Int.reduceLE, Int.reduceLT, Nat.reduceLT, Nat.reduceLeDiff, and_self, and_true, true_and, if_true, if_false, ite_true, ite_false, decide_true, decide_false, ↓reduceIte, Bool.false_eq_true, Bool.not_true, Bool.not_false, List.mem_cons, forall_eq_or_imp, List.not_mem_nil, forall_const, List.all_cons, List.all_nil, Bool.and_true, Bool.and_self, Bool.true_and, e_cNm, e_tYs, g_eqS, ha, hb, e_wipe0, e_wipe1, S_cps]
        rfl
      · have hne : ¬ S [98] = S [97] := fun z => by have := S_inj z; simp at this
        simp -dsimp only [bnd_some, bnd_none, f_sem, f_rt, f_nx, f_rD, f_rN, f_rS, f_rkO, f_rkD, f_p0, f_p1, f_pk, f_vD, f_vN, f_st0, f_st1, f_call0, f_k0, f_call1, f_c1, f_c2, f_pP, f_pO, f_k1P, f_k1O, f_k2, f_callK, e_nm, e_nmD, e_nmO, e_nmP, e_rdD, e_rdN, e_rdS, e_rkD, e_rkO, e_rkP, e_fzD, e_fzN, e_fzS, e_fkD, e_fkO, e_K, e_aN, e_aC, e_tup, e_lst, e_fzs0, e_fzs1, e_d2, e_kS, e_dB, e_bK, e_tA, e_tO, e_tN, e_eA, e_eO, e_eN, e_if, e_call, e_k1, e_k2, e_isi, e_neg, e_negK, e_ch, g_lt, g_le, g_ge, g_gt, g_ltI, g_sub, g_inS, g_isB, g_isnB, e_add, e_addI, e_ix, e_ixL, e_ixT, e_oN, e_oS, e_soK, e_sl, e_slL, e_slT, e_rev, e_revT, e_revL, h_lenL, h_lenT, h_abs, h_int, h_max, h_min, h_tupL, h_tupT, h_lstL, h_lstT, s_seq, s_nx, s_rt, s_bk, s_ct, s_ret, s_retN, s_nxE, s_bkE, s_if, s_ex, s_as, s_nmF, s_nmT, s_gs0, s_gs1, s_tp, s_tpT, s_ix, s_ixK, s_ixP, s_ixO, s_par, s_ins0, s_ins1, s_inF, s_inT, s_put0, s_put1, e_m, e_ty, e_tyL, e_tyS, e_app, e_appO, e_ext, e_extO, atI_0, atI_1, atI_2, atI_3, atI_4, atI_5, atI_last, PyData.isInt, PyData.isBool, PyData.isStr, PyData.isTuple, PyData.isList, List.map_cons, List.map_nil, List.length_cons, List.length_nil, List.cons_append, List.nil_append, List.replicate, Nat.reduceAdd, Nat.reduceSub, List.getElem?_cons_zero, List.getElem?_cons_succ, List.getElem?_nil, List.set_cons_zero, List.set_cons_succ, Option.bind_some, Option.map_some, Option.bind_none, Option.map_none, Nat.zero_add, Int.reduceLE, Int.reduceLT, Nat.reduceLT, Nat.reduceLeDiff, and_self, and_true, true_and, if_true, if_false, ite_true, ite_false, decide_true, decide_false, ↓reduceIte, Bool.false_eq_true, Bool.not_true, Bool.not_false, List.mem_cons, forall_eq_or_imp, List.not_mem_nil, forall_const, List.all_cons, List.all_nil, Bool.and_true, Bool.and_self, Bool.true_and, e_cNm, e_tYs, g_eqS, ha, hb, hne, e_wipe0, e_wipe1, S_cps]
        rfl) (by rw [S_sgs, List.length_map, List.length_nil]; omega), List.nil_append, S_sgs, List.map_map, List.map_map]
    congr 2
  have hc2 := hc _ rfl
  have hit : itemsD (.str (S w)) = some (sgs (S w)) := e_itS (by rw [S_len]; omega)
  have hj : ∀ env, kJoin (.dat (.str (Str.ofString ""))) [.new (.l ((w.map sw).map fun c => .str (S [c])))] env = some (.dat (.str (S (w.map sw))), env) := fun env => join_1 rfl (by rw [List.length_map]; omega)
  have heq : gEq (.list [.str (S [120, 108])]) (.list [.str (Str.ofString "xl")]) = some (.bool true) := rfl
  refine ⟨o2, ?_, ho2⟩
  unfold m__law_row_right d__law_row_right N__law_row_right
  unfold rrE xRrT xRrW at e1
  unfold rnE xRnB at e2
  unfold rdE' xRdB xRdC at e4
  unfold yes at et
  rw [hn1] at e1 e2
  rw [if_neg h0, hl0] at e2
  rw [if_neg (by simp)] at e1
  have hi0 : intsD [] = [] := rfl
  rw [hi0] at e1
  unfold treeD at e4 hc2 et efo eln
  have hs2 : S [97, 98] = Str.ofString "ab" := rfl
  rw [hs2] at e4 hc2 et efo eln
  rw [hsw] at e1 e2 e4 hc2
  simp -dsimp only [bnd_some, bnd_none, f_sem, f_rt, f_nx, f_rD, f_rN, f_rS, f_rkO, f_rkD, f_p0, f_p1, f_pk, f_vD, f_vN, f_st0, f_st1, f_call0, f_k0, f_call1, f_c1, f_c2, f_pP, f_pO, f_k1P, f_k1O, f_k2, f_callK, e_nm, e_nmD, e_nmO, e_nmP, e_rdD, e_rdN, e_rdS, e_rkD, e_rkO, e_rkP, e_fzD, e_fzN, e_fzS, e_fkD, e_fkO, e_K, e_aN, e_aC, e_tup, e_lst, e_fzs0, e_fzs1, e_d2, e_kS, e_dB, e_bK, e_tA, e_tO, e_tN, e_eA, e_eO, e_eN, e_if, e_call, e_k1, e_k2, e_isi, e_neg, e_negK, e_ch, g_lt, g_le, g_ge, g_gt, g_ltI, g_sub, g_inS, g_isB, g_isnB, e_add, e_addI, e_ix, e_ixL, e_ixT, e_oN, e_oS, e_soK, e_sl, e_slL, e_slT, e_rev, e_revT, e_revL, h_lenL, h_lenT, h_abs, h_int, h_max, h_min, h_tupL, h_tupT, h_lstL, h_lstT, s_seq, s_nx, s_rt, s_bk, s_ct, s_ret, s_retN, s_nxE, s_bkE, s_if, s_ex, s_as, s_nmF, s_nmT, s_gs0, s_gs1, s_tp, s_tpT, s_ix, s_ixK, s_ixP, s_ixO, s_par, s_ins0, s_ins1, s_inF, s_inT, s_put0, s_put1, e_m, e_ty, e_tyL, e_tyS, e_app, e_appO, e_ext, e_extO, atI_0, atI_1, atI_2, atI_3, atI_4, atI_5, atI_last, PyData.isInt, PyData.isBool, PyData.isStr, PyData.isTuple, PyData.isList, List.map_cons, List.map_nil, List.length_cons, List.length_nil, List.cons_append, List.nil_append, List.replicate, Nat.reduceAdd, Nat.reduceSub, List.getElem?_cons_zero, List.getElem?_cons_succ, List.getElem?_nil, List.set_cons_zero, List.set_cons_succ, Option.bind_some, Option.map_some, Option.bind_none, Option.map_none, Nat.zero_add, Int.reduceLE, Int.reduceLT, Nat.reduceLT, Nat.reduceLeDiff, and_self, and_true, true_and, if_true, if_false, ite_true, ite_false, decide_true, decide_false, ↓reduceIte, Bool.false_eq_true, Bool.not_true, Bool.not_false, List.mem_cons, forall_eq_or_imp, List.not_mem_nil, forall_const, List.all_cons, List.all_nil, Bool.and_true, Bool.and_self, Bool.true_and, List.all_cons, List.all_nil, e_lr, e_iR2, hrng, hl0, s_wh, e1, s_for, e2, hrep, e3, e_lc, e_iIt, hit, e_wipe0, e_wipe1, hc2, e_rest0, e_rest1, List.getD_cons_zero, List.getD_cons_succ, hj, e_iR1, hrng0, e4, et, efo, eln, hf1, g_eqS, heq]
end EW

/-! k81, mathematics 24: all of the law. -/
namespace EW
open PySem L2
theorem pow18 : (10 : Int) ^ (18 : Int).toNat = 1000000000000000000 := by decide
theorem pot_spec (ns : List Int) (k : Nat) (hk : k < 1000) : ∃ o, m__law_pot none [.list (ns.map PyData.int), .int (k : Int)] = some (.new o, none) ∧ PotOk o := by
  have key : ∀ cell : Int, 0 ≤ cell → ∀ env : Env, env = [some (.dat (.list (ns.map PyData.int))), some (.dat (.int (k : Int))), some (.dat (.int cell))] → ∃ a b : Int, (sRet (dLst (aCons (dCall (aCons (dK (.int 0)) (aCons (d2 (dNm 2) (d2 (dK (.int 10)) (dK (.int 18)) (kS gPow)) (kS gSub)) (aNil))) (k2 hMax2)) (aCons (d2 (d2 (dCall (aCons (d2 (d2 (d2 (d2 (dCall (aCons (dNm 2) (aNil)) (k1 hInt)) (dK (.int 2147483549)) (kS gMod)) (dK (.int 40693)) (kS gMul)) (d2 (dK (.int 1871)) (dNm 1) (kS gMul)) kAdd) (dK (.int 901)) kAdd) (aNil)) (k1 hInt)) (dK (.int 2147483563)) (kS gMod)) (dK (.int 1)) kAdd) (aNil))))) env = some (.rt (.new (.l [.int a, .int b])) env) ∧ 0 ≤ a ∧ 0 ≤ b ∧ b < 2147483648 := by
    rintro cell hc env rfl
    have h1 := Int.emod_nonneg (cell % 2147483549 * 40693 + 1871 * (k : Int) + 901) (show (2147483563 : Int) ≠ 0 by decide)
    have h2 := Int.emod_lt_of_pos (cell % 2147483549 * 40693 + 1871 * (k : Int) + 901) (show (0 : Int) < 2147483563 by decide)
    refine ⟨if cell - 1000000000000000000 > 0 then cell - 1000000000000000000 else 0, (cell % 2147483549 * 40693 + 1871 * (k : Int) + 901) % 2147483563 + 1, ?_, by split <;> omega, by omega, by omega⟩
    have hp : gPow (.int 10) (.int 18) = some (.int 1000000000000000000) := by rw [g_pow (by decide), pow18]
    have hm1 : gMul (.int 1871) (.int (k : Int)) = some (.int (1871 * (k : Int))) := g_mul (.inl (by decide))
    simp -dsimp only [bnd_some, bnd_none, f_sem, f_rt, f_nx, f_rD, f_rN, f_rS, f_rkO, f_rkD, f_p0, f_p1, f_pk, f_vD, f_vN, f_st0, f_st1, f_call0, f_k0, f_call1, f_c1, f_c2, f_pP, f_pO, f_k1P, f_k1O, f_k2, f_callK, e_nm, e_nmD, e_nmO, e_nmP, e_rdD, e_rdN, e_rdS, e_rkD, e_rkO, e_rkP, e_fzD, e_fzN, e_fzS, e_fkD, e_fkO, e_K, e_aN, e_aC, e_tup, e_lst, e_fzs0, e_fzs1, e_d2, e_kS, e_dB, e_bK, e_tA, e_tO, e_tN, e_eA, e_eO, e_eN, e_if, e_call, e_k1, e_k2, e_isi, e_neg, e_negK, e_ch, g_lt, g_le, g_ge, g_gt, g_ltI, g_sub, g_inS, g_isB, g_isnB, e_add, e_addI, e_ix, e_ixL, e_ixT, e_oN, e_oS, e_soK, e_sl, e_slL, e_slT, e_rev, e_revT, e_revL, h_lenL, h_lenT, h_abs, h_int, h_max, h_min, h_tupL, h_tupT, h_lstL, h_lstT, s_seq, s_nx, s_rt, s_bk, s_ct, s_ret, s_retN, s_nxE, s_bkE, s_if, s_ex, s_as, s_nmF, s_nmT, s_gs0, s_gs1, s_tp, s_tpT, s_ix, s_ixK, s_ixP, s_ixO, s_par, s_ins0, s_ins1, s_inF, s_inT, s_put0, s_put1, e_m, e_ty, e_tyL, e_tyS, e_app, e_appO, e_ext, e_extO, atI_0, atI_1, atI_2, atI_3, atI_4, atI_5, atI_last, PyData.isInt, PyData.isBool, PyData.isStr, PyData.isTuple, PyData.isList, List.map_cons, List.map_nil, List.length_cons, List.length_nil, List.cons_append, List.nil_append, List.replicate, Nat.reduceAdd, Nat.reduceSub, List.getElem?_cons_zero, List.getElem?_cons_succ, List.getElem?_nil, List.set_cons_zero, List.set_cons_succ, Option.bind_some, Option.map_some, Option.bind_none, Option.map_none, Nat.zero_add, Int.reduceLE, Int.reduceLT, Nat.reduceLT, Nat.reduceLeDiff, and_self, and_true, true_and, if_true, if_false, ite_true, ite_false, decide_true, decide_false, ↓reduceIte, Bool.false_eq_true, Bool.not_true, Bool.not_false, List.mem_cons, forall_eq_or_imp, List.not_mem_nil, forall_const, List.all_cons, List.all_nil, Bool.and_true, Bool.and_self, Bool.true_and, hp, fun i => @g_mod i 2147483549 (show (0 : Int) < 2147483549 by decide), fun i => @g_mul i 40693 (.inr (by decide)), hm1, fun i => @g_mod i 2147483563 (show (0 : Int) < 2147483563 by decide)]
  unfold m__law_pot d__law_pot N__law_pot
  by_cases h : k < ns.length
  · have hlt : (k : Int) < ((ns.map PyData.int).length : Int) := by rw [List.length_map]; omega
    have hat : (ns.map PyData.int)[k]? = some (.int ns[k]) := by rw [List.getElem?_map, List.getElem?_eq_getElem h]; rfl
    obtain ⟨a, b, e, h1, h2, h3⟩ := key (if ns[k] < 0 then -ns[k] else ns[k]) (by split <;> omega) _ rfl
    refine ⟨.l [.int a, .int b], ?_, a, b, rfl, h1, h2, h3⟩
    have hst : startE 3 none [PyData.list (ns.map PyData.int), .int (k : Int)] = [some (.dat (.list (ns.map PyData.int))), some (.dat (.int (k : Int))), none] := rfl
    simp only [f_sem, List.length_cons, List.length_nil, Nat.reduceAdd, hst]
    rw [s_seq]
    have e1 : sAs (dIf (dB (d2 (dNm 1) (dCall (aCons (dNm 0) (aNil)) (k1 hLen)) (kS gLt))) (dCall (aCons (d2 (dNm 0) (dNm 1) kIx) (aNil)) (k1 hAbs)) (d2 (d2 (dK (.int 751)) (dNm 1) (kS gMul)) (dK (.int 901)) kAdd)) (gNm false 2) [some (.dat (.list (ns.map PyData.int))), some (.dat (.int (k : Int))), none] = some (.nx [some (.dat (.list (ns.map PyData.int))), some (.dat (.int (k : Int))), some (.dat (.int (if ns[k] < 0 then -ns[k] else ns[k])))]) := by
      simp -dsimp only [bnd_some, bnd_none, f_sem, f_rt, f_nx, f_rD, f_rN, f_rS, f_rkO, f_rkD, f_p0, f_p1, f_pk, f_vD, f_vN, f_st0, f_st1, f_call0, f_k0, f_call1, f_c1, f_c2, f_pP, f_pO, f_k1P, f_k1O, f_k2, f_callK, e_nm, e_nmD, e_nmO, e_nmP, e_rdD, e_rdN, e_rdS, e_rkD, e_rkO, e_rkP, e_fzD, e_fzN, e_fzS, e_fkD, e_fkO, e_K, e_aN, e_aC, e_tup, e_lst, e_fzs0, e_fzs1, e_d2, e_kS, e_dB, e_bK, e_tA, e_tO, e_tN, e_eA, e_eO, e_eN, e_if, e_call, e_k1, e_k2, e_isi, e_neg, e_negK, e_ch, g_lt, g_le, g_ge, g_gt, g_ltI, g_sub, g_inS, g_isB, g_isnB, e_add, e_addI, e_ix, e_ixL, e_ixT, e_oN, e_oS, e_soK, e_sl, e_slL, e_slT, e_rev, e_revT, e_revL, h_lenL, h_lenT, h_abs, h_int, h_max, h_min, h_tupL, h_tupT, h_lstL, h_lstT, s_seq, s_nx, s_rt, s_bk, s_ct, s_ret, s_retN, s_nxE, s_bkE, s_if, s_ex, s_as, s_nmF, s_nmT, s_gs0, s_gs1, s_tp, s_tpT, s_ix, s_ixK, s_ixP, s_ixO, s_par, s_ins0, s_ins1, s_inF, s_inT, s_put0, s_put1, e_m, e_ty, e_tyL, e_tyS, e_app, e_appO, e_ext, e_extO, atI_0, atI_1, atI_2, atI_3, atI_4, atI_5, atI_last, PyData.isInt, PyData.isBool, PyData.isStr, PyData.isTuple, PyData.isList, List.map_cons, List.map_nil, List.length_cons, List.length_nil, List.cons_append, List.nil_append, List.replicate, Nat.reduceAdd, Nat.reduceSub, List.getElem?_cons_zero, List.getElem?_cons_succ, List.getElem?_nil, List.set_cons_zero, List.set_cons_succ, Option.bind_some, Option.map_some, Option.bind_none, Option.map_none, Nat.zero_add, Int.reduceLE, Int.reduceLT, Nat.reduceLT, Nat.reduceLeDiff, and_self, and_true, true_and, if_true, if_false, ite_true, ite_false, decide_true, decide_false, ↓reduceIte, Bool.false_eq_true, Bool.not_true, Bool.not_false, List.mem_cons, forall_eq_or_imp, List.not_mem_nil, forall_const, List.all_cons, List.all_nil, Bool.and_true, Bool.and_self, Bool.true_and, hlt, atI_nat, hat]
    rw [e1, bnd_some, s_nx, e]
    rfl
  · have hlt : ¬ (k : Int) < ((ns.map PyData.int).length : Int) := by rw [List.length_map]; omega
    obtain ⟨a, b, e, h1, h2, h3⟩ := key (751 * (k : Int) + 901) (by omega) _ rfl
    refine ⟨.l [.int a, .int b], ?_, a, b, rfl, h1, h2, h3⟩
    have hst : startE 3 none [PyData.list (ns.map PyData.int), .int (k : Int)] = [some (.dat (.list (ns.map PyData.int))), some (.dat (.int (k : Int))), none] := rfl
    have hm1 : gMul (.int 751) (.int (k : Int)) = some (.int (751 * (k : Int))) := g_mul (.inl (by decide))
    simp only [f_sem, List.length_cons, List.length_nil, Nat.reduceAdd, hst]
    rw [s_seq]
    have e1 : sAs (dIf (dB (d2 (dNm 1) (dCall (aCons (dNm 0) (aNil)) (k1 hLen)) (kS gLt))) (dCall (aCons (d2 (dNm 0) (dNm 1) kIx) (aNil)) (k1 hAbs)) (d2 (d2 (dK (.int 751)) (dNm 1) (kS gMul)) (dK (.int 901)) kAdd)) (gNm false 2) [some (.dat (.list (ns.map PyData.int))), some (.dat (.int (k : Int))), none] = some (.nx [some (.dat (.list (ns.map PyData.int))), some (.dat (.int (k : Int))), some (.dat (.int (751 * (k : Int) + 901)))]) := by
      simp -dsimp only [bnd_some, bnd_none, f_sem, f_rt, f_nx, f_rD, f_rN, f_rS, f_rkO, f_rkD, f_p0, f_p1, f_pk, f_vD, f_vN, f_st0, f_st1, f_call0, f_k0, f_call1, f_c1, f_c2, f_pP, f_pO, f_k1P, f_k1O, f_k2, f_callK, e_nm, e_nmD, e_nmO, e_nmP, e_rdD, e_rdN, e_rdS, e_rkD, e_rkO, e_rkP, e_fzD, e_fzN, e_fzS, e_fkD, e_fkO, e_K, e_aN, e_aC, e_tup, e_lst, e_fzs0, e_fzs1, e_d2, e_kS, e_dB, e_bK, e_tA, e_tO, e_tN, e_eA, e_eO, e_eN, e_if, e_call, e_k1, e_k2, e_isi, e_neg, e_negK, e_ch, g_lt, g_le, g_ge, g_gt, g_ltI, g_sub, g_inS, g_isB, g_isnB, e_add, e_addI, e_ix, e_ixL, e_ixT, e_oN, e_oS, e_soK, e_sl, e_slL, e_slT, e_rev, e_revT, e_revL, h_lenL, h_lenT, h_abs, h_int, h_max, h_min, h_tupL, h_tupT, h_lstL, h_lstT, s_seq, s_nx, s_rt, s_bk, s_ct, s_ret, s_retN, s_nxE, s_bkE, s_if, s_ex, s_as, s_nmF, s_nmT, s_gs0, s_gs1, s_tp, s_tpT, s_ix, s_ixK, s_ixP, s_ixO, s_par, s_ins0, s_ins1, s_inF, s_inT, s_put0, s_put1, e_m, e_ty, e_tyL, e_tyS, e_app, e_appO, e_ext, e_extO, atI_0, atI_1, atI_2, atI_3, atI_4, atI_5, atI_last, PyData.isInt, PyData.isBool, PyData.isStr, PyData.isTuple, PyData.isList, List.map_cons, List.map_nil, List.length_cons, List.length_nil, List.cons_append, List.nil_append, List.replicate, Nat.reduceAdd, Nat.reduceSub, List.getElem?_cons_zero, List.getElem?_cons_succ, List.getElem?_nil, List.set_cons_zero, List.set_cons_succ, Option.bind_some, Option.map_some, Option.bind_none, Option.map_none, Nat.zero_add, Int.reduceLE, Int.reduceLT, Nat.reduceLT, Nat.reduceLeDiff, and_self, and_true, true_and, if_true, if_false, ite_true, ite_false, decide_true, decide_false, ↓reduceIte, Bool.false_eq_true, Bool.not_true, Bool.not_false, List.mem_cons, forall_eq_or_imp, List.not_mem_nil, forall_const, List.all_cons, List.all_nil, Bool.and_true, Bool.and_self, Bool.true_and, hlt, hm1]
    rw [e1, bnd_some, s_nx, e]
    rfl
/-! reprs -/
theorem RP.shift {sg : List Nat} {d : D} (hs : Sg sg) (h : IsSh sg d) : RP 2 60 d := by
  obtain ⟨way, f, ms, b, h, rfl, ok⟩ := h
  have hl := hs.len.2
  have hf := ok.fs.length_le
  have hsub : ∀ w : List Nat, w.Sublist (35 :: sg) → (∀ c ∈ w, c < 1000) ∧ w.length ≤ 4 := fun w hw => ⟨fun c hc => by
    rcases List.mem_cons.mp (hw.subset hc) with rfl | hc
    · decide
    · exact hs.lt hc, by have := hw.length_le; simp at this; omega⟩
  have h1 : RP 1 5 (.str (Str.ofString "shift")) := RP.str (w := [115, 104, 105, 102, 116]) (by decide) (by decide)
  have h2 : RP 1 4 (.str (Str.ofString way)) := by
    rcases ok.way with rfl | rfl
    · exact RP.str (w := [111, 110, 99, 101]) (by decide) (by decide)
    · exact RP.str (w := [108, 101, 102, 116]) (by decide) (by decide)
  have h3 : RP 1 3 (.str (S f)) := RP.str (fun c hc => hs.lt (ok.fs.subset hc)) (by omega)
  have h4 : RP 1 9 (.tuple (ms.map fun w => .str (S w))) := (RPA.alls (k := 0) (a := 2) (m := 3) (fun d hd => by
    obtain ⟨w, hw, rfl⟩ := List.mem_map.mp hd
    exact RP.str (fun c hc => hs.lt ((ok.mo w hw).2 c hc)) (ok.mo w hw).1) (by rw [List.length_map, ok.ml]; omega)).tup
  have h5 : RP 1 10 (.tuple (b.map fun w => .str (S w))) := (RPA.alls (k := 0) (a := 4) (m := 2) (fun d hd => by
    obtain ⟨w, hw, rfl⟩ := List.mem_map.mp hd
    exact RP.str (hsub w (ok.bo w hw).2).1 (hsub w (ok.bo w hw).2).2) (by rw [List.length_map]; exact ok.bl)).tup
  have h6 : RP 1 10 (.tuple (h.map fun w => .str (S w))) := (RPA.alls (k := 0) (a := 4) (m := 2) (fun d hd => by
    obtain ⟨w, hw, rfl⟩ := List.mem_map.mp hd
    exact RP.str (hsub w (ok.ho w hw).2).1 (hsub w (ok.ho w hw).2).2) (by rw [List.length_map]; exact ok.hl)).tup
  exact ((RPA.con h1 (RPA.con h2 (RPA.con h3 (RPA.con h4 (RPA.con h5 (RPA.con h6 (RPA.nil (n := 0)))))))).tup).mono (by decide) (by decide)
theorem Sg.rp {sg : List Nat} (hs : Sg sg) {k : Nat} : RP k 3 (.str (S sg)) := RP.str (fun c hc => hs.lt hc) hs.len.2
section
variable {sg : List Nat} {nodes : List Nd}
theorem Nd.rp (t : TreeOk sg nodes) (hn : NmOk nodes) {n : Nd} (h : n ∈ nodes) : RP 4 400 n.d := by
  obtain ⟨i, hi⟩ := List.getElem?_of_mem h
  obtain ⟨v, e, h1, h2⟩ := hn n h
  have h3 : n.sh.length ≤ 6 ∧ ∀ d ∈ n.sh, IsSh sg d := by
    cases i with
    | zero => obtain ⟨_, b⟩ := t.zero n hi; rw [b]; simp
    | succ i => obtain ⟨_, _, c, d⟩ := t.pos i n hi; exact ⟨c, d⟩
  have h4 : -1 ≤ n.par ∧ n.par ≤ 100 := by
    have := t.any hi
    have := (List.getElem?_eq_some_iff.mp hi).1
    have := t.l2
    omega
  have h5 : RP 3 366 (.tuple n.sh) := (RPA.alls (k := 2) (a := 60) (m := 6) (fun d hd => RP.shift t.sgo (h3.2 d hd)) h3.1).tup
  have h6 : RP 3 8 (.str n.name) := by rw [e]; exact RP.str h2 h1
  exact ((RPA.con h6 (RPA.con (RP.int (n := 0) (by omega) (by omega)) (RPA.con h5 (RPA.nil (n := 0))))).tup).mono (by decide) (by decide)
theorem tree_rp (t : TreeOk sg nodes) (hn : NmOk nodes) : RP 6 5000 (treeD sg nodes) := by
  have h1 : RP 5 4 (.str (Str.ofString "tree")) := RP.str (w := [116, 114, 101, 101]) (by decide) (by decide)
  have h2 : RP 5 4812 (.tuple (nodes.map Nd.d)) := (RPA.alls (k := 4) (a := 400) (m := 12) (fun d hd => by
    obtain ⟨n, hm, rfl⟩ := List.mem_map.mp hd
    exact Nd.rp t hn hm) (by rw [List.length_map]; exact t.l2)).tup
  exact ((RPA.con h1 (RPA.con t.sgo.rp (RPA.con h2 (RPA.nil (n := 0))))).tup).mono (by decide) (by decide)
theorem book_rp (hs : Sg sg) {a : List D} (h : a.length ≤ 6) (h2 : ∀ d ∈ a, IsSh sg d) : RP 4 500 (bookD sg a) := by
  have h1 : RP 3 4 (.str (Str.ofString "book")) := RP.str (w := [98, 111, 111, 107]) (by decide) (by decide)
  have h5 : RP 3 366 (.tuple a) := (RPA.alls (k := 2) (a := 60) (m := 6) (fun d hd => RP.shift hs (h2 d hd)) h).tup
  exact ((RPA.con h1 (RPA.con hs.rp (RPA.con h5 (RPA.nil (n := 0))))).tup).mono (by decide) (by decide)
theorem names_rp (hn : NmOk nodes) (hl : nodes.length ≤ 12) : RP 2 200 (.list (sortD (lnD nodes))) := by
  refine (RPA.alls (k := 1) (a := 8) (m := 12) (fun d hd => ?_) ?_).lst
  · have hm : d ∈ lnD nodes := List.mem_mergeSort.mp hd
    unfold lnD at hm
    obtain ⟨x, hx, rfl⟩ := List.mem_map.mp hm
    obtain ⟨i, n, hi, rfl⟩ := mem_leaf hx
    obtain ⟨v, e, h1, h2⟩ := hn n (List.mem_of_getElem? hi)
    unfold nmφ
    simp only [Int.toNat_natCast, hi, e]
    exact RP.str h2 h1
  · have := leaf_len (nodes := nodes)
    unfold sortD lnD
    rw [List.length_mergeSort, List.length_map]
    omega
end
end EW

/-! k81, mathematics 25: the law says yes. -/
namespace EW
open PySem L2
section
variable {sg : List Nat} {nodes : List Nd} {left : List Str} {o : Ob}
def lrE (o : Ob) (sg : List Nat) (nodes : List Nd) (c2 c3 c6 : Option Cell) : Env := [some (.par 0 o), some (.dat (treeD sg nodes)), c2, c3, some (.dat (.str (treeD sg nodes).shown)), some (.dat (.list (sortD (lnD nodes)))), c6, none, none]
def xLr1 : DS := sSeq (sAs (dTup (aCons (dK (.str "book")) (aCons (d2 (dNm 1) (dK (.int 1)) kIx) (aCons (dF 2 false m__law_along (aCons (dNm 1) (aCons (dNm 2) (aNil)))) (aNil))))) (gNm false 6)) (sIf (dB (d2 (dReprL (aCons (dF 2 false m_node_book (aCons (dNm 1) (aCons (dNm 2) (aNil)))) (aCons (dFK 2 2 [1, 0] m_node_book (aCons (dNm 2) (aCons (dNm 1) (aNil)))) (aNil)))) (dReprL (aCons (dNm 6) (aCons (dNm 6) (aNil)))) (kS gNe))) (sRet (dK (.bool false))) (sNx))
theorem hk2 : ∀ a b : D, permL PyData.none [1, 0] [a, b] = [b, a] := fun _ _ => rfl
theorem hk1 : ∀ a : D, permL PyData.none [0] [a] = [a] := fun _ => rfl
theorem lr1_turn (t : TreeOk sg nodes) (d : DrOk sg nodes left) {i : Nat} (hi : i < nodes.length) (c3 c6 : Option Cell) : xLr1 (lrE o sg nodes (some (.dat (.int (i : Int)))) c3 c6) = some (.nx (lrE o sg nodes (some (.dat (.int (i : Int)))) c3 (some (.dat (bookD sg ((alongs nodes).getD i [])))))) := by
  have ea := law_along_ok t hi
  have eb := node_book_ok t hi
  have hm : (alongs nodes).getD i [] ∈ alongs nodes := by
    rw [List.getD_eq_getElem?_getD, List.getElem?_eq_getElem (by rw [alongs_len]; exact hi)]
    exact List.getElem_mem _
  have rp := book_rp t.sgo (t.al _ hm) (d.al _ hm).2
  have hf2 : ∀ env, hRepr (.list [bookD sg ((alongs nodes).getD i []), bookD sg ((alongs nodes).getD i [])]) env = some (.dat (.str (PyData.list [bookD sg ((alongs nodes).getD i []), bookD sg ((alongs nodes).getD i [])]).shown), env) := fun env => (RPA.con rp (RPA.con rp (RPA.nil (n := 0)))).lst.repr rfl (by omega) (by omega)
  unfold bookD at eb hf2 ⊢
  unfold xLr1 lrE
  unfold treeD at ea eb ⊢
  simp -dsimp only [bnd_some, bnd_none, f_sem, f_rt, f_nx, f_rD, f_rN, f_rS, f_rkO, f_rkD, f_p0, f_p1, f_pk, f_vD, f_vN, f_st0, f_st1, f_call0, f_k0, f_call1, f_c1, f_c2, f_pP, f_pO, f_k1P, f_k1O, f_k2, f_callK, e_nm, e_nmD, e_nmO, e_nmP, e_rdD, e_rdN, e_rdS, e_rkD, e_rkO, e_rkP, e_fzD, e_fzN, e_fzS, e_fkD, e_fkO, e_K, e_aN, e_aC, e_tup, e_lst, e_fzs0, e_fzs1, e_d2, e_kS, e_dB, e_bK, e_tA, e_tO, e_tN, e_eA, e_eO, e_eN, e_if, e_call, e_k1, e_k2, e_isi, e_neg, e_negK, e_ch, g_lt, g_le, g_ge, g_gt, g_ltI, g_sub, g_inS, g_isB, g_isnB, e_add, e_addI, e_ix, e_ixL, e_ixT, e_oN, e_oS, e_soK, e_sl, e_slL, e_slT, e_rev, e_revT, e_revL, h_lenL, h_lenT, h_abs, h_int, h_max, h_min, h_tupL, h_tupT, h_lstL, h_lstT, s_seq, s_nx, s_rt, s_bk, s_ct, s_ret, s_retN, s_nxE, s_bkE, s_if, s_ex, s_as, s_nmF, s_nmT, s_gs0, s_gs1, s_tp, s_tpT, s_ix, s_ixK, s_ixP, s_ixO, s_par, s_ins0, s_ins1, s_inF, s_inT, s_put0, s_put1, e_m, e_ty, e_tyL, e_tyS, e_app, e_appO, e_ext, e_extO, atI_0, atI_1, atI_2, atI_3, atI_4, atI_5, atI_last, PyData.isInt, PyData.isBool, PyData.isStr, PyData.isTuple, PyData.isList, List.map_cons, List.map_nil, List.length_cons, List.length_nil, List.cons_append, List.nil_append, List.replicate, Nat.reduceAdd, Nat.reduceSub, List.getElem?_cons_zero, List.getElem?_cons_succ, List.getElem?_nil, List.set_cons_zero, List.set_cons_succ, Option.bind_some, Option.map_some, Option.bind_none, Option.map_none, Nat.zero_add, Int.reduceLE, Int.reduceLT, Nat.reduceLT, Nat.reduceLeDiff, and_self, and_true, true_and, if_true, if_false, ite_true, ite_false, decide_true, decide_false, ↓reduceIte, Bool.false_eq_true, Bool.not_true, Bool.not_false, List.mem_cons, forall_eq_or_imp, List.not_mem_nil, forall_const, List.all_cons, List.all_nil, Bool.and_true, Bool.and_self, Bool.true_and, ea, eb, e_reprL, hk2, e_rds0, e_rds1, hf2, g_neS]
def xLrW : DE := dM "str" (dK (.str "")) (aCons (dLc [8] (iR1 (dF 2 true m__law_draw (aCons (dNm 0) (aCons (dK (.int 13)) (aNil))))) (cNm 8) (tYs) (dF 2 true m__law_pick (aCons (dNm 0) (aCons (dCall (aCons (d2 (dNm 1) (dK (.int 1)) kIx) (aNil)) (k1 hList)) (aNil))))) (aNil)) kJoin
theorem lr_word (hs : Sg sg) (ho : PotOk o) (c2 c3 c6 : Option Cell) : ∃ w o', xLrW (lrE o sg nodes c2 c3 c6) = some (.dat (.str (S w)), lrE o' sg nodes c2 c3 c6) ∧ w.length ≤ 12 ∧ (∀ x ∈ w, x ∈ sg) ∧ PotOk o' := by
  obtain ⟨r, o1, e1, h1, h2, h3⟩ := draw_spec (o := o) 13 ho (by decide) (by decide)
  obtain ⟨n, rfl⟩ := Int.eq_ofNat_of_zero_le h1
  obtain ⟨out, env', e2, hl, hP, o2, rfl, h4⟩ := range_ex (vs := [8]) (g := cNm 8) (fe := dF 2 true m__law_pick (aCons (dNm 0) (aCons (dCall (aCons (d2 (dNm 1) (dK (.int 1)) kIx) (aNil)) (k1 hList)) (aNil)))) (Inv := fun env => ∃ o, env = lrE o sg nodes c2 c3 c6 ∧ PotOk o) (P := fun v => ∃ x ∈ sg, v = .str (S [x])) (n := n) (lrE o1 sg nodes c2 c3 c6) (by
    rintro dd env ⟨o3, rfl, h4⟩
    obtain ⟨x, o4, e3, hx, h5⟩ := picks_spec hs h4
    refine ⟨_, _, ?_, ⟨x, hx, rfl⟩, o4, rfl, h5⟩
    unfold stepC lrE treeD
    simp -dsimp only [bnd_some, bnd_none, f_sem, f_rt, f_nx, f_rD, f_rN, f_rS, f_rkO, f_rkD, f_p0, f_p1, f_pk, f_vD, f_vN, f_st0, f_st1, f_call0, f_k0, f_call1, f_c1, f_c2, f_pP, f_pO, f_k1P, f_k1O, f_k2, f_callK, e_nm, e_nmD, e_nmO, e_nmP, e_rdD, e_rdN, e_rdS, e_rkD, e_rkO, e_rkP, e_fzD, e_fzN, e_fzS, e_fkD, e_fkO, e_K, e_aN, e_aC, e_tup, e_lst, e_fzs0, e_fzs1, e_d2, e_kS, e_dB, e_bK, e_tA, e_tO, e_tN, e_eA, e_eO, e_eN, e_if, e_call, e_k1, e_k2, e_isi, e_neg, e_negK, e_ch, g_lt, g_le, g_ge, g_gt, g_ltI, g_sub, g_inS, g_isB, g_isnB, e_add, e_addI, e_ix, e_ixL, e_ixT, e_oN, e_oS, e_soK, e_sl, e_slL, e_slT, e_rev, e_revT, e_revL, h_lenL, h_lenT, h_abs, h_int, h_max, h_min, h_tupL, h_tupT, h_lstL, h_lstT, s_seq, s_nx, s_rt, s_bk, s_ct, s_ret, s_retN, s_nxE, s_bkE, s_if, s_ex, s_as, s_nmF, s_nmT, s_gs0, s_gs1, s_tp, s_tpT, s_ix, s_ixK, s_ixP, s_ixO, s_par, s_ins0, s_ins1, s_inF, s_inT, s_put0, s_put1, e_m, e_ty, e_tyL, e_tyS, e_app, e_appO, e_ext, e_extO, atI_0, atI_1, atI_2, atI_3, atI_4, atI_5, atI_last, PyData.isInt, PyData.isBool, PyData.isStr, PyData.isTuple, PyData.isList, List.map_cons, List.map_nil, List.length_cons, List.length_nil, List.cons_append, List.nil_append, List.replicate, Nat.reduceAdd, Nat.reduceSub, List.getElem?_cons_zero, List.getElem?_cons_succ, List.getElem?_nil, List.set_cons_zero, List.set_cons_succ, Option.bind_some, Option.map_some, Option.bind_none, Option.map_none, Nat.zero_add, Int.reduceLE, Int.reduceLT, Nat.reduceLT, Nat.reduceLeDiff, and_self, and_true, true_and, if_true, if_false, ite_true, ite_false, decide_true, decide_false, ↓reduceIte, Bool.false_eq_true, Bool.not_true, Bool.not_false, List.mem_cons, forall_eq_or_imp, List.not_mem_nil, forall_const, List.all_cons, List.all_nil, Bool.and_true, Bool.and_self, Bool.true_and, e_cNm, e_tYs, sg_list hs, e3, e_wipe0, e_wipe1]) ⟨o1, rfl, h3⟩ (by omega)
  have hw : ∃ w : List Nat, out = w.map (fun x => PyData.str (S [x])) ∧ ∀ x ∈ w, x ∈ sg := by
    clear e2 hl
    induction out with
    | nil => exact ⟨[], rfl, fun _ h => by simp at h⟩
    | cons v out ih =>
      obtain ⟨w, e, hw⟩ := ih fun v hv => hP v (List.mem_cons_of_mem _ hv)
      obtain ⟨x, hx, rfl⟩ := hP v List.mem_cons_self
      exact ⟨x :: w, by rw [e]; rfl, fun u hu => (List.mem_cons.mp hu).elim (fun e => e ▸ hx) fun hu => hw u hu⟩
  obtain ⟨w, rfl, hw⟩ := hw
  rw [List.length_map] at hl
  refine ⟨w, o2, ?_, by omega, hw, h4⟩
  have hj : ∀ env, kJoin (.dat (.str (Str.ofString ""))) [.new (.l (w.map fun x => PyData.str (S [x])))] env = some (.dat (.str (S w)), env) := fun env => join_1 (c := w) rfl (by omega)
  unfold xLrW
  unfold lrE at e2 ⊢
  simp -dsimp only [bnd_some, bnd_none, f_sem, f_rt, f_nx, f_rD, f_rN, f_rS, f_rkO, f_rkD, f_p0, f_p1, f_pk, f_vD, f_vN, f_st0, f_st1, f_call0, f_k0, f_call1, f_c1, f_c2, f_pP, f_pO, f_k1P, f_k1O, f_k2, f_callK, e_nm, e_nmD, e_nmO, e_nmP, e_rdD, e_rdN, e_rdS, e_rkD, e_rkO, e_rkP, e_fzD, e_fzN, e_fzS, e_fkD, e_fkO, e_K, e_aN, e_aC, e_tup, e_lst, e_fzs0, e_fzs1, e_d2, e_kS, e_dB, e_bK, e_tA, e_tO, e_tN, e_eA, e_eO, e_eN, e_if, e_call, e_k1, e_k2, e_isi, e_neg, e_negK, e_ch, g_lt, g_le, g_ge, g_gt, g_ltI, g_sub, g_inS, g_isB, g_isnB, e_add, e_addI, e_ix, e_ixL, e_ixT, e_oN, e_oS, e_soK, e_sl, e_slL, e_slT, e_rev, e_revT, e_revL, h_lenL, h_lenT, h_abs, h_int, h_max, h_min, h_tupL, h_tupT, h_lstL, h_lstT, s_seq, s_nx, s_rt, s_bk, s_ct, s_ret, s_retN, s_nxE, s_bkE, s_if, s_ex, s_as, s_nmF, s_nmT, s_gs0, s_gs1, s_tp, s_tpT, s_ix, s_ixK, s_ixP, s_ixO, s_par, s_ins0, s_ins1, s_inF, s_inT, s_put0, s_put1, e_m, e_ty, e_tyL, e_tyS, e_app, e_appO, e_ext, e_extO, atI_0, atI_1, atI_2, atI_3, atI_4, atI_5, atI_last, PyData.isInt, PyData.isBool, PyData.isStr, PyData.isTuple, PyData.isList, List.map_cons, List.map_nil, List.length_cons, List.length_nil, List.cons_append, List.nil_append, List.replicate, Nat.reduceAdd, Nat.reduceSub, List.getElem?_cons_zero, List.getElem?_cons_succ, List.getElem?_nil, List.set_cons_zero, List.set_cons_succ, Option.bind_some, Option.map_some, Option.bind_none, Option.map_none, Nat.zero_add, Int.reduceLE, Int.reduceLT, Nat.reduceLT, Nat.reduceLeDiff, and_self, and_true, true_and, if_true, if_false, ite_true, ite_false, decide_true, decide_false, ↓reduceIte, Bool.false_eq_true, Bool.not_true, Bool.not_false, List.mem_cons, forall_eq_or_imp, List.not_mem_nil, forall_const, List.all_cons, List.all_nil, Bool.and_true, Bool.and_self, Bool.true_and, e1, e_lc, e_iR1, e_r1K (show (-1000000 : Int) ≤ n ∧ (n : Int) ≤ 1000000 by omega), Int.toNat_natCast, e_wipe0, e_wipe1, e2, e_rest0, e_rest1, List.getD_cons_zero, List.getD_cons_succ, hj]
noncomputable def xLr2 : DS := sIf (tN (dB (dF 2 false m__law_forms_right (aCons (dNm 1) (aCons xLrW (aNil)))))) (sRet (dK (.bool false))) (sNx)
theorem lr2_turn (t : TreeOk sg nodes) (d : DrOk sg nodes left) (hn : NmOk nodes) (ho : PotOk o) (c2 c3 c6 : Option Cell) : ∃ o', xLr2 (lrE o sg nodes c2 c3 c6) = some (.nx (lrE o' sg nodes c2 c3 c6)) ∧ PotOk o' := by
  obtain ⟨w, o', e, hl, hw, ho'⟩ := lr_word (nodes := nodes) t.sgo ho c2 c3 c6
  have hf : FormOk sg nodes w := ⟨hw, by omega, fun a ha => RunOk.of_len t.sgo a w (d.al a ha).2 hw (by
    have h1 := (d.al a ha).1
    have h2 : 2 ^ a.length ≤ 2 ^ 4 := Nat.pow_le_pow_right (by decide) h1
    have h3 : w.length * 2 ^ a.length ≤ 12 * 2 ^ 4 := Nat.mul_le_mul hl h2
    omega)⟩
  have ef := law_forms_right_ok t hf hn
  unfold yes at ef
  refine ⟨o', ?_, ho'⟩
  unfold xLr2
  unfold lrE at e ⊢
  simp -dsimp only [bnd_some, bnd_none, f_sem, f_rt, f_nx, f_rD, f_rN, f_rS, f_rkO, f_rkD, f_p0, f_p1, f_pk, f_vD, f_vN, f_st0, f_st1, f_call0, f_k0, f_call1, f_c1, f_c2, f_pP, f_pO, f_k1P, f_k1O, f_k2, f_callK, e_nm, e_nmD, e_nmO, e_nmP, e_rdD, e_rdN, e_rdS, e_rkD, e_rkO, e_rkP, e_fzD, e_fzN, e_fzS, e_fkD, e_fkO, e_K, e_aN, e_aC, e_tup, e_lst, e_fzs0, e_fzs1, e_d2, e_kS, e_dB, e_bK, e_tA, e_tO, e_tN, e_eA, e_eO, e_eN, e_if, e_call, e_k1, e_k2, e_isi, e_neg, e_negK, e_ch, g_lt, g_le, g_ge, g_gt, g_ltI, g_sub, g_inS, g_isB, g_isnB, e_add, e_addI, e_ix, e_ixL, e_ixT, e_oN, e_oS, e_soK, e_sl, e_slL, e_slT, e_rev, e_revT, e_revL, h_lenL, h_lenT, h_abs, h_int, h_max, h_min, h_tupL, h_tupT, h_lstL, h_lstT, s_seq, s_nx, s_rt, s_bk, s_ct, s_ret, s_retN, s_nxE, s_bkE, s_if, s_ex, s_as, s_nmF, s_nmT, s_gs0, s_gs1, s_tp, s_tpT, s_ix, s_ixK, s_ixP, s_ixO, s_par, s_ins0, s_ins1, s_inF, s_inT, s_put0, s_put1, e_m, e_ty, e_tyL, e_tyS, e_app, e_appO, e_ext, e_extO, atI_0, atI_1, atI_2, atI_3, atI_4, atI_5, atI_last, PyData.isInt, PyData.isBool, PyData.isStr, PyData.isTuple, PyData.isList, List.map_cons, List.map_nil, List.length_cons, List.length_nil, List.cons_append, List.nil_append, List.replicate, Nat.reduceAdd, Nat.reduceSub, List.getElem?_cons_zero, List.getElem?_cons_succ, List.getElem?_nil, List.set_cons_zero, List.set_cons_succ, Option.bind_some, Option.map_some, Option.bind_none, Option.map_none, Nat.zero_add, Int.reduceLE, Int.reduceLT, Nat.reduceLT, Nat.reduceLeDiff, and_self, and_true, true_and, if_true, if_false, ite_true, ite_false, decide_true, decide_false, ↓reduceIte, Bool.false_eq_true, Bool.not_true, Bool.not_false, List.mem_cons, forall_eq_or_imp, List.not_mem_nil, forall_const, List.all_cons, List.all_nil, Bool.and_true, Bool.and_self, Bool.true_and, e, ef]
end
theorem d_right_eq : d__law_right = sSeq (sAs (dF 2 true m__law_tree (aCons (dNm 0) (aCons (dK (.int 8)) (aNil)))) (gNm false 1)) (sSeq (sPar [4, 5] [false, false] (aCons (dCall (aCons (dNm 1) (aNil)) (k1 hRepr)) (aCons (dCall (aCons (dLc [7] (iIt (dF 1 false m__law_leaves (aCons (dNm 1) (aNil)))) (cNm 7) (tYs) (d2 (d2 (d2 (dNm 1) (dK (.int 2)) kIx) (dNm 7) kIx) (dK (.int 0)) kIx)) (aNil)) (k1 hSorted)) (aNil)))) (sSeq (sIf (tO (dB (d2 (dF 1 false m_is_tree (aCons (dNm 1) (aNil))) (dK (.bool true)) (kS gIsNot))) (dB (d2 (dReprL (aCons (dF 1 false m_leaf_names (aCons (dNm 1) (aNil))) (aCons (dFK 1 1 [0] m_leaf_names (aCons (dNm 1) (aNil))) (aNil)))) (dReprL (aCons (dNm 5) (aCons (dNm 5) (aNil)))) (kS gNe)))) (sRet (dK (.bool false))) (sNx)) (sSeq (sFor (iR1 (dCall (aCons (d2 (dNm 1) (dK (.int 2)) kIx) (aNil)) (k1 hLen))) (gNm false 2) xLr1) (sSeq (sFor (iR1 (dK (.int 4))) (gNm false 3) xLr2) (sRet (eA (dF 1 true m__law_row_right (aCons (dNm 0) (aNil))) (d2 (dCall (aCons (dNm 1) (aNil)) (k1 hRepr)) (dNm 4) (kS gEq)))))))) := rfl
theorem law_right_ok {o : Ob} (ho : PotOk o) : ∃ o', m__law_right (some o) [] = some (.dat (.bool true), some o') ∧ PotOk o' := by
  obtain ⟨sg, nodes, left, o1, e1, hs, h1, d, ho1⟩ := tree_spec (o := o) 8 (by decide) (by decide) ho
  obtain ⟨t, hn⟩ := d.tree hs h1
  have hl2 := t.l2
  have hlm : (nodes.map Nd.d).length = nodes.length := List.length_map _
  have rt := tree_rp t hn
  have rn := names_rp hn hl2
  have hft : ∀ env, hRepr (treeD sg nodes) env = some (.dat (.str (treeD sg nodes).shown), env) := fun env => rt.repr rfl (by omega) (by omega)
  have hf2 : ∀ env, hRepr (.list [.list (sortD (lnD nodes)), .list (sortD (lnD nodes))]) env = some (.dat (.str (PyData.list [.list (sortD (lnD nodes)), .list (sortD (lnD nodes))]).shown), env) := fun env => (RPA.con rn (RPA.con rn (RPA.nil (n := 0)))).lst.repr rfl (by omega) (by omega)
  have ell := law_leaves_ok (sg := sg) (nodes := nodes) hl2
  have eln := leaf_names_ok t
  have eit := is_tree_ok t
  have e3 := fun env => ln_sort (nodes := nodes) env hl2
  have hll := leaf_len (nodes := nodes)
  have hc := loopC_map (vs := [7]) (g := cNm 7) (tt := tYs) (fe := d2 (d2 (d2 (dNm 1) (dK (.int 2)) kIx) (dNm 7) kIx) (dK (.int 0)) kIx) (φ := nmφ nodes) (leafD nodes) [] [some (.par 0 o1), some (.dat (treeD sg nodes)), none, none, none, none, none, none, none] (fun d hd => by
    obtain ⟨i, n, hn, rfl⟩ := mem_leaf hd
    have hn2 := nodes_at hn
    have e4 : n.d = .tuple [.str n.name, .int n.par, .tuple n.sh] := rfl
    rw [e4] at hn2
    unfold stepC nmφ treeD
    simp -dsimp only [bnd_some, bnd_none, f_sem, f_rt, f_nx, f_rD, f_rN, f_rS, f_rkO, f_rkD, f_p0, f_p1, f_pk, f_vD, f_vN, f_st0, f_st1, f_call0, f_k0, f_call1, f_c1, f_c2, f_pP, f_pO, f_k1P, f_k1O, f_k2, f_callK, e_nm, e_nmD, e_nmO, e_nmP, e_rdD, e_rdN, e_rdS, e_rkD, e_rkO, e_rkP, e_fzD, e_fzN, e_fzS, e_fkD, e_fkO, e_K, e_aN, e_aC, e_tup, e_lst, e_fzs0, e_fzs1, e_d2, e_kS, e_dB, e_bK, e_tA, e_tO, e_tN, e_eA, e_eO, e_eN, e_if, e_call, e_k1, e_k2, e_isi, e_neg, e_negK, e_ch, g_lt, g_le, g_ge, g_gt, g_ltI, g_sub, g_inS, g_isB, g_isnB, e_add, e_addI, e_ix, e_ixL, e_ixT, e_oN, e_oS, e_soK, e_sl, e_slL, e_slT, e_rev, e_revT, e_revL, h_lenL, h_lenT, h_abs, h_int, h_max, h_min, h_tupL, h_tupT, h_lstL, h_lstT, s_seq, s_nx, s_rt, s_bk, s_ct, s_ret, s_retN, s_nxE, s_bkE, s_if, s_ex, s_as, s_nmF, s_nmT, s_gs0, s_gs1, s_tp, s_tpT, s_ix, s_ixK, s_ixP, s_ixO, s_par, s_ins0, s_ins1, s_inF, s_inT, s_put0, s_put1, e_m, e_ty, e_tyL, e_tyS, e_app, e_appO, e_ext, e_extO, atI_0, atI_1, atI_2, atI_3, atI_4, atI_5, atI_last, PyData.isInt, PyData.isBool, PyData.isStr, PyData.isTuple, PyData.isList, List.map_cons, List.map_nil, List.length_cons, List.length_nil, List.cons_append, List.nil_append, List.replicate, Nat.reduceAdd, Nat.reduceSub, List.getElem?_cons_zero, List.getElem?_cons_succ, List.getElem?_nil, List.set_cons_zero, List.set_cons_succ, Option.bind_some, Option.map_some, Option.bind_none, Option.map_none, Nat.zero_add, Int.reduceLE, Int.reduceLT, Nat.reduceLT, Nat.reduceLeDiff, and_self, and_true, true_and, if_true, if_false, ite_true, ite_false, decide_true, decide_false, ↓reduceIte, Bool.false_eq_true, Bool.not_true, Bool.not_false, List.mem_cons, forall_eq_or_imp, List.not_mem_nil, forall_const, List.all_cons, List.all_nil, Bool.and_true, Bool.and_self, Bool.true_and, e_cNm, e_tYs, atI_nat, hn2, Int.toNat_natCast, hn, e_wipe0, e_wipe1]) (by rw [List.length_nil]; omega)
  rw [List.nil_append] at hc
  unfold lnD at e3
  have hr1 : ∀ env, r1K env (some (.int (nodes.length : Int))) = some (rngD 0 nodes.length, env) := fun env => by rw [e_r1K (by omega)]; rfl
  have hr4 : ∀ env, r1K env (some (.int 4)) = some (rngD 0 4, env) := fun env => e_r1K (by decide)
  obtain ⟨env', e5, c2, c6, h5⟩ := loopF_inv (g := gNm false 2) (b := xLr1) (Inv := fun _ env => ∃ c2 c6, env = lrE o1 sg nodes c2 none c6) (rngD 0 nodes.length) 0 (lrE o1 sg nodes none none none) (by
    rintro i dd env hd ⟨c2, c6, rfl⟩
    obtain ⟨hi, rfl⟩ := rng_get hd
    refine ⟨lrE o1 sg nodes (some (.dat (.int (i : Int)))) none c6, _, ?_, lr1_turn t d hi none c6, _, _, rfl⟩
    unfold lrE
    simp -dsimp only [bnd_some, bnd_none, f_sem, f_rt, f_nx, f_rD, f_rN, f_rS, f_rkO, f_rkD, f_p0, f_p1, f_pk, f_vD, f_vN, f_st0, f_st1, f_call0, f_k0, f_call1, f_c1, f_c2, f_pP, f_pO, f_k1P, f_k1O, f_k2, f_callK, e_nm, e_nmD, e_nmO, e_nmP, e_rdD, e_rdN, e_rdS, e_rkD, e_rkO, e_rkP, e_fzD, e_fzN, e_fzS, e_fkD, e_fkO, e_K, e_aN, e_aC, e_tup, e_lst, e_fzs0, e_fzs1, e_d2, e_kS, e_dB, e_bK, e_tA, e_tO, e_tN, e_eA, e_eO, e_eN, e_if, e_call, e_k1, e_k2, e_isi, e_neg, e_negK, e_ch, g_lt, g_le, g_ge, g_gt, g_ltI, g_sub, g_inS, g_isB, g_isnB, e_add, e_addI, e_ix, e_ixL, e_ixT, e_oN, e_oS, e_soK, e_sl, e_slL, e_slT, e_rev, e_revT, e_revL, h_lenL, h_lenT, h_abs, h_int, h_max, h_min, h_tupL, h_tupT, h_lstL, h_lstT, s_seq, s_nx, s_rt, s_bk, s_ct, s_ret, s_retN, s_nxE, s_bkE, s_if, s_ex, s_as, s_nmF, s_nmT, s_gs0, s_gs1, s_tp, s_tpT, s_ix, s_ixK, s_ixP, s_ixO, s_par, s_ins0, s_ins1, s_inF, s_inT, s_put0, s_put1, e_m, e_ty, e_tyL, e_tyS, e_app, e_appO, e_ext, e_extO, atI_0, atI_1, atI_2, atI_3, atI_4, atI_5, atI_last, PyData.isInt, PyData.isBool, PyData.isStr, PyData.isTuple, PyData.isList, List.map_cons, List.map_nil, List.length_cons, List.length_nil, List.cons_append, List.nil_append, List.replicate, Nat.reduceAdd, Nat.reduceSub, List.getElem?_cons_zero, List.getElem?_cons_succ, List.getElem?_nil, List.set_cons_zero, List.set_cons_succ, Option.bind_some, Option.map_some, Option.bind_none, Option.map_none, Nat.zero_add, Int.reduceLE, Int.reduceLT, Nat.reduceLT, Nat.reduceLeDiff, and_self, and_true, true_and, if_true, if_false, ite_true, ite_false, decide_true, decide_false, ↓reduceIte, Bool.false_eq_true, Bool.not_true, Bool.not_false, List.mem_cons, forall_eq_or_imp, List.not_mem_nil, forall_const, List.all_cons, List.all_nil, Bool.and_true, Bool.and_self, Bool.true_and]) ⟨none, none, rfl⟩
  subst h5
  obtain ⟨env', e6, o2, c3, h6, ho2⟩ := loopF_inv (g := gNm false 3) (b := xLr2) (Inv := fun _ env => ∃ o c3, env = lrE o sg nodes c2 c3 c6 ∧ PotOk o) (rngD 0 4) 0 (lrE o1 sg nodes c2 none c6) (by
    rintro i dd env hd ⟨o3, c3, rfl, ho3⟩
    obtain ⟨hi, rfl⟩ := rng_get hd
    obtain ⟨o4, e7, ho4⟩ := lr2_turn t d hn ho3 c2 (some (.dat (.int (i : Int)))) c6
    refine ⟨lrE o3 sg nodes c2 (some (.dat (.int (i : Int)))) c6, _, ?_, e7, o4, _, rfl, ho4⟩
    unfold lrE
    simp -dsimp only [bnd_some, bnd_none, f_sem, f_rt, f_nx, f_rD, f_rN, f_rS, f_rkO, f_rkD, f_p0, f_p1, f_pk, f_vD, f_vN, f_st0, f_st1, f_call0, f_k0, f_call1, f_c1, f_c2, f_pP, f_pO, f_k1P, f_k1O, f_k2, f_callK, e_nm, e_nmD, e_nmO, e_nmP, e_rdD, e_rdN, e_rdS, e_rkD, e_rkO, e_rkP, e_fzD, e_fzN, e_fzS, e_fkD, e_fkO, e_K, e_aN, e_aC, e_tup, e_lst, e_fzs0, e_fzs1, e_d2, e_kS, e_dB, e_bK, e_tA, e_tO, e_tN, e_eA, e_eO, e_eN, e_if, e_call, e_k1, e_k2, e_isi, e_neg, e_negK, e_ch, g_lt, g_le, g_ge, g_gt, g_ltI, g_sub, g_inS, g_isB, g_isnB, e_add, e_addI, e_ix, e_ixL, e_ixT, e_oN, e_oS, e_soK, e_sl, e_slL, e_slT, e_rev, e_revT, e_revL, h_lenL, h_lenT, h_abs, h_int, h_max, h_min, h_tupL, h_tupT, h_lstL, h_lstT, s_seq, s_nx, s_rt, s_bk, s_ct, s_ret, s_retN, s_nxE, s_bkE, s_if, s_ex, s_as, s_nmF, s_nmT, s_gs0, s_gs1, s_tp, s_tpT, s_ix, s_ixK, s_ixP, s_ixO, s_par, s_ins0, s_ins1, s_inF, s_inT, s_put0, s_put1, e_m, e_ty, e_tyL, e_tyS, e_app, e_appO, e_ext, e_extO, atI_0, atI_1, atI_2, atI_3, atI_4, atI_5, atI_last, PyData.isInt, PyData.isBool, PyData.isStr, PyData.isTuple, PyData.isList, List.map_cons, List.map_nil, List.length_cons, List.length_nil, List.cons_append, List.nil_append, List.replicate, Nat.reduceAdd, Nat.reduceSub, List.getElem?_cons_zero, List.getElem?_cons_succ, List.getElem?_nil, List.set_cons_zero, List.set_cons_succ, Option.bind_some, Option.map_some, Option.bind_none, Option.map_none, Nat.zero_add, Int.reduceLE, Int.reduceLT, Nat.reduceLT, Nat.reduceLeDiff, and_self, and_true, true_and, if_true, if_false, ite_true, ite_false, decide_true, decide_false, ↓reduceIte, Bool.false_eq_true, Bool.not_true, Bool.not_false, List.mem_cons, forall_eq_or_imp, List.not_mem_nil, forall_const, List.all_cons, List.all_nil, Bool.and_true, Bool.and_self, Bool.true_and]) ⟨o1, none, rfl, ho1⟩
  subst h6
  obtain ⟨o5, e8, ho5⟩ := row_right_ok ho2
  refine ⟨o5, ?_, ho5⟩
  unfold m__law_right N__law_right
  rw [d_right_eq]
  unfold yes at eit
  unfold lrE at e5 e6
  have hsh : ∀ z : Str, gEq (.str z) (.str z) = some (.bool true) := fun z => by rw [g_eqS, decide_eq_true rfl]
  have hsn : ∀ z : Str, gNe (.str z) (.str z) = some (.bool false) := fun z => by rw [g_neS, decide_eq_true rfl]; rfl
  generalize hsw : (treeD sg nodes).shown = shw at *
  unfold lnD at *
  unfold treeD at *
  simp -dsimp only [bnd_some, bnd_none, f_sem, f_rt, f_nx, f_rD, f_rN, f_rS, f_rkO, f_rkD, f_p0, f_p1, f_pk, f_vD, f_vN, f_st0, f_st1, f_call0, f_k0, f_call1, f_c1, f_c2, f_pP, f_pO, f_k1P, f_k1O, f_k2, f_callK, e_nm, e_nmD, e_nmO, e_nmP, e_rdD, e_rdN, e_rdS, e_rkD, e_rkO, e_rkP, e_fzD, e_fzN, e_fzS, e_fkD, e_fkO, e_K, e_aN, e_aC, e_tup, e_lst, e_fzs0, e_fzs1, e_d2, e_kS, e_dB, e_bK, e_tA, e_tO, e_tN, e_eA, e_eO, e_eN, e_if, e_call, e_k1, e_k2, e_isi, e_neg, e_negK, e_ch, g_lt, g_le, g_ge, g_gt, g_ltI, g_sub, g_inS, g_isB, g_isnB, e_add, e_addI, e_ix, e_ixL, e_ixT, e_oN, e_oS, e_soK, e_sl, e_slL, e_slT, e_rev, e_revT, e_revL, h_lenL, h_lenT, h_abs, h_int, h_max, h_min, h_tupL, h_tupT, h_lstL, h_lstT, s_seq, s_nx, s_rt, s_bk, s_ct, s_ret, s_retN, s_nxE, s_bkE, s_if, s_ex, s_as, s_nmF, s_nmT, s_gs0, s_gs1, s_tp, s_tpT, s_ix, s_ixK, s_ixP, s_ixO, s_par, s_ins0, s_ins1, s_inF, s_inT, s_put0, s_put1, e_m, e_ty, e_tyL, e_tyS, e_app, e_appO, e_ext, e_extO, atI_0, atI_1, atI_2, atI_3, atI_4, atI_5, atI_last, PyData.isInt, PyData.isBool, PyData.isStr, PyData.isTuple, PyData.isList, List.map_cons, List.map_nil, List.length_cons, List.length_nil, List.cons_append, List.nil_append, List.replicate, Nat.reduceAdd, Nat.reduceSub, List.getElem?_cons_zero, List.getElem?_cons_succ, List.getElem?_nil, List.set_cons_zero, List.set_cons_succ, Option.bind_some, Option.map_some, Option.bind_none, Option.map_none, Nat.zero_add, Int.reduceLE, Int.reduceLT, Nat.reduceLT, Nat.reduceLeDiff, and_self, and_true, true_and, if_true, if_false, ite_true, ite_false, decide_true, decide_false, ↓reduceIte, Bool.false_eq_true, Bool.not_true, Bool.not_false, List.mem_cons, forall_eq_or_imp, List.not_mem_nil, forall_const, List.all_cons, List.all_nil, Bool.and_true, Bool.and_self, Bool.true_and, e1, hft, e_lc, e_iIt, ell, e_itL, e_wipe0, e_wipe1, hc, e_rest0, e_rest1, List.getD_cons_zero, List.getD_cons_succ, e3, eit, e_tO, eln, e_reprL, hk1, e_rds0, e_rds1, hf2, hsn, s_for, e_iR1, hlm, hr1, e5, hr4, e6, e8, hsh]
theorem law_ok (ns : List Int) : ∃ o, m_law none [.list (ns.map PyData.int)] = some (.dat (.bool true), o) := by
  obtain ⟨m, hm, hm1⟩ : ∃ m : Nat, (if (if ((ns.map PyData.int).length : Int) < 2 then ((ns.map PyData.int).length : Int) else 2) > 1 then (if ((ns.map PyData.int).length : Int) < 2 then ((ns.map PyData.int).length : Int) else 2) else 1) = (m : Int) ∧ m ≤ 2 := by
    by_cases h : ((ns.map PyData.int).length : Int) < 2
    · rw [if_pos h, if_neg (by omega)]
      exact ⟨1, rfl, by omega⟩
    · rw [if_neg h, if_pos (by decide)]
      exact ⟨2, rfl, by omega⟩
  obtain ⟨bs, h1, h2⟩ := all_yes (vs := [1]) (g := cNm 1) (fe := dF 1 true m__law_right (aCons (dF 2 false m__law_pot (aCons (dNm 0) (aCons (dNm 1) (aNil)))) (aNil))) (rngD 0 m) [some (.dat (.list (ns.map PyData.int))), none] (fun d hd => by
    obtain ⟨i, hi, rfl⟩ := mem_rng hd
    obtain ⟨o, e, ho⟩ := pot_spec ns i (by omega)
    obtain ⟨o', e2, _⟩ := law_right_ok ho
    unfold stepC
    simp -dsimp only [bnd_some, bnd_none, f_sem, f_rt, f_nx, f_rD, f_rN, f_rS, f_rkO, f_rkD, f_p0, f_p1, f_pk, f_vD, f_vN, f_st0, f_st1, f_call0, f_k0, f_call1, f_c1, f_c2, f_pP, f_pO, f_k1P, f_k1O, f_k2, f_callK, e_nm, e_nmD, e_nmO, e_nmP, e_rdD, e_rdN, e_rdS, e_rkD, e_rkO, e_rkP, e_fzD, e_fzN, e_fzS, e_fkD, e_fkO, e_K, e_aN, e_aC, e_tup, e_lst, e_fzs0, e_fzs1, e_d2, e_kS, e_dB, e_bK, e_tA, e_tO, e_tN, e_eA, e_eO, e_eN, e_if, e_call, e_k1, e_k2, e_isi, e_neg, e_negK, e_ch, g_lt, g_le, g_ge, g_gt, g_ltI, g_sub, g_inS, g_isB, g_isnB, e_add, e_addI, e_ix, e_ixL, e_ixT, e_oN, e_oS, e_soK, e_sl, e_slL, e_slT, e_rev, e_revT, e_revL, h_lenL, h_lenT, h_abs, h_int, h_max, h_min, h_tupL, h_tupT, h_lstL, h_lstT, s_seq, s_nx, s_rt, s_bk, s_ct, s_ret, s_retN, s_nxE, s_bkE, s_if, s_ex, s_as, s_nmF, s_nmT, s_gs0, s_gs1, s_tp, s_tpT, s_ix, s_ixK, s_ixP, s_ixO, s_par, s_ins0, s_ins1, s_inF, s_inT, s_put0, s_put1, e_m, e_ty, e_tyL, e_tyS, e_app, e_appO, e_ext, e_extO, atI_0, atI_1, atI_2, atI_3, atI_4, atI_5, atI_last, PyData.isInt, PyData.isBool, PyData.isStr, PyData.isTuple, PyData.isList, List.map_cons, List.map_nil, List.length_cons, List.length_nil, List.cons_append, List.nil_append, List.replicate, Nat.reduceAdd, Nat.reduceSub, List.getElem?_cons_zero, List.getElem?_cons_succ, List.getElem?_nil, List.set_cons_zero, List.set_cons_succ, Option.bind_some, Option.map_some, Option.bind_none, Option.map_none, Nat.zero_add, Int.reduceLE, Int.reduceLT, Nat.reduceLT, Nat.reduceLeDiff, and_self, and_true, true_and, if_true, if_false, ite_true, ite_false, decide_true, decide_false, ↓reduceIte, Bool.false_eq_true, Bool.not_true, Bool.not_false, List.mem_cons, forall_eq_or_imp, List.not_mem_nil, forall_const, List.all_cons, List.all_nil, Bool.and_true, Bool.and_self, Bool.true_and, e_cNm, e_tYs, e, e2, e_wipe0, e_wipe1]) (by simp [rngD]; omega)
  have hr : ∀ env, r1K env (some (.int (m : Int))) = some (rngD 0 m, env) := fun env => by rw [e_r1K (by omega)]; rfl
  refine ⟨none, ?_⟩
  unfold m_law d_law N_law
  simp -dsimp only [bnd_some, bnd_none, f_sem, f_rt, f_nx, f_rD, f_rN, f_rS, f_rkO, f_rkD, f_p0, f_p1, f_pk, f_vD, f_vN, f_st0, f_st1, f_call0, f_k0, f_call1, f_c1, f_c2, f_pP, f_pO, f_k1P, f_k1O, f_k2, f_callK, e_nm, e_nmD, e_nmO, e_nmP, e_rdD, e_rdN, e_rdS, e_rkD, e_rkO, e_rkP, e_fzD, e_fzN, e_fzS, e_fkD, e_fkO, e_K, e_aN, e_aC, e_tup, e_lst, e_fzs0, e_fzs1, e_d2, e_kS, e_dB, e_bK, e_tA, e_tO, e_tN, e_eA, e_eO, e_eN, e_if, e_call, e_k1, e_k2, e_isi, e_neg, e_negK, e_ch, g_lt, g_le, g_ge, g_gt, g_ltI, g_sub, g_inS, g_isB, g_isnB, e_add, e_addI, e_ix, e_ixL, e_ixT, e_oN, e_oS, e_soK, e_sl, e_slL, e_slT, e_rev, e_revT, e_revL, h_lenL, h_lenT, h_abs, h_int, h_max, h_min, h_tupL, h_tupT, h_lstL, h_lstT, s_seq, s_nx, s_rt, s_bk, s_ct, s_ret, s_retN, s_nxE, s_bkE, s_if, s_ex, s_as, s_nmF, s_nmT, s_gs0, s_gs1, s_tp, s_tpT, s_ix, s_ixK, s_ixP, s_ixO, s_par, s_ins0, s_ins1, s_inF, s_inT, s_put0, s_put1, e_m, e_ty, e_tyL, e_tyS, e_app, e_appO, e_ext, e_extO, atI_0, atI_1, atI_2, atI_3, atI_4, atI_5, atI_last, PyData.isInt, PyData.isBool, PyData.isStr, PyData.isTuple, PyData.isList, List.map_cons, List.map_nil, List.length_cons, List.length_nil, List.cons_append, List.nil_append, List.replicate, Nat.reduceAdd, Nat.reduceSub, List.getElem?_cons_zero, List.getElem?_cons_succ, List.getElem?_nil, List.set_cons_zero, List.set_cons_succ, Option.bind_some, Option.map_some, Option.bind_none, Option.map_none, Nat.zero_add, Int.reduceLE, Int.reduceLT, Nat.reduceLT, Nat.reduceLeDiff, and_self, and_true, true_and, if_true, if_false, ite_true, ite_false, decide_true, decide_false, ↓reduceIte, Bool.false_eq_true, Bool.not_true, Bool.not_false, List.mem_cons, forall_eq_or_imp, List.not_mem_nil, forall_const, List.all_cons, List.all_nil, Bool.and_true, Bool.and_self, Bool.true_and, hm, e_lc, e_iR1, hr, e_wipe0, e_wipe1, h1, e_rest0, e_rest1, List.getD_cons_zero, List.getD_cons_succ, h_all, h2]
end EW

set_option maxHeartbeats 2000000
namespace EW
noncomputable section
open PySem PySem.Spec PyProof.Rows L2
section
variable {P : Program} {w : World} {K : PySem.W.Frag} {mg : Str → Option Value} {base : Heap}
theorem sc__law_pot : FnScope N__law_pot ["script", "k"] (defScope EH.s__law_pot) := ⟨rfl, rfl, rfl, by decide +kernel, rfl, by decide +kernel, by decide +kernel⟩
theorem ok__law_pot (fx : Fx mg)  {f : Addr} {fd : FuncData} (F : FunD K "_law_pot" "_law_pot" (defArgs EH.s__law_pot) (defBody EH.s__law_pot) (defScope EH.s__law_pot) [] [] f fd) (hm : mg "_law_pot" = some (.ref f)) : Good P w K mg base 1 "_law_pot" (defArgs EH.s__law_pot) ["script", "k"] m__law_pot :=
  good_of (N := N__law_pot) (ps := ["script", "k"]) (k := 0) (fs := d__law_pot) F hm sc__law_pot (fun _ _ _ _ _ _ us hl => match us, hl with | [_, _], _ => rfl) fun cdv A outer s H ok => js_seq (js_set (i := 2) false (je_if (jt_lt  (je_nm 1) (je_callB (hv := bb_len) cr_lenA len_ok (by rfl) fx.b_len (ja_cons (je_nm 0) (ja_nil)))) (je_callB (hv := bb_abs) call_abs abs_ok (by rfl) fx.b_abs (ja_cons (je_ix (je_nm 0) (je_nm 1)) (ja_nil))) (je_add (je_mul (je_int) (je_nm 1)) (je_int))) (Ok.nd ok)) (js_one (js_ret (je_lst (ja_cons (je_callB (hv := bb_max) (call_max2 (Ok.calm ok)) max2_ok (by rfl) fx.b_max (ja_cons (je_int) (ja_cons (je_sub (je_nm 2) (je_pow (je_int) (je_int))) (ja_nil)))) (ja_cons (je_add (je_mod (je_callTy (hv := bb_int) call_int1 int_ok (by rfl) fx.b_int (ja_cons (je_add (je_add (je_mul (je_mod (je_callTy (hv := bb_int) call_int1 int_ok (by rfl) fx.b_int (ja_cons (je_nm 2) (ja_nil))) (je_int)) (je_int)) (je_mul (je_int) (je_nm 1))) (je_int)) (ja_nil))) (je_int)) (je_int)) (ja_nil))))))
theorem sc_is_tuple : FnScope N_is_tuple ["value", "many"] (defScope EH.s_is_tuple) := ⟨rfl, rfl, rfl, by decide +kernel, rfl, by decide +kernel, by decide +kernel⟩
theorem ok_is_tuple (fx : Fx mg)  {f : Addr} {fd : FuncData} (F : FunD K "is_tuple" "is_tuple" (defArgs EH.s_is_tuple) (defBody EH.s_is_tuple) (defScope EH.s_is_tuple) [] [] f fd) (hm : mg "is_tuple" = some (.ref f)) : Good P w K mg base 1 "is_tuple" (defArgs EH.s_is_tuple) ["value", "many"] m_is_tuple :=
  good_of (N := N_is_tuple) (ps := ["value", "many"]) (k := 0) (fs := d_is_tuple) F hm sc_is_tuple (fun _ _ _ _ _ _ us hl => match us, hl with | [_, _], _ => rfl) fun cdv A outer s H ok => js_one (js_ret (je_and (je_isi (hvT := bb_tuple) isi_tuple fx.b_isinstance fx.b_tuple (je_nm 0)) (je_one (je_eq (Ok.un ok) (je_callB (hv := bb_len) cr_lenA len_ok (by rfl) fx.b_len (ja_cons (je_nm 0) (ja_nil))) (je_nm 1)))))
theorem sc_are_rising : FnScope N_are_rising ["values"] (defScope EH.s_are_rising) := ⟨rfl, rfl, rfl, by decide +kernel, rfl, by decide +kernel, by decide +kernel⟩
theorem ok_are_rising (fx : Fx mg)  {f : Addr} {fd : FuncData} (F : FunD K "are_rising" "are_rising" (defArgs EH.s_are_rising) (defBody EH.s_are_rising) (defScope EH.s_are_rising) [] [] f fd) (hm : mg "are_rising" = some (.ref f)) : Good P w K mg base 1 "are_rising" (defArgs EH.s_are_rising) ["values"] m_are_rising :=
  good_of (N := N_are_rising) (ps := ["values"]) (k := 0) (fs := d_are_rising) F hm sc_are_rising (fun _ _ _ _ _ _ us hl => match us, hl with | [_], _ => rfl) fun cdv A outer s H ok => js_one (js_ret (je_callB (hv := bb_all) (cr_all (Ok.calm ok)) all_ok (by rfl) fx.b_all (ja_cons (je_lc (own := [("near", 1), ("far", 2)]) ok (ji_zp fx.b_zip (je_nm 0) (je_sl (je_nm 0) (jo_so (je_int)) (jo_no))) (blkOk_by (by first | rfl | kernel_rfl)) (fun _ _ _ _ _ o1 => jc_tup (Ok.calm o1) (jcs_cons (jc_nm (i := 1) (Ok.nd o1) (by decide)) (jcs_cons (jc_nm (i := 2) (Ok.nd o1) (by decide)) (jcs_nil)))) (fun _ _ _ _ _ o1 => jts_nil) (fun _ _ _ _ _ o1 => je_lt  (je_nm 1) (je_nm 2))) (ja_nil))))
theorem sc_are_signs : FnScope N_are_signs ["value"] (defScope EH.s_are_signs) := ⟨rfl, rfl, rfl, by decide +kernel, rfl, by decide +kernel, by decide +kernel⟩
theorem ok_are_signs (fx : Fx mg) (g_are_rising : Good P w K mg base 1 "are_rising" (defArgs EH.s_are_rising) ["values"] m_are_rising) {f : Addr} {fd : FuncData} (F : FunD K "are_signs" "are_signs" (defArgs EH.s_are_signs) (defBody EH.s_are_signs) (defScope EH.s_are_signs) [] [] f fd) (hm : mg "are_signs" = some (.ref f)) : Good P w K mg base 2 "are_signs" (defArgs EH.s_are_signs) ["value"] m_are_signs :=
  good_of (N := N_are_signs) (ps := ["value"]) (k := 1) (fs := d_are_signs) F hm sc_are_signs (fun _ _ _ _ _ _ us hl => match us, hl with | [_], _ => rfl) fun cdv A outer s H ok => js_seq (js_if ((jw_or (jt_not (jt_val (je_isi (hvT := bb_str) isi_str fx.b_isinstance fx.b_str (je_nm 0)))) (jw_or1 (jt_not (jt_lele (je_int) (je_callB (hv := bb_len) cr_lenA len_ok (by rfl) fx.b_len (ja_cons (je_nm 0) (ja_nil))) (je_gint1 fx.c_MOST_SIGNS))))).pt) (js_one (js_ret (je_bl))) (js_nil)) (js_one (js_ret (je_and (je_callB (hv := bb_all) (cr_all (Ok.calm ok)) all_ok (by rfl) fx.b_all (ja_cons (je_lc (own := [("sign", 1)]) ok (ji_it (je_nm 0)) (blkOk_by (by first | rfl | kernel_rfl)) (fun _ _ _ _ _ o1 => jc_nm (i := 1) (Ok.nd o1) (by decide)) (fun _ _ _ _ _ o1 => jts_nil) (fun _ _ _ _ _ o1 => je_in (Ok.un o1) (je_nm 1) (je_gstr1 fx.c_LETTERS))) (ja_nil))) (je_one (je_call false (Good.mono g_are_rising (by decide)) ok (ja_cons (je_nm 0) (ja_nil)))))))
theorem sc_is_integer : FnScope N_is_integer ["value"] (defScope EH.s_is_integer) := ⟨rfl, rfl, rfl, by decide +kernel, rfl, by decide +kernel, by decide +kernel⟩
theorem ok_is_integer (fx : Fx mg)  {f : Addr} {fd : FuncData} (F : FunD K "is_integer" "is_integer" (defArgs EH.s_is_integer) (defBody EH.s_is_integer) (defScope EH.s_is_integer) [] [] f fd) (hm : mg "is_integer" = some (.ref f)) : Good P w K mg base 1 "is_integer" (defArgs EH.s_is_integer) ["value"] m_is_integer :=
  good_of (N := N_is_integer) (ps := ["value"]) (k := 0) (fs := d_is_integer) F hm sc_is_integer (fun _ _ _ _ _ _ us hl => match us, hl with | [_], _ => rfl) fun cdv A outer s H ok => js_one (js_ret (je_and (je_isi (hvT := bb_int) isi_int fx.b_isinstance fx.b_int (je_nm 0)) (je_one (je_not (je_isi (hvT := bb_bool) isi_bool fx.b_isinstance fx.b_bool (je_nm 0))))))
theorem sc_is_within : FnScope N_is_within ["value", "least", "most"] (defScope EH.s_is_within) := ⟨rfl, rfl, rfl, by decide +kernel, rfl, by decide +kernel, by decide +kernel⟩
theorem ok_is_within (fx : Fx mg) (g_is_integer : Good P w K mg base 1 "is_integer" (defArgs EH.s_is_integer) ["value"] m_is_integer) {f : Addr} {fd : FuncData} (F : FunD K "is_within" "is_within" (defArgs EH.s_is_within) (defBody EH.s_is_within) (defScope EH.s_is_within) [] [] f fd) (hm : mg "is_within" = some (.ref f)) : Good P w K mg base 2 "is_within" (defArgs EH.s_is_within) ["value", "least", "most"] m_is_within :=
  good_of (N := N_is_within) (ps := ["value", "least", "most"]) (k := 1) (fs := d_is_within) F hm sc_is_within (fun _ _ _ _ _ _ us hl => match us, hl with | [_, _, _], _ => rfl) fun cdv A outer s H ok => js_one (js_ret (je_and (je_call false (Good.mono g_is_integer (by decide)) ok (ja_cons (je_nm 0) (ja_nil))) (je_one (je_lele (je_nm 1) (je_nm 0) (je_nm 2)))))
theorem sc_is_text_of : FnScope N_is_text_of ["signs", "value", "most"] (defScope EH.s_is_text_of) := ⟨rfl, rfl, rfl, by decide +kernel, rfl, by decide +kernel, by decide +kernel⟩
theorem ok_is_text_of (fx : Fx mg)  {f : Addr} {fd : FuncData} (F : FunD K "is_text_of" "is_text_of" (defArgs EH.s_is_text_of) (defBody EH.s_is_text_of) (defScope EH.s_is_text_of) [] [] f fd) (hm : mg "is_text_of" = some (.ref f)) : Good P w K mg base 1 "is_text_of" (defArgs EH.s_is_text_of) ["signs", "value", "most"] m_is_text_of :=
  good_of (N := N_is_text_of) (ps := ["signs", "value", "most"]) (k := 0) (fs := d_is_text_of) F hm sc_is_text_of (fun _ _ _ _ _ _ us hl => match us, hl with | [_, _, _], _ => rfl) fun cdv A outer s H ok => js_one (js_ret (je_and (je_isi (hvT := bb_str) isi_str fx.b_isinstance fx.b_str (je_nm 1)) (je_and (je_le  (je_callB (hv := bb_len) cr_lenA len_ok (by rfl) fx.b_len (ja_cons (je_nm 1) (ja_nil))) (je_nm 2)) (je_one (je_callB (hv := bb_all) (cr_all (Ok.calm ok)) all_ok (by rfl) fx.b_all (ja_cons (je_lc (own := [("sign", 3)]) ok (ji_it (je_nm 1)) (blkOk_by (by first | rfl | kernel_rfl)) (fun _ _ _ _ _ o1 => jc_nm (i := 3) (Ok.nd o1) (by decide)) (fun _ _ _ _ _ o1 => jts_nil) (fun _ _ _ _ _ o1 => je_in (Ok.un o1) (je_nm 3) (je_nm 0))) (ja_nil)))))))
theorem sc_is_class_of : FnScope N_is_class_of ["signs", "value"] (defScope EH.s_is_class_of) := ⟨rfl, rfl, rfl, by decide +kernel, rfl, by decide +kernel, by decide +kernel⟩
theorem ok_is_class_of (fx : Fx mg) (g_are_rising : Good P w K mg base 1 "are_rising" (defArgs EH.s_are_rising) ["values"] m_are_rising) {f : Addr} {fd : FuncData} (F : FunD K "is_class_of" "is_class_of" (defArgs EH.s_is_class_of) (defBody EH.s_is_class_of) (defScope EH.s_is_class_of) [] [] f fd) (hm : mg "is_class_of" = some (.ref f)) : Good P w K mg base 2 "is_class_of" (defArgs EH.s_is_class_of) ["signs", "value"] m_is_class_of :=
  good_of (N := N_is_class_of) (ps := ["signs", "value"]) (k := 1) (fs := d_is_class_of) F hm sc_is_class_of (fun _ _ _ _ _ _ us hl => match us, hl with | [_, _], _ => rfl) fun cdv A outer s H ok => js_one (js_ret (je_and (je_isi (hvT := bb_str) isi_str fx.b_isinstance fx.b_str (je_nm 1)) (je_and (je_gt  (je_callB (hv := bb_len) cr_lenA len_ok (by rfl) fx.b_len (ja_cons (je_nm 1) (ja_nil))) (je_int)) (je_and (je_callB (hv := bb_all) (cr_all (Ok.calm ok)) all_ok (by rfl) fx.b_all (ja_cons (je_lc (own := [("sign", 2)]) ok (ji_it (je_nm 1)) (blkOk_by (by first | rfl | kernel_rfl)) (fun _ _ _ _ _ o1 => jc_nm (i := 2) (Ok.nd o1) (by decide)) (fun _ _ _ _ _ o1 => jts_nil) (fun _ _ _ _ _ o1 => je_in (Ok.un o1) (je_nm 2) (je_nm 0))) (ja_nil))) (je_one (je_call false (Good.mono g_are_rising (by decide)) ok (ja_cons (je_nm 1) (ja_nil))))))))
theorem sc_are_contexts : FnScope N_are_contexts ["signs", "value"] (defScope EH.s_are_contexts) := ⟨rfl, rfl, rfl, by decide +kernel, rfl, by decide +kernel, by decide +kernel⟩
theorem ok_are_contexts (fx : Fx mg) (g_is_class_of : Good P w K mg base 2 "is_class_of" (defArgs EH.s_is_class_of) ["signs", "value"] m_is_class_of) {f : Addr} {fd : FuncData} (F : FunD K "are_contexts" "are_contexts" (defArgs EH.s_are_contexts) (defBody EH.s_are_contexts) (defScope EH.s_are_contexts) [] [] f fd) (hm : mg "are_contexts" = some (.ref f)) : Good P w K mg base 3 "are_contexts" (defArgs EH.s_are_contexts) ["signs", "value"] m_are_contexts :=
  good_of (N := N_are_contexts) (ps := ["signs", "value"]) (k := 2) (fs := d_are_contexts) F hm sc_are_contexts (fun _ _ _ _ _ _ us hl => match us, hl with | [_, _], _ => rfl) fun cdv A outer s H ok => js_seq (js_if ((jw_or (jt_not (jt_val (je_isi (hvT := bb_tuple) isi_tuple fx.b_isinstance fx.b_tuple (je_nm 1)))) (jw_or1 (jt_gt  (je_callB (hv := bb_len) cr_lenA len_ok (by rfl) fx.b_len (ja_cons (je_nm 1) (ja_nil))) (je_gint1 fx.c_MOST_CONTEXTS)))).pt) (js_one (js_ret (je_bl))) (js_nil)) (js_one (js_ret (je_callB (hv := bb_all) (cr_all (Ok.calm ok)) all_ok (by rfl) fx.b_all (ja_cons (je_lc (own := [("one", 2)]) ok (ji_it (je_nm 1)) (blkOk_by (by first | rfl | kernel_rfl)) (fun _ _ _ _ _ o1 => jc_nm (i := 2) (Ok.nd o1) (by decide)) (fun _ _ _ _ _ o1 => jts_nil) (fun _ _ _ _ _ o1 => je_call false (Good.mono g_is_class_of (by decide)) o1 (ja_cons (je_add (je_gstr1 fx.c_EDGE) (je_nm 0)) (ja_cons (je_nm 2) (ja_nil))))) (ja_nil)))))
theorem sc_is_shift_of : FnScope N_is_shift_of ["signs", "value"] (defScope EH.s_is_shift_of) := ⟨rfl, rfl, rfl, by decide +kernel, rfl, by decide +kernel, by decide +kernel⟩
theorem ok_is_shift_of (fx : Fx mg) (g_is_tuple : Good P w K mg base 1 "is_tuple" (defArgs EH.s_is_tuple) ["value", "many"] m_is_tuple) (g_is_text_of : Good P w K mg base 1 "is_text_of" (defArgs EH.s_is_text_of) ["signs", "value", "most"] m_is_text_of) (g_is_class_of : Good P w K mg base 2 "is_class_of" (defArgs EH.s_is_class_of) ["signs", "value"] m_is_class_of) (g_are_contexts : Good P w K mg base 3 "are_contexts" (defArgs EH.s_are_contexts) ["signs", "value"] m_are_contexts) {f : Addr} {fd : FuncData} (F : FunD K "is_shift_of" "is_shift_of" (defArgs EH.s_is_shift_of) (defBody EH.s_is_shift_of) (defScope EH.s_is_shift_of) [] [] f fd) (hm : mg "is_shift_of" = some (.ref f)) : Good P w K mg base 4 "is_shift_of" (defArgs EH.s_is_shift_of) ["signs", "value"] m_is_shift_of :=
  good_of (N := N_is_shift_of) (ps := ["signs", "value"]) (k := 3) (fs := d_is_shift_of) F hm sc_is_shift_of (fun _ _ _ _ _ _ us hl => match us, hl with | [_, _], _ => rfl) fun cdv A outer s H ok => js_seq (js_if ((jw_or (jt_not (jt_val (je_call false (Good.mono g_is_tuple (by decide)) ok (ja_cons (je_nm 1) (ja_cons (je_int) (ja_nil)))))) (jw_or (jt_not (jt_val (je_isi (hvT := bb_str) isi_str fx.b_isinstance fx.b_str (je_ix (je_nm 1) (je_int))))) (jw_or1 (jt_ne (Ok.un ok) (je_ix (je_nm 1) (je_int)) (je_str))))).pt) (js_one (js_ret (je_bl))) (js_nil)) (js_seq (js_if ((jw_or (jt_not (jt_val (je_isi (hvT := bb_str) isi_str fx.b_isinstance fx.b_str (je_ix (je_nm 1) (je_int))))) (jw_or (jt_ni (Ok.un ok) (je_ix (je_nm 1) (je_int)) (je_tup (ja_cons (je_gstr1 fx.c_ONCE) (ja_cons (je_gstr1 fx.c_LEFT) (ja_nil))))) (jw_or1 (jt_not (jt_val (je_call false (Good.mono g_is_class_of (by decide)) ok (ja_cons (je_nm 0) (ja_cons (je_ix (je_nm 1) (je_int)) (ja_nil))))))))).pt) (js_one (js_ret (je_bl))) (js_nil)) (js_seq (js_if ((jw_or (jt_not (jt_val (je_call false (Good.mono g_is_tuple (by decide)) ok (ja_cons (je_ix (je_nm 1) (je_int)) (ja_cons (je_callB (hv := bb_len) cr_lenA len_ok (by rfl) fx.b_len (ja_cons (je_ix (je_nm 1) (je_int)) (ja_nil))) (ja_nil)))))) (jw_or1 (jt_not (jt_val (je_callB (hv := bb_all) (cr_all (Ok.calm ok)) all_ok (by rfl) fx.b_all (ja_cons (je_lc (own := [("one", 2)]) ok (ji_it (je_ix (je_nm 1) (je_int))) (blkOk_by (by first | rfl | kernel_rfl)) (fun _ _ _ _ _ o1 => jc_nm (i := 2) (Ok.nd o1) (by decide)) (fun _ _ _ _ _ o1 => jts_nil) (fun _ _ _ _ _ o1 => je_call false (Good.mono g_is_text_of (by decide)) o1 (ja_cons (je_nm 0) (ja_cons (je_nm 2) (ja_cons (je_gint1 fx.c_MOST_MADE) (ja_nil)))))) (ja_nil))))))).pt) (js_one (js_ret (je_bl))) (js_nil)) (js_one (js_ret (je_and (je_call false (Good.mono g_are_contexts (by decide)) ok (ja_cons (je_nm 0) (ja_cons (je_ix (je_nm 1) (je_int)) (ja_nil)))) (je_one (je_call false (Good.mono g_are_contexts (by decide)) ok (ja_cons (je_nm 0) (ja_cons (je_ix (je_nm 1) (je_int)) (ja_nil))))))))))
theorem sc_is_name : FnScope N_is_name ["value"] (defScope EH.s_is_name) := ⟨rfl, rfl, rfl, by decide +kernel, rfl, by decide +kernel, by decide +kernel⟩
theorem ok_is_name (fx : Fx mg)  {f : Addr} {fd : FuncData} (F : FunD K "is_name" "is_name" (defArgs EH.s_is_name) (defBody EH.s_is_name) (defScope EH.s_is_name) [] [] f fd) (hm : mg "is_name" = some (.ref f)) : Good P w K mg base 1 "is_name" (defArgs EH.s_is_name) ["value"] m_is_name :=
  good_of (N := N_is_name) (ps := ["value"]) (k := 0) (fs := d_is_name) F hm sc_is_name (fun _ _ _ _ _ _ us hl => match us, hl with | [_], _ => rfl) fun cdv A outer s H ok => js_one (js_ret (je_and (je_isi (hvT := bb_str) isi_str fx.b_isinstance fx.b_str (je_nm 0)) (je_and (je_lele (je_int) (je_callB (hv := bb_len) cr_lenA len_ok (by rfl) fx.b_len (ja_cons (je_nm 0) (ja_nil))) (je_gint1 fx.c_MOST_NAME)) (je_one (je_callB (hv := bb_all) (cr_all (Ok.calm ok)) all_ok (by rfl) fx.b_all (ja_cons (je_lc (own := [("sign", 1)]) ok (ji_it (je_nm 0)) (blkOk_by (by first | rfl | kernel_rfl)) (fun _ _ _ _ _ o1 => jc_nm (i := 1) (Ok.nd o1) (by decide)) (fun _ _ _ _ _ o1 => jts_nil) (fun _ _ _ _ _ o1 => je_in (Ok.un o1) (je_nm 1) (je_gstr1 fx.c_LETTERS))) (ja_nil)))))))
theorem sc_is_node : FnScope N_is_node ["signs", "number", "value"] (defScope EH.s_is_node) := ⟨rfl, rfl, rfl, by decide +kernel, rfl, by decide +kernel, by decide +kernel⟩
theorem ok_is_node (fx : Fx mg) (g_is_within : Good P w K mg base 2 "is_within" (defArgs EH.s_is_within) ["value", "least", "most"] m_is_within) (g_is_tuple : Good P w K mg base 1 "is_tuple" (defArgs EH.s_is_tuple) ["value", "many"] m_is_tuple) (g_is_shift_of : Good P w K mg base 4 "is_shift_of" (defArgs EH.s_is_shift_of) ["signs", "value"] m_is_shift_of) (g_is_name : Good P w K mg base 1 "is_name" (defArgs EH.s_is_name) ["value"] m_is_name) {f : Addr} {fd : FuncData} (F : FunD K "is_node" "is_node" (defArgs EH.s_is_node) (defBody EH.s_is_node) (defScope EH.s_is_node) [] [] f fd) (hm : mg "is_node" = some (.ref f)) : Good P w K mg base 5 "is_node" (defArgs EH.s_is_node) ["signs", "number", "value"] m_is_node :=
  good_of (N := N_is_node) (ps := ["signs", "number", "value"]) (k := 4) (fs := d_is_node) F hm sc_is_node (fun _ _ _ _ _ _ us hl => match us, hl with | [_, _, _], _ => rfl) fun cdv A outer s H ok => js_seq (js_if ((jw_or (jt_not (jt_val (je_call false (Good.mono g_is_tuple (by decide)) ok (ja_cons (je_nm 2) (ja_cons (je_int) (ja_nil)))))) (jw_or (jt_not (jt_val (je_call false (Good.mono g_is_name (by decide)) ok (ja_cons (je_ix (je_nm 2) (je_int)) (ja_nil))))) (jw_or1 (jt_not (jt_val (je_isi (hvT := bb_tuple) isi_tuple fx.b_isinstance fx.b_tuple (je_ix (je_nm 2) (je_int)))))))).pt) (js_one (js_ret (je_bl))) (js_nil)) (js_seq (js_if (jt_eq (Ok.un ok) (je_nm 1) (je_int)) (js_one (js_ret (je_and (je_call false (Good.mono g_is_within (by decide)) ok (ja_cons (je_ix (je_nm 2) (je_int)) (ja_cons (je_neg (je_int)) (ja_cons (je_neg (je_int)) (ja_nil))))) (je_one (je_eq (Ok.un ok) (je_ix (je_nm 2) (je_int)) (je_tup (ja_nil))))))) (js_nil)) (js_seq (js_if ((jw_or (jt_not (jt_val (je_call false (Good.mono g_is_within (by decide)) ok (ja_cons (je_ix (je_nm 2) (je_int)) (ja_cons (je_int) (ja_cons (je_sub (je_nm 1) (je_int)) (ja_nil))))))) (jw_or1 (jt_gt  (je_callB (hv := bb_len) cr_lenA len_ok (by rfl) fx.b_len (ja_cons (je_ix (je_nm 2) (je_int)) (ja_nil))) (je_gint1 fx.c_MOST_ALONG)))).pt) (js_one (js_ret (je_bl))) (js_nil)) (js_one (js_ret (je_callB (hv := bb_all) (cr_all (Ok.calm ok)) all_ok (by rfl) fx.b_all (ja_cons (je_lc (own := [("one", 3)]) ok (ji_it (je_ix (je_nm 2) (je_int))) (blkOk_by (by first | rfl | kernel_rfl)) (fun _ _ _ _ _ o1 => jc_nm (i := 3) (Ok.nd o1) (by decide)) (fun _ _ _ _ _ o1 => jts_nil) (fun _ _ _ _ _ o1 => je_call false (Good.mono g_is_shift_of (by decide)) o1 (ja_cons (je_nm 0) (ja_cons (je_nm 3) (ja_nil))))) (ja_nil)))))))
theorem sc_shifts_along : FnScope N_shifts_along ["nodes"] (defScope EH.s_shifts_along) := ⟨rfl, rfl, rfl, by decide +kernel, rfl, by decide +kernel, by decide +kernel⟩
theorem ok_shifts_along (fx : Fx mg)  {f : Addr} {fd : FuncData} (F : FunD K "shifts_along" "shifts_along" (defArgs EH.s_shifts_along) (defBody EH.s_shifts_along) (defScope EH.s_shifts_along) [] [] f fd) (hm : mg "shifts_along" = some (.ref f)) : Good P w K mg base 1 "shifts_along" (defArgs EH.s_shifts_along) ["nodes"] m_shifts_along :=
  good_of (N := N_shifts_along) (ps := ["nodes"]) (k := 0) (fs := d_shifts_along) F hm sc_shifts_along (fun _ _ _ _ _ _ us hl => match us, hl with | [_], _ => rfl) fun cdv A outer s H ok => js_seq (js_set (i := 1) true (je_lst (ja_nil)) (Ok.nd ok)) (js_seq (js_for PassesOwn.never (Ok.calm ok) (ji_it (je_nm 0)) (jg_tup (Ok.calm ok) (jgs_cons (jg_nm (i := 2) false (Ok.nd ok)) (jgs_cons (jg_nm (i := 3) false (Ok.nd ok)) (jgs_cons (jg_nm (i := 4) false (Ok.nd ok)) (jgs_nil))))) (js_one (js_ex (je_m PySem.F.plainAttrs_list PySem.F.slot_list_append PySem.F.type_list_append mt_append app_ok (je_nm 1) (ja_cons (je_add (je_if (jt_ge  (je_nm 3) (je_int)) (je_ix (je_nm 1) (je_nm 3)) (je_tup (ja_nil))) (je_nm 4)) (ja_nil)))))) (js_one (js_ret (je_nm 1))))
theorem sc_is_tree_any : FnScope N_is_tree_any ["value"] (defScope EH.s_is_tree_any) := ⟨rfl, rfl, rfl, by decide +kernel, rfl, by decide +kernel, by decide +kernel⟩
theorem ok_is_tree_any (fx : Fx mg) (g_is_tuple : Good P w K mg base 1 "is_tuple" (defArgs EH.s_is_tuple) ["value", "many"] m_is_tuple) (g_are_signs : Good P w K mg base 2 "are_signs" (defArgs EH.s_are_signs) ["value"] m_are_signs) (g_is_node : Good P w K mg base 5 "is_node" (defArgs EH.s_is_node) ["signs", "number", "value"] m_is_node) (g_shifts_along : Good P w K mg base 1 "shifts_along" (defArgs EH.s_shifts_along) ["nodes"] m_shifts_along) {f : Addr} {fd : FuncData} (F : FunD K "is_tree_any" "is_tree_any" (defArgs EH.s_is_tree_any) (defBody EH.s_is_tree_any) (defScope EH.s_is_tree_any) [] [] f fd) (hm : mg "is_tree_any" = some (.ref f)) : Good P w K mg base 6 "is_tree_any" (defArgs EH.s_is_tree_any) ["value"] m_is_tree_any :=
  good_of (N := N_is_tree_any) (ps := ["value"]) (k := 5) (fs := d_is_tree_any) F hm sc_is_tree_any (fun _ _ _ _ _ _ us hl => match us, hl with | [_], _ => rfl) fun cdv A outer s H ok => js_seq (js_if ((jw_or (jt_not (jt_val (je_call false (Good.mono g_is_tuple (by decide)) ok (ja_cons (je_nm 0) (ja_cons (je_int) (ja_nil)))))) (jw_or (jt_not (jt_val (je_isi (hvT := bb_str) isi_str fx.b_isinstance fx.b_str (je_ix (je_nm 0) (je_int))))) (jw_or (jt_ne (Ok.un ok) (je_ix (je_nm 0) (je_int)) (je_str)) (jw_or1 (jt_not (jt_val (je_call false (Good.mono g_are_signs (by decide)) ok (ja_cons (je_ix (je_nm 0) (je_int)) (ja_nil))))))))).pt) (js_one (js_ret (je_bl))) (js_nil)) (js_seq (js_set (i := 1) false (je_ix (je_nm 0) (je_int)) (Ok.nd ok)) (js_seq (js_if ((jw_or (jt_not (jt_val (je_isi (hvT := bb_tuple) isi_tuple fx.b_isinstance fx.b_tuple (je_nm 1)))) (jw_or1 (jt_not (jt_lele (je_int) (je_callB (hv := bb_len) cr_lenA len_ok (by rfl) fx.b_len (ja_cons (je_nm 1) (ja_nil))) (je_gint1 fx.c_MOST_NODES))))).pt) (js_one (js_ret (je_bl))) (js_nil)) (js_seq (js_if (jt_not (jt_val (je_callB (hv := bb_all) (cr_all (Ok.calm ok)) all_ok (by rfl) fx.b_all (ja_cons (je_lc (own := [("number", 2), ("one", 3)]) ok (ji_en fx.b_enumerate (je_nm 1)) (blkOk_by (by first | rfl | kernel_rfl)) (fun _ _ _ _ _ o1 => jc_tup (Ok.calm o1) (jcs_cons (jc_nm (i := 2) (Ok.nd o1) (by decide)) (jcs_cons (jc_nm (i := 3) (Ok.nd o1) (by decide)) (jcs_nil)))) (fun _ _ _ _ _ o1 => jts_nil) (fun _ _ _ _ _ o1 => je_call false (Good.mono g_is_node (by decide)) o1 (ja_cons (je_ix (je_nm 0) (je_int)) (ja_cons (je_nm 2) (ja_cons (je_nm 3) (ja_nil)))))) (ja_nil))))) (js_one (js_ret (je_bl))) (js_nil)) (js_seq (js_if (jt_ne (Ok.un ok) (je_lenset ok fx.b_len fx.b_set (je_lc (own := [("one", 3)]) ok (ji_it (je_nm 1)) (blkOk_by (by first | rfl | kernel_rfl)) (fun _ _ _ _ _ o1 => jc_nm (i := 3) (Ok.nd o1) (by decide)) (fun _ _ _ _ _ o1 => jts_nil) (fun _ _ _ _ _ o1 => je_ix (je_nm 3) (je_int)))) (je_callB (hv := bb_len) cr_lenA len_ok (by rfl) fx.b_len (ja_cons (je_nm 1) (ja_nil)))) (js_one (js_ret (je_bl))) (js_nil)) (js_one (js_ret (je_callB (hv := bb_all) (cr_all (Ok.calm ok)) all_ok (by rfl) fx.b_all (ja_cons (je_lc (own := [("one", 3)]) ok (ji_it (je_call false (Good.mono g_shifts_along (by decide)) ok (ja_cons (je_nm 1) (ja_nil)))) (blkOk_by (by first | rfl | kernel_rfl)) (fun _ _ _ _ _ o1 => jc_nm (i := 3) (Ok.nd o1) (by decide)) (fun _ _ _ _ _ o1 => jts_nil) (fun _ _ _ _ _ o1 => je_le  (je_callB (hv := bb_len) cr_lenA len_ok (by rfl) fx.b_len (ja_cons (je_nm 3) (ja_nil))) (je_gint1 fx.c_MOST_ALONG))) (ja_nil)))))))))
theorem sc_is_tree : FnScope N_is_tree ["value"] (defScope EH.s_is_tree) := ⟨rfl, rfl, rfl, by decide +kernel, rfl, by decide +kernel, by decide +kernel⟩
theorem ok_is_tree (fx : Fx mg) (g_is_tree_any : Good P w K mg base 6 "is_tree_any" (defArgs EH.s_is_tree_any) ["value"] m_is_tree_any) {f : Addr} {fd : FuncData} (F : FunD K "is_tree" "is_tree" (defArgs EH.s_is_tree) (defBody EH.s_is_tree) (defScope EH.s_is_tree) [] [] f fd) (hm : mg "is_tree" = some (.ref f)) : Good P w K mg base 7 "is_tree" (defArgs EH.s_is_tree) ["value"] m_is_tree :=
  good_of (N := N_is_tree) (ps := ["value"]) (k := 6) (fs := d_is_tree) F hm sc_is_tree (fun _ _ _ _ _ _ us hl => match us, hl with | [_], _ => rfl) fun cdv A outer s H ok => js_one (js_ret (je_call false (Good.mono g_is_tree_any (by decide)) ok (ja_cons (je_nm 0) (ja_nil))))
theorem sc_want_tree : FnScope N_want_tree ["tree"] (defScope EH.s_want_tree) := ⟨rfl, rfl, rfl, by decide +kernel, rfl, by decide +kernel, by decide +kernel⟩
theorem ok_want_tree (fx : Fx mg) (g_is_tree_any : Good P w K mg base 6 "is_tree_any" (defArgs EH.s_is_tree_any) ["value"] m_is_tree_any) {f : Addr} {fd : FuncData} (F : FunD K "want_tree" "want_tree" (defArgs EH.s_want_tree) (defBody EH.s_want_tree) (defScope EH.s_want_tree) [] [] f fd) (hm : mg "want_tree" = some (.ref f)) : Good P w K mg base 7 "want_tree" (defArgs EH.s_want_tree) ["tree"] m_want_tree :=
  good_of (N := N_want_tree) (ps := ["tree"]) (k := 6) (fs := d_want_tree) F hm sc_want_tree (fun _ _ _ _ _ _ us hl => match us, hl with | [_], _ => rfl) fun cdv A outer s H ok => js_one (js_if (jt_not (jt_val (je_call false (Good.mono g_is_tree_any (by decide)) ok (ja_cons (je_nm 0) (ja_nil))))) (js_one (js_no)) (js_nil))
theorem sc_leaves_of : FnScope N_leaves_of ["tree"] (defScope EH.s_leaves_of) := ⟨rfl, rfl, rfl, by decide +kernel, rfl, by decide +kernel, by decide +kernel⟩
theorem ok_leaves_of (fx : Fx mg)  {f : Addr} {fd : FuncData} (F : FunD K "leaves_of" "leaves_of" (defArgs EH.s_leaves_of) (defBody EH.s_leaves_of) (defScope EH.s_leaves_of) [] [] f fd) (hm : mg "leaves_of" = some (.ref f)) : Good P w K mg base 1 "leaves_of" (defArgs EH.s_leaves_of) ["tree"] m_leaves_of :=
  good_of (N := N_leaves_of) (ps := ["tree"]) (k := 0) (fs := d_leaves_of) F hm sc_leaves_of (fun _ _ _ _ _ _ us hl => match us, hl with | [_], _ => rfl) fun cdv A outer s H ok => js_seq (js_set (i := 1) false (je_lc (own := [("node", 2)]) ok (ji_it (je_ix (je_nm 0) (je_int))) (blkOk_by (by first | rfl | kernel_rfl)) (fun _ _ _ _ _ o1 => jc_nm (i := 2) (Ok.nd o1) (by decide)) (fun _ _ _ _ _ o1 => jts_nil) (fun _ _ _ _ _ o1 => je_ix (je_nm 2) (je_int))) (Ok.nd ok)) (js_one (js_ret (je_lc (own := [("number", 3)]) ok (ji_r1 fx.b_range (je_callB (hv := bb_len) cr_lenA len_ok (by rfl) fx.b_len (ja_cons (je_ix (je_nm 0) (je_int)) (ja_nil)))) (blkOk_by (by first | rfl | kernel_rfl)) (fun _ _ _ _ _ o1 => jc_nm (i := 3) (Ok.nd o1) (by decide)) (fun _ _ _ _ _ o1 => jts_one (jt_ni (Ok.un o1) (je_nm 3) (je_nm 1))) (fun _ _ _ _ _ o1 => je_nm 3))))
theorem sc_leaf_names : FnScope N_leaf_names ["tree"] (defScope EH.s_leaf_names) := ⟨rfl, rfl, rfl, by decide +kernel, rfl, by decide +kernel, by decide +kernel⟩
theorem ok_leaf_names (fx : Fx mg) (g_want_tree : Good P w K mg base 7 "want_tree" (defArgs EH.s_want_tree) ["tree"] m_want_tree) (g_leaves_of : Good P w K mg base 1 "leaves_of" (defArgs EH.s_leaves_of) ["tree"] m_leaves_of) {f : Addr} {fd : FuncData} (F : FunD K "leaf_names" "leaf_names" (defArgs EH.s_leaf_names) (defBody EH.s_leaf_names) (defScope EH.s_leaf_names) [] [] f fd) (hm : mg "leaf_names" = some (.ref f)) : Good P w K mg base 8 "leaf_names" (defArgs EH.s_leaf_names) ["tree"] m_leaf_names :=
  good_of (N := N_leaf_names) (ps := ["tree"]) (k := 7) (fs := d_leaf_names) F hm sc_leaf_names (fun _ _ _ _ _ _ us hl => match us, hl with | [_], _ => rfl) fun cdv A outer s H ok => js_seq (js_ex (je_call false (Good.mono g_want_tree (by decide)) ok (ja_cons (je_nm 0) (ja_nil)))) (js_one (js_ret (je_callB (hv := bb_sorted) (call_sortD (Ok.un ok)) sorted_ok (by rfl) fx.b_sorted (ja_cons (je_lc (own := [("leaf", 1)]) ok (ji_it (je_call false (Good.mono g_leaves_of (by decide)) ok (ja_cons (je_nm 0) (ja_nil)))) (blkOk_by (by first | rfl | kernel_rfl)) (fun _ _ _ _ _ o1 => jc_nm (i := 1) (Ok.nd o1) (by decide)) (fun _ _ _ _ _ o1 => jts_nil) (fun _ _ _ _ _ o1 => je_ix (je_ix (je_ix (je_nm 0) (je_int)) (je_nm 1)) (je_int))) (ja_nil)))))
theorem sc_node_book : FnScope N_node_book ["tree", "node"] (defScope EH.s_node_book) := ⟨rfl, rfl, rfl, by decide +kernel, rfl, by decide +kernel, by decide +kernel⟩
theorem ok_node_book (fx : Fx mg) (g_is_within : Good P w K mg base 2 "is_within" (defArgs EH.s_is_within) ["value", "least", "most"] m_is_within) (g_shifts_along : Good P w K mg base 1 "shifts_along" (defArgs EH.s_shifts_along) ["nodes"] m_shifts_along) (g_want_tree : Good P w K mg base 7 "want_tree" (defArgs EH.s_want_tree) ["tree"] m_want_tree) {f : Addr} {fd : FuncData} (F : FunD K "node_book" "node_book" (defArgs EH.s_node_book) (defBody EH.s_node_book) (defScope EH.s_node_book) [] [] f fd) (hm : mg "node_book" = some (.ref f)) : Good P w K mg base 8 "node_book" (defArgs EH.s_node_book) ["tree", "node"] m_node_book :=
  good_of (N := N_node_book) (ps := ["tree", "node"]) (k := 7) (fs := d_node_book) F hm sc_node_book (fun _ _ _ _ _ _ us hl => match us, hl with | [_, _], _ => rfl) fun cdv A outer s H ok => js_seq (js_ex (je_call false (Good.mono g_want_tree (by decide)) ok (ja_cons (je_nm 0) (ja_nil)))) (js_seq (js_if (jt_not (jt_val (je_call false (Good.mono g_is_within (by decide)) ok (ja_cons (je_nm 1) (ja_cons (je_int) (ja_cons (je_sub (je_callB (hv := bb_len) cr_lenA len_ok (by rfl) fx.b_len (ja_cons (je_ix (je_nm 0) (je_int)) (ja_nil))) (je_int)) (ja_nil))))))) (js_one (js_no)) (js_nil)) (js_one (js_ret (je_tup (ja_cons (je_str) (ja_cons (je_ix (je_nm 0) (je_int)) (ja_cons (je_ix (je_call false (Good.mono g_shifts_along (by decide)) ok (ja_cons (je_ix (je_nm 0) (je_int)) (ja_nil))) (je_nm 1)) (ja_nil))))))))
theorem sc__law_draw : FnScope N__law_draw ["pot", "many"] (defScope EH.s__law_draw) := ⟨rfl, rfl, rfl, by decide +kernel, rfl, by decide +kernel, by decide +kernel⟩
theorem ok__law_draw (fx : Fx mg)  {f : Addr} {fd : FuncData} (F : FunD K "_law_draw" "_law_draw" (defArgs EH.s__law_draw) (defBody EH.s__law_draw) (defScope EH.s__law_draw) [] [] f fd) (hm : mg "_law_draw" = some (.ref f)) : Good P w K mg base 1 "_law_draw" (defArgs EH.s__law_draw) ["pot", "many"] m__law_draw :=
  good_of (N := N__law_draw) (ps := ["pot", "many"]) (k := 0) (fs := d__law_draw) F hm sc__law_draw (fun _ _ _ _ _ _ us hl => match us, hl with | [_, _], _ => rfl) fun cdv A outer s H ok => js_seq (js_if (jt_gt  (je_ix (je_nm 0) (je_int)) (je_int)) (js_seq (js_as (je_callB (hv := bb_divmod) call_divmod divmod_ok (by rfl) fx.b_divmod (ja_cons (je_ix (je_nm 0) (je_int)) (ja_cons (je_nm 1) (ja_nil)))) (jg_tup (Ok.calm ok) (jgs_cons (jg_ix (je_nm 0) (je_int)) (jgs_cons (jg_nm (i := 2) false (Ok.nd ok)) (jgs_nil))))) (js_one (js_ret (je_nm 2)))) (js_nil)) (js_seq (js_as (je_mod (je_callTy (hv := bb_int) call_int1 int_ok (by rfl) fx.b_int (ja_cons (je_add (je_mul (je_ix (je_nm 0) (je_int)) (je_int)) (je_int)) (ja_nil))) (je_int)) (jg_ix (je_nm 0) (je_int))) (js_one (js_ret (je_mod (je_callTy (hv := bb_int) call_int1 int_ok (by rfl) fx.b_int (ja_cons (je_div (je_mod (je_callTy (hv := bb_int) call_int1 int_ok (by rfl) fx.b_int (ja_cons (je_mul (je_ix (je_nm 0) (je_int)) (je_ix (je_nm 0) (je_int))) (ja_nil))) (je_int)) (je_int)) (ja_nil))) (je_nm 1)))))
theorem sc__law_pick : FnScope N__law_pick ["pot", "some"] (defScope EH.s__law_pick) := ⟨rfl, rfl, rfl, by decide +kernel, rfl, by decide +kernel, by decide +kernel⟩
theorem ok__law_pick (fx : Fx mg) (g__law_draw : Good P w K mg base 1 "_law_draw" (defArgs EH.s__law_draw) ["pot", "many"] m__law_draw) {f : Addr} {fd : FuncData} (F : FunD K "_law_pick" "_law_pick" (defArgs EH.s__law_pick) (defBody EH.s__law_pick) (defScope EH.s__law_pick) [] [] f fd) (hm : mg "_law_pick" = some (.ref f)) : Good P w K mg base 2 "_law_pick" (defArgs EH.s__law_pick) ["pot", "some"] m__law_pick :=
  good_of (N := N__law_pick) (ps := ["pot", "some"]) (k := 1) (fs := d__law_pick) F hm sc__law_pick (fun _ _ _ _ _ _ us hl => match us, hl with | [_, _], _ => rfl) fun cdv A outer s H ok => js_one (js_ret (je_ix (je_nm 1) (je_call true (Good.mono g__law_draw (by decide)) ok (ja_cons (je_nm 0) (ja_cons (je_callB (hv := bb_len) cr_lenA len_ok (by rfl) fx.b_len (ja_cons (je_nm 1) (ja_nil))) (ja_nil))))))
theorem sc__law_class : FnScope N__law_class ["pot", "signs", "more"] (defScope EH.s__law_class) := ⟨rfl, rfl, rfl, by decide +kernel, rfl, by decide +kernel, by decide +kernel⟩
theorem ok__law_class (fx : Fx mg) (g__law_draw : Good P w K mg base 1 "_law_draw" (defArgs EH.s__law_draw) ["pot", "many"] m__law_draw) (g__law_pick : Good P w K mg base 2 "_law_pick" (defArgs EH.s__law_pick) ["pot", "some"] m__law_pick) {f : Addr} {fd : FuncData} (F : FunD K "_law_class" "_law_class" (defArgs EH.s__law_class) (defBody EH.s__law_class) (defScope EH.s__law_class) [] [] f fd) (hm : mg "_law_class" = some (.ref f)) : Good P w K mg base 3 "_law_class" (defArgs EH.s__law_class) ["pot", "signs", "more"] m__law_class :=
  good_of (N := N__law_class) (ps := ["pot", "signs", "more"]) (k := 2) (fs := d__law_class) F hm sc__law_class (fun _ _ _ _ _ _ us hl => match us, hl with | [_, _, _], _ => rfl) fun cdv A outer s H ok => js_seq (js_setLc (i := 3) (own := [("sign", 4)]) false ok (ji_it (je_add (je_nm 2) (je_nm 1))) (blkOk_by (by first | rfl | kernel_rfl)) (fun _ _ _ _ _ o1 => jc_nm (i := 4) (Ok.nd o1) (by decide)) (fun _ _ _ _ _ o1 => jts_one (jt_eq (Ok.un o1) (je_call true (Good.mono g__law_draw (by decide)) o1 (ja_cons (je_nm 0) (ja_cons (je_int) (ja_nil)))) (je_int))) (fun _ _ _ _ _ o1 => je_nm 4)) (js_one (js_ret (je_if (jt_ne (Ok.un ok) (je_nm 3) (je_lst (ja_nil))) (je_m PySem.F.plainAttrs_str PySem.F.slot_str_join PySem.F.type_str_join mt_join join_ok (je_str) (ja_cons (je_nm 3) (ja_nil))) (je_call true (Good.mono g__law_pick (by decide)) ok (ja_cons (je_nm 0) (ja_cons (je_callTy (hv := bb_list) (cr_lst (Ok.calm ok)) list_ok (by rfl) fx.b_list (ja_cons (je_nm 1) (ja_nil))) (ja_nil)))))))
theorem sc__law_shift : FnScope N__law_shift ["pot", "signs"] (defScope EH.s__law_shift) := ⟨rfl, rfl, rfl, by decide +kernel, rfl, by decide +kernel, by decide +kernel⟩
theorem ok__law_shift (fx : Fx mg) (g__law_pick : Good P w K mg base 2 "_law_pick" (defArgs EH.s__law_pick) ["pot", "some"] m__law_pick) (g__law_class : Good P w K mg base 3 "_law_class" (defArgs EH.s__law_class) ["pot", "signs", "more"] m__law_class) {f : Addr} {fd : FuncData} (F : FunD K "_law_shift" "_law_shift" (defArgs EH.s__law_shift) (defBody EH.s__law_shift) (defScope EH.s__law_shift) [] [] f fd) (hm : mg "_law_shift" = some (.ref f)) : Good P w K mg base 4 "_law_shift" (defArgs EH.s__law_shift) ["pot", "signs"] m__law_shift :=
  good_of (N := N__law_shift) (ps := ["pot", "signs"]) (k := 3) (fs := d__law_shift) F hm sc__law_shift (fun _ _ _ _ _ _ us hl => match us, hl with | [_, _], _ => rfl) fun cdv A outer s H ok => js_seq (js_set (i := 2) false (je_call true (Good.mono g__law_class (by decide)) ok (ja_cons (je_nm 0) (ja_cons (je_nm 1) (ja_cons (je_str) (ja_nil))))) (Ok.nd ok)) (js_seq (js_set (i := 3) false (je_callTy (hv := bb_tuple) (cr_tup (Ok.calm ok)) tuple_ok (by rfl) fx.b_tuple (ja_cons (je_lc (own := [("sign", 6)]) ok (ji_it (je_nm 2)) (blkOk_by (by first | rfl | kernel_rfl)) (fun _ _ _ _ _ o1 => jc_nm (i := 6) (Ok.nd o1) (by decide)) (fun _ _ _ _ _ o1 => jts_nil) (fun _ _ _ _ _ o1 => je_m PySem.F.plainAttrs_str PySem.F.slot_str_join PySem.F.type_str_join mt_join join_ok (je_str) (ja_cons (je_lc (own := [("turn", 7)]) o1 (ji_r1 fx.b_range (je_call true (Good.mono g__law_pick (by decide)) o1 (ja_cons (je_nm 0) (ja_cons (je_lst (ja_cons (je_int) (ja_cons (je_int) (ja_cons (je_int) (ja_cons (je_int) (ja_cons (je_int) (ja_cons (je_int) (ja_nil)))))))) (ja_nil))))) (blkOk_by (by first | rfl | kernel_rfl)) (fun _ _ _ _ _ o2 => jc_nm (i := 7) (Ok.nd o2) (by decide)) (fun _ _ _ _ _ o2 => jts_nil) (fun _ _ _ _ _ o2 => je_call true (Good.mono g__law_pick (by decide)) o2 (ja_cons (je_nm 0) (ja_cons (je_callTy (hv := bb_list) (cr_lst (Ok.calm o2)) list_ok (by rfl) fx.b_list (ja_cons (je_nm 1) (ja_nil))) (ja_nil))))) (ja_nil)))) (ja_nil))) (Ok.nd ok)) (js_seq (js_set (i := 4) false (je_callTy (hv := bb_tuple) (cr_tup (Ok.calm ok)) tuple_ok (by rfl) fx.b_tuple (ja_cons (je_lc (own := [("turn", 7)]) ok (ji_r1 fx.b_range (je_call true (Good.mono g__law_pick (by decide)) ok (ja_cons (je_nm 0) (ja_cons (je_lst (ja_cons (je_int) (ja_cons (je_int) (ja_cons (je_int) (ja_cons (je_int) (ja_cons (je_if (jt_lt  (je_callB (hv := bb_len) cr_lenA len_ok (by rfl) fx.b_len (ja_cons (je_nm 1) (ja_nil))) (je_int)) (je_int) (je_int)) (ja_nil))))))) (ja_nil))))) (blkOk_by (by first | rfl | kernel_rfl)) (fun _ _ _ _ _ o1 => jc_nm (i := 7) (Ok.nd o1) (by decide)) (fun _ _ _ _ _ o1 => jts_nil) (fun _ _ _ _ _ o1 => je_call true (Good.mono g__law_class (by decide)) o1 (ja_cons (je_nm 0) (ja_cons (je_nm 1) (ja_cons (je_str) (ja_nil)))))) (ja_nil))) (Ok.nd ok)) (js_seq (js_set (i := 5) false (je_callTy (hv := bb_tuple) (cr_tup (Ok.calm ok)) tuple_ok (by rfl) fx.b_tuple (ja_cons (je_lc (own := [("turn", 7)]) ok (ji_r1 fx.b_range (je_call true (Good.mono g__law_pick (by decide)) ok (ja_cons (je_nm 0) (ja_cons (je_lst (ja_cons (je_int) (ja_cons (je_int) (ja_cons (je_int) (ja_cons (je_int) (ja_cons (je_if (jt_lt  (je_callB (hv := bb_len) cr_lenA len_ok (by rfl) fx.b_len (ja_cons (je_nm 1) (ja_nil))) (je_int)) (je_int) (je_int)) (ja_nil))))))) (ja_nil))))) (blkOk_by (by first | rfl | kernel_rfl)) (fun _ _ _ _ _ o1 => jc_nm (i := 7) (Ok.nd o1) (by decide)) (fun _ _ _ _ _ o1 => jts_nil) (fun _ _ _ _ _ o1 => je_call true (Good.mono g__law_class (by decide)) o1 (ja_cons (je_nm 0) (ja_cons (je_nm 1) (ja_cons (je_str) (ja_nil)))))) (ja_nil))) (Ok.nd ok)) (js_one (js_ret (je_tup (ja_cons (je_str) (ja_cons (je_call true (Good.mono g__law_pick (by decide)) ok (ja_cons (je_nm 0) (ja_cons (je_lst (ja_cons (je_str) (ja_cons (je_str) (ja_nil)))) (ja_nil)))) (ja_cons (je_nm 2) (ja_cons (je_nm 3) (ja_cons (je_nm 4) (ja_cons (je_nm 5) (ja_nil)))))))))))))
theorem sc__law_tame : FnScope N__law_tame ["pot", "signs"] (defScope EH.s__law_tame) := ⟨rfl, rfl, rfl, by decide +kernel, rfl, by decide +kernel, by decide +kernel⟩
theorem ok__law_tame (fx : Fx mg) (g__law_draw : Good P w K mg base 1 "_law_draw" (defArgs EH.s__law_draw) ["pot", "many"] m__law_draw) {f : Addr} {fd : FuncData} (F : FunD K "_law_tame" "_law_tame" (defArgs EH.s__law_tame) (defBody EH.s__law_tame) (defScope EH.s__law_tame) [] [] f fd) (hm : mg "_law_tame" = some (.ref f)) : Good P w K mg base 2 "_law_tame" (defArgs EH.s__law_tame) ["pot", "signs"] m__law_tame :=
  good_of (N := N__law_tame) (ps := ["pot", "signs"]) (k := 1) (fs := d__law_tame) F hm sc__law_tame (fun _ _ _ _ _ _ us hl => match us, hl with | [_, _], _ => rfl) fun cdv A outer s H ok => js_seq (js_parG (n := 3) [false, true, false] (Ok.calm ok) (pgsn_cons (i := 2) (Ok.nd ok) (pgsn_cons (i := 3) (Ok.nd ok) (pgsn_cons (i := 4) (Ok.nd ok) (pgsn_nil)))) (ja_cons (je_call true (Good.mono g__law_draw (by decide)) ok (ja_cons (je_nm 0) (ja_cons (je_int) (ja_nil)))) (ja_cons (je_callTy (hv := bb_list) (cr_lst (Ok.calm ok)) list_ok (by rfl) fx.b_list (ja_cons (je_nm 1) (ja_nil))) (ja_cons (je_str) (ja_nil))))) (js_seq (js_while PassesOwn.never (jt_ne (Ok.un ok) (je_nm 3) (je_lst (ja_nil))) (js_one (js_set (i := 4) false (je_add (je_nm 4) (je_m PySem.F.plainAttrs_list PySem.F.slot_list_pop PySem.F.type_list_pop mt_popAt popAt_ok (je_nm 3) (ja_cons (je_call true (Good.mono g__law_draw (by decide)) ok (ja_cons (je_nm 0) (ja_cons (je_callB (hv := bb_len) cr_lenA len_ok (by rfl) fx.b_len (ja_cons (je_nm 3) (ja_nil))) (ja_nil)))) (ja_nil)))) (Ok.nd ok)))) (js_seq (js_if (jt_eq (Ok.un ok) (je_nm 2) (je_int)) (js_one (js_ret (je_tup (ja_cons (je_str) (ja_cons (je_str) (ja_cons (je_nm 1) (ja_cons (je_callTy (hv := bb_tuple) (cr_tup (Ok.calm ok)) tuple_ok (by rfl) fx.b_tuple (ja_cons (je_nm 4) (ja_nil))) (ja_cons (je_tup (ja_nil)) (ja_cons (je_tup (ja_nil)) (ja_nil)))))))))) (js_nil)) (js_seq (js_if (jt_eq (Ok.un ok) (je_nm 2) (je_int)) (js_one (js_ret (je_tup (ja_cons (je_str) (ja_cons (je_str) (ja_cons (je_nm 1) (ja_cons (je_callTy (hv := bb_tuple) (cr_tup (Ok.calm ok)) tuple_ok (by rfl) fx.b_tuple (ja_cons (je_lc (own := [("sign", 5)]) ok (ji_it (je_nm 1)) (blkOk_by (by first | rfl | kernel_rfl)) (fun _ _ _ _ _ o1 => jc_nm (i := 5) (Ok.nd o1) (by decide)) (fun _ _ _ _ _ o1 => jts_nil) (fun _ _ _ _ _ o1 => je_add (je_nm 5) (je_ix (je_nm 4) (je_int)))) (ja_nil))) (ja_cons (je_tup (ja_nil)) (ja_cons (je_tup (ja_nil)) (ja_nil)))))))))) (js_nil)) (js_seq (js_if (jt_eq (Ok.un ok) (je_nm 2) (je_int)) (js_one (js_ret (je_tup (ja_cons (je_str) (ja_cons (je_str) (ja_cons (je_nm 1) (ja_cons (je_callTy (hv := bb_tuple) (cr_tup (Ok.calm ok)) tuple_ok (by rfl) fx.b_tuple (ja_cons (je_lc (own := [("sign", 5)]) ok (ji_it (je_nm 1)) (blkOk_by (by first | rfl | kernel_rfl)) (fun _ _ _ _ _ o1 => jc_nm (i := 5) (Ok.nd o1) (by decide)) (fun _ _ _ _ _ o1 => jts_nil) (fun _ _ _ _ _ o1 => je_add (je_ix (je_nm 4) (je_int)) (je_nm 5))) (ja_nil))) (ja_cons (je_tup (ja_cons (je_str) (ja_nil))) (ja_cons (je_tup (ja_nil)) (ja_nil)))))))))) (js_nil)) (js_one (js_ret (je_tup (ja_cons (je_str) (ja_cons (je_str) (ja_cons (je_nm 1) (ja_cons (je_callTy (hv := bb_tuple) (cr_tup (Ok.calm ok)) tuple_ok (by rfl) fx.b_tuple (ja_cons (je_nm 4) (ja_nil))) (ja_cons (je_tup (ja_cons (je_ix (je_nm 4) (je_int)) (ja_cons (je_str) (ja_nil)))) (ja_cons (je_tup (ja_nil)) (ja_nil))))))))))))))
theorem sc__law_small : FnScope N__law_small ["pot", "signs"] (defScope EH.s__law_small) := ⟨rfl, rfl, rfl, by decide +kernel, rfl, by decide +kernel, by decide +kernel⟩
theorem ok__law_small (fx : Fx mg) (g__law_draw : Good P w K mg base 1 "_law_draw" (defArgs EH.s__law_draw) ["pot", "many"] m__law_draw) (g__law_shift : Good P w K mg base 4 "_law_shift" (defArgs EH.s__law_shift) ["pot", "signs"] m__law_shift) (g__law_tame : Good P w K mg base 2 "_law_tame" (defArgs EH.s__law_tame) ["pot", "signs"] m__law_tame) {f : Addr} {fd : FuncData} (F : FunD K "_law_small" "_law_small" (defArgs EH.s__law_small) (defBody EH.s__law_small) (defScope EH.s__law_small) [] [] f fd) (hm : mg "_law_small" = some (.ref f)) : Good P w K mg base 5 "_law_small" (defArgs EH.s__law_small) ["pot", "signs"] m__law_small :=
  good_of (N := N__law_small) (ps := ["pot", "signs"]) (k := 4) (fs := d__law_small) F hm sc__law_small (fun _ _ _ _ _ _ us hl => match us, hl with | [_, _], _ => rfl) fun cdv A outer s H ok => js_one (js_ret (je_if (jt_gt  (je_call true (Good.mono g__law_draw (by decide)) ok (ja_cons (je_nm 0) (ja_cons (je_int) (ja_nil)))) (je_int)) (je_call true (Good.mono g__law_tame (by decide)) ok (ja_cons (je_nm 0) (ja_cons (je_nm 1) (ja_nil)))) (je_call true (Good.mono g__law_shift (by decide)) ok (ja_cons (je_nm 0) (ja_cons (je_nm 1) (ja_nil))))))
theorem sc__law_tree : FnScope N__law_tree ["pot", "most"] (defScope EH.s__law_tree) := ⟨rfl, rfl, rfl, by decide +kernel, rfl, by decide +kernel, by decide +kernel⟩
theorem ok__law_tree (fx : Fx mg) (g__law_draw : Good P w K mg base 1 "_law_draw" (defArgs EH.s__law_draw) ["pot", "many"] m__law_draw) (g__law_pick : Good P w K mg base 2 "_law_pick" (defArgs EH.s__law_pick) ["pot", "some"] m__law_pick) (g__law_small : Good P w K mg base 5 "_law_small" (defArgs EH.s__law_small) ["pot", "signs"] m__law_small) {f : Addr} {fd : FuncData} (F : FunD K "_law_tree" "_law_tree" (defArgs EH.s__law_tree) (defBody EH.s__law_tree) (defScope EH.s__law_tree) [] [] f fd) (hm : mg "_law_tree" = some (.ref f)) : Good P w K mg base 6 "_law_tree" (defArgs EH.s__law_tree) ["pot", "most"] m__law_tree :=
  good_of (N := N__law_tree) (ps := ["pot", "most"]) (k := 5) (fs := d__law_tree) F hm sc__law_tree (fun _ _ _ _ _ _ us hl => match us, hl with | [_, _], _ => rfl) fun cdv A outer s H ok => js_seq (js_set (i := 2) false (je_call true (Good.mono g__law_pick (by decide)) ok (ja_cons (je_nm 0) (ja_cons (je_lst (ja_cons (je_str) (ja_cons (je_str) (ja_cons (je_str) (ja_nil))))) (ja_nil)))) (Ok.nd ok)) (js_seq (js_parG (n := 2) [false, true] (Ok.calm ok) (pgsn_cons (i := 4) (Ok.nd ok) (pgsn_cons (i := 5) (Ok.nd ok) (pgsn_nil))) (ja_cons (je_lc (own := [("turn", 11)]) ok (ji_r1 fx.b_range (je_add (je_int) (je_call true (Good.mono g__law_draw (by decide)) ok (ja_cons (je_nm 0) (ja_cons (je_int) (ja_nil)))))) (blkOk_by (by first | rfl | kernel_rfl)) (fun _ _ _ _ _ o1 => jc_nm (i := 11) (Ok.nd o1) (by decide)) (fun _ _ _ _ _ o1 => jts_nil) (fun _ _ _ _ _ o1 => je_call true (Good.mono g__law_small (by decide)) o1 (ja_cons (je_nm 0) (ja_cons (je_nm 2) (ja_nil))))) (ja_cons (je_lst (ja_cons (je_int) (ja_nil))) (ja_nil)))) (js_seq (js_par2 (i := 6) (j := 7) true true (Ok.calm ok) (Ok.nd ok) (ja_cons (je_lst (ja_cons (je_str) (ja_cons (je_str) (ja_cons (je_str) (ja_cons (je_str) (ja_cons (je_str) (ja_cons (je_str) (ja_cons (je_str) (ja_cons (je_str) (ja_cons (je_str) (ja_nil))))))))))) (ja_cons (je_lst (ja_nil)) (ja_nil)))) (js_seq (js_for PassesOwn.never (Ok.calm ok) (ji_r1 fx.b_range (je_add (je_int) (je_call true (Good.mono g__law_draw (by decide)) ok (ja_cons (je_nm 0) (ja_cons (je_nm 1) (ja_nil)))))) (jg_nm (i := 3) false (Ok.nd ok)) (js_seq (js_set (i := 8) false (je_m PySem.F.plainAttrs_list PySem.F.slot_list_pop PySem.F.type_list_pop mt_popAt popAt_ok (je_nm 6) (ja_cons (je_call true (Good.mono g__law_draw (by decide)) ok (ja_cons (je_nm 0) (ja_cons (je_callB (hv := bb_len) cr_lenA len_ok (by rfl) fx.b_len (ja_cons (je_nm 6) (ja_nil))) (ja_nil)))) (ja_nil))) (Ok.nd ok)) (js_one (js_if (jt_eq (Ok.un ok) (je_nm 3) (je_int)) (js_one (js_ex (je_m PySem.F.plainAttrs_list PySem.F.slot_list_append PySem.F.type_list_append mt_append app_ok (je_nm 7) (ja_cons (je_tup (ja_cons (je_nm 8) (ja_cons (je_neg (je_int)) (ja_cons (je_tup (ja_nil)) (ja_nil))))) (ja_nil))))) (js_seq (js_set (i := 9) false (je_call true (Good.mono g__law_draw (by decide)) ok (ja_cons (je_nm 0) (ja_cons (je_nm 3) (ja_nil)))) (Ok.nd ok)) (js_seq (js_set (i := 10) false (je_callTy (hv := bb_tuple) (cr_tup (Ok.calm ok)) tuple_ok (by rfl) fx.b_tuple (ja_cons (je_lc (own := [("turn", 11)]) ok (ji_r1 fx.b_range (je_callB (hv := bb_min) (call_min2 (Ok.calm ok)) min2_ok (by rfl) fx.b_min (ja_cons (je_call true (Good.mono g__law_draw (by decide)) ok (ja_cons (je_nm 0) (ja_cons (je_int) (ja_nil)))) (ja_cons (je_sub (je_int) (je_ix (je_nm 5) (je_nm 9))) (ja_nil))))) (blkOk_by (by first | rfl | kernel_rfl)) (fun _ _ _ _ _ o1 => jc_nm (i := 11) (Ok.nd o1) (by decide)) (fun _ _ _ _ _ o1 => jts_nil) (fun _ _ _ _ _ o1 => je_call true (Good.mono g__law_pick (by decide)) o1 (ja_cons (je_nm 0) (ja_cons (je_nm 4) (ja_nil))))) (ja_nil))) (Ok.nd ok)) (js_seq (js_ex (je_m PySem.F.plainAttrs_list PySem.F.slot_list_append PySem.F.type_list_append mt_append app_ok (je_nm 5) (ja_cons (je_add (je_ix (je_nm 5) (je_nm 9)) (je_callB (hv := bb_len) cr_lenA len_ok (by rfl) fx.b_len (ja_cons (je_nm 10) (ja_nil)))) (ja_nil)))) (js_one (js_ex (je_m PySem.F.plainAttrs_list PySem.F.slot_list_append PySem.F.type_list_append mt_append app_ok (je_nm 7) (ja_cons (je_tup (ja_cons (je_nm 8) (ja_cons (je_nm 9) (ja_cons (je_nm 10) (ja_nil))))) (ja_nil)))))))))))) (js_one (js_ret (je_tup (ja_cons (je_str) (ja_cons (je_nm 2) (ja_cons (je_callTy (hv := bb_tuple) (cr_tup (Ok.calm ok)) tuple_ok (by rfl) fx.b_tuple (ja_cons (je_nm 7) (ja_nil))) (ja_nil))))))))))
theorem sc__law_along : FnScope N__law_along ["tree", "number"] (defScope EH.s__law_along) := ⟨rfl, rfl, rfl, by decide +kernel, rfl, by decide +kernel, by decide +kernel⟩
theorem ok__law_along (fx : Fx mg)  {f : Addr} {fd : FuncData} (F : FunD K "_law_along" "_law_along" (defArgs EH.s__law_along) (defBody EH.s__law_along) (defScope EH.s__law_along) [] [] f fd) (hm : mg "_law_along" = some (.ref f)) : Good P w K mg base 1 "_law_along" (defArgs EH.s__law_along) ["tree", "number"] m__law_along :=
  good_of (N := N__law_along) (ps := ["tree", "number"]) (k := 0) (fs := d__law_along) F hm sc__law_along (fun _ _ _ _ _ _ us hl => match us, hl with | [_, _], _ => rfl) fun cdv A outer s H ok => js_seq (js_par2 (i := 2) (j := 3) false false (Ok.calm ok) (Ok.nd ok) (ja_cons (je_tup (ja_nil)) (ja_cons (je_nm 1) (ja_nil)))) (js_seq (js_while PassesOwn.never (jt_ge  (je_nm 3) (je_int)) (js_one (js_par2 (i := 2) (j := 3) false false (Ok.calm ok) (Ok.nd ok) (ja_cons (je_add (je_ix (je_ix (je_ix (je_nm 0) (je_int)) (je_nm 3)) (je_int)) (je_nm 2)) (ja_cons (je_ix (je_ix (je_ix (je_nm 0) (je_int)) (je_nm 3)) (je_int)) (ja_nil)))))) (js_one (js_ret (je_nm 2))))
theorem sc__law_leaves : FnScope N__law_leaves ["tree"] (defScope EH.s__law_leaves) := ⟨rfl, rfl, rfl, by decide +kernel, rfl, by decide +kernel, by decide +kernel⟩
theorem ok__law_leaves (fx : Fx mg)  {f : Addr} {fd : FuncData} (F : FunD K "_law_leaves" "_law_leaves" (defArgs EH.s__law_leaves) (defBody EH.s__law_leaves) (defScope EH.s__law_leaves) [] [] f fd) (hm : mg "_law_leaves" = some (.ref f)) : Good P w K mg base 1 "_law_leaves" (defArgs EH.s__law_leaves) ["tree"] m__law_leaves :=
  good_of (N := N__law_leaves) (ps := ["tree"]) (k := 0) (fs := d__law_leaves) F hm sc__law_leaves (fun _ _ _ _ _ _ us hl => match us, hl with | [_], _ => rfl) fun cdv A outer s H ok => js_one (js_ret (je_lc (own := [("number", 1)]) ok (ji_r1 fx.b_range (je_callB (hv := bb_len) cr_lenA len_ok (by rfl) fx.b_len (ja_cons (je_ix (je_nm 0) (je_int)) (ja_nil)))) (blkOk_by (by first | rfl | kernel_rfl)) (fun _ _ _ _ _ o1 => jc_nm (i := 1) (Ok.nd o1) (by decide)) (fun _ _ _ _ _ o1 => jts_one (jt_not (jt_val (je_callB (hv := bb_any) (cr_any (Ok.calm o1)) any_ok (by rfl) fx.b_any (ja_cons (je_lc (own := [("node", 2)]) o1 (ji_it (je_ix (je_nm 0) (je_int))) (blkOk_by (by first | rfl | kernel_rfl)) (fun _ _ _ _ _ o2 => jc_nm (i := 2) (Ok.nd o2) (by decide)) (fun _ _ _ _ _ o2 => jts_nil) (fun _ _ _ _ _ o2 => je_eq (Ok.un o2) (je_ix (je_nm 2) (je_int)) (je_nm 1))) (ja_nil)))))) (fun _ _ _ _ _ o1 => je_nm 1)))
theorem sc_sign_at : FnScope N_sign_at ["word", "place"] (defScope EH.s_sign_at) := ⟨rfl, rfl, rfl, by decide +kernel, rfl, by decide +kernel, by decide +kernel⟩
theorem ok_sign_at (fx : Fx mg)  {f : Addr} {fd : FuncData} (F : FunD K "sign_at" "sign_at" (defArgs EH.s_sign_at) (defBody EH.s_sign_at) (defScope EH.s_sign_at) [] [] f fd) (hm : mg "sign_at" = some (.ref f)) : Good P w K mg base 1 "sign_at" (defArgs EH.s_sign_at) ["word", "place"] m_sign_at :=
  good_of (N := N_sign_at) (ps := ["word", "place"]) (k := 0) (fs := d_sign_at) F hm sc_sign_at (fun _ _ _ _ _ _ us hl => match us, hl with | [_, _], _ => rfl) fun cdv A outer s H ok => js_one (js_ret (je_if (jt_lelt (je_int) (je_nm 1) (je_callB (hv := bb_len) cr_lenA len_ok (by rfl) fx.b_len (ja_cons (je_nm 0) (ja_nil)))) (je_ix (je_nm 0) (je_nm 1)) (je_gstr1 fx.c_EDGE)))
theorem sc_fits_ahead : FnScope N_fits_ahead ["before", "made"] (defScope EH.s_fits_ahead) := ⟨rfl, rfl, rfl, by decide +kernel, rfl, by decide +kernel, by decide +kernel⟩
theorem ok_fits_ahead (fx : Fx mg) (g_sign_at : Good P w K mg base 1 "sign_at" (defArgs EH.s_sign_at) ["word", "place"] m_sign_at) {f : Addr} {fd : FuncData} (F : FunD K "fits_ahead" "fits_ahead" (defArgs EH.s_fits_ahead) (defBody EH.s_fits_ahead) (defScope EH.s_fits_ahead) [] [] f fd) (hm : mg "fits_ahead" = some (.ref f)) : Good P w K mg base 2 "fits_ahead" (defArgs EH.s_fits_ahead) ["before", "made"] m_fits_ahead :=
  good_of (N := N_fits_ahead) (ps := ["before", "made"]) (k := 1) (fs := d_fits_ahead) F hm sc_fits_ahead (fun _ _ _ _ _ _ us hl => match us, hl with | [_, _], _ => rfl) fun cdv A outer s H ok => js_one (js_ret (je_callB (hv := bb_all) (cr_all (Ok.calm ok)) all_ok (by rfl) fx.b_all (ja_cons (je_lc (own := [("at", 2), ("one", 3)]) ok (ji_en fx.b_enumerate (je_nm 0)) (blkOk_by (by first | rfl | kernel_rfl)) (fun _ _ _ _ _ o1 => jc_tup (Ok.calm o1) (jcs_cons (jc_nm (i := 2) (Ok.nd o1) (by decide)) (jcs_cons (jc_nm (i := 3) (Ok.nd o1) (by decide)) (jcs_nil)))) (fun _ _ _ _ _ o1 => jts_nil) (fun _ _ _ _ _ o1 => je_in (Ok.un o1) (je_call false (Good.mono g_sign_at (by decide)) o1 (ja_cons (je_nm 1) (ja_cons (je_add (je_sub (je_callB (hv := bb_len) cr_lenA len_ok (by rfl) fx.b_len (ja_cons (je_nm 1) (ja_nil))) (je_callB (hv := bb_len) cr_lenA len_ok (by rfl) fx.b_len (ja_cons (je_nm 0) (ja_nil)))) (je_nm 2)) (ja_nil)))) (je_nm 3))) (ja_nil))))
theorem sc_fits_behind : FnScope N_fits_behind ["behind", "word", "place"] (defScope EH.s_fits_behind) := ⟨rfl, rfl, rfl, by decide +kernel, rfl, by decide +kernel, by decide +kernel⟩
theorem ok_fits_behind (fx : Fx mg) (g_sign_at : Good P w K mg base 1 "sign_at" (defArgs EH.s_sign_at) ["word", "place"] m_sign_at) {f : Addr} {fd : FuncData} (F : FunD K "fits_behind" "fits_behind" (defArgs EH.s_fits_behind) (defBody EH.s_fits_behind) (defScope EH.s_fits_behind) [] [] f fd) (hm : mg "fits_behind" = some (.ref f)) : Good P w K mg base 2 "fits_behind" (defArgs EH.s_fits_behind) ["behind", "word", "place"] m_fits_behind :=
  good_of (N := N_fits_behind) (ps := ["behind", "word", "place"]) (k := 1) (fs := d_fits_behind) F hm sc_fits_behind (fun _ _ _ _ _ _ us hl => match us, hl with | [_, _, _], _ => rfl) fun cdv A outer s H ok => js_one (js_ret (je_callB (hv := bb_all) (cr_all (Ok.calm ok)) all_ok (by rfl) fx.b_all (ja_cons (je_lc (own := [("at", 3), ("one", 4)]) ok (ji_en fx.b_enumerate (je_nm 0)) (blkOk_by (by first | rfl | kernel_rfl)) (fun _ _ _ _ _ o1 => jc_tup (Ok.calm o1) (jcs_cons (jc_nm (i := 3) (Ok.nd o1) (by decide)) (jcs_cons (jc_nm (i := 4) (Ok.nd o1) (by decide)) (jcs_nil)))) (fun _ _ _ _ _ o1 => jts_nil) (fun _ _ _ _ _ o1 => je_in (Ok.un o1) (je_call false (Good.mono g_sign_at (by decide)) o1 (ja_cons (je_nm 1) (ja_cons (je_add (je_add (je_nm 2) (je_int)) (je_nm 3)) (ja_nil)))) (je_nm 4))) (ja_nil))))
theorem sc_made_row : FnScope N_made_row ["shift", "word"] (defScope EH.s_made_row) := ⟨rfl, rfl, rfl, by decide +kernel, rfl, by decide +kernel, by decide +kernel⟩
theorem ok_made_row (fx : Fx mg) (g_fits_ahead : Good P w K mg base 2 "fits_ahead" (defArgs EH.s_fits_ahead) ["before", "made"] m_fits_ahead) (g_fits_behind : Good P w K mg base 2 "fits_behind" (defArgs EH.s_fits_behind) ["behind", "word", "place"] m_fits_behind) {f : Addr} {fd : FuncData} (F : FunD K "made_row" "made_row" (defArgs EH.s_made_row) (defBody EH.s_made_row) (defScope EH.s_made_row) [] [] f fd) (hm : mg "made_row" = some (.ref f)) : Good P w K mg base 3 "made_row" (defArgs EH.s_made_row) ["shift", "word"] m_made_row :=
  good_of (N := N_made_row) (ps := ["shift", "word"]) (k := 2) (fs := d_made_row) F hm sc_made_row (fun _ _ _ _ _ _ us hl => match us, hl with | [_, _], _ => rfl) fun cdv A outer s H ok => js_seq (js_par3 (i := 2) (j := 3) (l := 4) true false true (Ok.calm ok) (Ok.nd ok) (ja_cons (je_lst (ja_nil)) (ja_cons (je_str) (ja_cons (je_lst (ja_nil)) (ja_nil))))) (js_seq (js_for PassesOwn.never (Ok.calm ok) (ji_en fx.b_enumerate (je_nm 1)) (jg_tup (Ok.calm ok) (jgs_cons (jg_nm (i := 5) false (Ok.nd ok)) (jgs_cons (jg_nm (i := 6) false (Ok.nd ok)) (jgs_nil)))) (js_seq (js_set (i := 7) false (je_if (jt_eq (Ok.un ok) (je_ix (je_nm 0) (je_int)) (je_gstr1 fx.c_ONCE)) (je_sl (je_nm 1) (jo_no) (jo_so (je_nm 5))) (je_nm 3)) (Ok.nd ok)) (js_seq (js_set (i := 8) false (je_nm 6) (Ok.nd ok)) (js_seq (js_if ((jw_and (jt_in (Ok.un ok) (je_nm 6) (je_ix (je_nm 0) (je_int))) (jw_and (jt_val (je_call false (Good.mono g_fits_ahead (by decide)) ok (ja_cons (je_ix (je_nm 0) (je_int)) (ja_cons (je_nm 7) (ja_nil))))) (jw_and1 (jt_val (je_call false (Good.mono g_fits_behind (by decide)) ok (ja_cons (je_ix (je_nm 0) (je_int)) (ja_cons (je_nm 1) (ja_cons (je_nm 5) (ja_nil))))))))).pt) (js_seq (js_set (i := 8) false (je_ix (je_ix (je_nm 0) (je_int)) (je_m PySem.F.plainAttrs_str PySem.F.slot_str_index PySem.F.type_str_index mt_sindex indexS_ok (je_ix (je_nm 0) (je_int)) (ja_cons (je_nm 6) (ja_nil)))) (Ok.nd ok)) (js_one (js_ex (je_m PySem.F.plainAttrs_list PySem.F.slot_list_append PySem.F.type_list_append mt_append app_ok (je_nm 4) (ja_cons (je_nm 5) (ja_nil)))))) (js_nil)) (js_seq (js_ex (je_m PySem.F.plainAttrs_list PySem.F.slot_list_append PySem.F.type_list_append mt_append app_ok (je_nm 2) (ja_cons (je_nm 8) (ja_nil)))) (js_one (js_set (i := 3) false (je_add (je_nm 3) (je_nm 8)) (Ok.nd ok)))))))) (js_one (js_ret (je_tup (ja_cons (je_nm 2) (ja_cons (je_nm 4) (ja_nil)))))))
theorem sc_strike_of : FnScope N_strike_of ["shift", "word"] (defScope EH.s_strike_of) := ⟨rfl, rfl, rfl, by decide +kernel, rfl, by decide +kernel, by decide +kernel⟩
theorem ok_strike_of (fx : Fx mg) (g_made_row : Good P w K mg base 3 "made_row" (defArgs EH.s_made_row) ["shift", "word"] m_made_row) {f : Addr} {fd : FuncData} (F : FunD K "strike_of" "strike_of" (defArgs EH.s_strike_of) (defBody EH.s_strike_of) (defScope EH.s_strike_of) [] [] f fd) (hm : mg "strike_of" = some (.ref f)) : Good P w K mg base 4 "strike_of" (defArgs EH.s_strike_of) ["shift", "word"] m_strike_of :=
  good_of (N := N_strike_of) (ps := ["shift", "word"]) (k := 3) (fs := d_strike_of) F hm sc_strike_of (fun _ _ _ _ _ _ us hl => match us, hl with | [_, _], _ => rfl) fun cdv A outer s H ok => js_seq (js_as (je_call false (Good.mono g_made_row (by decide)) ok (ja_cons (je_nm 0) (ja_cons (je_nm 1) (ja_nil)))) (jg_tup (Ok.calm ok) (jgs_cons (jg_nm (i := 2) false (Ok.nd ok)) (jgs_cons (jg_nm (i := 3) false (Ok.nd ok)) (jgs_nil))))) (js_one (js_ret (je_tup (ja_cons (je_m PySem.F.plainAttrs_str PySem.F.slot_str_join PySem.F.type_str_join mt_join join_ok (je_str) (ja_cons (je_nm 2) (ja_nil))) (ja_cons (je_nm 3) (ja_nil))))))
theorem sc_stages_in : FnScope N_stages_in ["book", "word"] (defScope EH.s_stages_in) := ⟨rfl, rfl, rfl, by decide +kernel, rfl, by decide +kernel, by decide +kernel⟩
theorem ok_stages_in (fx : Fx mg) (g_strike_of : Good P w K mg base 4 "strike_of" (defArgs EH.s_strike_of) ["shift", "word"] m_strike_of) {f : Addr} {fd : FuncData} (F : FunD K "stages_in" "stages_in" (defArgs EH.s_stages_in) (defBody EH.s_stages_in) (defScope EH.s_stages_in) [] [] f fd) (hm : mg "stages_in" = some (.ref f)) : Good P w K mg base 5 "stages_in" (defArgs EH.s_stages_in) ["book", "word"] m_stages_in :=
  good_of (N := N_stages_in) (ps := ["book", "word"]) (k := 4) (fs := d_stages_in) F hm sc_stages_in (fun _ _ _ _ _ _ us hl => match us, hl with | [_, _], _ => rfl) fun cdv A outer s H ok => js_seq (js_set (i := 2) true (je_lst (ja_cons (je_nm 1) (ja_nil))) (Ok.nd ok)) (js_seq (js_for PassesOwn.never (Ok.calm ok) (ji_it (je_ix (je_nm 0) (je_int))) (jg_nm (i := 3) false (Ok.nd ok)) (js_one (js_ex (je_m PySem.F.plainAttrs_list PySem.F.slot_list_append PySem.F.type_list_append mt_append app_ok (je_nm 2) (ja_cons (je_ix (je_call false (Good.mono g_strike_of (by decide)) ok (ja_cons (je_nm 3) (ja_cons (je_ix (je_nm 2) (je_neg (je_int))) (ja_nil)))) (je_int)) (ja_nil)))))) (js_one (js_ret (je_nm 2))))
theorem sc_daughter_in : FnScope N_daughter_in ["book", "word"] (defScope EH.s_daughter_in) := ⟨rfl, rfl, rfl, by decide +kernel, rfl, by decide +kernel, by decide +kernel⟩
theorem ok_daughter_in (fx : Fx mg) (g_stages_in : Good P w K mg base 5 "stages_in" (defArgs EH.s_stages_in) ["book", "word"] m_stages_in) {f : Addr} {fd : FuncData} (F : FunD K "daughter_in" "daughter_in" (defArgs EH.s_daughter_in) (defBody EH.s_daughter_in) (defScope EH.s_daughter_in) [] [] f fd) (hm : mg "daughter_in" = some (.ref f)) : Good P w K mg base 6 "daughter_in" (defArgs EH.s_daughter_in) ["book", "word"] m_daughter_in :=
  good_of (N := N_daughter_in) (ps := ["book", "word"]) (k := 5) (fs := d_daughter_in) F hm sc_daughter_in (fun _ _ _ _ _ _ us hl => match us, hl with | [_, _], _ => rfl) fun cdv A outer s H ok => js_one (js_ret (je_ix (je_call false (Good.mono g_stages_in (by decide)) ok (ja_cons (je_nm 0) (ja_cons (je_nm 1) (ja_nil)))) (je_neg (je_int))))
theorem sc_is_word_of : FnScope N_is_word_of ["signs", "value"] (defScope EH.s_is_word_of) := ⟨rfl, rfl, rfl, by decide +kernel, rfl, by decide +kernel, by decide +kernel⟩
theorem ok_is_word_of (fx : Fx mg) (g_is_text_of : Good P w K mg base 1 "is_text_of" (defArgs EH.s_is_text_of) ["signs", "value", "most"] m_is_text_of) {f : Addr} {fd : FuncData} (F : FunD K "is_word_of" "is_word_of" (defArgs EH.s_is_word_of) (defBody EH.s_is_word_of) (defScope EH.s_is_word_of) [] [] f fd) (hm : mg "is_word_of" = some (.ref f)) : Good P w K mg base 2 "is_word_of" (defArgs EH.s_is_word_of) ["signs", "value"] m_is_word_of :=
  good_of (N := N_is_word_of) (ps := ["signs", "value"]) (k := 1) (fs := d_is_word_of) F hm sc_is_word_of (fun _ _ _ _ _ _ us hl => match us, hl with | [_, _], _ => rfl) fun cdv A outer s H ok => js_one (js_ret (je_call false (Good.mono g_is_text_of (by decide)) ok (ja_cons (je_nm 0) (ja_cons (je_nm 1) (ja_cons (je_gint1 fx.c_MOST_WORD) (ja_nil))))))
theorem sc_want_tree_word : FnScope N_want_tree_word ["tree", "word"] (defScope EH.s_want_tree_word) := ⟨rfl, rfl, rfl, by decide +kernel, rfl, by decide +kernel, by decide +kernel⟩
theorem ok_want_tree_word (fx : Fx mg) (g_is_word_of : Good P w K mg base 2 "is_word_of" (defArgs EH.s_is_word_of) ["signs", "value"] m_is_word_of) {f : Addr} {fd : FuncData} (F : FunD K "want_tree_word" "want_tree_word" (defArgs EH.s_want_tree_word) (defBody EH.s_want_tree_word) (defScope EH.s_want_tree_word) [] [] f fd) (hm : mg "want_tree_word" = some (.ref f)) : Good P w K mg base 3 "want_tree_word" (defArgs EH.s_want_tree_word) ["tree", "word"] m_want_tree_word :=
  good_of (N := N_want_tree_word) (ps := ["tree", "word"]) (k := 2) (fs := d_want_tree_word) F hm sc_want_tree_word (fun _ _ _ _ _ _ us hl => match us, hl with | [_, _], _ => rfl) fun cdv A outer s H ok => js_one (js_if (jt_not (jt_val (je_call false (Good.mono g_is_word_of (by decide)) ok (ja_cons (je_ix (je_nm 0) (je_int)) (ja_cons (je_nm 1) (ja_nil)))))) (js_one (js_no)) (js_nil))
theorem sc_forms : FnScope N_forms ["tree", "word"] (defScope EH.s_forms) := ⟨rfl, rfl, rfl, by decide +kernel, rfl, by decide +kernel, by decide +kernel⟩
theorem ok_forms (fx : Fx mg) (g_daughter_in : Good P w K mg base 6 "daughter_in" (defArgs EH.s_daughter_in) ["book", "word"] m_daughter_in) (g_shifts_along : Good P w K mg base 1 "shifts_along" (defArgs EH.s_shifts_along) ["nodes"] m_shifts_along) (g_want_tree : Good P w K mg base 7 "want_tree" (defArgs EH.s_want_tree) ["tree"] m_want_tree) (g_want_tree_word : Good P w K mg base 3 "want_tree_word" (defArgs EH.s_want_tree_word) ["tree", "word"] m_want_tree_word) {f : Addr} {fd : FuncData} (F : FunD K "forms" "forms" (defArgs EH.s_forms) (defBody EH.s_forms) (defScope EH.s_forms) [] [] f fd) (hm : mg "forms" = some (.ref f)) : Good P w K mg base 8 "forms" (defArgs EH.s_forms) ["tree", "word"] m_forms :=
  good_of (N := N_forms) (ps := ["tree", "word"]) (k := 7) (fs := d_forms) F hm sc_forms (fun _ _ _ _ _ _ us hl => match us, hl with | [_, _], _ => rfl) fun cdv A outer s H ok => js_seq (js_ex (je_call false (Good.mono g_want_tree (by decide)) ok (ja_cons (je_nm 0) (ja_nil)))) (js_seq (js_ex (je_call false (Good.mono g_want_tree_word (by decide)) ok (ja_cons (je_nm 0) (ja_cons (je_nm 1) (ja_nil))))) (js_seq (js_set (i := 2) false (je_call false (Good.mono g_shifts_along (by decide)) ok (ja_cons (je_ix (je_nm 0) (je_int)) (ja_nil))) (Ok.nd ok)) (js_one (js_ret (je_lc (own := [("node", 3), ("shifts", 4)]) ok (ji_zp fx.b_zip (je_ix (je_nm 0) (je_int)) (je_nm 2)) (blkOk_by (by first | rfl | kernel_rfl)) (fun _ _ _ _ _ o1 => jc_tup (Ok.calm o1) (jcs_cons (jc_nm (i := 3) (Ok.nd o1) (by decide)) (jcs_cons (jc_nm (i := 4) (Ok.nd o1) (by decide)) (jcs_nil)))) (fun _ _ _ _ _ o1 => jts_nil) (fun _ _ _ _ _ o1 => je_tup (ja_cons (je_ix (je_nm 3) (je_int)) (ja_cons (je_call false (Good.mono g_daughter_in (by decide)) o1 (ja_cons (je_tup (ja_cons (je_str) (ja_cons (je_ix (je_nm 0) (je_int)) (ja_cons (je_nm 4) (ja_nil))))) (ja_cons (je_nm 1) (ja_nil)))) (ja_nil)))))))))
theorem sc__law_daughter : FnScope N__law_daughter ["shift", "word"] (defScope EH.s__law_daughter) := ⟨rfl, rfl, rfl, by decide +kernel, rfl, by decide +kernel, by decide +kernel⟩
theorem ok__law_daughter (fx : Fx mg)  {f : Addr} {fd : FuncData} (F : FunD K "_law_daughter" "_law_daughter" (defArgs EH.s__law_daughter) (defBody EH.s__law_daughter) (defScope EH.s__law_daughter) [] [] f fd) (hm : mg "_law_daughter" = some (.ref f)) : Good P w K mg base 1 "_law_daughter" (defArgs EH.s__law_daughter) ["shift", "word"] m__law_daughter :=
  good_of (N := N__law_daughter) (ps := ["shift", "word"]) (k := 0) (fs := d__law_daughter) F hm sc__law_daughter (fun _ _ _ _ _ _ us hl => match us, hl with | [_, _], _ => rfl) fun cdv A outer s H ok => js_seq (js_as (je_sl (je_nm 0) (jo_so (je_int)) (jo_no)) (jg_tup (Ok.calm ok) (jgs_cons (jg_nm (i := 2) false (Ok.nd ok)) (jgs_cons (jg_nm (i := 3) false (Ok.nd ok)) (jgs_cons (jg_nm (i := 4) false (Ok.nd ok)) (jgs_cons (jg_nm (i := 5) false (Ok.nd ok)) (jgs_cons (jg_nm (i := 6) false (Ok.nd ok)) (jgs_nil)))))))) (js_seq (js_parG (n := 2) [false, false] (Ok.calm ok) (pgsn_cons (i := 7) (Ok.nd ok) (pgsn_cons (i := 8) (Ok.nd ok) (pgsn_nil))) (ja_cons (je_str) (ja_cons (je_int) (ja_nil)))) (js_seq (js_while PassesOwn.never (jt_lt  (je_nm 8) (je_callB (hv := bb_len) cr_lenA len_ok (by rfl) fx.b_len (ja_cons (je_nm 1) (ja_nil)))) (js_seq (js_set (i := 9) false (je_add (je_str) (je_if (jt_eq (Ok.un ok) (je_nm 2) (je_str)) (je_sl (je_nm 1) (jo_no) (jo_so (je_nm 8))) (je_nm 7))) (Ok.nd ok)) (js_seq (js_set (i := 10) false (je_add (je_sl (je_nm 1) (jo_so (je_add (je_nm 8) (je_int))) (jo_no)) (je_str)) (Ok.nd ok)) (js_seq (js_set (i := 11) false (je_callB (hv := bb_all) (cr_all (Ok.calm ok)) all_ok (by rfl) fx.b_all (ja_cons (je_lc (own := [("context", 13), ("sign", 14)]) ok (ji_zp fx.b_zip (je_rev (je_nm 5)) (je_rev (je_nm 9))) (blkOk_by (by first | rfl | kernel_rfl)) (fun _ _ _ _ _ o1 => jc_tup (Ok.calm o1) (jcs_cons (jc_nm (i := 13) (Ok.nd o1) (by decide)) (jcs_cons (jc_nm (i := 14) (Ok.nd o1) (by decide)) (jcs_nil)))) (fun _ _ _ _ _ o1 => jts_nil) (fun _ _ _ _ _ o1 => je_in (Ok.un o1) (je_nm 14) (je_nm 13))) (ja_nil))) (Ok.nd ok)) (js_seq (js_set (i := 12) false (je_callB (hv := bb_all) (cr_all (Ok.calm ok)) all_ok (by rfl) fx.b_all (ja_cons (je_lc (own := [("context", 13), ("sign", 14)]) ok (ji_zp fx.b_zip (je_nm 6) (je_nm 10)) (blkOk_by (by first | rfl | kernel_rfl)) (fun _ _ _ _ _ o1 => jc_tup (Ok.calm o1) (jcs_cons (jc_nm (i := 13) (Ok.nd o1) (by decide)) (jcs_cons (jc_nm (i := 14) (Ok.nd o1) (by decide)) (jcs_nil)))) (fun _ _ _ _ _ o1 => jts_nil) (fun _ _ _ _ _ o1 => je_in (Ok.un o1) (je_nm 14) (je_nm 13))) (ja_nil))) (Ok.nd ok)) (js_seq (js_if ((jw_and (jt_in (Ok.un ok) (je_ix (je_nm 1) (je_nm 8)) (je_nm 3)) (jw_and (jt_val (je_nm 11)) (jw_and1 (jt_val (je_nm 12))))).pt) (js_one (js_set (i := 7) false (je_add (je_nm 7) (je_ix (je_nm 4) (je_m PySem.F.plainAttrs_str PySem.F.slot_str_index PySem.F.type_str_index mt_sindex indexS_ok (je_nm 3) (ja_cons (je_ix (je_nm 1) (je_nm 8)) (ja_nil))))) (Ok.nd ok))) (js_one (js_set (i := 7) false (je_add (je_nm 7) (je_ix (je_nm 1) (je_nm 8))) (Ok.nd ok)))) (js_one (js_set (i := 8) false (je_add (je_nm 8) (je_int)) (Ok.nd ok))))))))) (js_one (js_ret (je_nm 7)))))
theorem sc__law_stages : FnScope N__law_stages ["book", "word"] (defScope EH.s__law_stages) := ⟨rfl, rfl, rfl, by decide +kernel, rfl, by decide +kernel, by decide +kernel⟩
theorem ok__law_stages (fx : Fx mg) (g__law_daughter : Good P w K mg base 1 "_law_daughter" (defArgs EH.s__law_daughter) ["shift", "word"] m__law_daughter) {f : Addr} {fd : FuncData} (F : FunD K "_law_stages" "_law_stages" (defArgs EH.s__law_stages) (defBody EH.s__law_stages) (defScope EH.s__law_stages) [] [] f fd) (hm : mg "_law_stages" = some (.ref f)) : Good P w K mg base 2 "_law_stages" (defArgs EH.s__law_stages) ["book", "word"] m__law_stages :=
  good_of (N := N__law_stages) (ps := ["book", "word"]) (k := 1) (fs := d__law_stages) F hm sc__law_stages (fun _ _ _ _ _ _ us hl => match us, hl with | [_, _], _ => rfl) fun cdv A outer s H ok => js_seq (js_set (i := 2) true (je_lst (ja_cons (je_nm 1) (ja_nil))) (Ok.nd ok)) (js_seq (js_for PassesOwn.never (Ok.calm ok) (ji_it (je_ix (je_nm 0) (je_int))) (jg_nm (i := 3) false (Ok.nd ok)) (js_one (js_ex (je_m PySem.F.plainAttrs_list PySem.F.slot_list_append PySem.F.type_list_append mt_append app_ok (je_nm 2) (ja_cons (je_call false (Good.mono g__law_daughter (by decide)) ok (ja_cons (je_nm 3) (ja_cons (je_ix (je_nm 2) (je_neg (je_int))) (ja_nil)))) (ja_nil)))))) (js_one (js_ret (je_nm 2))))
theorem sc__law_told : FnScope N__law_told ["book", "word"] (defScope EH.s__law_told) := ⟨rfl, rfl, rfl, by decide +kernel, rfl, by decide +kernel, by decide +kernel⟩
theorem ok__law_told (fx : Fx mg) (g__law_stages : Good P w K mg base 2 "_law_stages" (defArgs EH.s__law_stages) ["book", "word"] m__law_stages) {f : Addr} {fd : FuncData} (F : FunD K "_law_told" "_law_told" (defArgs EH.s__law_told) (defBody EH.s__law_told) (defScope EH.s__law_told) [] [] f fd) (hm : mg "_law_told" = some (.ref f)) : Good P w K mg base 3 "_law_told" (defArgs EH.s__law_told) ["book", "word"] m__law_told :=
  good_of (N := N__law_told) (ps := ["book", "word"]) (k := 2) (fs := d__law_told) F hm sc__law_told (fun _ _ _ _ _ _ us hl => match us, hl with | [_, _], _ => rfl) fun cdv A outer s H ok => js_one (js_ret (je_ix (je_call false (Good.mono g__law_stages (by decide)) ok (ja_cons (je_nm 0) (ja_cons (je_nm 1) (ja_nil)))) (je_neg (je_int))))
theorem sc__law_forms_right : FnScope N__law_forms_right ["tree", "word"] (defScope EH.s__law_forms_right) := ⟨rfl, rfl, rfl, by decide +kernel, rfl, by decide +kernel, by decide +kernel⟩
theorem ok__law_forms_right (fx : Fx mg) (g_forms : Good P w K mg base 8 "forms" (defArgs EH.s_forms) ["tree", "word"] m_forms) (g__law_told : Good P w K mg base 3 "_law_told" (defArgs EH.s__law_told) ["book", "word"] m__law_told) (g__law_along : Good P w K mg base 1 "_law_along" (defArgs EH.s__law_along) ["tree", "number"] m__law_along) {f : Addr} {fd : FuncData} (F : FunD K "_law_forms_right" "_law_forms_right" (defArgs EH.s__law_forms_right) (defBody EH.s__law_forms_right) (defScope EH.s__law_forms_right) [] [] f fd) (hm : mg "_law_forms_right" = some (.ref f)) : Good P w K mg base 9 "_law_forms_right" (defArgs EH.s__law_forms_right) ["tree", "word"] m__law_forms_right :=
  good_of (N := N__law_forms_right) (ps := ["tree", "word"]) (k := 8) (fs := d__law_forms_right) F hm sc__law_forms_right (fun _ _ _ _ _ _ us hl => match us, hl with | [_, _], _ => rfl) fun cdv A outer s H ok => js_seq (js_setLc (i := 2) (own := [("number", 9), ("node", 10)]) false ok (ji_en fx.b_enumerate (je_ix (je_nm 0) (je_int))) (blkOk_by (by first | rfl | kernel_rfl)) (fun _ _ _ _ _ o1 => jc_tup (Ok.calm o1) (jcs_cons (jc_nm (i := 9) (Ok.nd o1) (by decide)) (jcs_cons (jc_nm (i := 10) (Ok.nd o1) (by decide)) (jcs_nil)))) (fun _ _ _ _ _ o1 => jts_nil) (fun _ _ _ _ _ o1 => je_tup (ja_cons (je_ix (je_nm 10) (je_int)) (ja_cons (je_call false (Good.mono g__law_told (by decide)) o1 (ja_cons (je_tup (ja_cons (je_str) (ja_cons (je_ix (je_nm 0) (je_int)) (ja_cons (je_call false (Good.mono g__law_along (by decide)) o1 (ja_cons (je_nm 0) (ja_cons (je_nm 9) (ja_nil)))) (ja_nil))))) (ja_cons (je_nm 1) (ja_nil)))) (ja_nil))))) (js_seq (js_set (i := 3) true (je_call false (Good.mono g_forms (by decide)) ok (ja_cons (je_nm 0) (ja_cons (je_nm 1) (ja_nil)))) (Ok.nd ok)) (js_seq (js_if (jt_ne (Ok.un ok) (je_reprL ok fx.b_repr (ja_cons (je_nm 3) (ja_cons (je_callK (ks := ["word", "tree"]) [1, 0] (Good.mono g_forms (by decide)) ok (jk_cons (je_nm 1) (jk_cons (je_nm 0) (jk_nil))) (fun _ _ _ _ _ _ _ _ ws hl => match ws, hl with | [_, _], _ => rfl)) (ja_nil)))) (je_reprL ok fx.b_repr (ja_cons (je_nm 2) (ja_cons (je_nm 2) (ja_nil))))) (js_one (js_ret (je_bl))) (js_nil)) (js_seq (js_forZB PassesOwn.never (Ok.calm ok) (ji_zB fx.b_zip (je_nm 3) (je_ix (je_nm 0) (je_int))) (jg_tup (Ok.calm ok) (jgs_cons (jg_tup (Ok.calm ok) (jgs_cons (jg_nm (i := 4) false (Ok.nd ok)) (jgs_cons (jg_nm (i := 5) false (Ok.nd ok)) (jgs_nil)))) (jgs_cons (jg_tup (Ok.calm ok) (jgs_cons (jg_nm (i := 6) false (Ok.nd ok)) (jgs_cons (jg_nm (i := 7) false (Ok.nd ok)) (jgs_cons (jg_nm (i := 8) false (Ok.nd ok)) (jgs_nil))))) (jgs_nil)))) (js_one (js_if (jt_ne (Ok.un ok) (je_nm 5) (je_call false (Good.mono g__law_told (by decide)) ok (ja_cons (je_tup (ja_cons (je_str) (ja_cons (je_ix (je_nm 0) (je_int)) (ja_cons (je_nm 8) (ja_nil))))) (ja_cons (je_if (jt_ge  (je_nm 7) (je_int)) (je_ix (je_ix (je_nm 3) (je_nm 7)) (je_int)) (je_nm 1)) (ja_nil))))) (js_one (js_ret (je_bl))) (js_nil)))) (js_seq (js_ex (je_m PySem.F.plainAttrs_list PySem.F.slot_list_append PySem.F.type_list_append mt_append app_ok (je_nm 3) (ja_cons (je_non) (ja_nil)))) (js_one (js_ret (je_eq (Ok.un ok) (je_callB (hv := bb_repr) (call_reprD ok) repr_ok (by rfl) fx.b_repr (ja_cons (je_call false (Good.mono g_forms (by decide)) ok (ja_cons (je_nm 0) (ja_cons (je_nm 1) (ja_nil)))) (ja_nil))) (je_callB (hv := bb_repr) (call_reprD ok) repr_ok (by rfl) fx.b_repr (ja_cons (je_nm 2) (ja_nil))))))))))
theorem sc__law_row_right : FnScope N__law_row_right ["pot"] (defScope EH.s__law_row_right) := ⟨rfl, rfl, rfl, by decide +kernel, rfl, by decide +kernel, by decide +kernel⟩
theorem ok__law_row_right (fx : Fx mg) (g_is_tree : Good P w K mg base 7 "is_tree" (defArgs EH.s_is_tree) ["value"] m_is_tree) (g_leaf_names : Good P w K mg base 8 "leaf_names" (defArgs EH.s_leaf_names) ["tree"] m_leaf_names) (g_forms : Good P w K mg base 8 "forms" (defArgs EH.s_forms) ["tree", "word"] m_forms) (g__law_draw : Good P w K mg base 1 "_law_draw" (defArgs EH.s__law_draw) ["pot", "many"] m__law_draw) (g__law_pick : Good P w K mg base 2 "_law_pick" (defArgs EH.s__law_pick) ["pot", "some"] m__law_pick) {f : Addr} {fd : FuncData} (F : FunD K "_law_row_right" "_law_row_right" (defArgs EH.s__law_row_right) (defBody EH.s__law_row_right) (defScope EH.s__law_row_right) [] [] f fd) (hm : mg "_law_row_right" = some (.ref f)) : Good P w K mg base 9 "_law_row_right" (defArgs EH.s__law_row_right) ["pot"] m__law_row_right :=
  good_of (N := N__law_row_right) (ps := ["pot"]) (k := 8) (fs := d__law_row_right) F hm sc__law_row_right (fun _ _ _ _ _ _ us hl => match us, hl with | [_], _ => rfl) fun cdv A outer s H ok => js_seq (js_par3 (i := 5) (j := 6) (l := 7) false true true (Ok.calm ok) (Ok.nd ok) (ja_cons (je_tup (ja_cons (je_str) (ja_cons (je_str) (ja_cons (je_str) (ja_cons (je_tup (ja_cons (je_str) (ja_cons (je_str) (ja_nil)))) (ja_cons (je_tup (ja_nil)) (ja_cons (je_tup (ja_nil)) (ja_nil)))))))) (ja_cons (je_lst (ja_cons (je_tup (ja_cons (je_str) (ja_cons (je_neg (je_int)) (ja_cons (je_tup (ja_nil)) (ja_nil))))) (ja_nil))) (ja_cons (je_lst (ja_nil)) (ja_nil))))) (js_seq (js_set (i := 1) true (je_lr2 ok fx.b_list fx.b_range (je_int) (je_int)) (Ok.nd ok)) (js_seq (js_while PassesOwn.never (jt_lt  (je_callB (hv := bb_len) cr_lenA len_ok (by rfl) fx.b_len (ja_cons (je_nm 7) (ja_nil))) (je_int)) (js_one (js_ex (je_m PySem.F.plainAttrs_list PySem.F.slot_list_append PySem.F.type_list_append mt_append app_ok (je_nm 7) (ja_cons (je_m PySem.F.plainAttrs_list PySem.F.slot_list_pop PySem.F.type_list_pop mt_popAt popAt_ok (je_nm 1) (ja_cons (je_call true (Good.mono g__law_draw (by decide)) ok (ja_cons (je_nm 0) (ja_cons (je_callB (hv := bb_len) cr_lenA len_ok (by rfl) fx.b_len (ja_cons (je_nm 1) (ja_nil))) (ja_nil)))) (ja_nil))) (ja_nil)))))) (js_seq (js_for PassesOwn.never (Ok.calm ok) (ji_r2 fx.b_range (je_int) (je_int)) (jg_nm (i := 2) false (Ok.nd ok)) (js_one (js_ex (je_m PySem.F.plainAttrs_list PySem.F.slot_list_append PySem.F.type_list_append mt_append app_ok (je_nm 6) (ja_cons (je_tup (ja_cons (je_add (je_str) (je_ix (je_str) (je_nm 2))) (ja_cons (je_sub (je_nm 2) (je_int)) (ja_cons (je_if (jt_in (Ok.un ok) (je_nm 2) (je_nm 7)) (je_tup (ja_cons (je_nm 5) (ja_nil))) (je_tup (ja_nil))) (ja_nil))))) (ja_nil)))))) (js_seq (js_par2 (i := 8) (j := 9) false false (Ok.calm ok) (Ok.nd ok) (ja_cons (je_tup (ja_cons (je_str) (ja_cons (je_str) (ja_cons (je_callTy (hv := bb_tuple) (cr_tup (Ok.calm ok)) tuple_ok (by rfl) fx.b_tuple (ja_cons (je_nm 6) (ja_nil))) (ja_nil))))) (ja_cons (je_call true (Good.mono g__law_pick (by decide)) ok (ja_cons (je_nm 0) (ja_cons (je_lst (ja_cons (je_str) (ja_cons (je_str) (ja_cons (je_rep (je_str) (je_int)) (ja_nil))))) (ja_nil)))) (ja_nil)))) (js_seq (js_set (i := 3) false (je_m PySem.F.plainAttrs_str PySem.F.slot_str_join PySem.F.type_str_join mt_join join_ok (je_str) (ja_cons (je_lc (own := [("sign", 10)]) ok (ji_it (je_nm 9)) (blkOk_by (by first | rfl | kernel_rfl)) (fun _ _ _ _ _ o1 => jc_nm (i := 10) (Ok.nd o1) (by decide)) (fun _ _ _ _ _ o1 => jts_nil) (fun _ _ _ _ _ o1 => je_if (jt_eq (Ok.un o1) (je_nm 10) (je_str)) (je_str) (je_str))) (ja_nil))) (Ok.nd ok)) (js_seq (js_set (i := 4) true (je_lst (ja_nil)) (Ok.nd ok)) (js_seq (js_for PassesOwn.never (Ok.calm ok) (ji_r1 fx.b_range (je_int)) (jg_nm (i := 2) false (Ok.nd ok)) (js_one (js_ex (je_m PySem.F.plainAttrs_list PySem.F.slot_list_append PySem.F.type_list_append mt_append app_ok (je_nm 4) (ja_cons (je_tup (ja_cons (je_ix (je_ix (je_nm 6) (je_nm 2)) (je_int)) (ja_cons (je_if (jt_eq (Ok.un ok) (je_mod (je_callB (hv := bb_len) cr_lenA len_ok (by rfl) fx.b_len (ja_cons (je_lc (own := [("one", 11)]) ok (ji_it (je_nm 7)) (blkOk_by (by first | rfl | kernel_rfl)) (fun _ _ _ _ _ o1 => jc_nm (i := 11) (Ok.nd o1) (by decide)) (fun _ _ _ _ _ o1 => jts_one (jt_le  (je_nm 11) (je_nm 2))) (fun _ _ _ _ _ o1 => je_nm 11)) (ja_nil))) (je_int)) (je_int)) (je_nm 3) (je_nm 9)) (ja_nil)))) (ja_nil)))))) (js_one (js_ret (je_and (je_is  (je_call false (Good.mono g_is_tree (by decide)) ok (ja_cons (je_nm 8) (ja_nil))) (je_bl)) (je_and (je_eq (Ok.un ok) (je_callB (hv := bb_repr) (call_reprD ok) repr_ok (by rfl) fx.b_repr (ja_cons (je_call false (Good.mono g_forms (by decide)) ok (ja_cons (je_nm 8) (ja_cons (je_nm 9) (ja_nil)))) (ja_nil))) (je_callB (hv := bb_repr) (call_reprD ok) repr_ok (by rfl) fx.b_repr (ja_cons (je_nm 4) (ja_nil)))) (je_one (je_eq (Ok.un ok) (je_call false (Good.mono g_leaf_names (by decide)) ok (ja_cons (je_nm 8) (ja_nil))) (je_lst (ja_cons (je_str) (ja_nil))))))))))))))))
theorem sc__law_right : FnScope N__law_right ["pot"] (defScope EH.s__law_right) := ⟨rfl, rfl, rfl, by decide +kernel, rfl, by decide +kernel, by decide +kernel⟩
theorem ok__law_right (fx : Fx mg) (g_is_tree : Good P w K mg base 7 "is_tree" (defArgs EH.s_is_tree) ["value"] m_is_tree) (g_leaf_names : Good P w K mg base 8 "leaf_names" (defArgs EH.s_leaf_names) ["tree"] m_leaf_names) (g_node_book : Good P w K mg base 8 "node_book" (defArgs EH.s_node_book) ["tree", "node"] m_node_book) (g__law_draw : Good P w K mg base 1 "_law_draw" (defArgs EH.s__law_draw) ["pot", "many"] m__law_draw) (g__law_pick : Good P w K mg base 2 "_law_pick" (defArgs EH.s__law_pick) ["pot", "some"] m__law_pick) (g__law_tree : Good P w K mg base 6 "_law_tree" (defArgs EH.s__law_tree) ["pot", "most"] m__law_tree) (g__law_along : Good P w K mg base 1 "_law_along" (defArgs EH.s__law_along) ["tree", "number"] m__law_along) (g__law_leaves : Good P w K mg base 1 "_law_leaves" (defArgs EH.s__law_leaves) ["tree"] m__law_leaves) (g__law_forms_right : Good P w K mg base 9 "_law_forms_right" (defArgs EH.s__law_forms_right) ["tree", "word"] m__law_forms_right) (g__law_row_right : Good P w K mg base 9 "_law_row_right" (defArgs EH.s__law_row_right) ["pot"] m__law_row_right) {f : Addr} {fd : FuncData} (F : FunD K "_law_right" "_law_right" (defArgs EH.s__law_right) (defBody EH.s__law_right) (defScope EH.s__law_right) [] [] f fd) (hm : mg "_law_right" = some (.ref f)) : Good P w K mg base 10 "_law_right" (defArgs EH.s__law_right) ["pot"] m__law_right :=
  good_of (N := N__law_right) (ps := ["pot"]) (k := 9) (fs := d__law_right) F hm sc__law_right (fun _ _ _ _ _ _ us hl => match us, hl with | [_], _ => rfl) fun cdv A outer s H ok => js_seq (js_set (i := 1) false (je_call true (Good.mono g__law_tree (by decide)) ok (ja_cons (je_nm 0) (ja_cons (je_int) (ja_nil)))) (Ok.nd ok)) (js_seq (js_par2 (i := 4) (j := 5) false false (Ok.calm ok) (Ok.nd ok) (ja_cons (je_callB (hv := bb_repr) (call_reprD ok) repr_ok (by rfl) fx.b_repr (ja_cons (je_nm 1) (ja_nil))) (ja_cons (je_callB (hv := bb_sorted) (call_sortD (Ok.un ok)) sorted_ok (by rfl) fx.b_sorted (ja_cons (je_lc (own := [("leaf", 7)]) ok (ji_it (je_call false (Good.mono g__law_leaves (by decide)) ok (ja_cons (je_nm 1) (ja_nil)))) (blkOk_by (by first | rfl | kernel_rfl)) (fun _ _ _ _ _ o1 => jc_nm (i := 7) (Ok.nd o1) (by decide)) (fun _ _ _ _ _ o1 => jts_nil) (fun _ _ _ _ _ o1 => je_ix (je_ix (je_ix (je_nm 1) (je_int)) (je_nm 7)) (je_int))) (ja_nil))) (ja_nil)))) (js_seq (js_if ((jw_or (jt_isnot  (je_call false (Good.mono g_is_tree (by decide)) ok (ja_cons (je_nm 1) (ja_nil))) (je_bl)) (jw_or1 (jt_ne (Ok.un ok) (je_reprL ok fx.b_repr (ja_cons (je_call false (Good.mono g_leaf_names (by decide)) ok (ja_cons (je_nm 1) (ja_nil))) (ja_cons (je_callK (ks := ["tree"]) [0] (Good.mono g_leaf_names (by decide)) ok (jk_cons (je_nm 1) (jk_nil)) (fun _ _ _ _ _ _ _ _ ws hl => match ws, hl with | [_], _ => rfl)) (ja_nil)))) (je_reprL ok fx.b_repr (ja_cons (je_nm 5) (ja_cons (je_nm 5) (ja_nil))))))).pt) (js_one (js_ret (je_bl))) (js_nil)) (js_seq (js_for PassesOwn.never (Ok.calm ok) (ji_r1 fx.b_range (je_callB (hv := bb_len) cr_lenA len_ok (by rfl) fx.b_len (ja_cons (je_ix (je_nm 1) (je_int)) (ja_nil)))) (jg_nm (i := 2) false (Ok.nd ok)) (js_seq (js_set (i := 6) false (je_tup (ja_cons (je_str) (ja_cons (je_ix (je_nm 1) (je_int)) (ja_cons (je_call false (Good.mono g__law_along (by decide)) ok (ja_cons (je_nm 1) (ja_cons (je_nm 2) (ja_nil)))) (ja_nil))))) (Ok.nd ok)) (js_one (js_if (jt_ne (Ok.un ok) (je_reprL ok fx.b_repr (ja_cons (je_call false (Good.mono g_node_book (by decide)) ok (ja_cons (je_nm 1) (ja_cons (je_nm 2) (ja_nil)))) (ja_cons (je_callK (ks := ["node", "tree"]) [1, 0] (Good.mono g_node_book (by decide)) ok (jk_cons (je_nm 2) (jk_cons (je_nm 1) (jk_nil))) (fun _ _ _ _ _ _ _ _ ws hl => match ws, hl with | [_, _], _ => rfl)) (ja_nil)))) (je_reprL ok fx.b_repr (ja_cons (je_nm 6) (ja_cons (je_nm 6) (ja_nil))))) (js_one (js_ret (je_bl))) (js_nil))))) (js_seq (js_for PassesOwn.never (Ok.calm ok) (ji_r1 fx.b_range (je_int)) (jg_nm (i := 3) false (Ok.nd ok)) (js_one (js_if (jt_not (jt_val (je_call false (Good.mono g__law_forms_right (by decide)) ok (ja_cons (je_nm 1) (ja_cons (je_m PySem.F.plainAttrs_str PySem.F.slot_str_join PySem.F.type_str_join mt_join join_ok (je_str) (ja_cons (je_lc (own := [("place", 8)]) ok (ji_r1 fx.b_range (je_call true (Good.mono g__law_draw (by decide)) ok (ja_cons (je_nm 0) (ja_cons (je_int) (ja_nil))))) (blkOk_by (by first | rfl | kernel_rfl)) (fun _ _ _ _ _ o1 => jc_nm (i := 8) (Ok.nd o1) (by decide)) (fun _ _ _ _ _ o1 => jts_nil) (fun _ _ _ _ _ o1 => je_call true (Good.mono g__law_pick (by decide)) o1 (ja_cons (je_nm 0) (ja_cons (je_callTy (hv := bb_list) (cr_lst (Ok.calm o1)) list_ok (by rfl) fx.b_list (ja_cons (je_ix (je_nm 1) (je_int)) (ja_nil))) (ja_nil))))) (ja_nil))) (ja_nil)))))) (js_one (js_ret (je_bl))) (js_nil)))) (js_one (js_ret (je_and (je_call true (Good.mono g__law_row_right (by decide)) ok (ja_cons (je_nm 0) (ja_nil))) (je_one (je_eq (Ok.un ok) (je_callB (hv := bb_repr) (call_reprD ok) repr_ok (by rfl) fx.b_repr (ja_cons (je_nm 1) (ja_nil))) (je_nm 4))))))))))
theorem sc_law : FnScope N_law ["script"] (defScope EH.s_law) := ⟨rfl, rfl, rfl, by decide +kernel, rfl, by decide +kernel, by decide +kernel⟩
theorem fng_law (fx : Fx mg) (g__law_pot : Good P w K mg base 1 "_law_pot" (defArgs EH.s__law_pot) ["script", "k"] m__law_pot) (g__law_right : Good P w K mg base 10 "_law_right" (defArgs EH.s__law_right) ["pot"] m__law_right) {f : Addr} {fd : FuncData} (F : FunD K "law" "law" (defArgs EH.s_law) (defBody EH.s_law) (defScope EH.s_law) [] [] f fd) : FnG P w K mg base 11 f fd ["script"] (spF K 1 m_law) :=
  fnG_of (N := N_law) (ps := ["script"]) (k := 10) (fs := d_law) F sc_law fun cdv A outer s H ok => js_one (js_ret (je_callB (hv := bb_all) (cr_all (Ok.calm ok)) all_ok (by rfl) fx.b_all (ja_cons (je_lc (own := [("k", 1)]) ok (ji_r1 fx.b_range (je_callB (hv := bb_max) (call_max2 (Ok.calm ok)) max2_ok (by rfl) fx.b_max (ja_cons (je_int) (ja_cons (je_callB (hv := bb_min) (call_min2 (Ok.calm ok)) min2_ok (by rfl) fx.b_min (ja_cons (je_int) (ja_cons (je_callB (hv := bb_len) cr_lenA len_ok (by rfl) fx.b_len (ja_cons (je_nm 0) (ja_nil))) (ja_nil)))) (ja_nil))))) (blkOk_by (by first | rfl | kernel_rfl)) (fun _ _ _ _ _ o1 => jc_nm (i := 1) (Ok.nd o1) (by decide)) (fun _ _ _ _ _ o1 => jts_nil) (fun _ _ _ _ _ o1 => je_call true (Good.mono g__law_right (by decide)) o1 (ja_cons (je_call false (Good.mono g__law_pot (by decide)) o1 (ja_cons (je_nm 0) (ja_cons (je_nm 1) (ja_nil)))) (ja_nil)))) (ja_nil))))
end
end
end EW

namespace EW
open PySem PySem.Spec PyProof.Rows L2
theorem facts {P : Program} {w : World} {K : PySem.W.Frag} {h : Heap} {mg : Str → Option Value} {f : Addr} (X : K.In h) (G : h.Ns mainGlobals mg) (hfa : mg ("law" : Str) = some (.ref f)) (c : He.SaysD EH.fa EH.fn K) :
    ∃ fd : FuncData, (∀ (s : Shared) (v : Value), BindsTo s fd ⟨[v], []⟩ [("script", v)]) ∧ ∀ base : Heap, K.In base → base.Ns mainGlobals mg → FnG P w K mg base 11 f fd ["script"] (spF K 1 m_law) := by
  have fx : Fx mg := ⟨He.free_ok X G (c.fact 45 (f := .free "abs") rfl), He.free_ok X G (c.fact 46 (f := .free "all") rfl), He.free_ok X G (c.fact 47 (f := .free "any") rfl), He.free_ok X G (c.fact 48 (f := .free "bool") rfl), He.free_ok X G (c.fact 49 (f := .free "divmod") rfl), He.free_ok X G (c.fact 50 (f := .free "enumerate") rfl), He.free_ok X G (c.fact 51 (f := .free "int") rfl), He.free_ok X G (c.fact 52 (f := .free "isinstance") rfl), He.free_ok X G (c.fact 53 (f := .free "len") rfl), He.free_ok X G (c.fact 54 (f := .free "list") rfl), He.free_ok X G (c.fact 55 (f := .free "max") rfl), He.free_ok X G (c.fact 56 (f := .free "min") rfl), He.free_ok X G (c.fact 57 (f := .free "range") rfl), He.free_ok X G (c.fact 58 (f := .free "repr") rfl), He.free_ok X G (c.fact 59 (f := .free "set") rfl), He.free_ok X G (c.fact 60 (f := .free "sorted") rfl), He.free_ok X G (c.fact 61 (f := .free "str") rfl), He.free_ok X G (c.fact 62 (f := .free "tuple") rfl), He.free_ok X G (c.fact 63 (f := .free "zip") rfl), He.str_ok X G (c.fact 64 (f := .str "EDGE" "#") rfl), He.str_ok X G (c.fact 65 (f := .str "LEFT" "left") rfl), He.str_ok X G (c.fact 66 (f := .str "LETTERS" "abcdefghijklmnopqrstuvwxyz") rfl), He.int_ok X G (c.fact 67 (f := .int "MOST_ALONG" 6) rfl), He.int_ok X G (c.fact 68 (f := .int "MOST_CONTEXTS" 2) rfl), He.int_ok X G (c.fact 69 (f := .int "MOST_MADE" 2) rfl), He.int_ok X G (c.fact 70 (f := .int "MOST_NAME" 8) rfl), He.int_ok X G (c.fact 71 (f := .int "MOST_NODES" 12) rfl), He.int_ok X G (c.fact 72 (f := .int "MOST_SIGNS" 6) rfl), He.int_ok X G (c.fact 73 (f := .int "MOST_WORD" 60) rfl), He.str_ok X G (c.fact 74 (f := .str "ONCE" "once") rfl)⟩
  obtain ⟨fd__law_pot, F__law_pot⟩ := c.def_ 28 (d := EH.d__law_pot) rfl
  have e__law_pot : mg "_law_pot" = some (.ref (He.ga K "_law_pot")) := He.glo_ok X G (c.fact 28 (f := .glo "_law_pot") rfl)
  obtain ⟨fd_is_tuple, F_is_tuple⟩ := c.def_ 2 (d := EH.d_is_tuple) rfl
  have e_is_tuple : mg "is_tuple" = some (.ref (He.ga K "is_tuple")) := He.glo_ok X G (c.fact 2 (f := .glo "is_tuple") rfl)
  obtain ⟨fd_are_rising, F_are_rising⟩ := c.def_ 3 (d := EH.d_are_rising) rfl
  have e_are_rising : mg "are_rising" = some (.ref (He.ga K "are_rising")) := He.glo_ok X G (c.fact 3 (f := .glo "are_rising") rfl)
  obtain ⟨fd_are_signs, F_are_signs⟩ := c.def_ 4 (d := EH.d_are_signs) rfl
  have e_are_signs : mg "are_signs" = some (.ref (He.ga K "are_signs")) := He.glo_ok X G (c.fact 4 (f := .glo "are_signs") rfl)
  obtain ⟨fd_is_integer, F_is_integer⟩ := c.def_ 0 (d := EH.d_is_integer) rfl
  have e_is_integer : mg "is_integer" = some (.ref (He.ga K "is_integer")) := He.glo_ok X G (c.fact 0 (f := .glo "is_integer") rfl)
  obtain ⟨fd_is_within, F_is_within⟩ := c.def_ 1 (d := EH.d_is_within) rfl
  have e_is_within : mg "is_within" = some (.ref (He.ga K "is_within")) := He.glo_ok X G (c.fact 1 (f := .glo "is_within") rfl)
  obtain ⟨fd_is_text_of, F_is_text_of⟩ := c.def_ 5 (d := EH.d_is_text_of) rfl
  have e_is_text_of : mg "is_text_of" = some (.ref (He.ga K "is_text_of")) := He.glo_ok X G (c.fact 5 (f := .glo "is_text_of") rfl)
  obtain ⟨fd_is_class_of, F_is_class_of⟩ := c.def_ 7 (d := EH.d_is_class_of) rfl
  have e_is_class_of : mg "is_class_of" = some (.ref (He.ga K "is_class_of")) := He.glo_ok X G (c.fact 7 (f := .glo "is_class_of") rfl)
  obtain ⟨fd_are_contexts, F_are_contexts⟩ := c.def_ 8 (d := EH.d_are_contexts) rfl
  have e_are_contexts : mg "are_contexts" = some (.ref (He.ga K "are_contexts")) := He.glo_ok X G (c.fact 8 (f := .glo "are_contexts") rfl)
  obtain ⟨fd_is_shift_of, F_is_shift_of⟩ := c.def_ 9 (d := EH.d_is_shift_of) rfl
  have e_is_shift_of : mg "is_shift_of" = some (.ref (He.ga K "is_shift_of")) := He.glo_ok X G (c.fact 9 (f := .glo "is_shift_of") rfl)
  obtain ⟨fd_is_name, F_is_name⟩ := c.def_ 17 (d := EH.d_is_name) rfl
  have e_is_name : mg "is_name" = some (.ref (He.ga K "is_name")) := He.glo_ok X G (c.fact 17 (f := .glo "is_name") rfl)
  obtain ⟨fd_is_node, F_is_node⟩ := c.def_ 18 (d := EH.d_is_node) rfl
  have e_is_node : mg "is_node" = some (.ref (He.ga K "is_node")) := He.glo_ok X G (c.fact 18 (f := .glo "is_node") rfl)
  obtain ⟨fd_shifts_along, F_shifts_along⟩ := c.def_ 19 (d := EH.d_shifts_along) rfl
  have e_shifts_along : mg "shifts_along" = some (.ref (He.ga K "shifts_along")) := He.glo_ok X G (c.fact 19 (f := .glo "shifts_along") rfl)
  obtain ⟨fd_is_tree_any, F_is_tree_any⟩ := c.def_ 20 (d := EH.d_is_tree_any) rfl
  have e_is_tree_any : mg "is_tree_any" = some (.ref (He.ga K "is_tree_any")) := He.glo_ok X G (c.fact 20 (f := .glo "is_tree_any") rfl)
  obtain ⟨fd_is_tree, F_is_tree⟩ := c.def_ 24 (d := EH.d_is_tree) rfl
  have e_is_tree : mg "is_tree" = some (.ref (He.ga K "is_tree")) := He.glo_ok X G (c.fact 24 (f := .glo "is_tree") rfl)
  obtain ⟨fd_want_tree, F_want_tree⟩ := c.def_ 21 (d := EH.d_want_tree) rfl
  have e_want_tree : mg "want_tree" = some (.ref (He.ga K "want_tree")) := He.glo_ok X G (c.fact 21 (f := .glo "want_tree") rfl)
  obtain ⟨fd_leaves_of, F_leaves_of⟩ := c.def_ 23 (d := EH.d_leaves_of) rfl
  have e_leaves_of : mg "leaves_of" = some (.ref (He.ga K "leaves_of")) := He.glo_ok X G (c.fact 23 (f := .glo "leaves_of") rfl)
  obtain ⟨fd_leaf_names, F_leaf_names⟩ := c.def_ 25 (d := EH.d_leaf_names) rfl
  have e_leaf_names : mg "leaf_names" = some (.ref (He.ga K "leaf_names")) := He.glo_ok X G (c.fact 25 (f := .glo "leaf_names") rfl)
  obtain ⟨fd_node_book, F_node_book⟩ := c.def_ 26 (d := EH.d_node_book) rfl
  have e_node_book : mg "node_book" = some (.ref (He.ga K "node_book")) := He.glo_ok X G (c.fact 26 (f := .glo "node_book") rfl)
  obtain ⟨fd__law_draw, F__law_draw⟩ := c.def_ 29 (d := EH.d__law_draw) rfl
  have e__law_draw : mg "_law_draw" = some (.ref (He.ga K "_law_draw")) := He.glo_ok X G (c.fact 29 (f := .glo "_law_draw") rfl)
  obtain ⟨fd__law_pick, F__law_pick⟩ := c.def_ 30 (d := EH.d__law_pick) rfl
  have e__law_pick : mg "_law_pick" = some (.ref (He.ga K "_law_pick")) := He.glo_ok X G (c.fact 30 (f := .glo "_law_pick") rfl)
  obtain ⟨fd__law_class, F__law_class⟩ := c.def_ 31 (d := EH.d__law_class) rfl
  have e__law_class : mg "_law_class" = some (.ref (He.ga K "_law_class")) := He.glo_ok X G (c.fact 31 (f := .glo "_law_class") rfl)
  obtain ⟨fd__law_shift, F__law_shift⟩ := c.def_ 32 (d := EH.d__law_shift) rfl
  have e__law_shift : mg "_law_shift" = some (.ref (He.ga K "_law_shift")) := He.glo_ok X G (c.fact 32 (f := .glo "_law_shift") rfl)
  obtain ⟨fd__law_tame, F__law_tame⟩ := c.def_ 33 (d := EH.d__law_tame) rfl
  have e__law_tame : mg "_law_tame" = some (.ref (He.ga K "_law_tame")) := He.glo_ok X G (c.fact 33 (f := .glo "_law_tame") rfl)
  obtain ⟨fd__law_small, F__law_small⟩ := c.def_ 37 (d := EH.d__law_small) rfl
  have e__law_small : mg "_law_small" = some (.ref (He.ga K "_law_small")) := He.glo_ok X G (c.fact 37 (f := .glo "_law_small") rfl)
  obtain ⟨fd__law_tree, F__law_tree⟩ := c.def_ 38 (d := EH.d__law_tree) rfl
  have e__law_tree : mg "_law_tree" = some (.ref (He.ga K "_law_tree")) := He.glo_ok X G (c.fact 38 (f := .glo "_law_tree") rfl)
  obtain ⟨fd__law_along, F__law_along⟩ := c.def_ 39 (d := EH.d__law_along) rfl
  have e__law_along : mg "_law_along" = some (.ref (He.ga K "_law_along")) := He.glo_ok X G (c.fact 39 (f := .glo "_law_along") rfl)
  obtain ⟨fd__law_leaves, F__law_leaves⟩ := c.def_ 40 (d := EH.d__law_leaves) rfl
  have e__law_leaves : mg "_law_leaves" = some (.ref (He.ga K "_law_leaves")) := He.glo_ok X G (c.fact 40 (f := .glo "_law_leaves") rfl)
  obtain ⟨fd_sign_at, F_sign_at⟩ := c.def_ 10 (d := EH.d_sign_at) rfl
  have e_sign_at : mg "sign_at" = some (.ref (He.ga K "sign_at")) := He.glo_ok X G (c.fact 10 (f := .glo "sign_at") rfl)
  obtain ⟨fd_fits_ahead, F_fits_ahead⟩ := c.def_ 11 (d := EH.d_fits_ahead) rfl
  have e_fits_ahead : mg "fits_ahead" = some (.ref (He.ga K "fits_ahead")) := He.glo_ok X G (c.fact 11 (f := .glo "fits_ahead") rfl)
  obtain ⟨fd_fits_behind, F_fits_behind⟩ := c.def_ 12 (d := EH.d_fits_behind) rfl
  have e_fits_behind : mg "fits_behind" = some (.ref (He.ga K "fits_behind")) := He.glo_ok X G (c.fact 12 (f := .glo "fits_behind") rfl)
  obtain ⟨fd_made_row, F_made_row⟩ := c.def_ 13 (d := EH.d_made_row) rfl
  have e_made_row : mg "made_row" = some (.ref (He.ga K "made_row")) := He.glo_ok X G (c.fact 13 (f := .glo "made_row") rfl)
  obtain ⟨fd_strike_of, F_strike_of⟩ := c.def_ 14 (d := EH.d_strike_of) rfl
  have e_strike_of : mg "strike_of" = some (.ref (He.ga K "strike_of")) := He.glo_ok X G (c.fact 14 (f := .glo "strike_of") rfl)
  obtain ⟨fd_stages_in, F_stages_in⟩ := c.def_ 15 (d := EH.d_stages_in) rfl
  have e_stages_in : mg "stages_in" = some (.ref (He.ga K "stages_in")) := He.glo_ok X G (c.fact 15 (f := .glo "stages_in") rfl)
  obtain ⟨fd_daughter_in, F_daughter_in⟩ := c.def_ 16 (d := EH.d_daughter_in) rfl
  have e_daughter_in : mg "daughter_in" = some (.ref (He.ga K "daughter_in")) := He.glo_ok X G (c.fact 16 (f := .glo "daughter_in") rfl)
  obtain ⟨fd_is_word_of, F_is_word_of⟩ := c.def_ 6 (d := EH.d_is_word_of) rfl
  have e_is_word_of : mg "is_word_of" = some (.ref (He.ga K "is_word_of")) := He.glo_ok X G (c.fact 6 (f := .glo "is_word_of") rfl)
  obtain ⟨fd_want_tree_word, F_want_tree_word⟩ := c.def_ 22 (d := EH.d_want_tree_word) rfl
  have e_want_tree_word : mg "want_tree_word" = some (.ref (He.ga K "want_tree_word")) := He.glo_ok X G (c.fact 22 (f := .glo "want_tree_word") rfl)
  obtain ⟨fd_forms, F_forms⟩ := c.def_ 27 (d := EH.d_forms) rfl
  have e_forms : mg "forms" = some (.ref (He.ga K "forms")) := He.glo_ok X G (c.fact 27 (f := .glo "forms") rfl)
  obtain ⟨fd__law_daughter, F__law_daughter⟩ := c.def_ 34 (d := EH.d__law_daughter) rfl
  have e__law_daughter : mg "_law_daughter" = some (.ref (He.ga K "_law_daughter")) := He.glo_ok X G (c.fact 34 (f := .glo "_law_daughter") rfl)
  obtain ⟨fd__law_stages, F__law_stages⟩ := c.def_ 35 (d := EH.d__law_stages) rfl
  have e__law_stages : mg "_law_stages" = some (.ref (He.ga K "_law_stages")) := He.glo_ok X G (c.fact 35 (f := .glo "_law_stages") rfl)
  obtain ⟨fd__law_told, F__law_told⟩ := c.def_ 36 (d := EH.d__law_told) rfl
  have e__law_told : mg "_law_told" = some (.ref (He.ga K "_law_told")) := He.glo_ok X G (c.fact 36 (f := .glo "_law_told") rfl)
  obtain ⟨fd__law_forms_right, F__law_forms_right⟩ := c.def_ 41 (d := EH.d__law_forms_right) rfl
  have e__law_forms_right : mg "_law_forms_right" = some (.ref (He.ga K "_law_forms_right")) := He.glo_ok X G (c.fact 41 (f := .glo "_law_forms_right") rfl)
  obtain ⟨fd__law_row_right, F__law_row_right⟩ := c.def_ 42 (d := EH.d__law_row_right) rfl
  have e__law_row_right : mg "_law_row_right" = some (.ref (He.ga K "_law_row_right")) := He.glo_ok X G (c.fact 42 (f := .glo "_law_row_right") rfl)
  obtain ⟨fd__law_right, F__law_right⟩ := c.def_ 43 (d := EH.d__law_right) rfl
  have e__law_right : mg "_law_right" = some (.ref (He.ga K "_law_right")) := He.glo_ok X G (c.fact 43 (f := .glo "_law_right") rfl)
  obtain ⟨fd_law, F_law⟩ := c.def_ 44 (d := EH.d_law) rfl
  have e_law : mg "law" = some (.ref (He.ga K "law")) := He.glo_ok X G (c.fact 44 (f := .glo "law") rfl)
  have e := hfa.symm.trans e_law
  cases e
  have b := FunD.bindsA (ps := ["script"]) F_law fun _ _ _ _ _ _ us hl => match us, hl with | [_], _ => rfl
  refine ⟨fd_law, fun s v => b s [v] rfl, fun base _ _ => ?_⟩
  have g__law_pot := ok__law_pot (P := P) (w := w) (base := base) fx  F__law_pot e__law_pot
  have g_is_tuple := ok_is_tuple (P := P) (w := w) (base := base) fx  F_is_tuple e_is_tuple
  have g_are_rising := ok_are_rising (P := P) (w := w) (base := base) fx  F_are_rising e_are_rising
  have g_are_signs := ok_are_signs (P := P) (w := w) (base := base) fx g_are_rising F_are_signs e_are_signs
  have g_is_integer := ok_is_integer (P := P) (w := w) (base := base) fx  F_is_integer e_is_integer
  have g_is_within := ok_is_within (P := P) (w := w) (base := base) fx g_is_integer F_is_within e_is_within
  have g_is_text_of := ok_is_text_of (P := P) (w := w) (base := base) fx  F_is_text_of e_is_text_of
  have g_is_class_of := ok_is_class_of (P := P) (w := w) (base := base) fx g_are_rising F_is_class_of e_is_class_of
  have g_are_contexts := ok_are_contexts (P := P) (w := w) (base := base) fx g_is_class_of F_are_contexts e_are_contexts
  have g_is_shift_of := ok_is_shift_of (P := P) (w := w) (base := base) fx g_is_tuple g_is_text_of g_is_class_of g_are_contexts F_is_shift_of e_is_shift_of
  have g_is_name := ok_is_name (P := P) (w := w) (base := base) fx  F_is_name e_is_name
  have g_is_node := ok_is_node (P := P) (w := w) (base := base) fx g_is_within g_is_tuple g_is_shift_of g_is_name F_is_node e_is_node
  have g_shifts_along := ok_shifts_along (P := P) (w := w) (base := base) fx  F_shifts_along e_shifts_along
  have g_is_tree_any := ok_is_tree_any (P := P) (w := w) (base := base) fx g_is_tuple g_are_signs g_is_node g_shifts_along F_is_tree_any e_is_tree_any
  have g_is_tree := ok_is_tree (P := P) (w := w) (base := base) fx g_is_tree_any F_is_tree e_is_tree
  have g_want_tree := ok_want_tree (P := P) (w := w) (base := base) fx g_is_tree_any F_want_tree e_want_tree
  have g_leaves_of := ok_leaves_of (P := P) (w := w) (base := base) fx  F_leaves_of e_leaves_of
  have g_leaf_names := ok_leaf_names (P := P) (w := w) (base := base) fx g_want_tree g_leaves_of F_leaf_names e_leaf_names
  have g_node_book := ok_node_book (P := P) (w := w) (base := base) fx g_is_within g_shifts_along g_want_tree F_node_book e_node_book
  have g__law_draw := ok__law_draw (P := P) (w := w) (base := base) fx  F__law_draw e__law_draw
  have g__law_pick := ok__law_pick (P := P) (w := w) (base := base) fx g__law_draw F__law_pick e__law_pick
  have g__law_class := ok__law_class (P := P) (w := w) (base := base) fx g__law_draw g__law_pick F__law_class e__law_class
  have g__law_shift := ok__law_shift (P := P) (w := w) (base := base) fx g__law_pick g__law_class F__law_shift e__law_shift
  have g__law_tame := ok__law_tame (P := P) (w := w) (base := base) fx g__law_draw F__law_tame e__law_tame
  have g__law_small := ok__law_small (P := P) (w := w) (base := base) fx g__law_draw g__law_shift g__law_tame F__law_small e__law_small
  have g__law_tree := ok__law_tree (P := P) (w := w) (base := base) fx g__law_draw g__law_pick g__law_small F__law_tree e__law_tree
  have g__law_along := ok__law_along (P := P) (w := w) (base := base) fx  F__law_along e__law_along
  have g__law_leaves := ok__law_leaves (P := P) (w := w) (base := base) fx  F__law_leaves e__law_leaves
  have g_sign_at := ok_sign_at (P := P) (w := w) (base := base) fx  F_sign_at e_sign_at
  have g_fits_ahead := ok_fits_ahead (P := P) (w := w) (base := base) fx g_sign_at F_fits_ahead e_fits_ahead
  have g_fits_behind := ok_fits_behind (P := P) (w := w) (base := base) fx g_sign_at F_fits_behind e_fits_behind
  have g_made_row := ok_made_row (P := P) (w := w) (base := base) fx g_fits_ahead g_fits_behind F_made_row e_made_row
  have g_strike_of := ok_strike_of (P := P) (w := w) (base := base) fx g_made_row F_strike_of e_strike_of
  have g_stages_in := ok_stages_in (P := P) (w := w) (base := base) fx g_strike_of F_stages_in e_stages_in
  have g_daughter_in := ok_daughter_in (P := P) (w := w) (base := base) fx g_stages_in F_daughter_in e_daughter_in
  have g_is_word_of := ok_is_word_of (P := P) (w := w) (base := base) fx g_is_text_of F_is_word_of e_is_word_of
  have g_want_tree_word := ok_want_tree_word (P := P) (w := w) (base := base) fx g_is_word_of F_want_tree_word e_want_tree_word
  have g_forms := ok_forms (P := P) (w := w) (base := base) fx g_daughter_in g_shifts_along g_want_tree g_want_tree_word F_forms e_forms
  have g__law_daughter := ok__law_daughter (P := P) (w := w) (base := base) fx  F__law_daughter e__law_daughter
  have g__law_stages := ok__law_stages (P := P) (w := w) (base := base) fx g__law_daughter F__law_stages e__law_stages
  have g__law_told := ok__law_told (P := P) (w := w) (base := base) fx g__law_stages F__law_told e__law_told
  have g__law_forms_right := ok__law_forms_right (P := P) (w := w) (base := base) fx g_forms g__law_told g__law_along F__law_forms_right e__law_forms_right
  have g__law_row_right := ok__law_row_right (P := P) (w := w) (base := base) fx g_is_tree g_leaf_names g_forms g__law_draw g__law_pick F__law_row_right e__law_row_right
  have g__law_right := ok__law_right (P := P) (w := w) (base := base) fx g_is_tree g_leaf_names g_node_book g__law_draw g__law_pick g__law_tree g__law_along g__law_leaves g__law_forms_right g__law_row_right F__law_right e__law_right
  exact fng_law fx g__law_pot g__law_right F_law
end EW
open PySem PySem.W PySem.Calls PyProof.Rows
set_option maxHeartbeats 0 in
theorem PySem.Challenge.cw_elderwords_k81_whole_forms_at_all_nodes_holds : PySem.Challenge.rw_elderwords_k81_whole_forms_at_all_nodes.Holds := by
  w_on; o_law
  refine HandSHeadRun.head_any (r := OpenLaw.row PySem.Challenge.rw_elderwords_k81_whole_forms_at_all_nodes) (q := view (OpenLaw.row PySem.Challenge.rw_elderwords_k81_whole_forms_at_all_nodes).prog [69]) (H := EH.hk) (ob := EH.ob) (M := 6000) (loose := EH.nms) (d := HandSHeadRun.topDef (OpenLaw.row PySem.Challenge.rw_elderwords_k81_whole_forms_at_all_nodes).prog 69) (kwd := []) EH.ob_eq
    (by kernel_rfl) (fun s => by kernel_rfl) EH.run (by kernel_rfl) (by kernel_rfl) (by kernel_rfl) (by rfl) (by first | assumption | decide +kernel) (by decide +kernel) ⟨rfl, rfl, rfl, rfl, rfl, by decide +kernel⟩ ?hw ?hc
  case hw => w_witness2
  case hc =>
    refine EW.walk_ofG (l := PySem.Challenge.rw_elderwords_k81_whole_forms_at_all_nodes) (n := 63) (k := 11) (x := "script") (params := L2.defArgs EH.s_law) (sem := EW.m_law) rfl (by decide) (by kernel_rfl) ⟨rfl, by decide, by decide⟩ ?F fun ns _ => EW.law_ok ns
    intro w mg fa h Y G hmg0
    obtain ⟨K, KX, c⟩ := Y
    have hmg : mg ("law" : PySem.Str) = some (.ref fa) := by
      have e : (HandSHeadRun.topDef (OpenLaw.row PySem.Challenge.rw_elderwords_k81_whole_forms_at_all_nodes).prog 69).name = ("law" : PySem.Str) := by kernel_rfl
      rw [← e]
      exact hmg0
    obtain ⟨fd, hb, hF⟩ := EW.facts (P := (PySem.Challenge.rw_elderwords_k81_whole_forms_at_all_nodes).prog) (w := w) KX G hmg c
    exact ⟨K, KX, fd, hb, hF⟩

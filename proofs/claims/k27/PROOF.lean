import PyProof.Rows.All
import Wide.All
import OpenK.AllK
import Wide.FinOn
import HandS.ForMost
import HandS.Wide
import HandS.EndBits
import HandS.IsInst
import HandS.Strs
import HandS.Conv
import HandS.Style
import HandS.TupAny
import HandS.TupMul
import HandS.TupLen
import HandS.Deep
import HandS.SetFor
import HandS.RaiseMore
import PySem.Challenge.RW_plandays_k27_values_of_polynomials
set_option Elab.async false
set_option linter.all false
set_option maxRecDepth 100000
/-! PDa: values as trees, own objects by number, what stands in a heap. -/
namespace PD
open PySem L2

/-- a value that is never changed, as a tree -/
inductive D where
  | non | bl (b : Bool) | int (i : Int) | str (x : Str) | ty (n : String) | ref (a : Addr)
  | lst (xs : List D) | slst (xs : List D) | tup (xs : List D) | dicK (kvs : List (Key × D)) | dicT (kvs : List (List Key × D)) | obj (C : Addr) (fs : List (Str × D))
/-- a value: a tree, or the own object with this number -/
inductive X where
  | d (x : D) | m (k : Nat)
/-- what an own object holds -/
inductive O where
  | lst (xs : List D) | lstX (xs : List X) | dicK (kvs : List (Key × D)) | dicT (kvs : List (List Key × D)) | ins (C : Addr) (fs : List (Str × D)) | dead

def Ex (H H' : Hp) : Prop := ∀ a o, H a = some o → H' a = some o
theorem Ex.refl (H : Hp) : Ex H H := fun _ _ h => h
theorem Ex.trans {H H1 H2 : Hp} (a : Ex H H1) (b : Ex H1 H2) : Ex H H2 := fun x o h => b x o (a x o h)
theorem Ex.new {H : Hp} {p : Addr} {o : HO} (h : H p = none) : Ex H (upd H p o) := fun a u e => by
  rw [upd_ne (ne_of_none e h)]
  exact e
theorem Ex.free {H H' : Hp} {p : Addr} (e : Ex H H') (h : H' p = none) : H p = none := by
  cases h1 : H p with
  | none => rfl
  | some o =>
    rw [e p o h1] at h
    cases h
theorem Ex.sqL {K : PySem.W.Frag} {H H' : Hp} {a : Addr} {xs : List V} (e : Ex H H') (h : SqL K H a xs) : SqL K H' a xs := by
  rcases h with (h | ⟨o, h⟩) | h
  · exact .inl (.inl (e _ _ h))
  · exact .inl (.inr ⟨o, e _ _ h⟩)
  · exact .inr h
theorem Ex.sqT {K : PySem.W.Frag} {H H' : Hp} {a : Addr} {xs : List V} (e : Ex H H') (h : SqT K H a xs) : SqT K H' a xs := by
  rcases h with (h | ⟨o, h⟩) | h
  · exact .inl (.inl (e _ _ h))
  · exact .inl (.inr ⟨o, e _ _ h⟩)
  · exact .inr h

mutual
inductive Rp (K : PySem.W.Frag) (F : Hp) : V → D → Prop
  | non : Rp K F .non .non
  | bl (b : Bool) : Rp K F (.bl b) (.bl b)
  | int (i : Int) : Rp K F (.int i) (.int i)
  | str (x : Str) : Rp K F (.str x) (.str x)
  | ty (n : String) : Rp K F (.ty n) (.ty n)
  | ref (a : Addr) : Rp K F (.ref a) (.ref a)
  | lst {a : Addr} {vs : List V} {ds : List D} : F a = some (.lst vs) → Rps K F vs ds → Rp K F (.ref a) (.lst ds)
  | slst {a : Addr} {vs : List V} {ds : List D} : SqL K F a vs → Rps K F vs ds → Rp K F (.ref a) (.slst ds)
  | tup {a : Addr} {vs : List V} {ds : List D} : SqT K F a vs → Rps K F vs ds → Rp K F (.ref a) (.tup ds)
  | dicK {a : Addr} {ws : List (Key × V)} {ds : List (Key × D)} : F a = some (.dK ws) → ws.map (·.1) = ds.map (·.1) → Rps K F (ws.map (·.2)) (ds.map (·.2)) → Rp K F (.ref a) (.dicK ds)
  | dicT {a : Addr} {ws : List (List Key × V)} {ds : List (List Key × D)} : F a = some (.dT ws) → ws.map (·.1) = ds.map (·.1) → Rps K F (ws.map (·.2)) (ds.map (·.2)) → Rp K F (.ref a) (.dicT ds)
  | obj {a C dx : Addr} {ws : List (Str × V)} {ds : List (Str × D)} : F a = some (.ins C dx ws) → ws.map (·.1) = ds.map (·.1) → Rps K F (ws.map (·.2)) (ds.map (·.2)) → Rp K F (.ref a) (.obj C ds)
inductive Rps (K : PySem.W.Frag) (F : Hp) : List V → List D → Prop
  | nil : Rps K F [] []
  | cons {v : V} {vs : List V} {d : D} {ds : List D} : Rp K F v d → Rps K F vs ds → Rps K F (v :: vs) (d :: ds)
end
section
variable {K : PySem.W.Frag} {F F' : Hp}
mutual
theorem Rp.mono (e : Ex F F') : ∀ {v : V} {d : D}, Rp K F v d → Rp K F' v d
  | _, _, .non => .non
  | _, _, .bl b => .bl b
  | _, _, .int i => .int i
  | _, _, .str x => .str x
  | _, _, .ty n => .ty n
  | _, _, .ref a => .ref a
  | _, _, .lst h r => .lst (e _ _ h) (Rps.mono e r)
  | _, _, .slst h r => .slst (e.sqL h) (Rps.mono e r)
  | _, _, .tup h r => .tup (e.sqT h) (Rps.mono e r)
  | _, _, .dicK h k r => .dicK (e _ _ h) k (Rps.mono e r)
  | _, _, .dicT h k r => .dicT (e _ _ h) k (Rps.mono e r)
  | _, _, .obj h k r => .obj (e _ _ h) k (Rps.mono e r)
theorem Rps.mono (e : Ex F F') : ∀ {vs : List V} {ds : List D}, Rps K F vs ds → Rps K F' vs ds
  | _, _, .nil => .nil
  | _, _, .cons r t => .cons (Rp.mono e r) (Rps.mono e t)
end
theorem Rps.len : ∀ {vs : List V} {ds : List D}, Rps K F vs ds → vs.length = ds.length
  | _, _, .nil => rfl
  | _, _, .cons _ t => by rw [List.length_cons, List.length_cons, t.len]
theorem Rps.get : ∀ {vs : List V} {ds : List D} {i : Nat} {d : D}, Rps K F vs ds → ds[i]? = some d → ∃ v, vs[i]? = some v ∧ Rp K F v d
  | _, _, _, _, .nil, h => by simp at h
  | _, _, 0, _, .cons r _, h => by simp at h; subst h; exact ⟨_, rfl, r⟩
  | _, _, i + 1, _, .cons _ t, h => by
    obtain ⟨v, h1, h2⟩ := Rps.get (i := i) t (by simpa using h)
    exact ⟨v, by simpa using h1, h2⟩
theorem Rps.get' : ∀ {vs : List V} {ds : List D} {i : Nat} {v : V}, Rps K F vs ds → vs[i]? = some v → ∃ d, ds[i]? = some d ∧ Rp K F v d
  | _, _, _, _, .nil, h => by simp at h
  | _, _, 0, _, .cons r _, h => by simp at h; subst h; exact ⟨_, rfl, r⟩
  | _, _, i + 1, _, .cons _ t, h => by
    obtain ⟨v, h1, h2⟩ := Rps.get' (i := i) t (by simpa using h)
    exact ⟨v, by simpa using h1, h2⟩
theorem Rps.app : ∀ {vs ws : List V} {ds es : List D}, Rps K F vs ds → Rps K F ws es → Rps K F (vs ++ ws) (ds ++ es)
  | _, _, _, _, .nil, r => r
  | _, _, _, _, .cons a b, r => .cons a (b.app r)
theorem Rps.take : ∀ {vs : List V} {ds : List D} (n : Nat), Rps K F vs ds → Rps K F (vs.take n) (ds.take n)
  | _, _, 0, _ => .nil
  | _, _, _ + 1, .nil => .nil
  | _, _, n + 1, .cons a b => .cons a (b.take n)
theorem Rps.drop : ∀ {vs : List V} {ds : List D} (n : Nat), Rps K F vs ds → Rps K F (vs.drop n) (ds.drop n)
  | _, _, 0, r => r
  | _, _, _ + 1, .nil => .nil
  | _, _, n + 1, .cons _ b => b.drop n
theorem Rps.set : ∀ {vs : List V} {ds : List D} (i : Nat) {v : V} {d : D}, Rps K F vs ds → Rp K F v d → Rps K F (vs.set i v) (ds.set i d)
  | _, _, _, _, _, .nil, _ => .nil
  | _, _, 0, _, _, .cons _ b, r => .cons r b
  | _, _, i + 1, _, _, .cons a b, r => .cons a (b.set i r)
theorem Rps.rev : ∀ {vs : List V} {ds : List D}, Rps K F vs ds → Rps K F vs.reverse ds.reverse
  | _, _, .nil => .nil
  | _, _, .cons a b => by rw [List.reverse_cons, List.reverse_cons]; exact b.rev.app (.cons a .nil)
theorem Rps.ints : ∀ (ns : List Int), Rps K F (ns.map V.int) (ns.map D.int)
  | [] => .nil
  | n :: r => .cons (.int n) (Rps.ints r)
theorem Rps.ints_inv : ∀ {vs : List V} {ns : List Int}, Rps K F vs (ns.map D.int) → vs = ns.map V.int
  | _, [], h => by cases h; rfl
  | _, n :: r, h => by
    cases h with
    | cons a b =>
      cases a
      rw [Rps.ints_inv b]
      rfl
theorem Rps.bls_inv : ∀ {vs : List V} {ns : List Bool}, Rps K F vs (ns.map D.bl) → vs = ns.map V.bl
  | _, [], h => by cases h; rfl
  | _, n :: r, h => by
    cases h with
    | cons a b =>
      cases a
      rw [Rps.bls_inv b]
      rfl
theorem Rps.strs_inv : ∀ {vs : List V} {ns : List Str}, Rps K F vs (ns.map D.str) → vs = ns.map V.str
  | _, [], h => by cases h; rfl
  | _, n :: r, h => by
    cases h with
    | cons a b =>
      cases a
      rw [Rps.strs_inv b]
      rfl
theorem Rps.rep (k : Nat) {vs : List V} {ds : List D} (h : Rps K F vs ds) : Rps K F (List.replicate k vs).flatten (List.replicate k ds).flatten := by
  induction k with
  | zero => exact .nil
  | succ k ih =>
    rw [List.replicate_succ, List.replicate_succ, List.flatten_cons, List.flatten_cons]
    exact h.app ih
end

/-- a value that may be an own object -/
inductive Rx (K : PySem.W.Frag) (as : List Addr) (F : Hp) : V → X → Prop
  | d {v : V} {x : D} : Rp K F v x → Rx K as F v (.d x)
  | m {a : Addr} {k : Nat} : as[k]? = some a → Rx K as F (.ref a) (.m k)
inductive Rxs (K : PySem.W.Frag) (as : List Addr) (F : Hp) : List V → List X → Prop
  | nil : Rxs K as F [] []
  | cons {v : V} {vs : List V} {x : X} {xs : List X} : Rx K as F v x → Rxs K as F vs xs → Rxs K as F (v :: vs) (x :: xs)
section
variable {K : PySem.W.Frag} {F F' : Hp} {as as' : List Addr}
theorem pre_get {as as' : List Addr} (h : as <+: as') {k : Nat} {a : Addr} (e : as[k]? = some a) : as'[k]? = some a := by
  obtain ⟨t, rfl⟩ := h
  rw [List.getElem?_append_left (List.getElem?_eq_some_iff.mp e).1]
  exact e
theorem Rx.mono (e : Ex F F') (p : as <+: as') : ∀ {v : V} {x : X}, Rx K as F v x → Rx K as' F' v x
  | _, _, .d h => .d (h.mono e)
  | _, _, .m h => .m (pre_get p h)
theorem Rxs.mono (e : Ex F F') (p : as <+: as') : ∀ {vs : List V} {xs : List X}, Rxs K as F vs xs → Rxs K as' F' vs xs
  | _, _, .nil => .nil
  | _, _, .cons a b => .cons (a.mono e p) (b.mono e p)
theorem Rxs.len : ∀ {vs : List V} {xs : List X}, Rxs K as F vs xs → vs.length = xs.length
  | _, _, .nil => rfl
  | _, _, .cons _ t => by rw [List.length_cons, List.length_cons, t.len]
theorem Rxs.get : ∀ {vs : List V} {xs : List X} {i : Nat} {x : X}, Rxs K as F vs xs → xs[i]? = some x → ∃ v, vs[i]? = some v ∧ Rx K as F v x
  | _, _, _, _, .nil, h => by simp at h
  | _, _, 0, _, .cons r _, h => by simp at h; subst h; exact ⟨_, rfl, r⟩
  | _, _, i + 1, _, .cons _ t, h => by
    obtain ⟨v, h1, h2⟩ := Rxs.get (i := i) t (by simpa using h)
    exact ⟨v, by simpa using h1, h2⟩
theorem Rxs.app : ∀ {vs ws : List V} {ds es : List X}, Rxs K as F vs ds → Rxs K as F ws es → Rxs K as F (vs ++ ws) (ds ++ es)
  | _, _, _, _, .nil, r => r
  | _, _, _, _, .cons a b, r => .cons a (b.app r)
theorem Rxs.set : ∀ {vs : List V} {ds : List X} (i : Nat) {v : V} {d : X}, Rxs K as F vs ds → Rx K as F v d → Rxs K as F (vs.set i v) (ds.set i d)
  | _, _, _, _, _, .nil, _ => .nil
  | _, _, 0, _, _, .cons _ b, r => .cons r b
  | _, _, i + 1, _, _, .cons a b, r => .cons a (b.set i r)
theorem Rps.xs : ∀ {vs : List V} {ds : List D}, Rps K F vs ds → Rxs K as F vs (ds.map X.d)
  | _, _, .nil => .nil
  | _, _, .cons a b => .cons (.d a) b.xs
theorem Rxs.ds : ∀ {vs : List V} {ds : List D}, Rxs K as F vs (ds.map X.d) → Rps K F vs ds
  | _, [], h => by cases h; exact .nil
  | _, d :: r, h => by
    cases h with
    | cons a b =>
      cases a with
      | d a => exact .cons a (Rxs.ds b)
end

/-- the own object at a -/
def Ro (K : PySem.W.Frag) (as : List Addr) (F H : Hp) (a : Addr) : O → Prop
  | .lst ds => ∃ vs, H a = some (.lst vs) ∧ Rps K F vs ds
  | .lstX xs => ∃ vs, H a = some (.lst vs) ∧ Rxs K as F vs xs
  | .dicK ds => ∃ ws, H a = some (.dK ws) ∧ ws.map (·.1) = ds.map (·.1) ∧ Rps K F (ws.map (·.2)) (ds.map (·.2))
  | .dicT ds => ∃ ws, H a = some (.dT ws) ∧ ws.map (·.1) = ds.map (·.1) ∧ Rps K F (ws.map (·.2)) (ds.map (·.2))
  | .ins C ds => ∃ dx ws, H a = some (.ins C dx ws) ∧ ws.map (·.1) = ds.map (·.1) ∧ Rps K F (ws.map (·.2)) (ds.map (·.2))
  | .dead => True

/-- the state: F what never changes, as the own objects' places, M what they hold -/
structure WF (K : PySem.W.Frag) (as : List Addr) (F H : Hp) (M : List O) : Prop where
  ex : Ex F H
  nd : as.Nodup
  off : ∀ a ∈ as, F a = none ∧ H a ≠ none
  len : M.length = as.length
  at_ : ∀ (k : Nat) (o : O), M[k]? = some o → ∃ a, as[k]? = some a ∧ Ro K as F H a o
/-- how one state comes from another -/
structure Step (as : List Addr) (F H : Hp) (as' : List Addr) (F' H' : Hp) : Prop where
  pre : as <+: as'
  ex : Ex F F'
  keep : ∀ a o, H a = some o → a ∉ as → H' a = some o
  live : ∀ a, H a ≠ none → H' a ≠ none
  newF : ∀ a, F' a ≠ none → F a ≠ none ∨ H a = none
  newA : ∀ a ∈ as', a ∈ as ∨ H a = none
section
variable {K : PySem.W.Frag} {F F' F'' H H' H'' : Hp} {as as' as'' : List Addr} {M M' : List O}
theorem Step.refl : Step as F H as F H := ⟨List.prefix_rfl, Ex.refl _, fun _ _ h _ => h, fun _ h => h, fun _ h => .inl h, fun _ h => .inl h⟩
theorem Step.trans (a : Step as F H as' F' H') (b : Step as' F' H' as'' F'' H'') : Step as F H as'' F'' H'' where
  pre := a.pre.trans b.pre
  ex := a.ex.trans b.ex
  keep := fun p o h n => b.keep p o (a.keep p o h n) fun hm => by
    rcases a.newA p hm with h1 | h1
    · exact n h1
    · rw [h1] at h; cases h
  live := fun p h => b.live p (a.live p h)
  newF := fun p h => by
    rcases b.newF p h with h1 | h1
    · exact a.newF p h1
    · refine .inr ?_
      cases e : H p with
      | none => rfl
      | some o => exact absurd h1 (a.live p (by rw [e]; simp))
  newA := fun p h => by
    rcases b.newA p h with h1 | h1
    · exact a.newA p h1
    · refine .inr ?_
      cases e : H p with
      | none => rfl
      | some o => exact absurd h1 (a.live p (by rw [e]; simp))
theorem Ro.mono {a : Addr} (e : Ex F F') (p : as <+: as') (h : H' a = H a) : ∀ {o : O}, Ro K as F H a o → Ro K as' F' H' a o
  | .lst _, ⟨vs, h1, h2⟩ => ⟨vs, by rw [h]; exact h1, h2.mono e⟩
  | .lstX _, ⟨vs, h1, h2⟩ => ⟨vs, by rw [h]; exact h1, h2.mono e p⟩
  | .dicK _, ⟨vs, h1, h0, h2⟩ => ⟨vs, by rw [h]; exact h1, h0, h2.mono e⟩
  | .dicT _, ⟨vs, h1, h0, h2⟩ => ⟨vs, by rw [h]; exact h1, h0, h2.mono e⟩
  | .ins _ _, ⟨dx, vs, h1, h0, h2⟩ => ⟨dx, vs, by rw [h]; exact h1, h0, h2.mono e⟩
  | .dead, _ => trivial
theorem WF.free (w : WF K as F H M) {p : Addr} (h : H p = none) : F p = none ∧ p ∉ as :=
  ⟨w.ex.free h, fun hm => (w.off p hm).2 h⟩
/-- a new thing that never changes -/
theorem WF.newD (w : WF K as F H M) {p : Addr} (h : H p = none) (o : HO) : WF K as (upd F p o) (upd H p o) M ∧ Step as F H as (upd F p o) (upd H p o) := by
  obtain ⟨hF, hA⟩ := w.free h
  refine ⟨⟨fun a u e => ?_, w.nd, fun a ha => ?_, w.len, fun k o' e => ?_⟩, ⟨List.prefix_rfl, Ex.new hF, fun a u e _ => Ex.new h a u e, fun a e => ?_, fun a e => ?_, fun a e => .inl e⟩⟩
  · by_cases hp : a = p
    · subst hp; rw [upd_same] at e ⊢; exact e
    · rw [upd_ne hp] at e ⊢; exact w.ex a u e
  · have hp : a ≠ p := fun q => hA (q ▸ ha)
    rw [upd_ne hp, upd_ne hp]
    exact w.off a ha
  · obtain ⟨a, ha, r⟩ := w.at_ k o' e
    have hp : a ≠ p := fun q => hA (q ▸ List.mem_of_getElem? ha)
    exact ⟨a, ha, r.mono (Ex.new hF) List.prefix_rfl (upd_ne hp)⟩
  · by_cases hp : a = p
    · subst hp; rw [upd_same]; simp
    · rw [upd_ne hp]; exact e
  · by_cases hp : a = p
    · subst hp; exact .inr h
    · rw [upd_ne hp] at e; exact .inl e
/-- a new own object -/
theorem WF.newO (w : WF K as F H M) {p : Addr} (h : H p = none) {ho : HO} {o : O} (r : ∀ H', H' p = some ho → Ro K (as ++ [p]) F H' p o) :
    WF K (as ++ [p]) F (upd H p ho) (M ++ [o]) ∧ Step as F H (as ++ [p]) F (upd H p ho) := by
  obtain ⟨hF, hA⟩ := w.free h
  refine ⟨⟨w.ex.trans (Ex.new h), ?_, fun a ha => ?_, by rw [List.length_append, List.length_append, w.len]; rfl, fun k o' e => ?_⟩,
    ⟨List.prefix_append _ _, Ex.refl _, fun a u e _ => Ex.new h a u e, fun a e => ?_, fun a e => .inl e, fun a e => ?_⟩⟩
  · rw [List.nodup_append]
    refine ⟨w.nd, by simp, fun a ha b hb => ?_⟩
    rw [List.mem_singleton] at hb
    subst hb
    exact fun q => hA (q ▸ ha)
  · rcases List.mem_append.mp ha with ha | ha
    · have hp : a ≠ p := fun q => hA (q ▸ ha)
      rw [upd_ne hp]
      exact w.off a ha
    · rw [List.mem_singleton] at ha
      subst ha
      exact ⟨hF, by rw [upd_same]; simp⟩
  · by_cases hk : k < M.length
    · rw [List.getElem?_append_left hk] at e
      obtain ⟨a, ha, q⟩ := w.at_ k o' e
      have hp : a ≠ p := fun z => hA (z ▸ List.mem_of_getElem? ha)
      exact ⟨a, pre_get (List.prefix_append _ _) ha, q.mono (Ex.refl _) (List.prefix_append _ _) (upd_ne hp)⟩
    · have hk2 : k < (M ++ [o]).length := (List.getElem?_eq_some_iff.mp e).1
      rw [List.length_append, List.length_singleton] at hk2
      have hk3 : k = M.length := by omega
      subst hk3
      rw [List.getElem?_append_right (Nat.le_refl _), Nat.sub_self] at e
      cases e
      refine ⟨p, ?_, r _ upd_same⟩
      rw [w.len, List.getElem?_append_right (Nat.le_refl _), Nat.sub_self]
      rfl
  · by_cases hp : a = p
    · subst hp; rw [upd_same]; simp
    · rw [upd_ne hp]; exact e
  · rcases List.mem_append.mp e with e | e
    · exact .inl e
    · rw [List.mem_singleton] at e
      subst e
      exact .inr h
/-- an own object is changed -/
theorem WF.mut (w : WF K as F H M) {k : Nat} {a : Addr} (ha : as[k]? = some a) {ho : HO} {o : O} (r : ∀ H', H' a = some ho → Ro K as F H' a o) :
    WF K as F (upd H a ho) (M.set k o) ∧ Step as F H as F (upd H a ho) := by
  have hm : a ∈ as := List.mem_of_getElem? ha
  have hF := (w.off a hm).1
  refine ⟨⟨fun b u e => ?_, w.nd, fun b hb => ?_, by rw [List.length_set]; exact w.len, fun j o' e => ?_⟩, ⟨List.prefix_rfl, Ex.refl _, fun b u e n => ?_, fun b e => ?_, fun b e => .inl e, fun b e => .inl e⟩⟩
  · have hb : b ≠ a := ne_of_none e hF
    rw [upd_ne hb]; exact w.ex b u e
  · by_cases hp : b = a
    · subst hp; exact ⟨hF, by rw [upd_same]; simp⟩
    · rw [upd_ne hp]; exact w.off b hb
  · by_cases hj : k = j
    · subst hj
      have hl : k < M.length := by
        have := (List.getElem?_eq_some_iff.mp e).1
        rw [List.length_set] at this
        exact this
      rw [List.getElem?_set_self hl] at e
      cases e
      exact ⟨a, ha, r _ upd_same⟩
    · rw [List.getElem?_set_ne hj] at e
      obtain ⟨b, hb, q⟩ := w.at_ j o' e
      have hba : b ≠ a := fun z => by
        subst z
        exact hj ((List.getElem?_inj (List.getElem?_eq_some_iff.mp ha).1 w.nd).mp (ha.trans hb.symm))
      exact ⟨b, hb, q.mono (Ex.refl _) List.prefix_rfl (upd_ne hba)⟩
  · have hb : b ≠ a := fun q => n (q ▸ hm)
    rw [upd_ne hb]; exact e
  · by_cases hp : b = a
    · subst hp; rw [upd_same]; simp
    · rw [upd_ne hp]; exact e
/-- the last own objects are let go -/
theorem WF.drop (w : WF K as F H M) (n : Nat) (hn : n ≤ M.length) (hM : ∀ (k : Nat) (xs : List X), k < n → M[k]? ≠ some (.lstX xs)) : WF K (as.take n) F H (M.take n) where
  ex := w.ex
  nd := w.nd.sublist (List.take_sublist _ _)
  off := fun a ha => w.off a (List.mem_of_mem_take ha)
  len := by
    have := w.len
    rw [List.length_take, List.length_take]; omega
  at_ := fun k o e => by
    have hk := (List.getElem?_eq_some_iff.mp e).1
    rw [List.length_take] at hk
    rw [List.getElem?_take_of_lt (by omega)] at e
    obtain ⟨a, ha, r⟩ := w.at_ k o e
    refine ⟨a, by rw [List.getElem?_take_of_lt (by omega)]; exact ha, ?_⟩
    cases o with
    | lstX xs => exact absurd e (hM k xs (by omega))
    | lst _ => exact r
    | dicK _ => exact r
    | dicT _ => exact r
    | ins _ _ => exact r
    | dead => exact r
end
end PD

/-! PDb: what an expression, a test, a statement needs, over trees and own objects. -/
namespace PD
open PySem L2

abbrev Env := List (Option X)
/-- the slots -/
def SlR (K : PySem.W.Frag) (as : List Addr) (F : Hp) (σ : St) (env : Env) : Prop :=
  σ.length = env.length ∧ ∀ (i : Nat) (x : X), env[i]? = some (some x) → ∃ v, σ[i]? = some (some v) ∧ Rx K as F v x
section
variable {K : PySem.W.Frag} {F F' : Hp} {as as' : List Addr} {σ : St} {env : Env}
theorem SlR.mono (e : Ex F F') (p : as <+: as') (h : SlR K as F σ env) : SlR K as' F' σ env :=
  ⟨h.1, fun i x q => by
    obtain ⟨v, h1, h2⟩ := h.2 i x q
    exact ⟨v, h1, h2.mono e p⟩⟩
theorem SlR.set (h : SlR K as F σ env) (i : Nat) {v : V} {x : X} (r : Rx K as F v x) : SlR K as F (σ.set i (some v)) (env.set i (some x)) :=
  ⟨by rw [List.length_set, List.length_set]; exact h.1, fun j y q => by
    by_cases hj : i = j
    · subst hj
      have hl : i < env.length := by
        have := (List.getElem?_eq_some_iff.mp q).1
        rw [List.length_set] at this; exact this
      rw [List.getElem?_set_self hl] at q
      cases q
      exact ⟨v, by rw [List.getElem?_set_self (by rw [h.1]; exact hl)], r⟩
    · rw [List.getElem?_set_ne hj] at q ⊢
      exact h.2 j y q⟩
theorem SlR.setN (h : SlR K as F σ env) (i : Nat) (o : Option V) : SlR K as F (σ.set i o) (env.set i none) :=
  ⟨by rw [List.length_set, List.length_set]; exact h.1, fun j y q => by
    by_cases hj : i = j
    · subst hj
      have hl : i < env.length := by
        have := (List.getElem?_eq_some_iff.mp q).1
        rw [List.length_set] at this; exact this
      rw [List.getElem?_set_self hl] at q
      cases q
    · rw [List.getElem?_set_ne hj] at q ⊢
      exact h.2 j y q⟩
/-- slots forgotten -/
theorem SlR.forget {env' : Env} (h : SlR K as F σ env) (hl : env'.length = env.length) (he : ∀ (i : Nat) (x : X), env'[i]? = some (some x) → env[i]? = some (some x)) : SlR K as F σ env' :=
  ⟨h.1.trans hl.symm, fun i x q => h.2 i x (he i x q)⟩
end

section
variable (K : PySem.W.Frag)
def Cont (as : List Addr) (F H : Hp) (Q : X → List O → Prop) (Qc : VK) : Prop :=
  ∀ x M' as' F' H' v, Step as F H as' F' H' → WF K as' F' H' M' → Rx K as' F' v x → Q x M' → Qc v H'
def ContB (as : List Addr) (F H : Hp) (Q : Bool → List O → Prop) (Qc : Bool → Hp → Prop) : Prop :=
  ∀ b M' as' F' H', Step as F H as' F' H' → WF K as' F' H' M' → Q b M' → Qc b H'
def ContA (as : List Addr) (F H : Hp) (Q : List X → List O → Prop) (Qc : List V → Hp → Prop) : Prop :=
  ∀ xs M' as' F' H' vs, Step as F H as' F' H' → WF K as' F' H' M' → Rxs K as' F' vs xs → Q xs M' → Qc vs H'
def ContN (as : List Addr) (F H : Hp) (σ : St) (N : Env → List O → Prop) (Qc : St → Hp → Prop) : Prop :=
  ∀ env' M' as' F' H' σ', Step as F H as' F' H' → WF K as' F' H' M' → SlR K as' F' σ' env' → N env' M' → Qc σ' H'
/-- an expression -/
def WE (t : TE) (env : Env) (M : List O) (Q : X → List O → Prop) : Prop :=
  ∀ as F H σ, WF K as F H M → SlR K as F σ env → ∀ Qc : VK, Cont K as F H Q Qc → t σ H Qc
def WT (t : TT) (env : Env) (M : List O) (Q : Bool → List O → Prop) : Prop :=
  ∀ as F H σ, WF K as F H M → SlR K as F σ env → ∀ Qc, ContB K as F H Q Qc → t σ H Qc
def WA (t : TA) (env : Env) (M : List O) (Q : List X → List O → Prop) : Prop :=
  ∀ as F H σ, WF K as F H M → SlR K as F σ env → ∀ Qc, ContA K as F H Q Qc → t σ H Qc
def WO (t : TO) (env : Env) (M : List O) (Q : Option Int → List O → Prop) : Prop :=
  ∀ as F H σ, WF K as F H M → SlR K as F σ env → ∀ Qc : Option Int → Hp → Prop, (∀ o M' as' F' H', Step as F H as' F' H' → WF K as' F' H' M' → Q o M' → Qc o H') → t σ H Qc
/-- an operation on values -/
def W1 (r : V → Hp → VK → Prop) (x : X) (M : List O) (Q : X → List O → Prop) : Prop :=
  ∀ as F H v, WF K as F H M → Rx K as F v x → ∀ Qc : VK, Cont K as F H Q Qc → r v H Qc
def W2 (r : R2) (x y : X) (M : List O) (Q : X → List O → Prop) : Prop :=
  ∀ as F H v u, WF K as F H M → Rx K as F v x → Rx K as F u y → ∀ Qc : VK, Cont K as F H Q Qc → r v u H Qc
def WC (r : List V → Hp → VK → Prop) (xs : List X) (M : List O) (Q : X → List O → Prop) : Prop :=
  ∀ as F H vs, WF K as F H M → Rxs K as F vs xs → ∀ Qc : VK, Cont K as F H Q Qc → r vs H Qc
def WM (r : V → List V → Hp → VK → Prop) (x : X) (xs : List X) (M : List O) (Q : X → List O → Prop) : Prop :=
  ∀ as F H v vs, WF K as F H M → Rx K as F v x → Rxs K as F vs xs → ∀ Qc : VK, Cont K as F H Q Qc → r v vs H Qc
def WSl (r : V → Option Int → Option Int → Hp → VK → Prop) (x : X) (lo hi : Option Int) (M : List O) (Q : X → List O → Prop) : Prop :=
  ∀ as F H v, WF K as F H M → Rx K as F v x → ∀ Qc : VK, Cont K as F H Q Qc → r v lo hi H Qc
def WSet (r : TSet) (o i x : X) (M : List O) (Q : List O → Prop) : Prop :=
  ∀ as F H vo vi v, WF K as F H M → Rx K as F vo o → Rx K as F vi i → Rx K as F v x → ∀ Qc : Hp → Prop, (∀ M' as' F' H', Step as F H as' F' H' → WF K as' F' H' M' → Q M' → Qc H') → r vo vi v H Qc
/-- a target -/
def WG (g : TG) (x : X) (env : Env) (M : List O) (N : Env → List O → Prop) : Prop :=
  ∀ as F H σ v, WF K as F H M → SlR K as F σ env → Rx K as F v x → ∀ Qc, ContN K as F H σ N Qc → g v σ H Qc
def WGs (g : TGs) (xs : List X) (env : Env) (M : List O) (N : Env → List O → Prop) : Prop :=
  ∀ as F H σ vs, WF K as F H M → SlR K as F σ env → Rxs K as F vs xs → ∀ Qc, ContN K as F H σ N Qc → g vs σ H Qc
end
structure En where
  nx : Env → List O → Prop
  rt : X → List O → Prop
  bk : Env → List O → Prop := fun _ _ => False
  ct : Env → List O → Prop := fun _ _ => False
structure ContS (K : PySem.W.Frag) (as : List Addr) (F H : Hp) (E : En) (D : Ends) : Prop where
  nx : ∀ env' M' as' F' H' σ', Step as F H as' F' H' → WF K as' F' H' M' → SlR K as' F' σ' env' → E.nx env' M' → D.nx σ' H'
  rt : ∀ x M' as' F' H' v, Step as F H as' F' H' → WF K as' F' H' M' → Rx K as' F' v x → E.rt x M' → D.rt v H'
  bk : ∀ env' M' as' F' H' σ', Step as F H as' F' H' → WF K as' F' H' M' → SlR K as' F' σ' env' → E.bk env' M' → D.bk σ' H'
  ct : ∀ env' M' as' F' H' σ', Step as F H as' F' H' → WF K as' F' H' M' → SlR K as' F' σ' env' → E.ct env' M' → D.ct σ' H'
/-- a statement -/
def WS (K : PySem.W.Frag) (t : TS) (env : Env) (M : List O) (E : En) : Prop :=
  ∀ as F H σ, WF K as F H M → SlR K as F σ env → ∀ D : Ends, ContS K as F H E D → t D σ H
/-- a new object comes -/
def ContNw (K : PySem.W.Frag) (as : List Addr) (F H : Hp) (Q : O → List O → Prop) (Qc : VK) : Prop :=
  ∀ o M' as' F' H' p ho, Step as F H as' F' H' → WF K as' F' H' M' → H p = none → F' p = none → p ∉ as' → H' p = some ho → Ro K as' F' H' p o → Q o M' → Qc (.ref p) H'
def WN (K : PySem.W.Frag) (t : TE) (env : Env) (M : List O) (Q : O → List O → Prop) : Prop :=
  ∀ as F H σ, WF K as F H M → SlR K as F σ env → ∀ Qc : VK, ContNw K as F H Q Qc → t σ H Qc
def WN2 (K : PySem.W.Frag) (r : R2) (x y : X) (M : List O) (Q : O → List O → Prop) : Prop :=
  ∀ as F H v u, WF K as F H M → Rx K as F v x → Rx K as F u y → ∀ Qc : VK, ContNw K as F H Q Qc → r v u H Qc
def WNC (K : PySem.W.Frag) (r : List V → Hp → VK → Prop) (xs : List X) (M : List O) (Q : O → List O → Prop) : Prop :=
  ∀ as F H vs, WF K as F H M → Rxs K as F vs xs → ∀ Qc : VK, ContNw K as F H Q Qc → r vs H Qc
def WNM (K : PySem.W.Frag) (r : V → List V → Hp → VK → Prop) (x : X) (xs : List X) (M : List O) (Q : O → List O → Prop) : Prop :=
  ∀ as F H v vs, WF K as F H M → Rx K as F v x → Rxs K as F vs xs → ∀ Qc : VK, ContNw K as F H Q Qc → r v vs H Qc
def WNSl (K : PySem.W.Frag) (r : V → Option Int → Option Int → Hp → VK → Prop) (x : X) (lo hi : Option Int) (M : List O) (Q : O → List O → Prop) : Prop :=
  ∀ as F H v, WF K as F H M → Rx K as F v x → ∀ Qc : VK, ContNw K as F H Q Qc → r v lo hi H Qc

section
variable {K : PySem.W.Frag} {F F' H H' : Hp} {as as' : List Addr} {σ : St} {env : Env} {M M1 : List O} {Q Q' : X → List O → Prop} {te ta tb : TE} {x y : X} {E : En}
theorem Cont.step {Qc : VK} (c : Cont K as F H Q Qc) (s : Step as F H as' F' H') : Cont K as' F' H' Q Qc := fun x M' a2 F2 H2 v s2 w r q => c x M' a2 F2 H2 v (s.trans s2) w r q
theorem Cont.go {Qc : VK} (c : Cont K as F H Q Qc) (w : WF K as F H M) {v : V} {x : X} (r : Rx K as F v x) (q : Q x M) : Qc v H := c x M as F H v Step.refl w r q
theorem ContB.step {Q : Bool → List O → Prop} {Qc : Bool → Hp → Prop} (c : ContB K as F H Q Qc) (s : Step as F H as' F' H') : ContB K as' F' H' Q Qc := fun x M' a2 F2 H2 s2 w q => c x M' a2 F2 H2 (s.trans s2) w q
theorem ContA.step {Q : List X → List O → Prop} {Qc : List V → Hp → Prop} (c : ContA K as F H Q Qc) (s : Step as F H as' F' H') : ContA K as' F' H' Q Qc := fun x M' a2 F2 H2 v s2 w r q => c x M' a2 F2 H2 v (s.trans s2) w r q
theorem ContN.step {σ' : St} {N : Env → List O → Prop} {Qc : St → Hp → Prop} (c : ContN K as F H σ N Qc) (s : Step as F H as' F' H') : ContN K as' F' H' σ' N Qc := fun x M' a2 F2 H2 v s2 w r q => c x M' a2 F2 H2 v (s.trans s2) w r q
theorem ContS.step {D : Ends} (c : ContS K as F H E D) (s : Step as F H as' F' H') : ContS K as' F' H' E D :=
  ⟨fun x M' a2 F2 H2 v s2 w r q => c.nx x M' a2 F2 H2 v (s.trans s2) w r q, fun x M' a2 F2 H2 v s2 w r q => c.rt x M' a2 F2 H2 v (s.trans s2) w r q,
    fun x M' a2 F2 H2 v s2 w r q => c.bk x M' a2 F2 H2 v (s.trans s2) w r q, fun x M' a2 F2 H2 v s2 w r q => c.ct x M' a2 F2 H2 v (s.trans s2) w r q⟩
theorem WE.imp (h : WE K te env M Q) (i : ∀ x M', Q x M' → Q' x M') : WE K te env M Q' := fun as F H σ w s Qc c => h as F H σ w s Qc fun x M' a2 F2 H2 v s2 w2 r q => c x M' a2 F2 H2 v s2 w2 r (i x M' q)
theorem WT.imp {t : TT} {Q Q' : Bool → List O → Prop} (h : WT K t env M Q) (i : ∀ x M', Q x M' → Q' x M') : WT K t env M Q' := fun as F H σ w s Qc c => h as F H σ w s Qc fun x M' a2 F2 H2 s2 w2 q => c x M' a2 F2 H2 s2 w2 (i x M' q)
theorem WS.imp {t : TS} {E E' : En} (h : WS K t env M E) (i1 : ∀ e M', E.nx e M' → E'.nx e M') (i2 : ∀ e M', E.rt e M' → E'.rt e M') (i3 : ∀ e M', E.bk e M' → E'.bk e M') (i4 : ∀ e M', E.ct e M' → E'.ct e M') : WS K t env M E' :=
  fun as F H σ w s D c => h as F H σ w s D ⟨fun e M' a2 F2 H2 v s2 w2 r q => c.nx e M' a2 F2 H2 v s2 w2 r (i1 e M' q), fun e M' a2 F2 H2 v s2 w2 r q => c.rt e M' a2 F2 H2 v s2 w2 r (i2 e M' q),
    fun e M' a2 F2 H2 v s2 w2 r q => c.bk e M' a2 F2 H2 v s2 w2 r (i3 e M' q), fun e M' a2 F2 H2 v s2 w2 r q => c.ct e M' a2 F2 H2 v s2 w2 r (i4 e M' q)⟩

/-! ### expressions -/
theorem we_var {i : Nat} (h : env[i]? = some (some x)) (q : Q x M) : WE K (tVar i) env M Q := fun as F H σ w s Qc c => by
  obtain ⟨v, h1, h2⟩ := s.2 i x h
  exact ⟨v, h1, c.go w h2 q⟩
theorem we_int {i : Int} (q : Q (.d (.int i)) M) : WE K (tC (.int i)) env M Q := fun as F H σ w s Qc c => c.go w (.d (.int i)) q
theorem we_bl {i : Bool} (q : Q (.d (.bl i)) M) : WE K (tC (.bl i)) env M Q := fun as F H σ w s Qc c => c.go w (.d (.bl i)) q
theorem we_str {i : Str} (q : Q (.d (.str i)) M) : WE K (tC (.str i)) env M Q := fun as F H σ w s Qc c => c.go w (.d (.str i)) q
theorem we_non (q : Q (.d .non) M) : WE K (tC .non) env M Q := fun as F H σ w s Qc c => c.go w (.d .non) q
theorem we_ty {n : String} (q : Q (.d (.ty n)) M) : WE K (tC (.ty n)) env M Q := fun as F H σ w s Qc c => c.go w (.d (.ty n)) q
theorem we_ref {a : Addr} (q : Q (.d (.ref a)) M) : WE K (tC (.ref a)) env M Q := fun as F H σ w s Qc c => c.go w (.d (.ref a)) q
theorem we_op {r : R2} (h : WE K ta env M fun x M1 => WE K tb env M1 fun y M2 => W2 K r x y M2 Q) : WE K (tOp r ta tb) env M Q := fun as F H σ w s Qc c =>
  h as F H σ w s _ fun x M1 a1 F1 H1 v s1 w1 r1 q1 => q1 a1 F1 H1 σ w1 (s.mono s1.ex s1.pre) _ fun y M2 a2 F2 H2 u s2 w2 r2 q2 =>
    q2 a2 F2 H2 v u w2 (r1.mono s2.ex s2.pre) r2 Qc (c.step (s1.trans s2))
theorem we_un {r : V → Hp → VK → Prop} (h : WE K ta env M fun x M1 => W1 K r x M1 Q) : WE K (tUn r ta) env M Q := fun as F H σ w s Qc c =>
  h as F H σ w s _ fun x M1 a1 F1 H1 v s1 w1 r1 q1 => q1 a1 F1 H1 v w1 r1 Qc (c.step s1)
theorem we_cb {r : List V → Hp → VK → Prop} {t : TA} (h : WA K t env M fun xs M1 => WC K r xs M1 Q) : WE K (tCB r t) env M Q := fun as F H σ w s Qc c =>
  h as F H σ w s _ fun x M1 a1 F1 H1 v s1 w1 r1 q1 => q1 a1 F1 H1 v w1 r1 Qc (c.step s1)
theorem wa_nil {Q : List X → List O → Prop} (q : Q [] M) : WA K tNil env M Q := fun as F H σ w s Qc c => c [] M as F H [] Step.refl w .nil q
theorem wa_cons {t : TA} {Q : List X → List O → Prop} (h : WE K ta env M fun x M1 => WA K t env M1 fun xs M2 => Q (x :: xs) M2) : WA K (tCons ta t) env M Q := fun as F H σ w s Qc c =>
  h as F H σ w s _ fun x M1 a1 F1 H1 v s1 w1 r1 q1 => q1 a1 F1 H1 σ w1 (s.mono s1.ex s1.pre) _ fun xs M2 a2 F2 H2 vs s2 w2 r2 q2 =>
    c (x :: xs) M2 a2 F2 H2 (v :: vs) (s1.trans s2) w2 (.cons (r1.mono s2.ex s2.pre) r2) q2
theorem wo_none {Q : Option Int → List O → Prop} (q : Q none M) : WO K tNoPart env M Q := fun as F H σ w s Qc c => c none M as F H Step.refl w q
theorem wo_some {Q : Option Int → List O → Prop} (h : WE K ta env M fun x M1 => ∃ i, x = .d (.int i) ∧ Q (some i) M1) : WO K (tPart ta) env M Q := fun as F H σ w s Qc c =>
  h as F H σ w s _ fun x M1 a1 F1 H1 v s1 w1 r1 ⟨i, e, q1⟩ => by
    subst e
    cases r1 with
    | d r1 =>
      cases r1
      exact ⟨i, rfl, c (some i) M1 a1 F1 H1 s1 w1 q1⟩
theorem we_slice {r : V → Option Int → Option Int → Hp → VK → Prop} {tl th : TO} (h : WE K te env M fun x M1 => WO K tl env M1 fun lo M2 => WO K th env M2 fun hi M3 => WSl K r x lo hi M3 Q) : WE K (tSl r te tl th) env M Q := fun as F H σ w s Qc c =>
  h as F H σ w s _ fun x M1 a1 F1 H1 v s1 w1 r1 q1 => q1 a1 F1 H1 σ w1 (s.mono s1.ex s1.pre) _ fun lo M2 a2 F2 H2 s2 w2 q2 => q2 a2 F2 H2 σ w2 (s.mono (s1.ex.trans s2.ex) (s1.pre.trans s2.pre)) _ fun hi M3 a3 F3 H3 s3 w3 q3 =>
    q3 a3 F3 H3 v w3 (r1.mono (s2.ex.trans s3.ex) (s2.pre.trans s3.pre)) Qc (c.step ((s1.trans s2).trans s3))
theorem we_if {t : TT} (h : WT K t env M fun b M1 => if b = true then WE K ta env M1 Q else WE K tb env M1 Q) : WE K (tIf t ta tb) env M Q := fun as F H σ w s Qc c =>
  h as F H σ w s _ fun b M1 a1 F1 H1 s1 w1 q1 => by
    cases b with
    | true => exact q1 a1 F1 H1 σ w1 (s.mono s1.ex s1.pre) Qc (c.step s1)
    | false => exact q1 a1 F1 H1 σ w1 (s.mono s1.ex s1.pre) Qc (c.step s1)
theorem we_chain {r r' : R2} {tc : TE} (h : WE K ta env M fun x M1 => WE K tb env M1 fun y M2 => W2 K r x y M2 fun z M3 => ∃ k, z = .d (.bl k) ∧ if k = true then WE K tc env M3 fun u M4 => W2 K r' y u M4 Q else Q (.d (.bl false)) M3) : WE K (tChain r r' ta tb tc) env M Q := fun as F H σ w s Qc c =>
  h as F H σ w s _ fun x M1 a1 F1 H1 v s1 w1 r1 q1 => q1 a1 F1 H1 σ w1 (s.mono s1.ex s1.pre) _ fun y M2 a2 F2 H2 u s2 w2 r2 q2 =>
    q2 a2 F2 H2 v u w2 (r1.mono s2.ex s2.pre) r2 _ fun z M3 a3 F3 H3 zv s3 w3 r3 ⟨k, e, q3⟩ => by
      subst e
      cases r3 with
      | d r3 =>
        cases r3
        refine ⟨k, rfl, ?_⟩
        cases k with
        | true =>
          refine iteT ?_
          exact q3 a3 F3 H3 σ w3 (s.mono ((s1.ex.trans s2.ex).trans s3.ex) ((s1.pre.trans s2.pre).trans s3.pre)) _ fun z' M4 a4 F4 H4 v4 s4 w4 r4 q4 =>
            q4 a4 F4 H4 u v4 w4 (r2.mono (s3.ex.trans s4.ex) (s3.pre.trans s4.pre)) r4 Qc (c.step (((s1.trans s2).trans s3).trans s4))
        | false => exact iteF (c (.d (.bl false)) M3 a3 F3 H3 _ ((s1.trans s2).trans s3) w3 (.d (.bl false)) q3)
theorem we_bm {T : String} {r : V → List V → Hp → VK → Prop} {t : TA} (h : WE K te env M fun x M1 => (∀ as F H v, WF K as F H M1 → Rx K as F v x → tyV K T v H) ∧ WA K t env M1 fun xs M2 => WM K r x xs M2 Q) : WE K (tBM K T r te t) env M Q := fun as F H σ w s Qc c =>
  h as F H σ w s _ fun x M1 a1 F1 H1 v s1 w1 r1 ⟨ty, q1⟩ => ⟨ty a1 F1 H1 v w1 r1, q1 a1 F1 H1 σ w1 (s.mono s1.ex s1.pre) _ fun xs M2 a2 F2 H2 vs s2 w2 r2 q2 =>
    q2 a2 F2 H2 v vs w2 (r1.mono s2.ex s2.pre) r2 Qc (c.step (s1.trans s2))⟩
theorem we_bm0 {T : String} {r : V → List V → Hp → VK → Prop} (h : WE K te env M fun x M1 => (∀ as F H v, WF K as F H M1 → Rx K as F v x → tyV K T v H) ∧ WM K r x [] M1 Q) : WE K (tBM0 K T r te) env M Q := fun as F H σ w s Qc c =>
  h as F H σ w s _ fun x M1 a1 F1 H1 v s1 w1 r1 ⟨ty, q1⟩ => ⟨ty a1 F1 H1 v w1 r1, q1 a1 F1 H1 v [] w1 r1 .nil Qc (c.step s1)⟩
theorem we_m1 {r : V → List V → Hp → VK → Prop} (h : WE K te env M fun x M1 => (∃ a, x = .d (.str a)) ∧ WE K ta env M1 fun y M2 => WM K r x [y] M2 Q) : WE K (tM1 r te ta) env M Q := fun as F H σ w s Qc c =>
  h as F H σ w s _ fun x M1 a1 F1 H1 v s1 w1 r1 ⟨⟨z, ez⟩, q1⟩ => ⟨by subst ez; cases r1 with | d r1 => cases r1; exact ⟨z, rfl⟩, q1 a1 F1 H1 σ w1 (s.mono s1.ex s1.pre) _ fun y M2 a2 F2 H2 u s2 w2 r2 q2 =>
    q2 a2 F2 H2 v [u] w2 (r1.mono s2.ex s2.pre) (.cons r2 .nil) Qc (c.step (s1.trans s2))⟩
theorem we_m0 {r : V → List V → Hp → VK → Prop} (h : WE K te env M fun x M1 => (∃ a, x = .d (.str a)) ∧ WM K r x [] M1 Q) : WE K (tM0 r te) env M Q := fun as F H σ w s Qc c =>
  h as F H σ w s _ fun x M1 a1 F1 H1 v s1 w1 r1 ⟨⟨z, ez⟩, q1⟩ => ⟨by subst ez; cases r1 with | d r1 => cases r1; exact ⟨z, rfl⟩, q1 a1 F1 H1 v [] w1 r1 .nil Qc (c.step s1)⟩
/-- values and, or, not -/
theorem we_andV (h : WE K ta env M fun x M1 => ∃ k, x = .d (.bl k) ∧ if k = true then WE K tb env M1 Q else Q (.d (.bl false)) M1) : WE K (tAndV ta tb) env M Q := fun as F H σ w s Qc c =>
  h as F H σ w s _ fun x M1 a1 F1 H1 v s1 w1 r1 ⟨k, e, q1⟩ => by
    subst e
    cases r1 with
    | d r1 =>
      cases r1
      refine ⟨k, rfl, ?_⟩
      cases k with
      | true => exact iteT (q1 a1 F1 H1 σ w1 (s.mono s1.ex s1.pre) Qc (c.step s1))
      | false => exact iteF (c _ M1 a1 F1 H1 _ s1 w1 (.d (.bl false)) q1)
theorem we_orV (h : WE K ta env M fun x M1 => ∃ k, x = .d (.bl k) ∧ if k = true then Q (.d (.bl true)) M1 else WE K tb env M1 Q) : WE K (tOrV ta tb) env M Q := fun as F H σ w s Qc c =>
  h as F H σ w s _ fun x M1 a1 F1 H1 v s1 w1 r1 ⟨k, e, q1⟩ => by
    subst e
    cases r1 with
    | d r1 =>
      cases r1
      refine ⟨k, rfl, ?_⟩
      cases k with
      | true => exact iteT (c _ M1 a1 F1 H1 _ s1 w1 (.d (.bl true)) q1)
      | false => exact iteF (q1 a1 F1 H1 σ w1 (s.mono s1.ex s1.pre) Qc (c.step s1))
theorem we_notV (h : WE K ta env M fun x M1 => ∃ k, x = .d (.bl k) ∧ Q (.d (.bl (!k))) M1) : WE K (tNotV ta) env M Q := fun as F H σ w s Qc c =>
  h as F H σ w s _ fun x M1 a1 F1 H1 v s1 w1 r1 ⟨k, e, q1⟩ => by
    subst e
    cases r1 with
    | d r1 =>
      cases r1
      exact ⟨k, rfl, c _ M1 a1 F1 H1 _ s1 w1 (.d (.bl _)) q1⟩
/-! ### tests -/
theorem wt_test {Q : Bool → List O → Prop} (h : WE K te env M fun x M1 => ∃ k, x = .d (.bl k) ∧ Q k M1) : WT K (tTest te) env M Q := fun as F H σ w s Qc c =>
  h as F H σ w s _ fun x M1 a1 F1 H1 v s1 w1 r1 ⟨k, e, q1⟩ => by
    subst e
    cases r1 with
    | d r1 => cases r1; exact ⟨k, rfl, c k M1 a1 F1 H1 s1 w1 q1⟩
theorem wt_B {Q : Bool → List O → Prop} (h : WE K te env M fun x M1 => ∃ k, x = .d (.bl k) ∧ Q k M1) : WT K (tB te) env M Q := wt_test h
def tTru (K : PySem.W.Frag) (ta : TE) : TT := fun σ H Q => ta σ H fun x H' => ∃ k, TruV K x H' k ∧ Q k H'
/-- a value's truth -/
def WTru (K : PySem.W.Frag) (x : X) (M : List O) (k : Bool) : Prop := ∀ as F H v, WF K as F H M → Rx K as F v x → TruV K v H k
theorem wt_tru {Q : Bool → List O → Prop} (h : WE K ta env M fun x M1 => ∃ k, WTru K x M1 k ∧ Q k M1) : WT K (tTru K ta) env M Q := fun as F H σ w s Qc c =>
  h as F H σ w s _ fun x M1 a1 F1 H1 v s1 w1 r1 ⟨k, e, q1⟩ => ⟨k, e a1 F1 H1 v w1 r1, c k M1 a1 F1 H1 s1 w1 q1⟩
theorem wt_and {t u : TT} {Q : Bool → List O → Prop} (h : WT K t env M fun b M1 => if b = true then WT K u env M1 Q else Q false M1) : WT K (tAnd t u) env M Q := fun as F H σ w s Qc c =>
  h as F H σ w s _ fun b M1 a1 F1 H1 s1 w1 q1 => by
    cases b with
    | true => exact iteT (q1 a1 F1 H1 σ w1 (s.mono s1.ex s1.pre) Qc (c.step s1))
    | false => exact iteF (c false M1 a1 F1 H1 s1 w1 q1)
theorem wt_or {t u : TT} {Q : Bool → List O → Prop} (h : WT K t env M fun b M1 => if b = true then Q true M1 else WT K u env M1 Q) : WT K (tOr t u) env M Q := fun as F H σ w s Qc c =>
  h as F H σ w s _ fun b M1 a1 F1 H1 s1 w1 q1 => by
    cases b with
    | true => exact iteT (c true M1 a1 F1 H1 s1 w1 q1)
    | false => exact iteF (q1 a1 F1 H1 σ w1 (s.mono s1.ex s1.pre) Qc (c.step s1))
theorem wt_not {t : TT} {Q : Bool → List O → Prop} (h : WT K t env M fun b M1 => Q (!b) M1) : WT K (tNot t) env M Q := fun as F H σ w s Qc c =>
  h as F H σ w s _ fun b M1 a1 F1 H1 s1 w1 q1 => c (!b) M1 a1 F1 H1 s1 w1 q1
theorem wt_yes {Q : Bool → List O → Prop} (q : Q true M) : WT K tYes env M Q := fun as F H σ w s Qc c => c true M as F H Step.refl w q

/-! ### new objects -/
def O.frz : O → Option D
  | .lst ds => some (.lst ds)
  | .dicK kvs => some (.dicK kvs)
  | .dicT kvs => some (.dicT kvs)
  | .ins C fs => some (.obj C fs)
  | _ => none
theorem Ro.frz {a : Addr} {o : O} {d : D} {ho : HO} (h : o.frz = some d) (r : Ro K as F H a o) (hF : F a = none) (hh : H a = some ho) : Rp K (upd F a ho) (.ref a) d := by
  cases o with
  | lst ds =>
    cases h
    obtain ⟨vs, h1, h2⟩ := r
    rw [hh] at h1; cases h1
    exact .lst upd_same (h2.mono (Ex.new hF))
  | dicK ds =>
    cases h
    obtain ⟨vs, h1, h0, h2⟩ := r
    rw [hh] at h1; cases h1
    exact .dicK upd_same h0 (h2.mono (Ex.new hF))
  | dicT ds =>
    cases h
    obtain ⟨vs, h1, h0, h2⟩ := r
    rw [hh] at h1; cases h1
    exact .dicT upd_same h0 (h2.mono (Ex.new hF))
  | ins C ds =>
    cases h
    obtain ⟨dx, vs, h1, h0, h2⟩ := r
    rw [hh] at h1; cases h1
    exact .obj upd_same h0 (h2.mono (Ex.new hF))
  | lstX _ => cases h
  | dead => cases h
/-- more never changes -/
theorem WF.more (w : WF K as F H M) {p : Addr} {ho : HO} (hF : F p = none) (hA : p ∉ as) (hh : H p = some ho) : WF K as (upd F p ho) H M where
  ex := fun b u e => by
    by_cases hp : b = p
    · subst hp; rw [upd_same] at e; cases e; exact hh
    · rw [upd_ne hp] at e; exact w.ex b u e
  nd := w.nd
  off := fun b hb => by
    have hp : b ≠ p := fun q => hA (q ▸ hb)
    rw [upd_ne hp]
    exact w.off b hb
  len := w.len
  at_ := fun k o e => by
    obtain ⟨b, hb, q⟩ := w.at_ k o e
    exact ⟨b, hb, q.mono (Ex.new hF) List.prefix_rfl rfl⟩
theorem Step.more {F1 H1 : Hp} {as1 : List Addr} (s : Step as F H as1 F1 H1) {p : Addr} {ho : HO} (hF : F1 p = none) (hp : H p = none) : Step as F H as1 (upd F1 p ho) H1 where
  pre := s.pre
  ex := s.ex.trans (Ex.new hF)
  keep := s.keep
  live := s.live
  newF := fun b e => by
    by_cases hb : b = p
    · subst hb; exact .inr hp
    · rw [upd_ne hb] at e; exact s.newF b e
  newA := s.newA
theorem Ro.asMore {a : Addr} (p : as <+: as') {o : O} (r : Ro K as F H a o) : Ro K as' F H a o := r.mono (Ex.refl _) p rfl
theorem WF.moreO (w : WF K as F H M) {p : Addr} {ho : HO} {o : O} (hF : F p = none) (hA : p ∉ as) (hh : H p = some ho) (r : Ro K as F H p o) : WF K (as ++ [p]) F H (M ++ [o]) where
  ex := w.ex
  nd := by
    rw [List.nodup_append]
    refine ⟨w.nd, by simp, fun a ha b hb => ?_⟩
    rw [List.mem_singleton] at hb
    subst hb
    exact fun q => hA (q ▸ ha)
  off := fun a ha => by
    rcases List.mem_append.mp ha with ha | ha
    · exact w.off a ha
    · rw [List.mem_singleton] at ha
      subst ha
      exact ⟨hF, by rw [hh]; simp⟩
  len := by rw [List.length_append, List.length_append, w.len]; rfl
  at_ := fun k o' e => by
    by_cases hk : k < M.length
    · rw [List.getElem?_append_left hk] at e
      obtain ⟨a, ha, q⟩ := w.at_ k o' e
      exact ⟨a, pre_get (List.prefix_append _ _) ha, Ro.asMore (List.prefix_append _ _) q⟩
    · have hk2 : k < (M ++ [o]).length := (List.getElem?_eq_some_iff.mp e).1
      rw [List.length_append, List.length_singleton] at hk2
      have hk3 : k = M.length := by omega
      subst hk3
      rw [List.getElem?_append_right (Nat.le_refl _), Nat.sub_self] at e
      cases e
      refine ⟨p, ?_, Ro.asMore (List.prefix_append _ _) r⟩
      rw [w.len, List.getElem?_append_right (Nat.le_refl _), Nat.sub_self]
      rfl
theorem Step.moreO {F1 H1 : Hp} {as1 : List Addr} (s : Step as F H as1 F1 H1) {p : Addr} (hp : H p = none) : Step as F H (as1 ++ [p]) F1 H1 where
  pre := s.pre.trans (List.prefix_append _ _)
  ex := s.ex
  keep := s.keep
  live := s.live
  newF := s.newF
  newA := fun b e => by
    rcases List.mem_append.mp e with e | e
    · exact s.newA b e
    · rw [List.mem_singleton] at e; subst e; exact .inr hp
section
variable {Q : X → List O → Prop} {QN : O → List O → Prop}
/-- a new object that never changes; one's own -/
theorem ContNw.frz {Qc : VK} (c : Cont K as F H Q Qc) : ContNw K as F H (fun o M' => ∃ d, o.frz = some d ∧ Q (.d d) M') Qc := fun o M' a1 F1 H1 p ho s1 w1 hp hF hA hh r ⟨d, e, q⟩ =>
  c (.d d) M' a1 (upd F1 p ho) H1 (.ref p) (s1.more hF hp) (w1.more hF hA hh) (.d (Ro.frz e r hF hh)) q
theorem ContNw.own {Qc : VK} (c : Cont K as F H Q Qc) : ContNw K as F H (fun o M' => Q (.m M'.length) (M' ++ [o])) Qc := fun o M' a1 F1 H1 p ho s1 w1 hp hF hA hh r q =>
  c (.m M'.length) (M' ++ [o]) (a1 ++ [p]) F1 H1 (.ref p) (s1.moreO hp) (w1.moreO hF hA hh r) (.m (by rw [w1.len, List.getElem?_append_right (Nat.le_refl _), Nat.sub_self]; rfl)) q
theorem ContNw.step {F' H' : Hp} {as' : List Addr} {Qc : VK} (c : ContNw K as F H QN Qc) (s : Step as F H as' F' H') : ContNw K as' F' H' QN Qc := fun o M' a1 F1 H1 p ho s1 w1 hp hF hA hh r q =>
  c o M' a1 F1 H1 p ho (s.trans s1) w1 (by
    cases e : H p with
    | none => rfl
    | some o => exact absurd hp (s.live p (by rw [e]; simp))) hF hA hh r q
/-- one is laid -/
theorem ContNw.lay {Qc : VK} (c : ContNw K as F H QN Qc) (w : WF K as F H M) {p : Addr} {ho : HO} {o : O} (hp : H p = none) (r : ∀ H', H' p = some ho → Ro K as F H' p o) (q : QN o M) : Qc (.ref p) (upd H p ho) := by
  obtain ⟨hF, hA⟩ := w.free hp
  refine c o M as F (upd H p ho) p ho ⟨List.prefix_rfl, Ex.refl _, fun a u e _ => Ex.new hp a u e, fun a e => ?_, fun a e => .inl e, fun a e => .inl e⟩ ⟨w.ex.trans (Ex.new hp), w.nd, fun a ha => ?_, w.len, fun k o' e => ?_⟩ hp hF hA upd_same (r _ upd_same) q
  · by_cases h : a = p
    · subst h; rw [upd_same]; simp
    · rw [upd_ne h]; exact e
  · have h : a ≠ p := fun q => hA (q ▸ ha)
    rw [upd_ne h]
    exact w.off a ha
  · obtain ⟨b, hb, q⟩ := w.at_ k o' e
    have h : b ≠ p := fun q => hA (q ▸ List.mem_of_getElem? hb)
    exact ⟨b, hb, q.mono (Ex.refl _) List.prefix_rfl (upd_ne h)⟩
theorem we_frz (h : WN K te env M fun o M' => ∃ d, o.frz = some d ∧ Q (.d d) M') : WE K te env M Q := fun as F H σ w s Qc c => h as F H σ w s Qc (.frz c)
theorem we_own (h : WN K te env M fun o M' => Q (.m M'.length) (M' ++ [o])) : WE K te env M Q := fun as F H σ w s Qc c => h as F H σ w s Qc (.own c)
theorem w2_frz {r : R2} (h : WN2 K r x y M fun o M' => ∃ d, o.frz = some d ∧ Q (.d d) M') : W2 K r x y M Q := fun as F H v u w r1 r2 Qc c => h as F H v u w r1 r2 Qc (.frz c)
theorem w2_own {r : R2} (h : WN2 K r x y M fun o M' => Q (.m M'.length) (M' ++ [o])) : W2 K r x y M Q := fun as F H v u w r1 r2 Qc c => h as F H v u w r1 r2 Qc (.own c)
theorem wc_frz {r : List V → Hp → VK → Prop} {xs : List X} (h : WNC K r xs M fun o M' => ∃ d, o.frz = some d ∧ Q (.d d) M') : WC K r xs M Q := fun as F H vs w r1 Qc c => h as F H vs w r1 Qc (.frz c)
theorem wc_own {r : List V → Hp → VK → Prop} {xs : List X} (h : WNC K r xs M fun o M' => Q (.m M'.length) (M' ++ [o])) : WC K r xs M Q := fun as F H vs w r1 Qc c => h as F H vs w r1 Qc (.own c)
theorem wm_frz {r : V → List V → Hp → VK → Prop} {xs : List X} (h : WNM K r x xs M fun o M' => ∃ d, o.frz = some d ∧ Q (.d d) M') : WM K r x xs M Q := fun as F H v vs w r0 r1 Qc c => h as F H v vs w r0 r1 Qc (.frz c)
theorem wm_own {r : V → List V → Hp → VK → Prop} {xs : List X} (h : WNM K r x xs M fun o M' => Q (.m M'.length) (M' ++ [o])) : WM K r x xs M Q := fun as F H v vs w r0 r1 Qc c => h as F H v vs w r0 r1 Qc (.own c)
theorem wsl_frz {r : V → Option Int → Option Int → Hp → VK → Prop} {lo hi : Option Int} (h : WNSl K r x lo hi M fun o M' => ∃ d, o.frz = some d ∧ Q (.d d) M') : WSl K r x lo hi M Q := fun as F H v w r1 Qc c => h as F H v w r1 Qc (.frz c)
theorem wsl_own {r : V → Option Int → Option Int → Hp → VK → Prop} {lo hi : Option Int} (h : WNSl K r x lo hi M fun o M' => Q (.m M'.length) (M' ++ [o])) : WSl K r x lo hi M Q := fun as F H v w r1 Qc c => h as F H v w r1 Qc (.own c)
/-- the same ahead: what comes is new -/
theorem wn_op {r : R2} (h : WE K ta env M fun x M1 => WE K tb env M1 fun y M2 => WN2 K r x y M2 QN) : WN K (tOp r ta tb) env M QN := fun as F H σ w s Qc c =>
  h as F H σ w s _ fun x M1 a1 F1 H1 v s1 w1 r1 q1 => q1 a1 F1 H1 σ w1 (s.mono s1.ex s1.pre) _ fun y M2 a2 F2 H2 u s2 w2 r2 q2 =>
    q2 a2 F2 H2 v u w2 (r1.mono s2.ex s2.pre) r2 Qc (c.step (s1.trans s2))
theorem wn_cb {r : List V → Hp → VK → Prop} {t : TA} (h : WA K t env M fun xs M1 => WNC K r xs M1 QN) : WN K (tCB r t) env M QN := fun as F H σ w s Qc c =>
  h as F H σ w s _ fun x M1 a1 F1 H1 v s1 w1 r1 q1 => q1 a1 F1 H1 v w1 r1 Qc (c.step s1)
theorem wn_slice {r : V → Option Int → Option Int → Hp → VK → Prop} {tl th : TO} (h : WE K te env M fun x M1 => WO K tl env M1 fun lo M2 => WO K th env M2 fun hi M3 => WNSl K r x lo hi M3 QN) : WN K (tSl r te tl th) env M QN := fun as F H σ w s Qc c =>
  h as F H σ w s _ fun x M1 a1 F1 H1 v s1 w1 r1 q1 => q1 a1 F1 H1 σ w1 (s.mono s1.ex s1.pre) _ fun lo M2 a2 F2 H2 s2 w2 q2 => q2 a2 F2 H2 σ w2 (s.mono (s1.ex.trans s2.ex) (s1.pre.trans s2.pre)) _ fun hi M3 a3 F3 H3 s3 w3 q3 =>
    q3 a3 F3 H3 v w3 (r1.mono (s2.ex.trans s3.ex) (s2.pre.trans s3.pre)) Qc (c.step ((s1.trans s2).trans s3))
theorem wn_bm {T : String} {r : V → List V → Hp → VK → Prop} {t : TA} (h : WE K te env M fun x M1 => (∀ as F H v, WF K as F H M1 → Rx K as F v x → tyV K T v H) ∧ WA K t env M1 fun xs M2 => WNM K r x xs M2 QN) : WN K (tBM K T r te t) env M QN := fun as F H σ w s Qc c =>
  h as F H σ w s _ fun x M1 a1 F1 H1 v s1 w1 r1 ⟨ty, q1⟩ => ⟨ty a1 F1 H1 v w1 r1, q1 a1 F1 H1 σ w1 (s.mono s1.ex s1.pre) _ fun xs M2 a2 F2 H2 vs s2 w2 r2 q2 =>
    q2 a2 F2 H2 v vs w2 (r1.mono s2.ex s2.pre) r2 Qc (c.step (s1.trans s2))⟩
theorem wn_m1 {r : V → List V → Hp → VK → Prop} (h : WE K te env M fun x M1 => (∃ a, x = .d (.str a)) ∧ WE K ta env M1 fun y M2 => WNM K r x [y] M2 QN) : WN K (tM1 r te ta) env M QN := fun as F H σ w s Qc c =>
  h as F H σ w s _ fun x M1 a1 F1 H1 v s1 w1 r1 ⟨⟨z, ez⟩, q1⟩ => ⟨by subst ez; cases r1 with | d r1 => cases r1; exact ⟨z, rfl⟩, q1 a1 F1 H1 σ w1 (s.mono s1.ex s1.pre) _ fun y M2 a2 F2 H2 u s2 w2 r2 q2 =>
    q2 a2 F2 H2 v [u] w2 (r1.mono s2.ex s2.pre) (.cons r2 .nil) Qc (c.step (s1.trans s2))⟩
/-! lists, tuples, written -/
def allD : List X → Option (List D)
  | [] => some []
  | .d d :: r => match allD r with
    | some ds => some (d :: ds)
    | none => none
  | .m _ :: _ => none
theorem allD_eq : ∀ {xs : List X} {ds : List D}, allD xs = some ds → xs = ds.map X.d
  | [], _, h => by cases h; rfl
  | .d d :: r, ds, h => by
    unfold allD at h
    cases e : allD r with
    | none => rw [e] at h; cases h
    | some es =>
      rw [e] at h
      cases h
      rw [allD_eq e]
      rfl
  | .m _ :: _, _, h => by cases h
theorem allD_map (ds : List D) : allD (ds.map X.d) = some ds := by
  induction ds with
  | nil => rfl
  | cons d r ih =>
    show (match allD (r.map X.d) with | some ds => some (d :: ds) | none => none) = _
    rw [ih]
theorem wn_lst {t : TA} (h : WA K t env M fun xs M1 => ∃ ds, allD xs = some ds ∧ ds.length ≤ sizeLine ∧ QN (.lst ds) M1) : WN K (tLst t) env M QN := fun as F H σ w s Qc c =>
  h as F H σ w s _ fun xs M1 a1 F1 H1 vs s1 w1 r1 ⟨ds, e, hl, q⟩ => by
    have e2 := allD_eq e
    subst e2
    have r2 := r1.ds
    exact ⟨by rw [r2.len]; exact hl, fun p hp => (c.step s1).lay (o := .lst ds) w1 hp (fun H' h' => ⟨vs, h', r2⟩) q⟩
theorem wn_lstX {t : TA} (h : WA K t env M fun xs M1 => xs.length ≤ sizeLine ∧ QN (.lstX xs) M1) : WN K (tLst t) env M QN := fun as F H σ w s Qc c =>
  h as F H σ w s _ fun xs M1 a1 F1 H1 vs s1 w1 r1 ⟨hl, q⟩ => ⟨by rw [r1.len]; exact hl, fun p hp => (c.step s1).lay (o := .lstX xs) w1 hp (fun H' h' => ⟨vs, h', r1⟩) q⟩
theorem we_tup {t : TA} (h : WA K t env M fun xs M1 => ∃ ds, allD xs = some ds ∧ ds.length ≤ sizeLine ∧ Q (.d (.tup ds)) M1) : WE K (tTup t) env M Q := fun as F H σ w s Qc c =>
  h as F H σ w s _ fun xs M1 a1 F1 H1 vs s1 w1 r1 ⟨ds, e, hl, q⟩ => by
    have e2 := allD_eq e
    subst e2
    have r2 := r1.ds
    refine ⟨by rw [r2.len]; exact hl, fun p hp => ?_⟩
    obtain ⟨w2, s2⟩ := w1.newD hp (.tup vs)
    exact c _ M1 a1 _ _ _ (s1.trans s2) w2 (.d (.tup (.inl (.inl upd_same)) (r2.mono s2.ex))) q
theorem wn_dnewK (q : QN (.dicK []) M) : WN K tDNewK env M QN := fun as F H σ w s Qc c p hp => c.lay (o := .dicK []) w hp (fun H' h' => ⟨[], h', rfl, .nil⟩) q
theorem wn_dnewT (q : QN (.dicT []) M) : WN K tDNewT env M QN := fun as F H σ w s Qc c p hp => c.lay (o := .dicT []) w hp (fun H' h' => ⟨[], h', rfl, .nil⟩) q
end

/-! ### statements -/
section
variable {t u : TS} {c : TT} {g : TG}
theorem ws_next (q : E.nx env M) : WS K tNext env M E := fun as F H σ w s D c => c.nx env M as F H σ Step.refl w s q
theorem ws_seq (h : WS K t env M { E with nx := fun e1 M1 => WS K u e1 M1 E }) : WS K (tSeq t u) env M E := fun as F H σ w s D c =>
  h as F H σ w s _ ⟨fun e1 M1 a1 F1 H1 σ1 s1 w1 r1 q1 => q1 a1 F1 H1 σ1 w1 r1 D (c.step s1), c.rt, c.bk, c.ct⟩
theorem ws_break (q : E.bk env M) : WS K tBreak env M E := fun as F H σ w s D c => c.bk env M as F H σ Step.refl w s q
theorem ws_cont (q : E.ct env M) : WS K tCont env M E := fun as F H σ w s D c => c.ct env M as F H σ Step.refl w s q
theorem ws_drop (h : WE K te env M fun _ M1 => E.nx env M1) : WS K (tDrop te) env M E := fun as F H σ w s D c =>
  h as F H σ w s _ fun x M1 a1 F1 H1 v s1 w1 r1 q1 => c.nx env M1 a1 F1 H1 σ s1 w1 (s.mono s1.ex s1.pre) q1
theorem ws_ret (h : WE K te env M E.rt) : WS K (tRet te) env M E := fun as F H σ w s D c =>
  h as F H σ w s _ fun x M1 a1 F1 H1 v s1 w1 r1 q1 => c.rt x M1 a1 F1 H1 v s1 w1 r1 q1
theorem ws_retN (q : E.rt (.d .non) M) : WS K tRetN env M E := fun as F H σ w s D c => c.rt _ M as F H _ Step.refl w (.d .non) q
theorem ws_if (h : WT K c env M fun b M1 => if b = true then WS K t env M1 E else WS K u env M1 E) : WS K (tIfS c t u) env M E := fun as F H σ w s D cc =>
  h as F H σ w s _ fun b M1 a1 F1 H1 s1 w1 q1 => by
    cases b with
    | true => exact iteT (q1 a1 F1 H1 σ w1 (s.mono s1.ex s1.pre) D (cc.step s1))
    | false => exact iteF (q1 a1 F1 H1 σ w1 (s.mono s1.ex s1.pre) D (cc.step s1))
theorem ws_asg (h : WE K te env M fun x M1 => WG K g x env M1 E.nx) : WS K (tAsg te g) env M E := fun as F H σ w s D c =>
  h as F H σ w s _ fun x M1 a1 F1 H1 v s1 w1 r1 q1 => q1 a1 F1 H1 σ v w1 (s.mono s1.ex s1.pre) r1 D.nx fun e' M' a2 F2 H2 σ2 s2 w2 r2 q2 => c.nx e' M' a2 F2 H2 σ2 (s1.trans s2) w2 r2 q2
theorem ws_par {i j : Nat} {ta : TA} (h : WA K ta env M fun xs M1 => ∃ x y, xs = [x, y] ∧ E.nx ((env.set i (some x)).set j (some y)) M1) : WS K (tPar i j ta) env M E := fun as F H σ w s D c =>
  h as F H σ w s _ fun xs M1 a1 F1 H1 vs s1 w1 r1 ⟨x, y, e, q1⟩ => by
    subst e
    cases r1 with
    | cons r1 r2 => cases r2 with
      | cons r2 r3 =>
        cases r3
        exact ⟨_, _, rfl, c.nx _ M1 a1 F1 H1 _ s1 w1 (((s.mono s1.ex s1.pre).set i r1).set j r2) q1⟩
theorem ws_aug {i : Nat} {ti : TIp} (hx : env[i]? = some (some x)) (h : WE K te env M fun y M1 => W2 K ti x y M1 fun z M2 => E.nx (env.set i (some z)) M2) : WS K (tAug i te ti) env M E := fun as F H σ w s D c => by
  obtain ⟨v, h1, h2⟩ := s.2 i x hx
  exact ⟨v, h1, h as F H σ w s _ fun y M1 a1 F1 H1 u s1 w1 r1 q1 => q1 a1 F1 H1 v u w1 (h2.mono s1.ex s1.pre) r1 _ fun z M2 a2 F2 H2 zv s2 w2 r2 q2 =>
    c.nx _ M2 a2 F2 H2 _ (s1.trans s2) w2 (((s.mono s1.ex s1.pre).mono s2.ex s2.pre).set i r2) q2⟩
/-- the way things are: slots forgotten, the last own objects let go -/
theorem ws_weak {env' : Env} (h : WS K t env' M E) (hl : env'.length = env.length) (he : ∀ (i : Nat) (x : X), env'[i]? = some (some x) → env[i]? = some (some x)) : WS K t env M E := fun as F H σ w s D c =>
  h as F H σ w (s.forget hl he) D c
theorem wg_name {i : Nat} {N : Env → List O → Prop} (q : N (env.set i (some x)) M) : WG K (gName i) x env M N := fun as F H σ v w s r Qc c => c _ M as F H _ Step.refl w (s.set i r) q
theorem wgs_nil {N : Env → List O → Prop} (q : N env M) : WGs K gNil [] env M N := fun as F H σ vs w s r Qc c => by
  cases r
  exact ⟨rfl, c _ M as F H _ Step.refl w s q⟩
theorem wgs_cons {gs : TGs} {xs : List X} {N : Env → List O → Prop} (h : WG K g x env M fun e1 M1 => WGs K gs xs e1 M1 N) : WGs K (gCons g gs) (x :: xs) env M N := fun as F H σ vs w s r Qc c => by
  cases r with
  | cons r1 r2 =>
    exact ⟨_, _, rfl, h as F H σ _ w s r1 _ fun e1 M1 a1 F1 H1 σ1 s1 w1 q1 h1 => h1 a1 F1 H1 σ1 _ w1 q1 (r2.mono s1.ex s1.pre) Qc (c.step s1)⟩
theorem wg_tup {n : Nat} {gs : TGs} {ds : List D} {N : Env → List O → Prop} (hn : ds.length = n) (h : WGs K gs (ds.map X.d) env M N) : WG K (gTup K n gs) (.d (.tup ds)) env M N := fun as F H σ v w s r Qc c => by
  cases r with
  | d r =>
    cases r with
    | @tup a vs _ h1 h2 => exact ⟨a, vs, rfl, w.ex.sqT h1, by rw [h2.len]; exact hn, h as F H σ vs w s h2.xs Qc c⟩
theorem wg_sub {to ti : TE} {ts : TSet} {N : Env → List O → Prop} (h : WE K to env M fun o M1 => WE K ti env M1 fun i M2 => WSet K ts o i x M2 fun M3 => N env M3) : WG K (gSub to ti ts) x env M N := fun as F H σ v w s r Qc c =>
  h as F H σ w s _ fun o M1 a1 F1 H1 vo s1 w1 r1 q1 => q1 a1 F1 H1 σ w1 (s.mono s1.ex s1.pre) _ fun i M2 a2 F2 H2 vi s2 w2 r2 q2 =>
    q2 a2 F2 H2 vo vi v w2 (r1.mono s2.ex s2.pre) r2 ((r.mono s1.ex s1.pre).mono s2.ex s2.pre) _ fun M3 a3 F3 H3 s3 w3 q3 => c env M3 a3 F3 H3 σ ((s1.trans s2).trans s3) w3 (((s.mono s1.ex s1.pre).mono s2.ex s2.pre).mono s3.ex s3.pre) q3
/-- while: I the word, by a measure -/
theorem ws_while (I : Nat → Env → List O → Prop) (m0 : Nat) (h0 : I m0 env M)
    (hs : ∀ m e1 M1, I m e1 M1 → WT K c e1 M1 fun b M2 => if b = true then WS K t e1 M2 { E with nx := fun e' M' => ∃ m', m' < m ∧ I m' e' M', ct := fun e' M' => ∃ m', m' < m ∧ I m' e' M', bk := E.nx } else E.nx e1 M2) : WS K (tWhile c t) env M E := fun as F H σ w s D cc => by
  refine ⟨fun m σ' H' => ∃ e1 M1 a1 F1, Step as F H a1 F1 H' ∧ WF K a1 F1 H' M1 ∧ SlR K a1 F1 σ' e1 ∧ I m e1 M1, ⟨m0, env, M, as, F, Step.refl, w, s, h0⟩, ?_⟩
  rintro m σ' H1 ⟨e1, M1, a1, F1, s1, w1, r1, i1⟩
  refine hs m e1 M1 i1 a1 F1 H1 σ' w1 r1 _ fun b M2 a2 F2 H2 s2 w2 q2 => ?_
  cases b with
  | false => exact iteF (cc.nx e1 M2 a2 F2 H2 σ' (s1.trans s2) w2 (r1.mono s2.ex s2.pre) q2)
  | true =>
    refine iteT ⟨fun σ3 H3 => ∃ m', m' < m ∧ ∃ e1 M1 a1 F1, Step as F H a1 F1 H3 ∧ WF K a1 F1 H3 M1 ∧ SlR K a1 F1 σ3 e1 ∧ I m' e1 M1, fun σ3 H3 h => h, ?_⟩
    have cc2 := cc.step (s1.trans s2)
    exact q2 a2 F2 H2 σ' w2 (r1.mono s2.ex s2.pre) _ ⟨fun e' M' a3 F3 H3 σ3 s3 w3 r3 ⟨m', hm, q3⟩ => ⟨m', hm, e', M', a3, F3, (s1.trans s2).trans s3, w3, r3, q3⟩, cc2.rt, fun e' M' a3 F3 H3 σ3 s3 w3 r3 q3 => cc2.nx e' M' a3 F3 H3 σ3 s3 w3 r3 q3,
      fun e' M' a3 F3 H3 σ3 s3 w3 r3 ⟨m', hm, q3⟩ => ⟨m', hm, e', M', a3, F3, (s1.trans s2).trans s3, w3, r3, q3⟩⟩
end
end
end PD

/-! PDc: operators, built-ins, loops, comprehensions, calls. -/
namespace PD
open PySem L2

/-! ### readings that serve several kinds of values -/
theorem OpR.or {X : Cx} {f : Value → Value → Sem Value} {r r' : R2} (h : OpR X f r) (h' : OpR X f r') : OpR X f (fun x y H Q => r x y H Q ∨ r' x y H Q) := fun pins s σ H x y v u Q I rx ry q =>
  q.elim (h pins s σ H x y v u Q I rx ry) (h' pins s σ H x y v u Q I rx ry)
theorem CallR.or {X : Cx} {f : Value} {r r' : List V → Hp → VK → Prop} (h : CallR X f r) (h' : CallR X f r') : CallR X f (fun x H Q => r x H Q ∨ r' x H Q) := fun pins s σ H x v Q I rx q =>
  q.elim (h pins s σ H x v Q I rx) (h' pins s σ H x v Q I rx)
theorem mt_or {X : Cx} {id : String} {r r' : V → List V → Hp → VK → Prop} (h : MtR X id r) (h' : MtR X id r') : MtR X id (fun x xs H Q => r x xs H Q ∨ r' x xs H Q) := MtR.or h h'
def rStrCat : R2 := fun x y H Q => ∃ i j, x = .str i ∧ y = .str j ∧ i.length + j.length ≤ sizeLine ∧ Q (.str (i ++ j)) H
def rAddA (K : PySem.W.Frag) : R2 := fun x y H Q => rI0 (fun i j => .int (i + j)) x y H Q ∨ (rCat x y H Q ∨ (rCatA K x y H Q ∨ rStrCat x y H Q))
theorem op_addA {X : Cx} : OpR X (binaryOp .Add) (rAddA X.K) := OpR.or op_add (OpR.or op_cat (OpR.or op_catA op_add_str))
def rMulA (K : PySem.W.Frag) : R2 := fun x y H Q => rI CMulW (fun i j => .int (i * j)) x y H Q ∨ (rRep x y H Q ∨ rRepT K x y H Q)
theorem op_mulA {X : Cx} : OpR X (binaryOp .Mult) (rMulA X.K) := OpR.or op_mulW (OpR.or op_rep op_repT)
abbrev rSubI : R2 := rI0 fun i j => .int (i - j)
abbrev rFdiv : R2 := rI CDivW fun i j => .int (i / j)
abbrev rMod : R2 := rI (fun _ j => 0 < j) fun i j => .int (i % j)
abbrev rPow : R2 := rI CPow fun i j => .int (i ^ j.toNat)
abbrev rLtI : R2 := rI0 fun i j => .bl (decide (i < j))
abbrev rLeI : R2 := rI0 fun i j => .bl (decide (i ≤ j))
abbrev rGtI : R2 := rI0 fun i j => .bl (decide (j < i))
abbrev rGeI : R2 := rI0 fun i j => .bl (decide (j ≤ i))
def rEqA (K : PySem.W.Frag) : R2 := fun x y H Q => rEq x y H Q ∨ rEqD K x y H Q
theorem op_eqA {X : Cx} (hu : X.A.units + 64 < cLine) : OpR X (compareOp .Eq) (rEqA X.K) := OpR.or op_eq (op_eqD hu)
def rNeA (K : PySem.W.Frag) : R2 := fun x y H Q => rNe x y H Q ∨ rNeD K x y H Q
theorem op_neA {X : Cx} (hu : X.A.units + 64 < cLine) : OpR X (compareOp .NotEq) (rNeA X.K) := OpR.or op_ne (op_neD hu)
def rDIn (neg : Bool) : R2 := fun x y H Q => ∃ a o, y = .ref a ∧ DGet H a x o ∧ Q (.bl (if neg then !o.isSome else o.isSome)) H
theorem op_dIn {X : Cx} (hu : X.A.units + 1 < cLine) : OpR X (compareOp .In) (rDIn false) := by
  intro pins s σ H x y v u Q I rx ry ⟨a, o, e, g, q⟩
  subst e
  obtain rfl : u = Value.ref a := ry
  exact d_in hu I g rx fun s3 I3 => ⟨.bl o.isSome, H, I3, rfl, q⟩
theorem op_dNotIn {X : Cx} (hu : X.A.units + 1 < cLine) : OpR X (compareOp .NotIn) (rDIn true) := by
  intro pins s σ H x y v u Q I rx ry ⟨a, o, e, g, q⟩
  subst e
  obtain rfl : u = Value.ref a := ry
  exact d_notIn hu I g rx fun s3 I3 => ⟨.bl (!o.isSome), H, I3, rfl, q⟩
def rSignIn (neg : Bool) : R2 := fun x y H Q => ∃ (c : Nat) (z : Str), x = .str ⟨#[c]⟩ ∧ y = .str z ∧ Q (.bl (if neg then !decide (c ∈ z.cps.toList) else decide (c ∈ z.cps.toList))) H
theorem op_signIn {X : Cx} : OpR X (compareOp .In) (rSignIn false) := op_in_sign
theorem op_signNotIn {X : Cx} : OpR X (compareOp .NotIn) (rSignIn true) := op_notIn_sign
def rInA (K : PySem.W.Frag) (neg : Bool) : R2 := fun x y H Q => rIn K neg x y H Q ∨ (rDIn neg x y H Q ∨ rSignIn neg x y H Q)
theorem op_inA {X : Cx} (hu : X.A.units + 64 < cLine) : OpR X (compareOp .In) (rInA X.K false) := OpR.or op_in_seq (OpR.or (op_dIn (by omega)) op_signIn)
theorem op_notInA {X : Cx} (hu : X.A.units + 64 < cLine) : OpR X (compareOp .NotIn) (rInA X.K true) := OpR.or op_notIn_seq (OpR.or (op_dNotIn (by omega)) op_signNotIn)
def rLenA (K : PySem.W.Frag) : List V → Hp → VK → Prop := fun xs H Q => (∃ p ys, xs = [.ref p] ∧ (SqL K H p ys ∨ SqT K H p ys) ∧ Q (.int ys.length) H) ∨ (∃ z, xs = [.str z] ∧ z.length ≤ sizeLine ∧ Q (.int z.length) H)
theorem call_lenA {X : Cx} : CallR X (.builtin "len") (rLenA X.K) := CallR.or call_len_seq call_len_str
def rListA (K : PySem.W.Frag) : List V → Hp → VK → Prop := fun xs H Q => ∃ p ys, xs = [.ref p] ∧ (SqL K H p ys ∨ SqT K H p ys) ∧ ∀ l, H l = none → Q (.ref l) (upd H l (.lst ys))
theorem call_listA {X : Cx} : CallR X (.type "list") (rListA X.K) := call_list_of
def rIntA : List V → Hp → VK → Prop := fun xs H Q => ((∃ i, xs = [.int i] ∧ Q (.int i) H) ∨ ∃ k, xs = [.bl k] ∧ Q (.int (if k then 1 else 0)) H) ∨ ∃ a n, xs = [.str a] ∧ PySem.intText? a = some n ∧ a.length ≤ 640 ∧ Q (.int n) H
theorem call_intA {X : Cx} : CallR X (.type "int") rIntA := CallR.or call_int1 call_int_str
def rMax2 : List V → Hp → VK → Prop := fun xs H Q => ∃ i j, xs = [.int i, .int j] ∧ Q (.int (if j > i then j else i)) H
def rMin2 : List V → Hp → VK → Prop := fun xs H Q => ∃ i j, xs = [.int i, .int j] ∧ Q (.int (if j < i then j else i)) H
def rMaxA (K : PySem.W.Frag) : List V → Hp → VK → Prop := fun xs H Q => rMax2 xs H Q ∨ rMax K xs H Q
def rMinA (K : PySem.W.Frag) : List V → Hp → VK → Prop := fun xs H Q => rMin2 xs H Q ∨ rMin K xs H Q
theorem call_maxA {X : Cx} (hc : X.calm = true) : CallR X (.builtin "max") (rMaxA X.K) := CallR.or (call_max2 hc) (cr_max hc)
theorem call_minA {X : Cx} (hc : X.calm = true) : CallR X (.builtin "min") (rMinA X.K) := CallR.or (call_min2 hc) (cr_min hc)
/-- pop() and pop(i) -/
def rPopA : V → List V → Hp → VK → Prop := fun x xs H Q => rPop x xs H Q ∨ rPopAt x xs H Q
theorem mt_popA {X : Cx} : MtR X "list.pop" rPopA := MtR.or mt_pop mt_popAt

section
variable {K : PySem.W.Frag} {F F' H H' : Hp} {as as' : List Addr} {σ : St} {env : Env} {M M1 : List O} {Q Q' : X → List O → Prop} {QN : O → List O → Prop} {te ta tb : TE} {x y : X} {E : En}

/-! ### looking through an own object -/
def vw (M : List O) : X → Option D
  | .d d => some d
  | .m k => (M[k]?).bind O.frz
theorem Ro.see {a : Addr} {o : O} {d : D} (w : WF K as F H M) (h : o.frz = some d) (r : Ro K as F H a o) : Rp K H (.ref a) d := by
  cases o with
  | lst ds =>
    cases h
    obtain ⟨vs, h1, h2⟩ := r
    exact .lst h1 (h2.mono w.ex)
  | dicK ds =>
    cases h
    obtain ⟨vs, h1, h0, h2⟩ := r
    exact .dicK h1 h0 (h2.mono w.ex)
  | dicT ds =>
    cases h
    obtain ⟨vs, h1, h0, h2⟩ := r
    exact .dicT h1 h0 (h2.mono w.ex)
  | ins C ds =>
    cases h
    obtain ⟨dx, vs, h1, h0, h2⟩ := r
    exact .obj h1 h0 (h2.mono w.ex)
  | lstX _ => cases h
  | dead => cases h
theorem vw_rp {v : V} {d : D} (w : WF K as F H M) (r : Rx K as F v x) (h : vw M x = some d) : Rp K H v d := by
  cases r with
  | d r => cases h; exact r.mono w.ex
  | @m a k ha =>
    obtain ⟨o, ho, h2⟩ := Option.bind_eq_some_iff.mp h
    obtain ⟨b, hb, r⟩ := w.at_ k o ho
    rw [ha] at hb
    cases hb
    exact Ro.see w h2 r
/-- the items of a list (own or not) -/
def O.ls : O → Option (List D)
  | .lst ds => some ds
  | _ => none
def vl (M : List O) : X → Option (List D)
  | .d (.lst ds) => some ds
  | .d (.slst ds) => some ds
  | .m k => (M[k]?).bind O.ls
  | _ => none
theorem vw_list {v : V} {ds : List D} (w : WF K as F H M) (r : Rx K as F v x) (h : vl M x = some ds) : ∃ a vs, v = .ref a ∧ SqL K H a vs ∧ Rps K F vs ds := by
  cases r with
  | @d v z r =>
    cases r <;> first
      | (rename_i h1 h2; cases (show some _ = some ds from h); first | exact ⟨_, _, rfl, .inl (.inl (w.ex _ _ h1)), h2⟩ | exact ⟨_, _, rfl, w.ex.sqL h1, h2⟩)
      | exact absurd h (by intro z; cases z)
  | @m a k ha =>
    obtain ⟨o, ho, h2⟩ := Option.bind_eq_some_iff.mp h
    obtain ⟨b, hb, r⟩ := w.at_ k o ho
    rw [ha] at hb
    cases hb
    cases o <;> first
      | (cases h2; obtain ⟨vs, h1, h3⟩ := r; exact ⟨_, _, rfl, .inl (.inl h1), h3⟩)
      | exact absurd h2 (by intro z; cases z)
theorem rp_list {v : V} {ds : List D} (r : Rp K F v (.lst ds)) : ∃ a vs, v = .ref a ∧ F a = some (.lst vs) ∧ Rps K F vs ds := by
  cases r with
  | lst h1 h2 => exact ⟨_, _, rfl, h1, h2⟩
theorem rp_tup {v : V} {ds : List D} (r : Rp K F v (.tup ds)) : ∃ a vs, v = .ref a ∧ SqT K F a vs ∧ Rps K F vs ds := by
  cases r with
  | tup h1 h2 => exact ⟨_, _, rfl, h1, h2⟩
theorem rx_int {v : V} {i : Int} (r : Rx K as F v (.d (.int i))) : v = .int i := by
  cases r with
  | d r => cases r; rfl
theorem rx_str {v : V} {i : Str} (r : Rx K as F v (.d (.str i))) : v = .str i := by
  cases r with
  | d r => cases r; rfl
theorem rx_bl {v : V} {i : Bool} (r : Rx K as F v (.d (.bl i))) : v = .bl i := by
  cases r with
  | d r => cases r; rfl
/-- an own list's place -/
theorem own_list {v : V} {k : Nat} {ds : List D} (w : WF K as F H M) (r : Rx K as F v (.m k)) (h : M[k]? = some (.lst ds)) : ∃ a vs, v = .ref a ∧ as[k]? = some a ∧ H a = some (.lst vs) ∧ Rps K F vs ds := by
  cases r with
  | @m a k ha =>
    obtain ⟨b, hb, r⟩ := w.at_ k _ h
    rw [ha] at hb
    cases hb
    obtain ⟨vs, h1, h3⟩ := r
    exact ⟨_, _, rfl, ha, h1, h3⟩

/-! ### ints -/
section
variable {i j : Int}
theorem w2_add (q : Q (.d (.int (i + j))) M) : W2 K (rAddA K) (.d (.int i)) (.d (.int j)) M Q := fun as F H v u w r1 r2 Qc c => by
  rw [rx_int r1, rx_int r2]
  exact .inl ⟨i, j, rfl, rfl, c.go w (.d (.int _)) q⟩
theorem w2_mul (h : CMulW i j) (q : Q (.d (.int (i * j))) M) : W2 K (rMulA K) (.d (.int i)) (.d (.int j)) M Q := fun as F H v u w r1 r2 Qc c => by
  rw [rx_int r1, rx_int r2]
  exact .inl ⟨i, j, rfl, rfl, h, c.go w (.d (.int _)) q⟩
theorem w2_rI {C : Int → Int → Prop} {g : Int → Int → Int} (h : C i j) (q : Q (.d (.int (g i j))) M) : W2 K (rI C fun i j => .int (g i j)) (.d (.int i)) (.d (.int j)) M Q := fun as F H v u w r1 r2 Qc c => by
  rw [rx_int r1, rx_int r2]
  exact ⟨i, j, rfl, rfl, h, c.go w (.d (.int _)) q⟩
theorem w2_rI0 {g : Int → Int → Int} (q : Q (.d (.int (g i j))) M) : W2 K (rI0 fun i j => .int (g i j)) (.d (.int i)) (.d (.int j)) M Q := fun as F H v u w r1 r2 Qc c => by
  rw [rx_int r1, rx_int r2]
  exact ⟨i, j, rfl, rfl, c.go w (.d (.int _)) q⟩
theorem w2_sub (q : Q (.d (.int (i - j))) M) : W2 K rSubI (.d (.int i)) (.d (.int j)) M Q := w2_rI0 (g := fun i j => i - j) q
theorem w2_fdiv (h : CDivW i j) (q : Q (.d (.int (i / j))) M) : W2 K rFdiv (.d (.int i)) (.d (.int j)) M Q := w2_rI (g := fun i j => i / j) h q
theorem w2_mod (h : 0 < j) (q : Q (.d (.int (i % j))) M) : W2 K rMod (.d (.int i)) (.d (.int j)) M Q := w2_rI (C := fun _ j => 0 < j) (g := fun i j => i % j) h q
theorem w2_pow (h : CPow i j) (q : Q (.d (.int (i ^ j.toNat))) M) : W2 K rPow (.d (.int i)) (.d (.int j)) M Q := w2_rI (g := fun i j => i ^ j.toNat) h q
theorem w2_cmp {g : Int → Int → Bool} (q : Q (.d (.bl (g i j))) M) : W2 K (rI0 fun i j => .bl (g i j)) (.d (.int i)) (.d (.int j)) M Q := fun as F H v u w r1 r2 Qc c => by
  rw [rx_int r1, rx_int r2]
  exact ⟨i, j, rfl, rfl, c.go w (.d (.bl _)) q⟩
theorem w2_lt (q : Q (.d (.bl (decide (i < j)))) M) : W2 K rLtI (.d (.int i)) (.d (.int j)) M Q := w2_cmp (g := fun i j => decide (i < j)) q
theorem w2_le (q : Q (.d (.bl (decide (i ≤ j)))) M) : W2 K rLeI (.d (.int i)) (.d (.int j)) M Q := w2_cmp (g := fun i j => decide (i ≤ j)) q
theorem w2_gt (q : Q (.d (.bl (decide (j < i)))) M) : W2 K rGtI (.d (.int i)) (.d (.int j)) M Q := w2_cmp (g := fun i j => decide (j < i)) q
theorem w2_ge (q : Q (.d (.bl (decide (j ≤ i)))) M) : W2 K rGeI (.d (.int i)) (.d (.int j)) M Q := w2_cmp (g := fun i j => decide (j ≤ i)) q
theorem dec_int : decide ((V.int i) = (V.int j)) = decide (i = j) := by
  by_cases h : i = j
  · subst h; simp
  · rw [decide_eq_false h, decide_eq_false (fun z => h (V.int.inj z))]
theorem w2_eq (q : Q (.d (.bl (decide (i = j)))) M) : W2 K (rEqA K) (.d (.int i)) (.d (.int j)) M Q := fun as F H v u w r1 r2 Qc c => by
  rw [rx_int r1, rx_int r2]
  refine .inl ⟨rfl, ?_⟩
  rw [dec_int]
  exact c.go w (.d (.bl _)) q
theorem w2_ne (q : Q (.d (.bl (!decide (i = j)))) M) : W2 K (rNeA K) (.d (.int i)) (.d (.int j)) M Q := fun as F H v u w r1 r2 Qc c => by
  rw [rx_int r1, rx_int r2]
  refine .inl ⟨rfl, ?_⟩
  rw [dec_int]
  exact c.go w (.d (.bl _)) q
theorem w1_neg (q : Q (.d (.int (-i))) M) : W1 K (rU fun i => .int (-i)) (.d (.int i)) M Q := fun as F H v w r1 Qc c => by
  rw [rx_int r1]
  exact ⟨i, rfl, c.go w (.d (.int _)) q⟩
theorem wc_int (q : Q (.d (.int i)) M) : WC K rIntA [.d (.int i)] M Q := fun as F H vs w r Qc c => by
  cases r with
  | cons r1 r2 => cases r2; rw [rx_int r1]; exact .inl (.inl ⟨i, rfl, c.go w (.d (.int _)) q⟩)
theorem wc_intB {k : Bool} (q : Q (.d (.int (if k then 1 else 0))) M) : WC K rIntA [.d (.bl k)] M Q := fun as F H vs w r Qc c => by
  cases r with
  | cons r1 r2 => cases r2; rw [rx_bl r1]; exact .inl (.inr ⟨k, rfl, c.go w (.d (.int _)) q⟩)
theorem wc_max2 (q : Q (.d (.int (if j > i then j else i))) M) : WC K (rMaxA K) [.d (.int i), .d (.int j)] M Q := fun as F H vs w r Qc c => by
  cases r with
  | cons r1 r2 => cases r2 with
    | cons r2 r3 => cases r3; rw [rx_int r1, rx_int r2]; exact .inl ⟨i, j, rfl, c.go w (.d (.int _)) q⟩
theorem wc_min2 (q : Q (.d (.int (if j < i then j else i))) M) : WC K (rMinA K) [.d (.int i), .d (.int j)] M Q := fun as F H vs w r Qc c => by
  cases r with
  | cons r1 r2 => cases r2 with
    | cons r2 r3 => cases r3; rw [rx_int r1, rx_int r2]; exact .inl ⟨i, j, rfl, c.go w (.d (.int _)) q⟩
end

/-! ### truth -/
theorem tru_lst {ds : List D} (h : vl M x = some ds) : WTru K x M (!ds.isEmpty) := fun as F H v w r => by
  obtain ⟨a, vs, rfl, h1, h2⟩ := vw_list w r h
  refine .inl ⟨vs, h1, ?_⟩
  cases h2 <;> rfl
theorem tru_bl {b : Bool} : WTru K (.d (.bl b)) M b := fun as F H v w r => by rw [rx_bl r]; rfl
theorem tru_int {i : Int} : WTru K (.d (.int i)) M (i != 0) := fun as F H v w r => by rw [rx_int r]; rfl
theorem tru_non : WTru K (.d .non) M false := fun as F H v w r => by cases r with | d r => cases r; rfl

/-! ### lists -/
theorem rps_eq_len {vs : List V} {ds : List D} (h : Rps K F vs ds) : vs.length = ds.length := h.len
theorem wc_len {ds : List D} (h : vl M x = some ds) (q : Q (.d (.int ds.length)) M) : WC K (rLenA K) [x] M Q := fun as F H vs w r Qc c => by
  cases r with
  | cons r1 r2 =>
    cases r2
    obtain ⟨a, us, rfl, h1, h2⟩ := vw_list w r1 h
    exact .inl ⟨a, us, rfl, .inl h1, by rw [h2.len]; exact c.go w (.d (.int _)) q⟩
theorem wc_lenT {ds : List D} (q : Q (.d (.int ds.length)) M) : WC K (rLenA K) [.d (.tup ds)] M Q := fun as F H vs w r Qc c => by
  cases r with
  | cons r1 r2 =>
    cases r2
    cases r1 with
    | d r1 =>
      obtain ⟨a, us, rfl, h1, h2⟩ := rp_tup r1
      exact .inl ⟨a, us, rfl, .inr (w.ex.sqT h1), by rw [h2.len]; exact c.go w (.d (.int _)) q⟩
theorem wc_lenS {z : Str} (h : z.length ≤ sizeLine) (q : Q (.d (.int z.length)) M) : WC K (rLenA K) [.d (.str z)] M Q := fun as F H vs w r Qc c => by
  cases r with
  | cons r1 r2 => cases r2; rw [rx_str r1]; exact .inr ⟨z, rfl, h, c.go w (.d (.int _)) q⟩
theorem wnc_list {ds : List D} (h : vl M x = some ds) (q : QN (.lst ds) M) : WNC K (rListA K) [x] M QN := fun as F H vs w r Qc c => by
  cases r with
  | cons r1 r2 =>
    cases r2
    obtain ⟨a, us, rfl, h1, h2⟩ := vw_list w r1 h
    exact ⟨a, us, rfl, .inl h1, fun l hl => c.lay (o := .lst ds) w hl (fun H' h' => ⟨us, h', h2⟩) q⟩
theorem wnc_listT {ds : List D} (q : QN (.lst ds) M) : WNC K (rListA K) [.d (.tup ds)] M QN := fun as F H vs w r Qc c => by
  cases r with
  | cons r1 r2 =>
    cases r2
    cases r1 with
    | d r1 =>
      obtain ⟨a, us, rfl, h1, h2⟩ := rp_tup r1
      exact ⟨a, us, rfl, .inr (w.ex.sqT h1), fun l hl => c.lay (o := .lst ds) w hl (fun H' h' => ⟨us, h', h2⟩) q⟩
/-- xs + ys: both are tracked lists -/
theorem sq_trk {a : Addr} {vs : List V} {o : HO} (h : H a = some o) (ho : o = .lst vs) : H a = some (.lst vs) := by rw [h, ho]
def D.trk : D → Prop := fun _ => True
theorem ix_get {α : Type} {xs : List α} {i : Int} {x : α} (h0 : 0 ≤ i) (h : xs[i.toNat]? = some x) : atI xs i = some x := by
  have hl := (List.getElem?_eq_some_iff.mp h).1
  unfold atI ixN
  rw [if_pos h0, if_pos (by omega)]
  exact h
theorem atI_map {α β : Type} {xs : List α} {ys : List β} {R : α → β → Prop} (hl : xs.length = ys.length) (hg : ∀ (i : Nat) (y : β), ys[i]? = some y → ∃ x, xs[i]? = some x ∧ R x y) {i : Int} {y : β} (h : atI ys i = some y) : ∃ x, atI xs i = some x ∧ R x y := by
  unfold atI at h ⊢
  rw [hl]
  cases e : ixN ys.length i with
  | none => rw [e] at h; cases h
  | some j => rw [e] at h; exact hg j y h
theorem w2_ix {ds : List D} {i : Int} {d : D} (h : vl M x = some ds) (hi : atI ds i = some d) (q : Q (.d d) M) : W2 K (rIx K) x (.d (.int i)) M Q := fun as F H v u w r1 r2 Qc c => by
  obtain ⟨a, us, rfl, h1, h2⟩ := vw_list w r1 h
  rw [rx_int r2]
  obtain ⟨z, hz, rz⟩ := atI_map (R := fun v d => Rp K F v d) h2.len (fun i y => h2.get) hi
  exact .inl ⟨a, us, i, z, rfl, rfl, h1, hz, c.go w (.d rz) q⟩
theorem w2_ixT {ds : List D} {i : Int} {d : D} (hi : atI ds i = some d) (q : Q (.d d) M) : W2 K (rIx K) (.d (.tup ds)) (.d (.int i)) M Q := fun as F H v u w r1 r2 Qc c => by
  cases r1 with
  | d r1 =>
    obtain ⟨a, us, rfl, h1, h2⟩ := rp_tup r1
    rw [rx_int r2]
    obtain ⟨z, hz, rz⟩ := atI_map (R := fun v d => Rp K F v d) h2.len (fun i y => h2.get) hi
    exact .inr (.inl ⟨a, us, i, z, rfl, rfl, w.ex.sqT h1, hz, c.go w (.d rz) q⟩)
theorem w2_ixS {z : Str} {i : Int} {n : Nat} (hz : z.length ≤ sizeLine) (hi : atI z.cps.toList i = some n) (q : Q (.d (.str ⟨#[n]⟩)) M) : W2 K (rIx K) (.d (.str z)) (.d (.int i)) M Q := fun as F H v u w r1 r2 Qc c => by
  rw [rx_str r1, rx_int r2]
  exact .inr (.inr ⟨z, i, n, rfl, rfl, hz, hi, c.go w (.d (.str _)) q⟩)
/-- an own list of own things -/
theorem w2_ixX {xs : List X} {i : Int} {k : Nat} {z : X} (h : M[k]? = some (.lstX xs)) (hi : atI xs i = some z) (q : Q z M) : W2 K (rIx K) (.m k) (.d (.int i)) M Q := fun as F H v u w r1 r2 Qc c => by
  cases r1 with
  | @m a k ha =>
    obtain ⟨b, hb, r⟩ := w.at_ k _ h
    rw [ha] at hb
    cases hb
    obtain ⟨vs, h1, h3⟩ := r
    rw [rx_int r2]
    obtain ⟨zv, hz, rz⟩ := atI_map (R := fun v x => Rx K as F v x) h3.len (fun i y => h3.get) hi
    exact .inl ⟨a, vs, i, zv, rfl, rfl, .inl (.inl h1), hz, c.go w rz q⟩
def cutL {α : Type} (xs : List α) (lo hi : Option Int) : List α := (xs.drop (HT.sIx xs.length 0 lo)).take (HT.sIx xs.length xs.length hi - HT.sIx xs.length 0 lo)
theorem Rps.cut {vs : List V} {ds : List D} (h : Rps K F vs ds) (lo hi : Option Int) : Rps K F (cutV vs lo hi) (cutL ds lo hi) := by
  unfold cutV cutL
  rw [h.len]
  exact (h.drop _).take _
theorem wsl_list {ds : List D} {lo hi : Option Int} (h : vl M x = some ds) (q : QN (.lst (cutL ds lo hi)) M) : WNSl K (rSlL K) x lo hi M QN := fun as F H v w r Qc c => by
  obtain ⟨a, us, rfl, h1, h2⟩ := vw_list w r h
  exact ⟨a, us, rfl, h1, fun p hp => c.lay (o := .lst (cutL ds lo hi)) w hp (fun H' h' => ⟨_, h', h2.cut lo hi⟩) q⟩
/-- the truth of a tracked list: a list that stands in the heap itself -/
def Tr (K : PySem.W.Frag) (x : X) (M : List O) (ds : List D) : Prop := ∀ as F H v, WF K as F H M → Rx K as F v x → ∃ a vs, v = .ref a ∧ H a = some (.lst vs) ∧ Rps K F vs ds
theorem tr_lst {ds : List D} : Tr K (.d (.lst ds)) M ds := fun as F H v w r => by
  cases r with
  | d r =>
    obtain ⟨a, vs, e, h1, h2⟩ := rp_list r
    exact ⟨a, vs, e, w.ex _ _ h1, h2⟩
theorem tr_own {k : Nat} {ds : List D} (h : M[k]? = some (.lst ds)) : Tr K (.m k) M ds := fun as F H v w r => by
  obtain ⟨a, vs, e, _, h1, h2⟩ := own_list w r h
  exact ⟨a, vs, e, h1, h2⟩
end

/-! ### new lists: they are tracked. A tree's lists are not told to be so, so + copies them first: D.lst from a display, a slice, a call -/
section
variable {K : PySem.W.Frag} {F F' H H' : Hp} {as as' : List Addr} {σ : St} {env : Env} {M M1 : List O} {Q Q' : X → List O → Prop} {QN : O → List O → Prop} {te ta tb : TE} {x y : X} {E : En}
theorem wn2_cat {ds es : List D} (h1 : Tr K x M ds) (h2 : Tr K y M es) (hz : ds.length + es.length ≤ sizeLine) (q : QN (.lst (ds ++ es)) M) : WN2 K (rAddA K) x y M QN := fun as F H v u w r1 r2 Qc c => by
  obtain ⟨a, vs, rfl, e1, p1⟩ := h1 as F H v w r1
  obtain ⟨b, us, rfl, e2, p2⟩ := h2 as F H u w r2
  exact .inr (.inl ⟨a, b, vs, us, rfl, rfl, e1, e2, by rw [p1.len, p2.len]; exact hz, fun p hp => c.lay (o := .lst (ds ++ es)) w hp (fun H' h' => ⟨_, h', p1.app p2⟩) q⟩)
theorem wn2_rep {ds : List D} {k : Int} (h1 : Tr K x M ds) (hk : -(2 ^ 63) ≤ k ∧ k < 2 ^ 63) (hz : ds.length * k.toNat ≤ sizeLine) (q : QN (.lst (List.replicate k.toNat ds).flatten) M) : WN2 K (rMulA K) x (.d (.int k)) M QN := fun as F H v u w r1 r2 Qc c => by
  obtain ⟨a, vs, rfl, e1, p1⟩ := h1 as F H v w r1
  rw [rx_int r2]
  exact .inr (.inl ⟨a, k, vs, rfl, rfl, e1, hk.1, hk.2, by rw [p1.len]; exact hz, fun p hp => c.lay (o := .lst _) w hp (fun H' h' => ⟨_, h', p1.rep _⟩) q⟩)
end
end PD

/-! PDd: loops, comprehensions, the calls of defs. -/
namespace PD
open PySem L2

section
variable (K : PySem.W.Frag)
/-- an iterator that yields these -/
def Yl (J : It) (as : List Addr) (F : Hp) (C : List O → Prop) (ds : List D) : Prop :=
  ∀ as' F' H' M', Ex F F' → as <+: as' → WF K as' F' H' M' → C M' → ∀ i : Nat,
    (∀ d, ds[i]? = some d → J.go i H' ∧ ∀ x H'', J.yld i H' x H'' → ∃ F'', Step as' F' H' as' F'' H'' ∧ WF K as' F'' H'' M' ∧ Rp K F'' x d) ∧ (ds.length ≤ i → J.stop i H')
def WI (wi : TI) (env : Env) (M : List O) (Q : List D → (List O → Prop) → List O → Prop) : Prop :=
  ∀ as F H σ, WF K as F H M → SlR K as F σ env → ∀ R : It → Hp → Prop, (∀ J ds C M' as' F' H', Step as F H as' F' H' → WF K as' F' H' M' → Yl K J as' F' C ds → Q ds C M' → R J H') → wi σ H R
/-- what a turn leaves: slots may be forgotten, the last own objects let go -/
def envOk (n : Nat) (e : Env) : Prop := ∀ (i k : Nat), e[i]? = some (some (.m k)) → k < n
def Rel (b : Nat) (I : Env → List O → Prop) (e : Env) (M : List O) : Prop :=
  I e M ∨ ∃ e' n, e'.length = e.length ∧ (∀ (i : Nat) (x : X), e'[i]? = some (some x) → e[i]? = some (some x)) ∧ b ≤ n ∧ n ≤ M.length ∧ envOk n e' ∧ (∀ (k : Nat) (xs : List X), k < n → M[k]? ≠ some (.lstX xs)) ∧ I e' (M.take n)
def ForOk (g : TG) (tb : TS) (ds : List D) (C : List O → Prop) (env : Env) (M1 : List O) (E : En) : Prop :=
  ∃ IV : Nat → Env → List O → Prop, IV 0 env M1 ∧ (∀ i e M', IV i e M' → C M') ∧
    (∀ i d e M', ds[i]? = some d → IV i e M' → WG K g (.d d) e M' fun e2 M2 => WS K tb e2 M2 { nx := Rel M1.length (IV (i + 1)), ct := Rel M1.length (IV (i + 1)), bk := E.nx, rt := E.rt }) ∧ ∀ e M', IV ds.length e M' → E.nx e M'
end
section
variable {K : PySem.W.Frag} {F F' H H' : Hp} {as as' : List Addr} {σ : St} {env : Env} {M M1 : List O} {Q Q' : X → List O → Prop} {QN : O → List O → Prop} {te ta tb : TE} {x y : X} {E : En}
theorem pre_len {as as' : List Addr} (h : as <+: as') : as.length ≤ as'.length := h.length_le
/-- the state behind a turn -/
theorem rel_state {b : Nat} {I : Env → List O → Prop} {e : Env} (w : WF K as F H M) (s : SlR K as F σ e) (r : Rel b I e M) {as0 : List Addr} {F0 H0 : Hp} (st : Step as0 F0 H0 as F H) (hb : b = as0.length) :
    ∃ as' M' e', Step as0 F0 H0 as' F H ∧ WF K as' F H M' ∧ SlR K as' F σ e' ∧ I e' M' := by
  rcases r with r | ⟨e', n, h1, h2, h3, h4, h5, h6, r⟩
  · exact ⟨as, M, e, st, w, s, r⟩
  · refine ⟨as.take n, M.take n, e', ⟨?_, st.ex, st.keep, st.live, st.newF, fun a ha => st.newA a (List.mem_of_mem_take ha)⟩, w.drop n h4 h6, ⟨s.1.trans h1.symm, fun i x q => ?_⟩, r⟩
    · have p1 := st.pre
      obtain ⟨t, ht⟩ := p1
      refine ⟨t.take (n - as0.length), ?_⟩
      rw [← ht, List.take_append]
      congr 1
      exact (List.take_of_length_le (by omega)).symm
    · obtain ⟨v, h7, h8⟩ := s.2 i x (h2 i x q)
      refine ⟨v, h7, ?_⟩
      cases h8 with
      | d h8 => exact .d h8
      | @m a k hk =>
        have := h5 i k q
        exact .m (by rw [List.getElem?_take_of_lt this]; exact hk)
theorem ws_for {wi : TI} {g : TG} {tb : TS} (h : WI K wi env M fun ds C M1 => ForOk K g tb ds C env M1 E) : WS K (tFor wi g tb) env M E := fun as F H σ w s D c => by
  refine h as F H σ w s _ fun J ds C M1 a1 F1 H1 s1 w1 yl ⟨IV, h0, hC, hs, hd⟩ => ?_
  refine ⟨fun i m σ' H' => m = ds.length - i ∧ i ≤ ds.length ∧ ∃ a2 F2 M2 e2, Step a1 F1 H1 a2 F2 H' ∧ WF K a2 F2 H' M2 ∧ SlR K a2 F2 σ' e2 ∧ IV i e2 M2,
    ⟨ds.length, by simp, Nat.zero_le _, a1, F1, M1, env, Step.refl, w1, s.mono s1.ex s1.pre, h0⟩, ?_⟩
  rintro i m σ2 H2 ⟨rfl, hi, a2, F2, M2, e2, s2, w2, r2, i2⟩
  obtain ⟨y1, y2⟩ := yl a2 F2 H2 M2 s2.ex s2.pre w2 (hC i e2 M2 i2) i
  by_cases hlt : i < ds.length
  · obtain ⟨hgo, hy⟩ := y1 ds[i] (List.getElem?_eq_getElem hlt)
    refine .inr ⟨hgo, fun σ' H' => ∃ a3 F3 M3 e3, Step a1 F1 H1 a3 F3 H' ∧ WF K a3 F3 H' M3 ∧ SlR K a3 F3 σ' e3 ∧ IV (i + 1) e3 M3, fun σ' H' q => ⟨ds.length - (i + 1), by omega, rfl, hlt, q⟩, fun x H3 hx => ?_⟩
    obtain ⟨F3, s3, w3, r3⟩ := hy x H3 hx
    refine hs i _ e2 M2 (List.getElem?_eq_getElem hlt) i2 a2 F3 H3 σ2 x w3 (r2.mono s3.ex s3.pre) (.d r3) _ fun e4 M4 a4 F4 H4 σ4 s4 w4 r4 q4 => ?_
    have s14 := (s2.trans s3).trans s4
    have hl1 : M1.length = a1.length := w1.len
    refine q4 a4 F4 H4 σ4 w4 r4 _ ⟨fun e5 M5 a5 F5 H5 σ5 s5 w5 r5 q5 => ?_, fun x5 M5 a5 F5 H5 v5 s5 w5 r5 q5 => c.rt x5 M5 a5 F5 H5 v5 ((s1.trans s14).trans s5) w5 r5 q5,
      fun e5 M5 a5 F5 H5 σ5 s5 w5 r5 q5 => c.nx e5 M5 a5 F5 H5 σ5 ((s1.trans s14).trans s5) w5 r5 q5, fun e5 M5 a5 F5 H5 σ5 s5 w5 r5 q5 => ?_⟩
    · obtain ⟨a6, M6, e6, st6, w6, r6, q6⟩ := rel_state w5 r5 q5 (s14.trans s5) hl1
      exact ⟨a6, F5, M6, e6, st6, w6, r6, q6⟩
    · obtain ⟨a6, M6, e6, st6, w6, r6, q6⟩ := rel_state w5 r5 q5 (s14.trans s5) hl1
      exact ⟨a6, F5, M6, e6, st6, w6, r6, q6⟩
  · have e : i = ds.length := by omega
    subst e
    exact .inl ⟨y2 (Nat.le_refl _), c.nx e2 M2 a2 F2 H2 σ2 (s1.trans s2) w2 r2 (hd e2 M2 i2)⟩

/-! ### what is walked -/
def dl : X → Option (List D)
  | .d (.lst ds) => some ds
  | .d (.slst ds) => some ds
  | _ => none
theorem dl_list {v : V} {ds : List D} (r : Rx K as F v x) (h : dl x = some ds) : ∃ a vs, v = .ref a ∧ SqL K F a vs ∧ Rps K F vs ds := by
  cases r with
  | @d v z r =>
    cases r <;> first
      | (rename_i h1 h2; cases (show some _ = some ds from h); first | exact ⟨_, _, rfl, .inl (.inl h1), h2⟩ | exact ⟨_, _, rfl, h1, h2⟩)
      | exact absurd h (by intro z; cases z)
  | m _ => cases h
theorem yl_list {a : Addr} {vs : List V} {ds : List D} (h1 : SqL K F a vs) (h2 : Rps K F vs ds) : Yl K (Itl K a) as F (fun _ => True) ds := fun a2 F2 H2 M2 e p w _ i => by
  have q : SqL K H2 a vs := w.ex.sqL (e.sqL h1)
  refine ⟨fun d hd => ?_, fun hi => ⟨vs, q, by rw [h2.len]; exact hi⟩⟩
  obtain ⟨v, hv, rv⟩ := h2.get hd
  refine ⟨⟨vs, v, q, hv⟩, fun x H3 ⟨e3, hx⟩ => ?_⟩
  subst e3
  have := hx vs q
  rw [hv] at this
  cases this
  exact ⟨F2, Step.refl, w, rv.mono e⟩
theorem wi_list {tl : TE} {Q : List D → (List O → Prop) → List O → Prop} (h : WE K tl env M fun x M1 => ∃ ds, (dl x = some ds ∧ Q ds (fun _ => True) M1) ∨ (∃ k, x = .m k ∧ M1[k]? = some (.lst ds) ∧ Q ds (fun M' => M'[k]? = some (.lst ds)) M1)) : WI K (iList K tl) env M Q := fun as F H σ w s R c =>
  h as F H σ w s _ fun x M1 a1 F1 H1 v s1 w1 r1 ⟨ds, q⟩ => by
    rcases q with ⟨e, q⟩ | ⟨k, ex, hk, q⟩
    · obtain ⟨a, vs, rfl, h1, h2⟩ := dl_list r1 e
      exact ⟨a, rfl, ⟨vs, w1.ex.sqL h1⟩, c _ ds _ M1 a1 F1 H1 s1 w1 (yl_list h1 h2) q⟩
    · subst ex
      obtain ⟨a, vs, rfl, ha, h1, h2⟩ := own_list w1 r1 hk
      refine ⟨a, rfl, ⟨vs, .inl (.inl h1)⟩, c _ ds _ M1 a1 F1 H1 s1 w1 (fun a2 F2 H2 M2 e p w2 hM i => ?_) q⟩
      obtain ⟨b, hb, us, h3, h4⟩ := w2.at_ k _ hM
      rw [pre_get p ha] at hb
      cases hb
      have q2 : SqL K H2 a us := .inl (.inl h3)
      refine ⟨fun d hd => ?_, fun hi => ⟨us, q2, by rw [h4.len]; exact hi⟩⟩
      obtain ⟨v, hv, rv⟩ := h4.get hd
      refine ⟨⟨us, v, q2, hv⟩, fun x H3 ⟨e3, hx⟩ => ?_⟩
      subst e3
      have := hx us q2
      rw [hv] at this
      cases this
      exact ⟨F2, Step.refl, w2, rv⟩
theorem wi_tup {tl : TE} {Q : List D → (List O → Prop) → List O → Prop} (h : WE K tl env M fun x M1 => ∃ ds, x = .d (.tup ds) ∧ Q ds (fun _ => True) M1) : WI K (iTup K tl) env M Q := fun as F H σ w s R c =>
  h as F H σ w s _ fun x M1 a1 F1 H1 v s1 w1 r1 ⟨ds, e, q⟩ => by
    subst e
    cases r1 with
    | d r1 =>
      obtain ⟨a, vs, rfl, h1, h2⟩ := rp_tup r1
      refine ⟨a, rfl, ⟨vs, w1.ex.sqT h1⟩, c _ ds (fun _ => True) M1 a1 F1 H1 s1 w1 (fun a2 F2 H2 M2 e p w2 _ i => ?_) q⟩
      have q2 : SqT K H2 a vs := w2.ex.sqT (e.sqT h1)
      refine ⟨fun d hd => ?_, fun hi => ⟨vs, q2, by rw [h2.len]; exact hi⟩⟩
      obtain ⟨v, hv, rv⟩ := h2.get hd
      refine ⟨⟨vs, v, q2, hv⟩, fun x H3 ⟨e3, hx⟩ => ?_⟩
      subst e3
      have := hx vs q2
      rw [hv] at this
      cases this
      exact ⟨F2, Step.refl, w2, rv.mono e⟩
/-- the ints of a range -/
def rng (lo : Int) (n : Nat) : List Int := (List.range n).map fun (i : Nat) => lo + (i : Int)
theorem rng_get {lo : Int} {n i : Nat} (h : i < n) : (rng lo n)[i]? = some (lo + (i : Int)) := by
  unfold rng
  rw [List.getElem?_map, List.getElem?_range h]
  rfl
theorem rng_len (lo : Int) (n : Nat) : (rng lo n).length = n := by unfold rng; simp
theorem yl_rng {lo : Int} {n : Nat} : Yl K (Itr lo n) as F (fun _ => True) ((rng lo n).map D.int) := fun a2 F2 H2 M2 e p w _ i => by
  refine ⟨fun d hd => ?_, fun hi => by rw [List.length_map, rng_len] at hi; exact hi⟩
  have hi : i < n := by
    have := (List.getElem?_eq_some_iff.mp hd).1
    rw [List.length_map, rng_len] at this
    exact this
  rw [List.getElem?_map, rng_get hi] at hd
  cases hd
  refine ⟨hi, fun x H3 ⟨e3, hx⟩ => ?_⟩
  subst e3 hx
  exact ⟨F2, Step.refl, w, .int _⟩
def rng0 (n : Nat) : List Int := (List.range n).map fun (i : Nat) => (i : Int)
theorem rng0_get {n i : Nat} (h : i < n) : (rng0 n)[i]? = some (i : Int) := by
  unfold rng0
  rw [List.getElem?_map, List.getElem?_range h]
  rfl
theorem rng0_len (n : Nat) : (rng0 n).length = n := by unfold rng0; simp
theorem rng0_eq (n : Nat) : rng 0 n = rng0 n := by
  unfold rng rng0
  congr 1
  funext i
  omega
/-- an item of a range -/
theorem rng0_at {n i : Nat} {d : D} (h : ((rng0 n).map D.int)[i]? = some d) : i < n ∧ d = .int (i : Int) := by
  have hi : i < n := by
    have := (List.getElem?_eq_some_iff.mp h).1
    rw [List.length_map, rng0_len] at this
    exact this
  rw [List.getElem?_map, rng0_get hi] at h
  cases h
  exact ⟨hi, rfl⟩
theorem rng0_dl (n : Nat) : ((rng0 n).map D.int).length = n := by rw [List.length_map, rng0_len]
theorem wi_rng1 {t : TA} {Q : List D → (List O → Prop) → List O → Prop} (h : WA K t env M fun xs M1 => ∃ j : Int, xs = [.d (.int j)] ∧ (-(2 ^ 62) ≤ j ∧ j < 2 ^ 62) ∧ Q ((rng0 j.toNat).map D.int) (fun _ => True) M1) : WI K (iRng1 t) env M Q := fun as F H σ w s R c =>
  h as F H σ w s _ fun x M1 a1 F1 H1 v s1 w1 r1 ⟨j, e, hj, q⟩ => by
    subst e
    cases r1 with
    | cons r1 r2 => cases r2; rw [rx_int r1]; exact ⟨j, rfl, hj.1, hj.2, c _ _ (fun _ => True) M1 a1 F1 H1 s1 w1 (by rw [← rng0_eq]; exact yl_rng) q⟩
theorem wi_rng2 {t : TA} {Q : List D → (List O → Prop) → List O → Prop} (h : WA K t env M fun xs M1 => ∃ i j : Int, xs = [.d (.int i), .d (.int j)] ∧ (-(2 ^ 62) ≤ i ∧ i < 2 ^ 62 ∧ -(2 ^ 62) ≤ j ∧ j < 2 ^ 62) ∧ Q ((rng i (j - i).toNat).map D.int) (fun _ => True) M1) : WI K (iRng2 t) env M Q := fun as F H σ w s R c =>
  h as F H σ w s _ fun x M1 a1 F1 H1 v s1 w1 r1 ⟨i, j, e, hj, q⟩ => by
    subst e
    cases r1 with
    | cons r1 r2 => cases r2 with
      | cons r2 r3 => cases r3; rw [rx_int r1, rx_int r2]; exact ⟨i, j, rfl, hj, c _ _ (fun _ => True) M1 a1 F1 H1 s1 w1 yl_rng q⟩
/-- the signs of a text -/
def signs (z : Str) : List Str := z.cps.toList.map fun c => ⟨#[c]⟩
theorem wi_str {tl : TE} {Q : List D → (List O → Prop) → List O → Prop} (h : WE K tl env M fun x M1 => ∃ z, x = .d (.str z) ∧ Q ((signs z).map D.str) (fun _ => True) M1) : WI K (iStr tl) env M Q := fun as F H σ w s R c =>
  h as F H σ w s _ fun x M1 a1 F1 H1 v s1 w1 r1 ⟨z, e, q⟩ => by
    subst e
    rw [rx_str r1]
    refine ⟨z, rfl, c _ _ (fun _ => True) M1 a1 F1 H1 s1 w1 (fun a2 F2 H2 M2 e p w2 _ i => ?_) q⟩
    refine ⟨fun d hd => ?_, fun hi => ?_⟩
    · unfold signs at hd
      rw [List.getElem?_map, List.getElem?_map] at hd
      cases e3 : z.cps.toList[i]? with
      | none => rw [e3] at hd; cases hd
      | some n =>
        rw [e3] at hd
        cases hd
        have hi : i < z.cps.size := by
          have := (List.getElem?_eq_some_iff.mp e3).1
          simpa using this
        refine ⟨hi, fun x H3 ⟨e4, c4, h4, h5⟩ => ?_⟩
        subst e4 h5
        have : z.cps[i]? = some n := by simpa using e3
        rw [this] at h4
        cases h4
        exact ⟨F2, Step.refl, w2, .str _⟩
    · unfold signs at hi
      rw [List.length_map, List.length_map] at hi
      show z.cps.size ≤ i
      simpa using hi
/-- enumerate -/
def enumD (ds : List D) : List D := ds.zipIdx.map fun p => .tup [.int (p.2 : Int), p.1]
theorem enumD_get {ds : List D} {i : Nat} {d : D} (h : ds[i]? = some d) : (enumD ds)[i]? = some (.tup [.int (i : Int), d]) := by
  unfold enumD
  rw [List.getElem?_map, List.getElem?_zipIdx, h]
  simp
theorem wi_enum {t : TA} {Q : List D → (List O → Prop) → List O → Prop} (h : WA K t env M fun xs M1 => ∃ x ds, xs = [x] ∧ dl x = some ds ∧ Q (enumD ds) (fun _ => True) M1) : WI K (iEnum K t) env M Q := fun as F H σ w s R c =>
  h as F H σ w s _ fun x M1 a1 F1 H1 v s1 w1 r1 ⟨x, ds, e, hx, q⟩ => by
    subst e
    cases r1 with
    | cons r1 r2 =>
      cases r2
      obtain ⟨a, vs, rfl, h1, h2⟩ := dl_list r1 hx
      refine ⟨a, vs, rfl, w1.ex.sqL h1, c _ _ (fun _ => True) M1 a1 F1 H1 s1 w1 (fun a2 F2 H2 M2 e p w2 _ i => ?_) q⟩
      have q2 : SqL K H2 a vs := w2.ex.sqL (e.sqL h1)
      refine ⟨fun d hd => ?_, fun hi => ⟨vs, q2, ?_⟩⟩
      · have hi : i < ds.length := by
          have := (List.getElem?_eq_some_iff.mp hd).1
          unfold enumD at this
          simpa using this
        obtain ⟨v, hv, rv⟩ := h2.get (List.getElem?_eq_getElem hi)
        rw [enumD_get (List.getElem?_eq_getElem hi)] at hd
        cases hd
        refine ⟨⟨vs, v, q2, hv⟩, fun x H3 ⟨T, y, e3, hT, e4, hx⟩ => ?_⟩
        subst e3 e4
        have := hx vs q2
        rw [hv] at this
        cases this
        obtain ⟨w3, s3⟩ := w2.newD hT (.tup [.int (i : Nat), v])
        exact ⟨_, s3, w3, .tup (.inl (.inl upd_same)) (.cons (.int _) (.cons ((rv.mono e).mono s3.ex) .nil))⟩
      · unfold enumD at hi
        rw [h2.len]
        simpa using hi
/-- zip of two lists -/
def zipD (ds es : List D) : List D := (ds.zip es).map fun p => .tup [p.1, p.2]
theorem wi_zip {t : TA} {Q : List D → (List O → Prop) → List O → Prop} (h : WA K t env M fun xs M1 => ∃ x y ds es, xs = [x, y] ∧ dl x = some ds ∧ dl y = some es ∧ Q (zipD ds es) (fun _ => True) M1) : WI K (iZip K t) env M Q := fun as F H σ w s R c =>
  h as F H σ w s _ fun x M1 a1 F1 H1 v s1 w1 r1 ⟨x, y, ds, es, e, hx, hy, q⟩ => by
    subst e
    cases r1 with
    | cons r1 r2 => cases r2 with
      | cons r2 r3 =>
        cases r3
        obtain ⟨a, vs, rfl, h1, h2⟩ := dl_list r1 hx
        obtain ⟨b, us, rfl, h3, h4⟩ := dl_list r2 hy
        refine ⟨a, b, vs, us, rfl, w1.ex.sqL h1, w1.ex.sqL h3, c _ _ (fun _ => True) M1 a1 F1 H1 s1 w1 (fun a2 F2 H2 M2 e p w2 _ i => ?_) q⟩
        have q2 : SqL K H2 a vs := w2.ex.sqL (e.sqL h1)
        have q3 : SqL K H2 b us := w2.ex.sqL (e.sqL h3)
        refine ⟨fun d hd => ?_, fun hi => ⟨vs, us, q2, q3, ?_⟩⟩
        · have hi : i < ds.length ∧ i < es.length := by
            have := (List.getElem?_eq_some_iff.mp hd).1
            unfold zipD at this
            rw [List.length_map, List.length_zip] at this
            omega
          obtain ⟨v, hv, rv⟩ := h2.get (List.getElem?_eq_getElem hi.1)
          obtain ⟨u, hu, ru⟩ := h4.get (List.getElem?_eq_getElem hi.2)
          have hz : (zipD ds es)[i]? = some (.tup [ds[i]'hi.1, es[i]'hi.2]) := by
            unfold zipD
            rw [List.getElem?_map, List.getElem?_zip_eq_some (z := (ds[i]'hi.1, es[i]'hi.2)) |>.mpr ⟨List.getElem?_eq_getElem hi.1, List.getElem?_eq_getElem hi.2⟩]
            rfl
          rw [hz] at hd
          cases hd
          refine ⟨⟨vs, us, v, u, q2, q3, hv, hu⟩, fun x H3 ⟨T, y, z, e3, hT, e4, hx, hy⟩ => ?_⟩
          subst e3 e4
          have e5 := hx vs q2
          rw [hv] at e5
          cases e5
          have e6 := hy us q3
          rw [hu] at e6
          cases e6
          obtain ⟨w3, s3⟩ := w2.newD hT (.tup [v, u])
          exact ⟨_, s3, w3, .tup (.inl (.inl upd_same)) (.cons ((rv.mono e).mono s3.ex) (.cons ((ru.mono e).mono s3.ex) .nil))⟩
        · unfold zipD at hi
          rw [List.length_map, List.length_zip] at hi
          rw [h2.len, h4.len]
          omega
end
end PD

/-! PDe: comprehensions; what a def promises, its call. -/
namespace PD
open PySem L2

def wipeE : Env → List Nat → Env
  | env, [] => env
  | env, v :: vs => (wipeE env vs).set v none
theorem wipe_set {σ : St} {j : Nat} {o : Option V} : ∀ {vs : List Nat}, j ∈ vs → wipe (σ.set j o) vs = wipe σ vs
  | [], h => by cases h
  | v :: vs, h => by
    by_cases hv : j ∈ vs
    · show (wipe (σ.set j o) vs).set v none = (wipe σ vs).set v none
      rw [wipe_set hv]
    · have e : j = v := by
        rcases List.mem_cons.mp h with h | h
        · exact h
        · exact absurd h hv
      subst e
      show (wipe (σ.set j o) vs).set j none = (wipe σ vs).set j none
      have : ∀ us : List Nat, j ∉ us → ((wipe (σ.set j o) us).set j none = (wipe σ us).set j none) := fun us => by
        induction us with
        | nil => intro _; show (σ.set j o).set j none = σ.set j none; rw [List.set_set]
        | cons u us ih =>
          intro hn
          have h1 : j ≠ u := fun z => hn (by rw [z]; simp)
          have h2 : j ∉ us := fun z => hn (List.mem_cons_of_mem _ z)
          show ((wipe (σ.set j o) us).set u none).set j none = ((wipe σ us).set u none).set j none
          rw [List.set_comm _ _ (Ne.symm h1), ih h2, List.set_comm _ _ h1]
      exact this vs hv
theorem wipe_idem (σ : St) (vs : List Nat) : wipe (wipe σ vs) vs = wipe σ vs := by
  have : ∀ us : List Nat, (∀ u ∈ us, u ∈ vs) → wipe (wipe σ us) vs = wipe σ vs := fun us => by
    induction us with
    | nil => intro _; rfl
    | cons u us ih =>
      intro h
      show wipe ((wipe σ us).set u none) vs = _
      rw [wipe_set (h u (by simp)), ih fun v hv => h v (List.mem_cons_of_mem _ hv)]
  exact this vs fun _ h => h
/-- the target stores only the comprehension's names -/
def GW (g : TG) (vs : List Nat) : Prop := ∀ x σ H (Q Q' : St → Hp → Prop), (∀ σ2 H2, wipe σ2 vs = wipe σ vs → Q σ2 H2 → Q' σ2 H2) → g x σ H Q → g x σ H Q'
def GWs (g : TGs) (vs : List Nat) : Prop := ∀ x σ H (Q Q' : St → Hp → Prop), (∀ σ2 H2, wipe σ2 vs = wipe σ vs → Q σ2 H2 → Q' σ2 H2) → g x σ H Q → g x σ H Q'
theorem gw_name {j : Nat} {vs : List Nat} (h : j ∈ vs) : GW (gName j) vs := fun x σ H Q Q' i q => i _ H (wipe_set h) q
theorem gws_nil {vs : List Nat} : GWs gNil vs := fun x σ H Q Q' i q => ⟨q.1, i _ _ rfl q.2⟩
theorem gws_cons {g : TG} {gs : TGs} {vs : List Nat} (h : GW g vs) (hs : GWs gs vs) : GWs (gCons g gs) vs := fun x σ H Q Q' i q => by
  obtain ⟨v, r, e, q⟩ := q
  exact ⟨v, r, e, h _ _ _ _ _ (fun σ2 H2 e2 q2 => hs _ _ _ _ _ (fun σ3 H3 e3 q3 => i σ3 H3 (e3.trans e2) q3) q2) q⟩
theorem gw_tup {K : PySem.W.Frag} {n : Nat} {gs : TGs} {vs : List Nat} (h : GWs gs vs) : GW (gTup K n gs) vs := fun x σ H Q Q' i q => by
  obtain ⟨a, xs, e, h1, h2, q⟩ := q
  exact ⟨a, xs, e, h1, h2, h _ _ _ _ _ i q⟩
def RelM (b : Nat) (I : List O → Prop) (M : List O) : Prop := I M ∨ ∃ n, b ≤ n ∧ n ≤ M.length ∧ (∀ (k : Nat) (xs : List X), k < n → M[k]? ≠ some (.lstX xs)) ∧ I (M.take n)
section
variable {K : PySem.W.Frag} {F F' H H' : Hp} {as as' : List Addr} {σ : St} {env : Env} {M M1 : List O} {Q Q' : X → List O → Prop} {QN : O → List O → Prop} {te ta tb : TE} {x y : X} {E : En}
theorem SlR.wipe (h : SlR K as F σ env) : ∀ vs : List Nat, SlR K as F (L2.wipe σ vs) (wipeE env vs)
  | [] => h
  | v :: vs => (SlR.wipe h vs).setN v none
/-- a thing aside changes -/
theorem WF.side (w : WF K as F H M) {p : Addr} (hF : F p = none) (hA : p ∉ as) (o : HO) : WF K as F (upd H p o) M where
  ex := fun a u e => by rw [upd_ne (ne_of_none e hF)]; exact w.ex a u e
  nd := w.nd
  off := fun a ha => by
    have h : a ≠ p := fun q => hA (q ▸ ha)
    rw [upd_ne h]
    exact w.off a ha
  len := w.len
  at_ := fun k o' e => by
    obtain ⟨b, hb, q⟩ := w.at_ k o' e
    have h : b ≠ p := fun q => hA (q ▸ List.mem_of_getElem? hb)
    exact ⟨b, hb, q.mono (Ex.refl _) List.prefix_rfl (upd_ne h)⟩
theorem Step.side {as1 : List Addr} {F1 H1 : Hp} (s : Step as F H as1 F1 H1) {p : Addr} (hp : H p = none) (o : HO) : Step as F H as1 F1 (upd H1 p o) where
  pre := s.pre
  ex := s.ex
  keep := fun a u e n => by rw [upd_ne (ne_of_none e hp)]; exact s.keep a u e n
  live := fun a e => by
    by_cases h : a = p
    · subst h; rw [upd_same]; simp
    · rw [upd_ne h]; exact s.live a e
  newF := s.newF
  newA := s.newA
theorem relM_state {b : Nat} {I : List O → Prop} (w : WF K as F H M) (r : RelM b I M) {as0 : List Addr} {F0 H0 : Hp} (st : Step as0 F0 H0 as F H) (hb : b = as0.length) :
    ∃ as' M', Step as0 F0 H0 as' F H ∧ WF K as' F H M' ∧ I M' ∧ ∀ a ∈ as', a ∈ as := by
  rcases r with r | ⟨n, h3, h4, h6, r⟩
  · exact ⟨as, M, st, w, r, fun _ h => h⟩
  · refine ⟨as.take n, M.take n, ⟨?_, st.ex, st.keep, st.live, st.newF, fun a ha => st.newA a (List.mem_of_mem_take ha)⟩, w.drop n h4 h6, r, fun a ha => List.mem_of_mem_take ha⟩
    have p1 := st.pre
    obtain ⟨t, ht⟩ := p1
    refine ⟨t.take (n - as0.length), ?_⟩
    rw [← ht, List.take_append]
    congr 1
    exact (List.take_of_length_le (by omega)).symm
def LcOk (K : PySem.W.Frag) (g : TG) (tt : TT) (te : TE) (vs : List Nat) (ds : List D) (C : List O → Prop) (env : Env) (M1 : List O) (QN : O → List O → Prop) : Prop :=
  ∃ IV : Nat → List D → List O → Prop, IV 0 [] M1 ∧ (∀ i acc M', IV i acc M' → C M') ∧
    (∀ i d acc M', ds[i]? = some d → IV i acc M' → WG K g (.d d) (wipeE env vs) M' fun e2 M2 => WT K tt e2 M2 fun b M3 => if b = true then WE K te e2 M3 fun x M4 => ∃ y, x = .d y ∧ acc.length < sizeLine ∧ RelM M1.length (IV (i + 1) (acc ++ [y])) M4 else RelM M1.length (IV (i + 1) acc) M3) ∧
    ∀ acc M', IV ds.length acc M' → QN (.lst acc) M'
theorem wn_lc {wi : TI} {g : TG} {tt : TT} {vs : List Nat} (hg : GW g vs) (h : WI K wi env M fun ds C M1 => LcOk K g tt te vs ds C env M1 QN) : WN K (tLc wi g tt te vs) env M QN := fun as F H σ w s Qc c => by
  refine h as F H σ w s _ fun J ds C M1 a1 F1 H1 s1 w1 yl ⟨IV, h0, hC, hs, hd⟩ => ?_
  intro D hD
  have hl1 : M1.length = a1.length := w1.len
  obtain ⟨hFD, hAD⟩ := w1.free hD
  refine ⟨fun i m H' => m = ds.length - i ∧ i ≤ ds.length ∧ ∃ a2 F2 M2 acc accV, Step a1 F1 H1 a2 F2 H' ∧ WF K a2 F2 H' M2 ∧ H' D = some (.lst accV) ∧ D ∉ a2 ∧ F2 D = none ∧ Rps K F2 accV acc ∧ IV i acc M2,
    ⟨ds.length, by simp, Nat.zero_le _, a1, F1, M1, [], [], Step.refl.side hD _, w1.side hFD hAD _, upd_same, hAD, hFD, .nil, h0⟩, ?_⟩
  rintro i m H2 ⟨rfl, hi, a2, F2, M2, acc, accV, s2, w2, hD2, hA2, hF2, ra, i2⟩
  obtain ⟨y1, y2⟩ := yl a2 F2 H2 M2 s2.ex s2.pre w2 (hC i acc M2 i2) i
  have aside : ∀ {a3 : List Addr} {F3 H3 : Hp}, Step a2 F2 H2 a3 F3 H3 → H3 D = some (.lst accV) ∧ D ∉ a3 ∧ F3 D = none := fun {a3 F3 H3} s3 => by
    refine ⟨s3.keep D _ hD2 hA2, fun hm => ?_, ?_⟩
    · rcases s3.newA D hm with h | h
      · exact hA2 h
      · rw [hD2] at h; cases h
    · cases e : F3 D with
      | none => rfl
      | some o =>
        rcases s3.newF D (by rw [e]; simp) with h | h
        · exact absurd hF2 h
        · rw [hD2] at h; cases h
  by_cases hlt : i < ds.length
  · obtain ⟨hgo, hy⟩ := y1 ds[i] (List.getElem?_eq_getElem hlt)
    refine .inr ⟨hgo, fun H' => ∃ a3 F3 M3 acc accV, Step a1 F1 H1 a3 F3 H' ∧ WF K a3 F3 H' M3 ∧ H' D = some (.lst accV) ∧ D ∉ a3 ∧ F3 D = none ∧ Rps K F3 accV acc ∧ IV (i + 1) acc M3, fun H' q => ⟨ds.length - (i + 1), by omega, rfl, hlt, q⟩, fun x H3 hx => ?_⟩
    obtain ⟨F3, s3, w3, r3⟩ := hy x H3 hx
    have sl : SlR K a2 F3 (wipe σ vs) (wipeE env vs) := (s.mono ((s1.ex.trans s2.ex).trans s3.ex) ((s1.pre.trans s2.pre).trans s3.pre)).wipe vs
    refine hg _ _ _ _ _ (fun σ4 H4 e4 q4 => ⟨by rw [e4, wipe_idem], q4⟩) (hs i _ acc M2 (List.getElem?_eq_getElem hlt) i2 a2 F3 H3 (wipe σ vs) x w3 sl (.d r3) _ fun e4 M4 a4 F4 H4 σ4 s4 w4 r4 q4 => ?_)
    refine q4 a4 F4 H4 σ4 w4 r4 _ fun b M5 a5 F5 H5 s5 w5 q5 => ?_
    cases b with
    | true =>
      refine iteT ?_
      refine q5 a5 F5 H5 σ4 w5 (r4.mono s5.ex s5.pre) _ fun x6 M6 a6 F6 H6 v6 s6 w6 r6 ⟨y, ey, hz, rel⟩ => ?_
      subst ey
      cases r6 with
      | d r6 =>
        have s26 := ((s3.trans s4).trans s5).trans s6
        obtain ⟨hD6, hA6, hF6⟩ := aside s26
        have w6' := w6.side hF6 hA6 (.lst (accV ++ [v6]))
        have s16 := (s2.trans s26).side hD (.lst (accV ++ [v6]))
        obtain ⟨a7, M7, s7, w7, i7, sub⟩ := relM_state w6' rel s16 hl1
        refine ⟨accV, hD6, by rw [ra.len]; exact hz, a7, F6, M7, acc ++ [y], accV ++ [v6], s7, w7, upd_same, fun z => hA6 (sub D z), hF6, (ra.mono s26.ex).app (.cons r6 .nil), i7⟩
    | false =>
      refine iteF ?_
      have s25 := (s3.trans s4).trans s5
      obtain ⟨hD5, hA5, hF5⟩ := aside s25
      obtain ⟨a7, M7, s7, w7, i7, sub⟩ := relM_state w5 q5 (s2.trans s25) hl1
      exact ⟨a7, F5, M7, acc, accV, s7, w7, hD5, fun z => hA5 (sub D z), hF5, ra.mono s25.ex, i7⟩
  · have e : i = ds.length := by omega
    subst e
    refine .inl ⟨y2 (Nat.le_refl _), ?_⟩
    refine c (.lst acc) M2 a2 F2 H2 D (.lst accV) (s1.trans s2) w2 ?_ hF2 hA2 hD2 ⟨accV, hD2, ra⟩ (hd acc M2 i2)
    cases e : H D with
    | none => rfl
    | some o => exact absurd hD (s1.live D (by rw [e]; simp))

/-! ### the calls of defs -/
/-- what a def asks and gives: its arguments, the own objects that it may change, what is wanted of the value, of an error -/
abbrev Spec := List X → List O → (X → List O → Prop) → (Addr → D → List O → Prop) → Prop
def spD (K : PySem.W.Frag) (S : Spec) : Sp := fun vs H Q E => ∃ as F M xs Qd Ed, WF K as F H M ∧ Rxs K as F vs xs ∧ S xs M Qd Ed ∧ Cont K as F H Qd Q ∧
  ∀ C x M' as' F' H' d v, Step as F H as' F' H' → WF K as' F' H' M' → Rp K F' v x → H' d = some (.xd [("value", v)]) → H d = none → Ed C x M' → E (.ref C) (some d) H'
def startE (N : List Str) (xs : List X) : Env := xs.map some ++ List.replicate (N.length - xs.length) none
theorem start_slr {N : List Str} {vs : List V} {xs : List X} (r : Rxs K as F vs xs) : SlR K as F (L2.start N vs) (startE N xs) := by
  have hl := r.len
  refine ⟨by unfold L2.start startE; rw [List.length_append, List.length_append, List.length_map, List.length_map, List.length_replicate, List.length_replicate, hl], fun i x q => ?_⟩
  unfold startE at q
  by_cases hi : i < xs.length
  · rw [List.getElem?_append_left (by simpa using hi), List.getElem?_map] at q
    cases e : xs[i]? with
    | none => rw [e] at q; cases q
    | some z =>
      rw [e] at q
      cases q
      obtain ⟨v, hv, rv⟩ := r.get e
      refine ⟨v, ?_, rv⟩
      unfold L2.start
      rw [List.getElem?_append_left (by rw [List.length_map, hl]; exact hi), List.getElem?_map, hv]
      rfl
  · rw [List.getElem?_append_right (by simpa using hi), List.getElem?_replicate] at q
    split at q <;> cases q
end
/-- THE RULE for a def that lets no error out -/
theorem ok_of {P : Program} {w : World} {K : PySem.W.Frag} {mg : Str → Option Value} {base : Heap} {x qual : Str} {st : Stmt} {f : Addr} {fd : FuncData} {N ps : List Str} {k : Nat} {S : Spec} (Fn : Fun K x qual st f fd) (Sc : FnScope N ps (defScope st))
    (hl : ∀ xs M Q E, S xs M Q E → xs.length = ps.length)
    (hb : ∀ (cdv : Value) (A : Around) (outer : List PySem.Env) (s : Shared) (H : Hp) (E : XK), Room k (A.deeper (PyProof.Rows.envOfC qual (defScope st) s.heap.objs.size f cdv)) →
      ∃ t, PSs (cxOf CX0 P w K mg base N qual (defScope st) f cdv A outer s H E).nox (defBody st) t ∧ ∀ xs M Qd Ed, S xs M Qd Ed → WS K t (startE N xs) M { nx := fun _ M' => Qd (.d .non) M', rt := Qd }) :
    FnOk P w K mg base CX0 (k + 1) f fd ps (spD K S) := by
  refine Fn.ok Sc (fun vs H Q E h => ?_) fun cdv A outer s H vs Q E hr h => ?_
  · obtain ⟨as, F, M, xs, Qd, Ed, _, r, h, _⟩ := h
    rw [r.len]
    exact hl _ _ _ _ h
  · obtain ⟨as, F, M, xs, Qd, Ed, wf, r, h, c, _⟩ := h
    obtain ⟨t, ht, q⟩ := hb cdv A outer s H E hr
    refine ⟨t, ht, q xs M Qd Ed h as F H (L2.start N vs) wf (start_slr r) _ ⟨fun e' M' a2 F2 H2 σ2 s2 w2 r2 q2 => ?_, fun x M' a2 F2 H2 v s2 w2 r2 q2 => c x M' a2 F2 H2 v s2 w2 r2 q2, fun _ _ _ _ _ _ _ _ _ z => z, fun _ _ _ _ _ _ _ _ _ z => z⟩⟩
    exact c (.d .non) M' a2 F2 H2 .non s2 w2 (.d .non) q2

/-! a caller's own objects, handed in -/
def ren (ks : List Nat) (n : Nat) : X → X
  | .d d => .d d
  | .m j => if j < ks.length then .m (ks.getD j 0) else .m (n + (j - ks.length))
def put : List O → List Nat → List O → List O
  | M, [], _ => M
  | M, _ :: _, [] => M
  | M, k :: ks, o :: os => put (M.set k o) ks os
theorem put_len : ∀ (ks : List Nat) (os : List O) (M : List O), (put M ks os).length = M.length
  | [], _, _ => by simp [put]
  | _ :: _, [], _ => by simp [put]
  | k :: ks, o :: os, M => by unfold put; rw [put_len ks os, List.length_set]
theorem put_out {k : Nat} : ∀ (ks : List Nat) (os : List O) (M : List O), k ∉ ks → (put M ks os)[k]? = M[k]?
  | [], _, _, _ => by simp [put]
  | _ :: _, [], _, _ => by simp [put]
  | j :: ks, o :: os, M, h => by
    unfold put
    rw [put_out ks os _ (fun z => h (List.mem_cons_of_mem _ z)), List.getElem?_set_ne (fun z => h (by rw [z]; simp))]
theorem put_in {k : Nat} : ∀ (ks : List Nat) (os : List O) (M : List O) (j : Nat), ks.Nodup → ks.length ≤ os.length → ks[j]? = some k → k < M.length → (put M ks os)[k]? = os[j]?
  | [], _, _, _, _, _, h, _ => by simp at h
  | _ :: _, [], _, _, _, h, _, _ => by simp at h
  | i :: ks, o :: os, M, 0, nd, _, h, hk => by
    simp at h
    subst h
    unfold put
    rw [put_out ks os _ (List.nodup_cons.mp nd).1, List.getElem?_set_self hk]
    rfl
  | i :: ks, o :: os, M, j + 1, nd, hl, h, hk => by
    unfold put
    rw [put_in ks os _ j (List.nodup_cons.mp nd).2 (by simpa using hl) (by simpa using h) (by rw [List.length_set]; exact hk)]
    simp
def O.plain : O → Prop
  | .lstX _ => False
  | _ => True
theorem Ro.plain {K : PySem.W.Frag} {as as' : List Addr} {F F' H H' : Hp} {a : Addr} {o : O} (p : o.plain) (e : Ex F F') (h : H' a = H a) (r : Ro K as F H a o) : Ro K as' F' H' a o := by
  cases o with
  | lst ds => obtain ⟨vs, h1, h2⟩ := r; exact ⟨vs, by rw [h]; exact h1, h2.mono e⟩
  | dicK ds => obtain ⟨vs, h1, h0, h2⟩ := r; exact ⟨vs, by rw [h]; exact h1, h0, h2.mono e⟩
  | dicT ds => obtain ⟨vs, h1, h0, h2⟩ := r; exact ⟨vs, by rw [h]; exact h1, h0, h2.mono e⟩
  | ins C ds => obtain ⟨dx, vs, h1, h0, h2⟩ := r; exact ⟨dx, vs, by rw [h]; exact h1, h0, h2.mono e⟩
  | dead => trivial
  | lstX _ => exact absurd p id
section
variable {K : PySem.W.Frag} {F F' H H' : Hp} {as as' : List Addr} {M M1 : List O}
/-- into the callee -/
theorem WF.sub (w : WF K as F H M) (ks : List Nat) (nd : ks.Nodup) (M0 : List O) (h0 : M0.length = ks.length) (hk : ∀ (j k : Nat), ks[j]? = some k → ∃ o, M[k]? = some o ∧ M0[j]? = some o ∧ o.plain) :
    ∃ as0 : List Addr, as0.length = ks.length ∧ (∀ j k : Nat, ks[j]? = some k → ∃ a, as0[j]? = some a ∧ as[k]? = some a) ∧ (∀ a ∈ as0, a ∈ as) ∧ WF K as0 F H M0 := by
  have hex : ∀ k ∈ ks, k < as.length := fun k hm => by
    obtain ⟨j, hj, e⟩ := List.mem_iff_getElem.mp hm
    obtain ⟨o, h1, _⟩ := hk j k (by rw [List.getElem?_eq_getElem hj, e])
    rw [← w.len]
    exact (List.getElem?_eq_some_iff.mp h1).1
  refine ⟨ks.map fun k => as.getD k 0, by simp, fun j k e => ?_, fun a ha => ?_, w.ex, ?_, fun a ha => ?_, by rw [h0]; simp, fun j o e => ?_⟩
  · have hl := hex k (List.mem_of_getElem? e)
    refine ⟨as[k], ?_, List.getElem?_eq_getElem hl⟩
    rw [List.getElem?_map, e]
    simp [List.getD, List.getElem?_eq_getElem hl]
  · obtain ⟨k, hk1, rfl⟩ := List.mem_map.mp ha
    have hl := hex k hk1
    simp [List.getD, List.getElem?_eq_getElem hl]
  · rw [List.nodup_iff_pairwise_ne, List.pairwise_map]
    refine List.Pairwise.imp_of_mem (R := fun a b => a ≠ b) (fun {a b} ha hb hab e => hab ?_) (List.nodup_iff_pairwise_ne.mp nd)
    have h1 := hex a ha
    have h2 := hex b hb
    simp [List.getD, List.getElem?_eq_getElem h1, List.getElem?_eq_getElem h2] at e
    exact (List.getElem?_inj h1 w.nd).mp (by rw [List.getElem?_eq_getElem h1, List.getElem?_eq_getElem h2, e])
  · obtain ⟨k, hk1, rfl⟩ := List.mem_map.mp ha
    have hl := hex k hk1
    refine w.off _ ?_
    simp [List.getD, List.getElem?_eq_getElem hl]
  · have hj : j < ks.length := by rw [← h0]; exact (List.getElem?_eq_some_iff.mp e).1
    obtain ⟨o2, h1, h2, pl⟩ := hk j ks[j] (List.getElem?_eq_getElem hj)
    rw [h2] at e
    cases e
    obtain ⟨a, ha, r⟩ := w.at_ _ _ h1
    refine ⟨a, ?_, Ro.plain pl (Ex.refl _) rfl r⟩
    rw [List.getElem?_map, List.getElem?_eq_getElem hj]
    simp [List.getD, ha]
/-- back from the callee -/
theorem WF.back (w : WF K as F H M) {ks : List Nat} (nd : ks.Nodup) {as0 as1 : List Addr} {N : List O} (hl : as0.length = ks.length) (ha : ∀ j k : Nat, ks[j]? = some k → ∃ a, as0[j]? = some a ∧ as[k]? = some a)
    (hs : ∀ a ∈ as0, a ∈ as) (s : Step as0 F H as1 F' H') (w1 : WF K as1 F' H' N) (hN : ∀ o ∈ N, o.plain) :
    WF K (as ++ as1.drop ks.length) F' H' (put M ks N ++ N.drop ks.length) ∧ Step as F H (as ++ as1.drop ks.length) F' H' := by
  obtain ⟨t, ht⟩ := s.pre
  have hd : as1.drop ks.length = t := by rw [← ht, ← hl, List.drop_left]
  have nd1 := w1.nd
  rw [← ht] at nd1
  have nd1' := List.nodup_append.mp nd1
  have tnew : ∀ a ∈ t, H a = none := fun a hm => by
    rcases s.newA a (by rw [← ht]; exact List.mem_append_right _ hm) with h | h
    · exact absurd rfl (nd1'.2.2 a h a hm)
    · exact h
  have tout : ∀ a ∈ t, a ∉ as := fun a hm h => (w.off a h).2 (tnew a hm)
  have hNl : ks.length ≤ N.length := by rw [w1.len, ← ht, List.length_append, hl]; omega
  have hkl : ∀ k ∈ ks, k < as.length := fun k hm => by
    obtain ⟨j, hj, e⟩ := List.mem_iff_getElem.mp hm
    obtain ⟨a, _, h2⟩ := ha j k (by rw [List.getElem?_eq_getElem hj, e])
    exact (List.getElem?_eq_some_iff.mp h2).1
  rw [hd]
  refine ⟨⟨w1.ex, ?_, fun a hm => ?_, ?_, fun k o e => ?_⟩, ⟨List.prefix_append _ _, s.ex, fun a o e n => s.keep a o e fun z => n (hs a z), s.live, s.newF, fun a hm => ?_⟩⟩
  · rw [List.nodup_append]
    exact ⟨w.nd, nd1'.2.1, fun a h1 b h2 e => tout b h2 (e ▸ h1)⟩
  · rcases List.mem_append.mp hm with hm | hm
    · obtain ⟨h1, h2⟩ := w.off a hm
      refine ⟨?_, s.live a h2⟩
      cases e : F' a with
      | none => rfl
      | some o =>
        rcases s.newF a (by rw [e]; simp) with h | h
        · exact absurd h1 h
        · exact absurd h h2
    · exact w1.off a (by rw [← ht]; exact List.mem_append_right _ hm)
  · have hlN := w1.len
    have hlM := w.len
    have e1 : as1.length = ks.length + t.length := by rw [← ht, List.length_append, hl]
    rw [List.length_append, List.length_append, put_len, List.length_drop]
    omega
  · by_cases hk : k < M.length
    · rw [List.getElem?_append_left (by rw [put_len]; exact hk)] at e
      by_cases hm : k ∈ ks
      · obtain ⟨j, hj, ej⟩ := List.mem_iff_getElem.mp hm
        have ej' : ks[j]? = some k := by rw [List.getElem?_eq_getElem hj, ej]
        rw [put_in ks N M j nd hNl ej' hk] at e
        obtain ⟨a, h1, h2⟩ := ha j k ej'
        obtain ⟨b, h3, r⟩ := w1.at_ j o e
        have : as1[j]? = some a := by rw [← ht]; rw [List.getElem?_append_left (by rw [hl]; exact hj)]; exact h1
        rw [this] at h3
        cases h3
        exact ⟨a, pre_get (List.prefix_append _ _) h2, Ro.plain (hN o (List.mem_of_getElem? e)) (Ex.refl _) rfl r⟩
      · rw [put_out ks N M hm] at e
        obtain ⟨a, h1, r⟩ := w.at_ k o e
        have hna : a ∉ as0 := fun z => by
          obtain ⟨j, hj, ej⟩ := List.mem_iff_getElem.mp z
          have hj2 : j < ks.length := by rw [← hl]; exact hj
          obtain ⟨b, h4, h5⟩ := ha j ks[j] (List.getElem?_eq_getElem hj2)
          rw [List.getElem?_eq_getElem hj, ej] at h4
          cases h4
          have hkj : k < as.length := by rw [← w.len]; exact hk
          exact hm ((List.getElem?_inj hkj w.nd).mp (h1.trans h5.symm) ▸ List.getElem_mem hj2)
        have hne : H a ≠ none := (w.off a (List.mem_of_getElem? h1)).2
        cases eH : H a with
        | none => exact absurd eH hne
        | some u => exact ⟨a, pre_get (List.prefix_append _ _) h1, r.mono s.ex (List.prefix_append _ _) (by rw [s.keep a u eH hna, eH])⟩
    · have hlM := w.len
      rw [List.getElem?_append_right (by rw [put_len]; omega), put_len, List.getElem?_drop] at e
      obtain ⟨a, h1, r⟩ := w1.at_ _ o e
      refine ⟨a, ?_, Ro.plain (hN o (List.mem_of_getElem? e)) (Ex.refl _) rfl r⟩
      rw [List.getElem?_append_right (by omega), ← hlM]
      rw [← ht, List.getElem?_append_right (by omega)] at h1
      rw [← h1]
      congr 1
      omega
  · rcases List.mem_append.mp hm with hm | hm
    · exact .inl hm
    · exact .inr (tnew a hm)
theorem ren_in {as0 : List Addr} {ks : List Nat} (hl : as0.length = ks.length) (ha : ∀ j k : Nat, ks[j]? = some k → ∃ a, as0[j]? = some a ∧ as[k]? = some a) {y : X} {n : Nat} {v : V} (hy : ∀ j, y = .m j → j < ks.length) (r : Rx K as F v (ren ks n y)) : Rx K as0 F v y := by
  cases y with
  | d d =>
    cases r with
    | d r => exact .d r
  | m j =>
    have hj := hy j rfl
    have e : ren ks n (.m j) = .m (ks.getD j 0) := if_pos hj
    rw [e] at r
    obtain ⟨a, h1, h2⟩ := ha j ks[j] (List.getElem?_eq_getElem hj)
    have e2 : ks.getD j 0 = ks[j] := by simp [List.getD, List.getElem?_eq_getElem hj]
    rw [e2] at r
    cases r with
    | m h3 => rw [h2] at h3; cases h3; exact .m h1
theorem ren_out {as0 as1 : List Addr} {ks : List Nat} (hl : as0.length = ks.length) (ha : ∀ j k : Nat, ks[j]? = some k → ∃ a, as0[j]? = some a ∧ as[k]? = some a) (hp : as0 <+: as1) {y : X} {v : V} (r : Rx K as1 F v y) : Rx K (as ++ as1.drop ks.length) F v (ren ks as.length y) := by
  cases r with
  | d r => exact .d r
  | @m a j hj =>
    by_cases h : j < ks.length
    · obtain ⟨b, h1, h2⟩ := ha j ks[j] (List.getElem?_eq_getElem h)
      have h3 := pre_get hp h1
      rw [hj] at h3
      cases h3
      have e2 : ks.getD j 0 = ks[j] := by simp [List.getD, List.getElem?_eq_getElem h]
      show Rx K _ F (.ref a) (if j < ks.length then .m (ks.getD j 0) else _)
      rw [if_pos h, e2]
      exact .m (pre_get (List.prefix_append _ _) h2)
    · show Rx K _ F (.ref a) (if j < ks.length then _ else .m (as.length + (j - ks.length)))
      rw [if_neg h]
      refine .m ?_
      rw [List.getElem?_append_right (by omega), List.getElem?_drop, show ks.length + (as.length + (j - ks.length) - as.length) = j by omega]
      exact hj
end
/-- what a call does, the own objects ks handed in -/
def CallOk (S : Spec) (xs : List X) (M : List O) (Q : X → List O → Prop) (Ed : Addr → D → List O → Prop) : Prop :=
  ∃ (ks : List Nat) (ys : List X) (M0 : List O), ks.Nodup ∧ M0.length = ks.length ∧ (∀ (j k : Nat), ks[j]? = some k → ∃ o, M[k]? = some o ∧ M0[j]? = some o ∧ o.plain) ∧ xs = ys.map (ren ks M.length) ∧ (∀ y ∈ ys, ∀ j, y = .m j → j < ks.length) ∧
    S ys M0 (fun y N => (∀ o ∈ N, o.plain) ∧ Q (ren ks M.length y) (put M ks N ++ N.drop ks.length)) fun C x N => (∀ o ∈ N, o.plain) ∧ Ed C x (put M ks N ++ N.drop ks.length)
section
variable {K : PySem.W.Frag} {F F' H H' : Hp} {as as' : List Addr} {σ : St} {env : Env} {M M1 : List O} {Q Q' : X → List O → Prop} {S : Spec} {t : TA} {Ed : Addr → D → List O → Prop}
theorem ren_ins {as0 : List Addr} {ks : List Nat} (hl : as0.length = ks.length) (ha : ∀ j k : Nat, ks[j]? = some k → ∃ a, as0[j]? = some a ∧ as[k]? = some a) {n : Nat} : ∀ {ys : List X} {vs : List V}, (∀ y ∈ ys, ∀ j, y = .m j → j < ks.length) → Rxs K as F vs (ys.map (ren ks n)) → Rxs K as0 F vs ys
  | [], _, _, r => by cases r; exact .nil
  | y :: ys, _, h, r => by
    cases r with
    | cons r1 r2 => exact .cons (ren_in hl ha (h y (by simp)) r1) (ren_ins hl ha (fun z hz => h z (List.mem_cons_of_mem _ hz)) r2)
theorem call_core {vs : List V} {xs : List X} (w : WF K as F H M) (r : Rxs K as F vs xs) (h : CallOk S xs M Q Ed) {Qc : VK} {E : XK} (c : Cont K as F H Q Qc)
    (ce : ∀ C x M' as' F' H' d v, Step as F H as' F' H' → WF K as' F' H' M' → Rp K F' v x → H' d = some (.xd [("value", v)]) → H d = none → Ed C x M' → E (.ref C) (some d) H') : spD K S vs H Qc E := by
  obtain ⟨ks, ys, M0, nd, h0, hk, rfl, hy, hS⟩ := h
  obtain ⟨as0, hl, ha, hs, w0⟩ := w.sub ks nd M0 h0 hk
  refine ⟨as0, F, M0, ys, _, _, w0, ren_ins hl ha hy r, hS, fun y N a1 F1 H1 v s1 w1 r1 ⟨hN, q⟩ => ?_, fun C x N a1 F1 H1 d v s1 w1 r1 hd hd0 ⟨hN, q⟩ => ?_⟩
  · obtain ⟨w2, s2⟩ := w.back nd hl ha hs s1 w1 hN
    have r2 := ren_out hl ha s1.pre r1
    rw [← w.len] at r2
    exact c _ _ _ _ _ _ s2 w2 r2 q
  · obtain ⟨w2, s2⟩ := w.back nd hl ha hs s1 w1 hN
    exact ce C x _ _ _ _ d v s2 w2 r1 hd hd0 q
theorem we_call (h : WA K t env M fun xs M1 => CallOk S xs M1 Q fun _ _ _ => False) : WE K (tCall (spD K S) [] E0 t) env M Q := fun as F H σ w s Qc c =>
  h as F H σ w s _ fun xs M1 a1 F1 H1 vs s1 w1 r1 q1 => by
    show spD K S (vs ++ []) H1 Qc E0
    rw [List.append_nil]
    exact call_core w1 r1 q1 (c.step s1) fun _ _ _ _ _ _ _ _ _ _ _ _ _ z => z.elim
end
end PD

/-! PDf: methods of lists, stores, equality, isinstance, calls that only look at own objects, the law's end. -/
namespace PD
open PySem L2

section
variable {K : PySem.W.Frag} {F F' H H' : Hp} {as as' : List Addr} {σ : St} {env : Env} {M M1 : List O} {Q Q' : X → List O → Prop} {QN : O → List O → Prop} {te ta tb : TE} {x y : X} {E : En}

/-! ### own lists changed -/
theorem ty_own {k : Nat} {ds : List D} (h : M[k]? = some (.lst ds)) : ∀ as F H v, WF K as F H M → Rx K as F v (.m k) → tyV K "list" v H := fun as F H v w r => by
  obtain ⟨a, vs, rfl, _, h1, _⟩ := own_list w r h
  exact .inl ⟨rfl, vs, .inl (.inl h1)⟩
theorem ty_ownX {k : Nat} {ds : List X} (h : M[k]? = some (.lstX ds)) : ∀ as F H v, WF K as F H M → Rx K as F v (.m k) → tyV K "list" v H := fun as F H v w r => by
  cases r with
  | @m a k ha =>
    obtain ⟨b, hb, r⟩ := w.at_ k _ h
    rw [ha] at hb
    cases hb
    obtain ⟨vs, h1, _⟩ := r
    exact .inl ⟨rfl, vs, .inl (.inl h1)⟩
theorem ty_dat {ds : List D} {x : X} (h : dl x = some ds) : ∀ as F H v, WF K as F H M → Rx K as F v x → tyV K "list" v H := fun as F H v w r => by
  obtain ⟨a, vs, rfl, h1, _⟩ := dl_list r h
  exact .inl ⟨rfl, vs, w.ex.sqL h1⟩
theorem ty_str {z : Str} : ∀ as F H v, WF K as F H M → Rx K as F v (.d (.str z)) → tyV K "str" v H := fun as F H v w r => by
  rw [rx_str r]; rfl
theorem put_own {k : Nat} {ds es : List D} {a : Addr} {us : List V} (w : WF K as F H M) (ha : as[k]? = some a) (hr : Rps K F us es) : WF K as F (upd H a (.lst us)) (M.set k (.lst es)) ∧ Step as F H as F (upd H a (.lst us)) :=
  w.mut ha (o := .lst es) fun H' h' => ⟨us, h', hr⟩
theorem wm_append {k : Nat} {ds : List D} {d : D} (h : M[k]? = some (.lst ds)) (hz : ds.length < sizeLine) (q : Q (.d .non) (M.set k (.lst (ds ++ [d])))) : WM K rAppend (.m k) [.d d] M Q := fun as F H v vs w r rs Qc c => by
  obtain ⟨a, us, rfl, ha, h1, h2⟩ := own_list w r h
  cases rs with
  | cons r1 r2 =>
    cases r2
    cases r1 with
    | d r1 =>
      obtain ⟨w2, s2⟩ := put_own (ds := ds) w ha (h2.app (.cons r1 .nil))
      exact ⟨a, us, _, rfl, rfl, h1, by rw [h2.len]; exact hz, (c.step s2).go w2 (.d .non) q⟩
theorem wm_appendX {k : Nat} {ds : List X} {d : X} (h : M[k]? = some (.lstX ds)) (hz : ds.length < sizeLine) (q : Q (.d .non) (M.set k (.lstX (ds ++ [d])))) : WM K rAppend (.m k) [d] M Q := fun as F H v vs w r rs Qc c => by
  cases r with
  | @m a k ha =>
    obtain ⟨b, hb, r⟩ := w.at_ k _ h
    rw [ha] at hb
    cases hb
    obtain ⟨us, h1, h2⟩ := r
    cases rs with
    | cons r1 r2 =>
      cases r2
      obtain ⟨w2, s2⟩ := w.mut ha (ho := .lst (us ++ [_])) (o := .lstX (ds ++ [d])) fun H' h' => ⟨_, h', h2.app (.cons r1 .nil)⟩
      exact ⟨a, us, _, rfl, rfl, h1, by rw [h2.len]; exact hz, (c.step s2).go w2 (.d .non) q⟩
theorem wm_pop {k : Nat} {ds : List D} {d : D} (h : M[k]? = some (.lst (ds ++ [d]))) (q : Q (.d d) (M.set k (.lst ds))) : WM K rPopA (.m k) [] M Q := fun as F H v vs w r rs Qc c => by
  obtain ⟨a, us, rfl, ha, h1, h2⟩ := own_list w r h
  cases rs
  have hl := h2.len
  rw [List.length_append, List.length_singleton] at hl
  obtain ⟨z, hz, rz⟩ := h2.get (i := ds.length) (d := d) (by rw [List.getElem?_append_right (Nat.le_refl _), Nat.sub_self]; rfl)
  have e1 : us.dropLast = us.take ds.length := by rw [List.dropLast_eq_take, hl]; rfl
  have h3 : Rps K F us.dropLast ds := by
    rw [e1]
    have := h2.take ds.length
    rw [List.take_left] at this
    exact this
  obtain ⟨w2, s2⟩ := put_own (ds := ds) w ha h3
  exact .inl ⟨a, us, z, rfl, rfl, h1, by rw [hl, Nat.add_sub_cancel]; exact hz, (c.step s2).go w2 (.d rz) q⟩
theorem wm_popAt {k : Nat} {ds : List D} {d : D} {i : Int} {j : Nat} (h : M[k]? = some (.lst ds)) (hi : ixN ds.length i = some j) (hd : ds[j]? = some d) (hl : ds.length ≤ sizeLine) (q : Q (.d d) (M.set k (.lst (ds.eraseIdx j)))) : WM K rPopA (.m k) [.d (.int i)] M Q := fun as F H v vs w r rs Qc c => by
  obtain ⟨a, us, rfl, ha, h1, h2⟩ := own_list w r h
  cases rs with
  | cons r1 r2 =>
    cases r2
    rw [rx_int r1]
    obtain ⟨z, hz, rz⟩ := h2.get hd
    obtain ⟨e1, e2, e3, e4⟩ := ixN_seq hi
    have e5 := line63
    have h3 : Rps K F (us.eraseIdx j) (ds.eraseIdx j) := by
      rw [List.eraseIdx_eq_take_drop_succ, List.eraseIdx_eq_take_drop_succ]
      exact (h2.take j).app (h2.drop (j + 1))
    obtain ⟨w2, s2⟩ := put_own (ds := ds) w ha h3
    exact .inr ⟨a, us, i, j, z, rfl, rfl, h1, by omega, by omega, by rw [h2.len]; exact e1, hz, (c.step s2).go w2 (.d rz) q⟩
theorem wset_list {k : Nat} {ds : List D} {d : D} {i : Int} {j : Nat} {Q : List O → Prop} (h : M[k]? = some (.lst ds)) (hi : ixN ds.length i = some j) (q : Q (M.set k (.lst (ds.set j d)))) : WSet K rSetL (.m k) (.d (.int i)) (.d d) M Q := fun as F H vo vi v w ro ri rv Qc c => by
  obtain ⟨a, us, rfl, ha, h1, h2⟩ := own_list w ro h
  rw [rx_int ri]
  cases rv with
  | d rv =>
    obtain ⟨w2, s2⟩ := put_own (ds := ds) w ha (h2.set j rv)
    exact ⟨a, us, i, j, rfl, rfl, h1, by rw [h2.len]; exact hi, c _ _ _ _ s2 w2 q⟩
theorem ixN_nn {n : Nat} {i : Int} (h0 : 0 ≤ i) (h : i < n) : ixN n i = some i.toNat := by
  unfold ixN
  rw [if_pos h0, if_pos h]
theorem wc_sum {ns : List Int} (h : vl M x = some (ns.map D.int)) (q : Q (.d (.int ns.sum)) M) : WC K (rSum K) [x] M Q := fun as F H vs w r Qc c => by
  cases r with
  | cons r1 r2 =>
    cases r2
    obtain ⟨a, us, rfl, h1, h2⟩ := vw_list w r1 h
    rw [h2.ints_inv] at h1
    exact ⟨a, ns, rfl, h1, c.go w (.d (.int _)) q⟩

/-! ### data compared -/
mutual
def D.py : D → PyData
  | .non => .none
  | .bl b => .bool b
  | .int i => .int i
  | .str x => .str x
  | .lst ds => .list (D.pys ds)
  | .slst ds => .list (D.pys ds)
  | .tup ds => .tuple (D.pys ds)
  | _ => .dict []
def D.pys : List D → List PyData
  | [] => []
  | d :: r => D.py d :: D.pys r
end
theorem Dp.of_ints {ns : List Int} : DpAll K H (ns.map V.int) (ns.map PyData.int) := by
  induction ns with
  | nil => exact .nil
  | cons n r ih => exact .cons (.int n) ih
mutual
theorem Rp.dp : ∀ {v : V} {d : D}, Rp K H v d → PyData.canLay0 d.py = true → Dp K H v d.py
  | _, _, .non, _ => .non
  | _, _, .bl b, _ => .bl b
  | _, _, .int i, _ => .int i
  | _, _, .str x, _ => .str x
  | _, _, .ty n, h => by cases h
  | _, _, .ref a, h => by cases h
  | _, _, .lst h r, k => by unfold D.py; exact .lst (.inl (.inl h)) (Rps.dp r (by unfold D.py at k; unfold PyData.canLay0 at k; exact k))
  | _, _, .slst h r, k => by unfold D.py; exact .lst h (Rps.dp r (by unfold D.py at k; unfold PyData.canLay0 at k; exact k))
  | _, _, .tup h r, k => by unfold D.py; exact .tup h (Rps.dp r (by unfold D.py at k; unfold PyData.canLay0 at k; exact k))
  | _, _, .dicK _ _ _, h => by cases h
  | _, _, .dicT _ _ _, h => by cases h
  | _, _, .obj _ _ _, h => by cases h
theorem Rps.dp : ∀ {vs : List V} {ds : List D}, Rps K H vs ds → PyData.canLayAll0 (D.pys ds) = true → DpAll K H vs (D.pys ds)
  | _, _, .nil, _ => by unfold D.pys; exact .nil
  | _, _, .cons a b, h => by
    unfold D.pys at h ⊢
    unfold PyData.canLayAll0 at h
    rw [Bool.and_eq_true] at h
    exact .cons (Rp.dp a h.1) (Rps.dp b h.2)
end
theorem shaped_lay {d : PyData} (h : SeqAt.shaped d = true) : PyData.canLay0 d = true := by
  unfold SeqAt.shaped at h
  rw [Bool.and_eq_true] at h
  exact h.1
theorem w2_eqD {d e : D} (h1 : vw M x = some d) (h2 : vw M y = some e) (s1 : SeqAt.shaped d.py = true) (s2 : SeqAt.shaped e.py = true) (q : Q (.d (.bl (PyData.eqv d.py e.py))) M) : W2 K (rEqA K) x y M Q := fun as F H v u w r1 r2 Qc c =>
  .inr ⟨d.py, e.py, Rp.dp (vw_rp w r1 h1) (shaped_lay s1), Rp.dp (vw_rp w r2 h2) (shaped_lay s2), s1, s2, c.go w (.d (.bl _)) q⟩
theorem w2_neD {d e : D} (h1 : vw M x = some d) (h2 : vw M y = some e) (s1 : SeqAt.shaped d.py = true) (s2 : SeqAt.shaped e.py = true) (q : Q (.d (.bl (!PyData.eqv d.py e.py))) M) : W2 K (rNeA K) x y M Q := fun as F H v u w r1 r2 Qc c =>
  .inr ⟨d.py, e.py, Rp.dp (vw_rp w r1 h1) (shaped_lay s1), Rp.dp (vw_rp w r2 h2) (shaped_lay s2), s1, s2, c.go w (.d (.bl _)) q⟩
theorem pys_ints : ∀ ns : List Int, D.pys (ns.map D.int) = ns.map PyData.int
  | [] => rfl
  | n :: r => by
    show D.pys (.int n :: r.map D.int) = .int n :: r.map PyData.int
    unfold D.pys
    rw [pys_ints r]
    rfl
theorem eqv_ints : ∀ ns ms : List Int, PyData.eqvAll (ns.map PyData.int) (ms.map PyData.int) = decide (ns = ms)
  | [], [] => by simp [PyData.eqvAll]
  | [], _ :: _ => by simp [PyData.eqvAll]
  | _ :: _, [] => by simp [PyData.eqvAll]
  | n :: r, m :: t => by
    show PyData.eqvAll (.int n :: r.map PyData.int) (.int m :: t.map PyData.int) = _
    unfold PyData.eqvAll
    rw [eqv_ints r t]
    unfold PyData.eqv
    by_cases h1 : n = m
    · subst h1; simp
    · simp [h1]
theorem lay_ints : ∀ ns : List Int, PyData.canLayAll0 (ns.map PyData.int) = true
  | [] => by simp [PyData.canLayAll0]
  | n :: r => by
    show PyData.canLayAll0 (.int n :: r.map PyData.int) = true
    unfold PyData.canLayAll0
    rw [lay_ints r]
    simp [PyData.canLay0]
theorem depth_ints : ∀ ns : List Int, PyData.depthAll (ns.map PyData.int) = 0
  | [] => by simp [PyData.depthAll]
  | n :: r => by
    show PyData.depthAll (.int n :: r.map PyData.int) = 0
    unfold PyData.depthAll
    rw [depth_ints r]
    simp [PyData.depth]
theorem shaped_ints (ns : List Int) : SeqAt.shaped (D.lst (ns.map D.int)).py = true := by
  unfold SeqAt.shaped D.py
  rw [pys_ints]
  unfold PyData.canLay0 PyData.depth
  rw [lay_ints, depth_ints]
  rfl
theorem eqv_list_ints (ns ms : List Int) : PyData.eqv (D.lst (ns.map D.int)).py (D.lst (ms.map D.int)).py = decide (ns = ms) := by
  unfold D.py PyData.eqv
  rw [pys_ints, pys_ints]
  exact eqv_ints ns ms
theorem w2_eqL {ns ms : List Int} (h1 : vw M x = some (.lst (ns.map D.int))) (h2 : vw M y = some (.lst (ms.map D.int))) (q : Q (.d (.bl (decide (ns = ms)))) M) : W2 K (rEqA K) x y M Q :=
  w2_eqD h1 h2 (shaped_ints _) (shaped_ints _) (by rw [eqv_list_ints]; exact q)
theorem w2_neL {ns ms : List Int} (h1 : vw M x = some (.lst (ns.map D.int))) (h2 : vw M y = some (.lst (ms.map D.int))) (q : Q (.d (.bl (!decide (ns = ms)))) M) : W2 K (rNeA K) x y M Q :=
  w2_neD h1 h2 (shaped_ints _) (shaped_ints _) (by rw [eqv_list_ints]; exact q)

/-! ### isinstance -/
theorem wc_isi {d : D} {n t : String} {b : Bool} (ht : ∀ as F H v, WF K as F H M → Rx K as F v x → TyX K H v (.type t)) (h : kitB t n = some b) (q : Q (.d (.bl b)) M) : WC K (rIsi K) [x, .d (.ty n)] M Q := fun as F H vs w r Qc c => by
  cases r with
  | cons r1 r2 => cases r2 with
    | cons r2 r3 =>
      cases r3
      cases r2 with
      | d r2 =>
        cases r2
        exact ⟨_, _, _, _, b, rfl, .ty n, ht as F H _ w r1, kit_ty h, c.go w (.d (.bl b)) q⟩
theorem tx_int {i : Int} : ∀ as F H v, WF K as F H M → Rx K as F v (.d (.int i)) → TyX K H v (.type "int") := fun as F H v w r => by rw [rx_int r]; exact .base (.int i)
theorem tx_bl {i : Bool} : ∀ as F H v, WF K as F H M → Rx K as F v (.d (.bl i)) → TyX K H v (.type "bool") := fun as F H v w r => by rw [rx_bl r]; exact .base (.bl i)
theorem tx_str {i : Str} : ∀ as F H v, WF K as F H M → Rx K as F v (.d (.str i)) → TyX K H v (.type "str") := fun as F H v w r => by rw [rx_str r]; exact .base (.str i)
theorem tx_tr {ds : List D} (h : Tr K x M ds) : ∀ as F H v, WF K as F H M → Rx K as F v x → TyX K H v (.type "list") := fun as F H v w r => by
  obtain ⟨a, vs, rfl, e, _⟩ := h as F H v w r
  exact .base (.lst e)

/-! ### a call that only looks -/
def D.flat : D → Bool
  | .non | .bl _ | .int _ | .str _ | .ty _ | .ref _ => true
  | _ => false
theorem Rp.flat {v : V} {d : D} (h : d.flat = true) (r : Rp K F v d) : Rp K F' v d := by
  cases r with
  | non => exact .non
  | bl b => exact .bl b
  | int i => exact .int i
  | str x => exact .str x
  | ty n => exact .ty n
  | ref a => exact .ref a
  | lst _ _ => cases h
  | slst _ _ => cases h
  | tup _ _ => cases h
  | dicK _ _ _ => cases h
  | dicT _ _ _ => cases h
  | obj _ _ _ => cases h
theorem Rps.flat : ∀ {vs : List V} {ds : List D}, ds.all D.flat = true → Rps K F vs ds → Rps K F' vs ds
  | _, _, _, .nil => .nil
  | _, _, h, .cons a b => by
    rw [List.all_cons, Bool.and_eq_true] at h
    exact .cons (a.flat h.1) (Rps.flat h.2 b)
theorem flat_ints (ns : List Int) : (ns.map D.int).all D.flat = true := by
  rw [List.all_map]
  simp [D.flat, Function.comp_def]
theorem flat_strs (ns : List Str) : (ns.map D.str).all D.flat = true := by
  rw [List.all_map]
  simp [D.flat, Function.comp_def]
def vws (M : List O) : List X → Option (List D)
  | [] => some []
  | x :: r => (vw M x).bind fun d => (vws M r).map (d :: ·)
theorem vws_rp : ∀ {xs : List X} {vs : List V} {ds : List D}, WF K as F H M → Rxs K as F vs xs → vws M xs = some ds → Rxs K [] H vs (ds.map X.d)
  | [], _, _, _, r, h => by cases r; cases h; exact .nil
  | x :: xs, _, ds, w, r, h => by
    cases r with
    | cons r1 r2 =>
      obtain ⟨d, h1, h2⟩ := Option.bind_eq_some_iff.mp h
      obtain ⟨es, h3, h4⟩ := Option.map_eq_some_iff.mp h2
      subst h4
      exact .cons (.d (vw_rp w r1 h1)) (vws_rp w r2 h3)
/-- the answer is a number, a text, ..: nothing of the heap -/
def CallV (S : Spec) (xs : List X) (M : List O) (Q : X → List O → Prop) : Prop :=
  ∃ ds, vws M xs = some ds ∧ S (ds.map X.d) [] (fun y N => ∃ d, y = .d d ∧ d.flat = true ∧ Q (.d d) M) fun _ _ _ => False
theorem we_callV {S : Spec} {t : TA} (h : WA K t env M fun xs M1 => CallV S xs M1 Q) : WE K (tCall (spD K S) [] E0 t) env M Q := fun as F H σ w s Qc c =>
  h as F H σ w s _ fun xs M1 a1 F1 H1 vs s1 w1 r1 ⟨ds, hv, hS⟩ => by
    show spD K S (vs ++ []) H1 Qc E0
    rw [List.append_nil]
    refine ⟨[], H1, [], ds.map X.d, _, _, ⟨Ex.refl _, List.nodup_nil, fun _ h => (by cases h), rfl, fun k o e => (by simp at e)⟩, vws_rp w1 r1 hv, hS, fun y N a2 F2 H2 v s2 w2 r2 ⟨d, e, hf, q⟩ => ?_, fun _ _ _ _ _ _ _ _ _ _ _ _ _ z => z.elim⟩
    subst e
    have k2 : ∀ a o, H1 a = some o → H2 a = some o := fun a o h => s2.keep a o h (by simp)
    have w3 : WF K a1 F1 H2 M1 := ⟨fun a o h => k2 a o (w1.ex a o h), w1.nd, fun a ha => ⟨(w1.off a ha).1, s2.live a (w1.off a ha).2⟩, w1.len, fun k o e => by
      obtain ⟨a, ha, r⟩ := w1.at_ k o e
      refine ⟨a, ha, r.mono (Ex.refl _) List.prefix_rfl ?_⟩
      cases e2 : H1 a with
      | none => exact absurd e2 (w1.off a (List.mem_of_getElem? ha)).2
      | some u => exact k2 a u e2⟩
    have s3 : Step a1 F1 H1 a1 F1 H2 := ⟨List.prefix_rfl, Ex.refl _, fun a o h _ => k2 a o h, s2.live, fun _ h => .inl h, fun _ h => .inl h⟩
    cases r2 with
    | d r2 => exact c (.d d) M1 a1 F1 H2 v (s1.trans s3) w3 (.d (r2.flat hf)) q
end

/-! ### the law's end -/
def NB : Nat := 1048576
/-- the law: over every script that may come it gives True -/
def spLaw : Spec := fun xs M Q _ => ∃ ns : List Int, xs = [.d (.slst (ns.map D.int))] ∧ M = [] ∧ ns.length ≤ 63 ∧ (∀ z ∈ ns, z.natAbs < 2 ^ NB) ∧ Q (.d (.bl true)) []
theorem bits_lt {z : Int} {n : Nat} (h : Builtin.Int.intBits z ≤ n) : z.natAbs < 2 ^ n := by
  unfold Builtin.Int.intBits at h
  split at h
  · rename_i e
    have : z = 0 := by simpa using e
    subst this
    exact Nat.two_pow_pos n
  · rename_i e
    have hz : z.natAbs ≠ 0 := by
      intro q
      apply e
      have : z = 0 := Int.natAbs_eq_zero.mp q
      simp [this]
    exact Nat.lt_of_lt_of_le ((Nat.log2_lt hz).mp (Nat.lt_succ_self _)) (Nat.pow_le_pow_right (by decide) h)
theorem law_in {K : PySem.W.Frag} {H : Hp} {a : Addr} {ns : List Int} (hl : ns.length ≤ 63) (hb : ∀ z ∈ ns, Builtin.Int.intBits z ≤ 1048576) (hS : SqL K H a (ns.map V.int)) : spD K spLaw [.ref a] H (fun v _ => v = .bl true) fun _ _ _ => False :=
  ⟨[], H, [], [.d (.slst (ns.map D.int))], fun x _ => x = .d (.bl true), fun _ _ _ => False, ⟨Ex.refl _, List.nodup_nil, fun _ h => (by cases h), rfl, fun k o e => (by simp at e)⟩, .cons (.d (.slst hS (Rps.ints ns))) .nil,
    ⟨ns, rfl, rfl, hl, fun z hz => bits_lt (hb z hz), rfl⟩, fun x M' a2 F2 H2 v s2 w2 r2 e => by subst e; exact rx_bl r2, fun _ _ _ _ _ _ _ _ _ _ _ _ _ z => z⟩
end PD

/-! PDg: what the generated text leans on. -/
namespace PD
open PySem L2

/-- a def as it stands behind the top: its text, how its arguments bind, its name -/
structure Kn (K : PySem.W.Frag) (mg : Str → Option Value) (x qual : Str) (st : Stmt) (f : Addr) (fd : FuncData) (ps : List Str) : Prop where
  fn : Fun K x qual st f fd
  b : Binds K fd ps []
  g : mg x = some (.ref f)

/-! calls by keywords alone -/
def pick {α : Type} (is : List Nat) (l : List α) : List α := is.filterMap (l[·]?)
theorem pick_vals {vs : List V} {us : List Value} (r : Vals vs us) : ∀ is : List Nat, Vals (pick is vs) (pick is us)
  | [] => .nil
  | i :: is => by
    have ih := pick_vals r is
    unfold pick at ih ⊢
    rw [List.filterMap_cons, List.filterMap_cons]
    cases e : vs[i]? with
    | none =>
      have e2 : us[i]? = none := r.none_of e
      rw [e2]
      exact ih
    | some v =>
      obtain ⟨u, h1, h2⟩ := r.get e
      rw [h1]
      exact .cons h2 ih
def KB (fd : FuncData) (ps ks : List Str) (is : List Nat) : Prop := ∀ ws : List Value, ws.length = ks.length → bindArgs fd ⟨[], ks.zip ws⟩ = pure (ps.zip (pick is ws))
theorem kb_of {K : PySem.W.Frag} {x qual : Str} {st : Stmt} {f : Addr} {fd : FuncData} {ps ks : List Str} {is : List Nat} (F : Fun K x qual st f fd)
    (h : ∀ (kV doc pm : Value) (an : Option Addr) (cdv ct : Value) (ws : List Value), ws.length = ks.length → bindArgs (PySem.W.fnOf x qual (defArgs st) (defBody st) (defScope st) .none kV doc pm an cdv ct) ⟨[], ks.zip ws⟩ = pure (ps.zip (pick is ws))) : KB fd ps ks is := by
  obtain ⟨oc, od, kV, doc, pm, an, cdv, ct, osl, rfl, lk, hcd⟩ := F.ex
  exact h kV doc pm an cdv ct
def tCallK0 (n : Nat) (sp : Sp) (is : List Nat) (E : XK) (tk : TA) : TE := fun σ H Q => tk σ H fun zs H1 => zs.length = n ∧ sp (pick is zs) H1 Q E
section
variable {X : Cx} {CX : CXT} {k : Nat} {f C : Addr} {fd : FuncData} {ps ks : List Str} {sp : Sp} {E : XK} {x m : Str} {p pos apos kpos : Pos} {kws : List Keyword} {te ta : TE} {t tk : TA} {is : List Nat}
theorem pe_callK0 (F : FnOk X.prog X.w X.K X.mg X.base CX k f fd ps sp) (hr : Room k X.A) (hg : Gl X x) (hm : X.mg x = some (.ref f)) (hk : PySem.W.keepIn X.K (.ref f) = true) (hb : KB fd ps ks is) (hx : Passes CX X E)
    (hkw : PK X kws tk) (hall : (backToKw pos (keywordEach kws X.env)).all (·.1.isSome) = true := by rfl) (hks : (backToKw pos (keywordEach kws X.env)).filterMap (·.1) = ks := by rfl)
    (hdb : (x == ("__debug__" : Str)) = false := by decide)
    (hpl : ((backTo pos (starEach [] X.env)).any (·.1) || (backToKw pos (keywordEach kws X.env)).any (·.1.isNone)) = false := by rfl) :
    PE X (.Call (.Name x p) [] kws pos) (tCallK0 ks.length sp is E tk) := by
  refine ⟨fun pins s σ H Q I h => ?_⟩
  refine wpAny_Call_Name_kw (ld_glob I hg hm ?_ hdb)
  refine PySem.W.callWith_KW0 (h₀ := X.base) I.ok.mod.kin hk hall (thn (hkw.run pos pins s σ H _ I h) fun ws s2 ⟨zs, H2, I2, rz, hl, q2⟩ => ⟨I2.kIn, ?_⟩) hpl
  rw [hks]
  have r2 := pick_vals rz is
  have hw : ws.length = ks.length := by rw [← rz.length]; exact hl
  show wpAny (model X.prog X.w) X.A (call (.ref f) [] (ks.zip ws)) _ _ _
  refine wpAny_call (codeAny_mono (F.run X.A X.stack s2 H2 ⟨[], ks.zip ws⟩ (pick is ws) (pick is zs) Q E hr I2.env0 (.of_eq (hb ws hw)) r2 q2) fun r s' hq => ?_)
  cases r with
  | error e => exact hx pins σ H2 s2 e s' I2 hq
  | ok fl =>
    cases fl with
    | ret u => exact I2.after hq
    | next => exact False.elim hq
    | brk => exact False.elim hq
    | cont => exact False.elim hq
end
section
variable {K : PySem.W.Frag} {F F' H H' : Hp} {as as' : List Addr} {σ : St} {env : Env} {M M1 : List O} {Q Q' : X → List O → Prop}
theorem pick_rxs {vs : List V} {xs : List X} (r : Rxs K as F vs xs) : ∀ is : List Nat, (∀ i ∈ is, i < xs.length) → Rxs K as F (pick is vs) (pick is xs)
  | [], _ => .nil
  | i :: is, h => by
    have ih := pick_rxs r is fun j hj => h j (List.mem_cons_of_mem _ hj)
    have hi := h i (by simp)
    unfold pick at ih ⊢
    rw [List.filterMap_cons, List.filterMap_cons, List.getElem?_eq_getElem hi]
    obtain ⟨v, h1, h2⟩ := r.get (List.getElem?_eq_getElem hi)
    rw [h1]
    exact .cons h2 ih
theorem we_callK {S : Spec} {t : TA} {n : Nat} {is : List Nat} (h : WA K t env M fun xs M1 => xs.length = n ∧ (∀ i ∈ is, i < n) ∧ CallOk S (pick is xs) M1 Q fun _ _ _ => False) : WE K (tCallK0 n (spD K S) is E0 t) env M Q := fun as F H σ w s Qc c =>
  h as F H σ w s _ fun xs M1 a1 F1 H1 vs s1 w1 r1 ⟨hl, hi, q1⟩ => ⟨by rw [r1.len]; exact hl,
    call_core w1 (pick_rxs r1 is (fun i hm => by rw [hl]; exact hi i hm)) q1 (c.step s1) fun _ _ _ _ _ _ _ _ _ _ _ _ _ z => z.elim⟩
theorem callV_core {S : Spec} {vs : List V} {xs : List X} (w1 : WF K as F H M) (r1 : Rxs K as F vs xs) (h : CallV S xs M Q) {Qc : VK} (c : Cont K as F H Q Qc) : spD K S vs H Qc E0 := by
  obtain ⟨ds, hv, hS⟩ := h
  refine ⟨[], H, [], ds.map X.d, _, _, ⟨Ex.refl _, List.nodup_nil, fun _ h => (by cases h), rfl, fun k o e => (by simp at e)⟩, vws_rp w1 r1 hv, hS, fun y N a2 F2 H2 v s2 w2 r2 ⟨d, e, hf, q⟩ => ?_, fun _ _ _ _ _ _ _ _ _ _ _ _ _ z => z.elim⟩
  subst e
  have k2 : ∀ a o, H a = some o → H2 a = some o := fun a o h => s2.keep a o h (by simp)
  have w3 : WF K as F H2 M := ⟨fun a o h => k2 a o (w1.ex a o h), w1.nd, fun a ha => ⟨(w1.off a ha).1, s2.live a (w1.off a ha).2⟩, w1.len, fun k o e => by
    obtain ⟨a, ha, r⟩ := w1.at_ k o e
    refine ⟨a, ha, r.mono (Ex.refl _) List.prefix_rfl ?_⟩
    cases e2 : H a with
    | none => exact absurd e2 (w1.off a (List.mem_of_getElem? ha)).2
    | some u => exact k2 a u e2⟩
  have s3 : Step as F H as F H2 := ⟨List.prefix_rfl, Ex.refl _, fun a o h _ => k2 a o h, s2.live, fun _ h => .inl h, fun _ h => .inl h⟩
  cases r2 with
  | d r2 => exact c (.d d) M as F H2 v s3 w3 (.d (r2.flat hf)) q
theorem we_callVK {S : Spec} {t : TA} {n : Nat} {is : List Nat} (h : WA K t env M fun xs M1 => xs.length = n ∧ (∀ i ∈ is, i < n) ∧ CallV S (pick is xs) M1 Q) : WE K (tCallK0 n (spD K S) is E0 t) env M Q := fun as F H σ w s Qc c =>
  h as F H σ w s _ fun xs M1 a1 F1 H1 vs s1 w1 r1 ⟨hl, hi, q1⟩ => ⟨by rw [r1.len]; exact hl, callV_core w1 (pick_rxs r1 is (fun i hm => by rw [hl]; exact hi i hm)) q1 (c.step s1)⟩
end

/-! tests by truth; in-place operators -/
theorem pt_tru {X : Cx} {a : Expr} {ta : TE} (ha : PE X a ta) (he : ∀ whole, isTrue a X.env whole = (do let v ← whole; standAt a.pos; holding [v] (truthy v)) := by intro _; rfl) : PT X a (tTru X.K ta) := pt_truth ha he
def rIAdd : R2 := fun x y H Q => rI0 (fun i j => .int (i + j)) x y H Q ∨ rStrCat x y H Q
theorem ipAddA {X : Cx} : PIp X .Add rIAdd := OpR.or iop_add iop_add_str
theorem ipSubA {X : Cx} : PIp X .Sub rSubI := iop_sub
section
variable {K : PySem.W.Frag} {M : List O} {Q : X → List O → Prop} {i j : Int}
theorem w2_iadd (q : Q (.d (.int (i + j))) M) : W2 K rIAdd (.d (.int i)) (.d (.int j)) M Q := fun as F H v u w r1 r2 Qc c => by
  rw [rx_int r1, rx_int r2]
  exact .inl ⟨i, j, rfl, rfl, c.go w (.d (.int _)) q⟩
theorem w2_iaddS {a b : Str} (h : a.length + b.length ≤ sizeLine) (q : Q (.d (.str (a ++ b))) M) : W2 K rIAdd (.d (.str a)) (.d (.str b)) M Q := fun as F H v u w r1 r2 Qc c => by
  rw [rx_str r1, rx_str r2]
  exact .inr ⟨a, b, rfl, rfl, h, c.go w (.d (.str _)) q⟩
end
/-! the same rules, the written part named (a comprehension's block has its own context) -/
section
variable {X : Cx} (K : PySem.W.Frag) (h : X.K = K := by rfl)
include h
theorem op_addK : OpR X (binaryOp .Add) (rAddA K) := by subst h; exact op_addA
theorem op_mulK : OpR X (binaryOp .Mult) (rMulA K) := by subst h; exact op_mulA
theorem op_eqK (hu : X.A.units + 64 < cLine) : OpR X (compareOp .Eq) (rEqA K) := by subst h; exact op_eqA hu
theorem op_neK (hu : X.A.units + 64 < cLine) : OpR X (compareOp .NotEq) (rNeA K) := by subst h; exact op_neA hu
theorem op_inK (hu : X.A.units + 64 < cLine) : OpR X (compareOp .In) (rInA K false) := by subst h; exact op_inA hu
theorem op_notInK (hu : X.A.units + 64 < cLine) : OpR X (compareOp .NotIn) (rInA K true) := by subst h; exact op_notInA hu
theorem ixK : IxR X (rIx K) := by subst h; exact ix_seq
theorem sl_listK : L2.SlR X (rSlL K) := by subst h; exact sl_list
theorem sl_tupK : L2.SlR X (rSlT K) := by subst h; exact sl_tup
theorem call_lenK : CallR X (.builtin "len") (rLenA K) := by subst h; exact call_lenA
theorem call_listK : CallR X (.type "list") (rListA K) := by subst h; exact call_listA
theorem call_isiK' : CallR X (.builtin "isinstance") (rIsi K) := by subst h; exact call_isi
theorem cr_sumK (hc : X.calm = true := by rfl) : CallR X (.builtin "sum") (rSum K) := by subst h; exact cr_sum hc
theorem cr_allK (hc : X.calm = true := by rfl) : CallR X (.builtin "all") (rAll K) := by subst h; exact cr_all hc
theorem cr_anyK (hc : X.calm = true := by rfl) : CallR X (.builtin "any") (rAny K) := by subst h; exact cr_any hc
theorem call_maxK (hc : X.calm = true := by rfl) : CallR X (.builtin "max") (rMaxA K) := by subst h; exact call_maxA hc
theorem call_minK (hc : X.calm = true := by rfl) : CallR X (.builtin "min") (rMinA K) := by subst h; exact call_minA hc
theorem mt_lcountK : MtR X "list.count" (rCntI K) := by subst h; exact mt_lcount
theorem mt_indexK : MtR X "list.index" (rIndex K) := by subst h; exact mt_index
theorem pt_truK {a : Expr} {ta : TE} (ha : PE X a ta) (he : ∀ whole, isTrue a X.env whole = (do let v ← whole; standAt a.pos; holding [v] (truthy v)) := by intro _; rfl) : PT X a (tTru K ta) := by subst h; exact pt_tru ha he
theorem pi_listK {tg l : Expr} {tl : TE} (hl : PE X l tl) : PI X tg l (iList K tl) := by subst h; exact pi_list hl
theorem pi_tupK {tg l : Expr} {tl : TE} (hl : PE X l tl) : PI X tg l (iTup K tl) := by subst h; exact pi_tup hl
theorem pg_tupK {es : List Expr} {k : Nat} {t : TGs} {n : Nat} {pos : Pos} (hc : X.calm = true) (ht : PGs X es t)
    (hn : (assignEach es X.env).length = n := by rfl) (hst : (assignEach es X.env).findIdx? (·.1) = none := by rfl) : PG X (.Tuple es k pos) (gTup K n t) := by subst h; exact pg_tup hc ht hn hst
theorem pe_bmK {o e : Expr} {es : List Expr} {to : TE} {t : TA} {name : Str} {apos cpos : Pos} {T id : String} {r : V → List V → Hp → VK → Prop} (pa : PlainAttrs T) (slot : Slot T name id) (hty : typeOf (.builtin id) = pure (.type "method_descriptor")) (hm : MtR X id r) (ho : PE X o to) (ha : PA X (e :: es) t)
    (hbase : attributeBase o name X.env (eval o X.env) = eval o X.env := by rfl)
    (hfew : ((backTo cpos (starEach (e :: es) X.env)).all (fun x => !x.1) && (backToKw cpos (keywordEach [] X.env)).all (fun x => x.1.isSome)
      && decide ((e :: es).length + ([] : List Keyword).length + (if ([] : List Keyword).isEmpty then 0 else 1) < 30)) = true := by rfl)
    (hline : (apos.endLine == cpos.line) = true := by rfl) (hs : starEach (e :: es) X.env = (false, eval e X.env) :: starEach es X.env := by rfl) (hplain : (backTo cpos (starEach es X.env)).any (·.1) = false := by rfl) :
    PE X (.Call (.Attribute o name apos) (e :: es) [] cpos) (tBM K T r to t) := by subst h; exact pe_bm pa slot hty hm ho ha hbase hfew hline hs hplain
theorem pe_bm0K {o : Expr} {to : TE} {name : Str} {apos cpos : Pos} {T id : String} {r : V → List V → Hp → VK → Prop} (pa : PlainAttrs T) (slot : Slot T name id) (hty : typeOf (.builtin id) = pure (.type "method_descriptor")) (hm : MtR X id r) (ho : PE X o to)
    (hbase : attributeBase o name X.env (eval o X.env) = eval o X.env := by rfl) (hline : (apos.endLine == cpos.line) = true := by rfl) : PE X (.Call (.Attribute o name apos) [] [] cpos) (tBM0 K T r to) := by subst h; exact pe_bm0 pa slot hty hm ho hbase hline
end
end PD

/-! PDh: the same rules with the ends written out; sugar. -/
namespace PD
open PySem L2
section
variable {K : PySem.W.Frag} {F F' H H' : Hp} {as as' : List Addr} {σ : St} {env : Env} {M M1 : List O} {Q Q' : X → List O → Prop} {QN : O → List O → Prop} {te ta tb : TE} {x y : X} {t u : TS} {c : TT} {g : TG}
  {nx bk ct : Env → List O → Prop} {rt : X → List O → Prop}
theorem rs_next (q : nx env M) : WS K tNext env M ⟨nx, rt, bk, ct⟩ := ws_next q
theorem rs_seq (h : WS K t env M ⟨fun e1 M1 => WS K u e1 M1 ⟨nx, rt, bk, ct⟩, rt, bk, ct⟩) : WS K (tSeq t u) env M ⟨nx, rt, bk, ct⟩ := ws_seq h
theorem rs_break (q : bk env M) : WS K tBreak env M ⟨nx, rt, bk, ct⟩ := ws_break q
theorem rs_cont (q : ct env M) : WS K tCont env M ⟨nx, rt, bk, ct⟩ := ws_cont q
theorem rs_drop (h : WE K te env M fun _ M1 => nx env M1) : WS K (tDrop te) env M ⟨nx, rt, bk, ct⟩ := ws_drop h
theorem rs_ret (h : WE K te env M rt) : WS K (tRet te) env M ⟨nx, rt, bk, ct⟩ := ws_ret h
theorem rs_retN (q : rt (.d .non) M) : WS K tRetN env M ⟨nx, rt, bk, ct⟩ := ws_retN q
theorem rs_if (h : WT K c env M fun b M1 => if b = true then WS K t env M1 ⟨nx, rt, bk, ct⟩ else WS K u env M1 ⟨nx, rt, bk, ct⟩) : WS K (tIfS c t u) env M ⟨nx, rt, bk, ct⟩ := ws_if h
theorem rs_asgN {i : Nat} (h : WE K te env M fun x M1 => nx (env.set i (some x)) M1) : WS K (tAsg te (gName i)) env M ⟨nx, rt, bk, ct⟩ := ws_asg (h.imp fun x M' q => wg_name q)
theorem rs_asg (h : WE K te env M fun x M1 => WG K g x env M1 nx) : WS K (tAsg te g) env M ⟨nx, rt, bk, ct⟩ := ws_asg h
theorem rs_par {i j : Nat} {ta : TA} (h : WA K ta env M fun xs M1 => ∃ x y, xs = [x, y] ∧ nx ((env.set i (some x)).set j (some y)) M1) : WS K (tPar i j ta) env M ⟨nx, rt, bk, ct⟩ := ws_par h
theorem rs_aug {i : Nat} {ti : TIp} (hx : env[i]? = some (some x)) (h : WE K te env M fun y M1 => W2 K ti x y M1 fun z M2 => nx (env.set i (some z)) M2) : WS K (tAug i te ti) env M ⟨nx, rt, bk, ct⟩ := ws_aug hx h
theorem rs_for {wi : TI} {tb : TS} (h : WI K wi env M fun ds C M1 => ∃ IV : Nat → Env → List O → Prop, IV 0 env M1 ∧ (∀ i e M', IV i e M' → C M') ∧
    (∀ i d e M', ds[i]? = some d → IV i e M' → WG K g (.d d) e M' fun e2 M2 => WS K tb e2 M2 ⟨Rel M1.length (IV (i + 1)), rt, nx, Rel M1.length (IV (i + 1))⟩) ∧ ∀ e M', IV ds.length e M' → nx e M') : WS K (tFor wi g tb) env M ⟨nx, rt, bk, ct⟩ := ws_for h
theorem rs_while (I : Nat → Env → List O → Prop) (m0 : Nat) (h0 : I m0 env M)
    (hs : ∀ m e1 M1, I m e1 M1 → WT K c e1 M1 fun b M2 => if b = true then WS K t e1 M2 ⟨fun e' M' => ∃ m', m' < m ∧ I m' e' M', rt, nx, fun e' M' => ∃ m', m' < m ∧ I m' e' M'⟩ else nx e1 M2) : WS K (tWhile c t) env M ⟨nx, rt, bk, ct⟩ := ws_while I m0 h0 hs
/-- a word between -/
theorem rs_cut (N : Env → List O → Prop) (h : WS K t env M ⟨N, rt, bk, ct⟩) (k : ∀ e1 M1, N e1 M1 → WS K u e1 M1 ⟨nx, rt, bk, ct⟩) : WS K (tSeq t u) env M ⟨nx, rt, bk, ct⟩ :=
  ws_seq (h.imp (E' := ⟨fun e1 M1 => WS K u e1 M1 ⟨nx, rt, bk, ct⟩, rt, bk, ct⟩) k (fun _ _ q => q) (fun _ _ q => q) (fun _ _ q => q))
theorem wf_ex {d : D} {o : O} (h : o.frz = some d) (q : Q (.d d) M) : ∃ d, o.frz = some d ∧ Q (.d d) M := ⟨d, h, q⟩
theorem we_lst {t : TA} (h : WA K t env M fun xs M1 => ∃ ds, allD xs = some ds ∧ ds.length ≤ sizeLine ∧ Q (.d (.lst ds)) M1) : WE K (tLst t) env M Q :=
  we_frz (wn_lst (fun as F H σ w s Qc c => h as F H σ w s Qc fun xs M' a2 F2 H2 vs s2 w2 r ⟨ds, e, hl, q⟩ => c xs M' a2 F2 H2 vs s2 w2 r ⟨ds, e, hl, _, rfl, q⟩))
theorem we_lstO {t : TA} (h : WA K t env M fun xs M1 => ∃ ds, allD xs = some ds ∧ ds.length ≤ sizeLine ∧ Q (.m M1.length) (M1 ++ [.lst ds])) : WE K (tLst t) env M Q := we_own (wn_lst h)
theorem we_lc {wi : TI} {tt : TT} {vs : List Nat} (hg : GW g vs) (h : WI K wi env M fun ds C M1 => LcOk K g tt te vs ds C env M1 fun o M' => ∃ d, o.frz = some d ∧ Q (.d d) M') : WE K (tLc wi g tt te vs) env M Q := we_frz (wn_lc hg h)
theorem we_lcO {wi : TI} {tt : TT} {vs : List Nat} (hg : GW g vs) (h : WI K wi env M fun ds C M1 => LcOk K g tt te vs ds C env M1 fun o M' => Q (.m M'.length) (M' ++ [o])) : WE K (tLc wi g tt te vs) env M Q := we_own (wn_lc hg h)
theorem w2_cat {ds es : List D} (h1 : Tr K x M ds) (h2 : Tr K y M es) (hz : ds.length + es.length ≤ sizeLine) (q : Q (.d (.lst (ds ++ es))) M) : W2 K (rAddA K) x y M Q := w2_frz (wn2_cat h1 h2 hz ⟨_, rfl, q⟩)
theorem w2_catO {ds es : List D} (h1 : Tr K x M ds) (h2 : Tr K y M es) (hz : ds.length + es.length ≤ sizeLine) (q : Q (.m M.length) (M ++ [.lst (ds ++ es)])) : W2 K (rAddA K) x y M Q := w2_own (wn2_cat h1 h2 hz q)
theorem wc_listD {ds : List D} (h : vl M x = some ds) (q : Q (.d (.lst ds)) M) : WC K (rListA K) [x] M Q := wc_frz (wnc_list h ⟨_, rfl, q⟩)
theorem wc_listO {ds : List D} (h : vl M x = some ds) (q : Q (.m M.length) (M ++ [.lst ds])) : WC K (rListA K) [x] M Q := wc_own (wnc_list h q)
theorem wsl_listD {ds : List D} {lo hi : Option Int} (h : vl M x = some ds) (q : Q (.d (.lst (cutL ds lo hi))) M) : WSl K (rSlL K) x lo hi M Q := wsl_frz (wsl_list h ⟨_, rfl, q⟩)
theorem wsl_listO {ds : List D} {lo hi : Option Int} (h : vl M x = some ds) (q : Q (.m M.length) (M ++ [.lst (cutL ds lo hi)])) : WSl K (rSlL K) x lo hi M Q := wsl_own (wsl_list h q)
/-- a call of a def that changes nothing of the caller's: trees in, what comes is a tree -/
theorem callP {S : Spec} {ds : List D} {xs : List X} {Ed : Addr → D → List O → Prop} (hx : allD xs = some ds) (h : S (ds.map X.d) [] (fun y N => ∃ d, y = .d d ∧ N = [] ∧ Q (.d d) M) fun C x N => N = [] ∧ Ed C x M)
    (mono : ∀ ys M0 Q1 Q2 E1 E2, (∀ y N, Q1 y N → Q2 y N) → (∀ C y N, E1 C y N → E2 C y N) → S ys M0 Q1 E1 → S ys M0 Q2 E2) : CallOk S xs M Q Ed := by
  refine ⟨[], ds.map X.d, [], List.nodup_nil, rfl, fun j k e => by simp at e, ?_, fun y hy j e => ?_, mono _ _ _ _ _ _ (fun y N q => ?_) (fun C y N q => ?_) h⟩
  · rw [allD_eq hx, List.map_map]
    rfl
  · obtain ⟨d, _, rfl⟩ := List.mem_map.mp hy
    cases e
  · obtain ⟨d, rfl, rfl, q⟩ := q
    refine ⟨fun o ho => (by cases ho), ?_⟩
    show Q (.d d) (put M [] [] ++ [])
    rw [List.append_nil]
    exact (show put M [] [] = M by simp [put]) ▸ q
  · obtain ⟨rfl, q⟩ := q
    refine ⟨fun o ho => (by cases ho), ?_⟩
    show Ed C y (put M [] [] ++ [])
    rw [List.append_nil]
    exact (show put M [] [] = M by simp [put]) ▸ q
/-- specs follow what is wanted -/
def Mono (S : Spec) : Prop := ∀ ys M0 Q1 Q2 E1 E2, (∀ y N, Q1 y N → Q2 y N) → (∀ C y N, E1 C y N → E2 C y N) → S ys M0 Q1 E1 → S ys M0 Q2 E2
/-- new own object from a call -/
theorem callN {S : Spec} {ds : List D} {xs : List X} {Ed : Addr → D → List O → Prop} (mono : Mono S) (hx : allD xs = some ds) (h : S (ds.map X.d) [] (fun y N => ∃ o, y = .m 0 ∧ N = [o] ∧ o.plain ∧ Q (.m M.length) (M ++ [o])) fun C x N => N = [] ∧ Ed C x M) : CallOk S xs M Q Ed := by
  refine ⟨[], ds.map X.d, [], List.nodup_nil, rfl, fun j k e => by simp at e, ?_, fun y hy j e => ?_, mono _ _ _ _ _ _ (fun y N q => ?_) (fun C y N q => ?_) h⟩
  · rw [allD_eq hx, List.map_map]
    rfl
  · obtain ⟨d, _, rfl⟩ := List.mem_map.mp hy
    cases e
  · obtain ⟨o, rfl, rfl, hp, q⟩ := q
    refine ⟨fun o' ho => (by rw [List.mem_singleton] at ho; rw [ho]; exact hp), ?_⟩
    show Q (.m (M.length + (0 - 0))) (put M [] [o] ++ [o])
    rw [show put M [] [o] = M by simp [put]]
    exact q
  · obtain ⟨rfl, q⟩ := q
    refine ⟨fun o ho => (by cases ho), ?_⟩
    show Ed C y (put M [] [] ++ [])
    rw [List.append_nil]
    exact (show put M [] [] = M by simp [put]) ▸ q
/-- one own object handed in, first; it is changed; a tree comes -/
theorem callI {S : Spec} {ds : List D} {xs : List X} {k : Nat} {o : O} {Ed : Addr → D → List O → Prop} (mono : Mono S) (hx : allD xs = some ds) (hk : M[k]? = some o) (hp : o.plain)
    (h : S (.m 0 :: ds.map X.d) [o] (fun y N => ∃ d o', y = .d d ∧ N = [o'] ∧ o'.plain ∧ Q (.d d) (M.set k o')) fun C x N => ∃ o', N = [o'] ∧ o'.plain ∧ Ed C x (M.set k o')) : CallOk S (.m k :: xs) M Q Ed := by
  refine ⟨[k], .m 0 :: ds.map X.d, [o], by simp, rfl, fun j i e => ?_, ?_, fun y hy j e => ?_, mono _ _ _ _ _ _ (fun y N q => ?_) (fun C y N q => ?_) h⟩
  · cases j with
    | zero => simp at e; subst e; exact ⟨o, hk, rfl, hp⟩
    | succ j => simp at e
  · rw [allD_eq hx, List.map_cons, List.map_map]
    rfl
  · rcases List.mem_cons.mp hy with rfl | hy
    · cases e; simp
    · obtain ⟨d, _, rfl⟩ := List.mem_map.mp hy
      cases e
  · obtain ⟨d, o', rfl, rfl, hp', q⟩ := q
    refine ⟨fun u ho => (by rw [List.mem_singleton] at ho; rw [ho]; exact hp'), ?_⟩
    show Q (.d d) (put M [k] [o'] ++ [])
    rw [List.append_nil]
    exact (show put M [k] [o'] = M.set k o' by simp [put]) ▸ q
  · obtain ⟨o', rfl, hp', q⟩ := q
    refine ⟨fun u ho => (by rw [List.mem_singleton] at ho; rw [ho]; exact hp'), ?_⟩
    show Ed C y (put M [k] [o'] ++ [])
    rw [List.append_nil]
    exact (show put M [k] [o'] = M.set k o' by simp [put]) ▸ q
/-- .. a new own object comes -/
theorem callIN {S : Spec} {ds : List D} {xs : List X} {k : Nat} {o : O} {Ed : Addr → D → List O → Prop} (mono : Mono S) (hx : allD xs = some ds) (hk : M[k]? = some o) (hp : o.plain)
    (h : S (.m 0 :: ds.map X.d) [o] (fun y N => ∃ o' u, y = .m 1 ∧ N = [o', u] ∧ o'.plain ∧ u.plain ∧ Q (.m M.length) (M.set k o' ++ [u])) fun C x N => ∃ o', N = [o'] ∧ o'.plain ∧ Ed C x (M.set k o')) : CallOk S (.m k :: xs) M Q Ed := by
  refine ⟨[k], .m 0 :: ds.map X.d, [o], by simp, rfl, fun j i e => ?_, ?_, fun y hy j e => ?_, mono _ _ _ _ _ _ (fun y N q => ?_) (fun C y N q => ?_) h⟩
  · cases j with
    | zero => simp at e; subst e; exact ⟨o, hk, rfl, hp⟩
    | succ j => simp at e
  · rw [allD_eq hx, List.map_cons, List.map_map]
    rfl
  · rcases List.mem_cons.mp hy with rfl | hy
    · cases e; simp
    · obtain ⟨d, _, rfl⟩ := List.mem_map.mp hy
      cases e
  · obtain ⟨o', u, rfl, rfl, hp', hu, q⟩ := q
    refine ⟨fun z ho => ?_, ?_⟩
    · rcases List.mem_cons.mp ho with rfl | ho
      · exact hp'
      · rw [List.mem_singleton] at ho; rw [ho]; exact hu
    · show Q (.m (M.length + (1 - 1))) (put M [k] [o', u] ++ [u])
      rw [show put M [k] [o', u] = M.set k o' by simp [put]]
      exact q
  · obtain ⟨o', rfl, hp', q⟩ := q
    refine ⟨fun u ho => (by rw [List.mem_singleton] at ho; rw [ho]; exact hp'), ?_⟩
    show Ed C y (put M [k] [o'] ++ [])
    rw [List.append_nil]
    exact (show put M [k] [o'] = M.set k o' by simp [put]) ▸ q
end
theorem sz_lit {n : Nat} (h : n ≤ 1000000) : n ≤ sizeLine := Nat.le_trans h (by decide)
theorem sz_lt {n : Nat} (h : n < 1000000) : n < sizeLine := Nat.lt_of_lt_of_le h (by decide)
/-! numbers of bounded size -/
theorem lt_pow_of {i : Int} {a b : Nat} (h : i.natAbs < 2 ^ a) (hab : a ≤ b) : i.natAbs < 2 ^ b := Nat.lt_of_lt_of_le h (Nat.pow_le_pow_right (by decide) hab)
theorem bd_add {i j : Int} {a : Nat} (h : i.natAbs < 2 ^ a) (h2 : j.natAbs < 2 ^ a) : (i + j).natAbs < 2 ^ (a + 1) := by
  rw [Nat.pow_succ]; omega
theorem bd_sub {i j : Int} {a : Nat} (h : i.natAbs < 2 ^ a) (h2 : j.natAbs < 2 ^ a) : (i - j).natAbs < 2 ^ (a + 1) := by
  rw [Nat.pow_succ]; omega
theorem bd_mul {i j : Int} {a b : Nat} (h : i.natAbs < 2 ^ a) (h2 : j.natAbs < 2 ^ b) : (i * j).natAbs < 2 ^ (a + b) := wide_lt h h2
theorem bd_div {i j : Int} {a : Nat} (h : i.natAbs < 2 ^ a) (hj : 0 < j) : (i / j).natAbs < 2 ^ a := by
  have h1 : (i / j).natAbs ≤ i.natAbs := by
    rcases Int.le_total 0 i with hi | hi
    · have h3 : 0 ≤ i / j := Int.ediv_nonneg hi (by omega)
      have h4 : i / j ≤ i := Int.ediv_le_self _ hi
      omega
    · have h3 : i / j ≤ 0 := Int.ediv_nonpos_of_nonpos_of_neg hi (by omega)
      have h4 : i ≤ i / j := by
        have h5 := Int.le_ediv_of_mul_le (a := i) (b := i) (c := j) hj (by
          have h6 : i * j ≤ i * 1 := Int.mul_le_mul_of_nonpos_left hi (by omega)
          rw [Int.mul_one] at h6
          exact h6)
        exact h5
      omega
  omega
theorem bd_mod {i j : Int} {a : Nat} (h : j.natAbs < 2 ^ a) (hj : 0 < j) : (i % j).natAbs < 2 ^ a := by
  have h1 := Int.emod_nonneg i (show j ≠ 0 by omega)
  have h2 := Int.emod_lt_of_pos i hj
  omega
theorem cmul_of {i j : Int} {a b : Nat} (h : i.natAbs < 2 ^ a) (h2 : j.natAbs < 2 ^ b) (hab : a + b + 2 ≤ 1000000) : CMulW i j :=
  wide_mul (lt_pow_of h (Nat.le_succ a)) (lt_pow_of h2 (Nat.le_succ b)) (Nat.succ_pos _) (Nat.succ_pos _) (by omega)
theorem cdiv_of {i j : Int} {b : Nat} (h : 0 < j) (h2 : j.natAbs < 2 ^ b) (hb : b < 9000) : CDivW i j :=
  wide_div h (lt_pow_of h2 (Nat.le_succ b)) (Nat.succ_pos _) (by omega)
end PD

/-! PDi: comprehensions that change nothing, in short. -/
namespace PD
open PySem L2
section
variable {K : PySem.W.Frag} {env : Env} {M M1 : List O} {Q Q' : X → List O → Prop} {QN : O → List O → Prop} {te : TE} {g : TG} {tt : TT} {vs : List Nat} {C : List O → Prop}
/-- [e for x in ds], each item its own -/
theorem lc_all (f : Nat → D → D) {ds : List D} (hC : C M) (hz : ds.length < sizeLine)
    (h : ∀ i d, ds[i]? = some d → WG K g (.d d) (wipeE env vs) M fun e2 M2 => M2 = M ∧ WE K te e2 M fun x M4 => x = .d (f i d) ∧ M4 = M) (q : QN (.lst (ds.mapIdx f)) M) : LcOk K g tYes te vs ds C env M QN := by
  refine ⟨fun i acc M' => acc = (ds.mapIdx f).take i ∧ M' = M, ⟨by simp, rfl⟩, fun i acc M' ⟨_, e⟩ => e ▸ hC, fun i d acc M' hd ⟨e1, e2⟩ => ?_, fun acc M' ⟨e1, e2⟩ => ?_⟩
  · subst e1 e2
    intro as F H σ v w s r Qc c
    refine h i d hd as F H σ v w s r Qc fun e' M2 a2 F2 H2 σ2 s2 w2 r2 ⟨e3, q3⟩ => ?_
    subst e3
    refine c e' _ a2 F2 H2 σ2 s2 w2 r2 (wt_yes ?_)
    rw [if_pos rfl]
    have hl : i < ds.length := (List.getElem?_eq_some_iff.mp hd).1
    refine q3.imp fun x M4 ⟨e4, e5⟩ => ⟨f i d, e4, ?_, .inl ⟨?_, e5⟩⟩
    · rw [List.length_take]; omega
    · rw [List.take_add_one, List.getElem?_mapIdx, hd]
      rfl
  · subst e1 e2
    rw [List.take_of_length_le (by rw [List.length_mapIdx]; exact Nat.le_refl _)]
    exact q
/-- over a range -/
theorem lc_rng (f : Nat → D) {n : Nat} (hC : C M) (hz : n < sizeLine)
    (h : ∀ i, i < n → WG K g (.d (.int (i : Int))) (wipeE env vs) M fun e2 M2 => M2 = M ∧ WE K te e2 M fun x M4 => x = .d (f i) ∧ M4 = M) (q : QN (.lst ((List.range n).map f)) M) : LcOk K g tYes te vs ((rng0 n).map D.int) C env M QN := by
  refine lc_all (fun i _ => f i) hC (by rw [rng0_dl]; exact hz) (fun i d hd => ?_) ?_
  · obtain ⟨hi, rfl⟩ := rng0_at hd
    exact h i hi
  · have e : ((rng0 n).map D.int).mapIdx (fun i _ => f i) = (List.range n).map f := by
      apply List.ext_getElem?
      intro i
      rw [List.getElem?_mapIdx, List.getElem?_map]
      by_cases hi : i < n
      · rw [rng0_get hi, List.getElem?_map, List.getElem?_range hi]
        rfl
      · rw [List.getElem?_eq_none_iff.mpr (by rw [rng0_len]; omega), List.getElem?_eq_none_iff.mpr (by simp; omega)]
        rfl
    rw [e]
    exact q
/-- over a list, item by item -/
theorem lc_map (f : D → D) {ds : List D} (hC : C M) (hz : ds.length < sizeLine)
    (h : ∀ d, d ∈ ds → WG K g (.d d) (wipeE env vs) M fun e2 M2 => M2 = M ∧ WE K te e2 M fun x M4 => x = .d (f d) ∧ M4 = M) (q : QN (.lst (ds.map f)) M) : LcOk K g tYes te vs ds C env M QN := by
  refine lc_all (fun _ d => f d) hC hz (fun i d hd => h d (List.mem_of_getElem? hd)) ?_
  have e : ds.mapIdx (fun _ d => f d) = ds.map f := by
    apply List.ext_getElem?
    intro i
    rw [List.getElem?_mapIdx, List.getElem?_map]
  rw [e]
  exact q
/-- [e for x in ds if p] -/
theorem lc_fil (p : D → Bool) (f : D → D) {ds : List D} (hC : C M) (hz : ds.length < sizeLine)
    (h : ∀ d, d ∈ ds → WG K g (.d d) (wipeE env vs) M fun e2 M2 => M2 = M ∧ WT K tt e2 M fun b M3 => b = p d ∧ M3 = M ∧ (b = true → WE K te e2 M fun x M4 => x = .d (f d) ∧ M4 = M)) (q : QN (.lst ((ds.filter p).map f)) M) : LcOk K g tt te vs ds C env M QN := by
  refine ⟨fun i acc M' => acc = ((ds.take i).filter p).map f ∧ M' = M, ⟨by simp, rfl⟩, fun i acc M' ⟨_, e⟩ => e ▸ hC, fun i d acc M' hd ⟨e1, e2⟩ => ?_, fun acc M' ⟨e1, e2⟩ => ?_⟩
  · subst e1 e2
    have hl : i < ds.length := (List.getElem?_eq_some_iff.mp hd).1
    intro as F H σ v w s r Qc c
    refine h d (List.mem_of_getElem? hd) as F H σ v w s r Qc fun e' M2 a2 F2 H2 σ2 s2 w2 r2 ⟨e3, q3⟩ => ?_
    subst e3
    refine c e' _ a2 F2 H2 σ2 s2 w2 r2 (q3.imp fun b M3 ⟨eb, e4, q4⟩ => ?_)
    subst e4
    have et : (ds.take (i + 1)).filter p = (ds.take i).filter p ++ (if p d = true then [d] else []) := by
      rw [List.take_add_one, hd, List.filter_append]
      cases hp : p d <;> simp [hp]
    cases b with
    | true =>
      rw [if_pos rfl]
      refine (q4 rfl).imp fun x M4 ⟨e5, e6⟩ => ⟨f d, e5, ?_, .inl ⟨?_, e6⟩⟩
      · rw [List.length_map]
        have := List.length_filter_le p (ds.take i)
        rw [List.length_take] at this
        omega
      · rw [et, ← eb, if_pos rfl, List.map_append]
        rfl
    | false =>
      rw [if_neg (by simp)]
      exact .inl ⟨by rw [et, ← eb, if_neg (by simp), List.append_nil], rfl⟩
  · subst e1 e2
    rw [List.take_of_length_le (Nat.le_refl _)]
    exact q
end
end PD
namespace PD
open PySem L2
/-! small things -/
def forget (n : Nat) (e : Env) : Env := e.map fun o => match o with
  | some (.m k) => if k < n then some (.m k) else none
  | o => o
theorem rel_forget {b : Nat} {I : Env → List O → Prop} {e : Env} {M : List O} (n : Nat) (hb : b ≤ n) (hn : n ≤ M.length) (hX : ∀ (k : Nat) (xs : List X), k < n → M[k]? ≠ some (.lstX xs)) (q : I (forget n e) (M.take n)) : Rel b I e M := by
  refine .inr ⟨forget n e, n, by simp [forget], fun i x h => ?_, hb, hn, fun i k h => ?_, hX, q⟩
  · unfold forget at h
    rw [List.getElem?_map] at h
    cases e1 : e[i]? with
    | none => rw [e1] at h; cases h
    | some o =>
      rw [e1] at h
      cases o with
      | none => cases h
      | some y =>
        cases y with
        | d y => exact h
        | m k =>
          have h2 : some (if k < n then some (X.m k) else none) = some (some x) := h
          by_cases hk : k < n
          · rw [if_pos hk] at h2; exact h2
          · rw [if_neg hk] at h2; cases h2
  · unfold forget at h
    rw [List.getElem?_map] at h
    cases e1 : e[i]? with
    | none => rw [e1] at h; cases h
    | some o =>
      rw [e1] at h
      cases o with
      | none => cases h
      | some y =>
        cases y with
        | d y => cases h
        | m j =>
          have h2 : some (if j < n then some (X.m j) else none) = some (some (X.m k)) := h
          by_cases hk : j < n
          · rw [if_pos hk] at h2; cases h2; exact hk
          · rw [if_neg hk] at h2; cases h2
theorem rel_drop0 {I : Env → List O → Prop} {e : Env} {M : List O} (q : I (forget 0 e) []) : Rel 0 I e M := rel_forget 0 (Nat.le_refl _) (Nat.zero_le _) (fun k xs h => absurd h (Nat.not_lt_zero k)) (by rw [List.take_zero]; exact q)
theorem atI_ints {ns : List Int} {r : Int} (h0 : 0 ≤ r) (h1 : r < ns.length) : ∃ m, m ∈ ns ∧ atI (ns.map D.int) r = some (.int m) := by
  have hl : r.toNat < ns.length := by omega
  refine ⟨ns[r.toNat], List.getElem_mem hl, ix_get h0 ?_⟩
  rw [List.getElem?_map, List.getElem?_eq_getElem hl]
  rfl
theorem cutL_map {α β : Type} (f : α → β) (xs : List α) (lo hi : Option Int) : cutL (xs.map f) lo hi = (cutL xs lo hi).map f := by
  unfold cutL
  rw [List.length_map, ← List.map_drop, ← List.map_take]
theorem cutL_len {α : Type} (xs : List α) (lo hi : Option Int) : (cutL xs lo hi).length ≤ xs.length := by
  unfold cutL
  rw [List.length_take, List.length_drop]
  omega
theorem cutL_mem {α : Type} {xs : List α} {lo hi : Option Int} {x : α} (h : x ∈ cutL xs lo hi) : x ∈ xs := List.mem_of_mem_drop (List.mem_of_mem_take h)
theorem sIx_nn {n d k : Nat} : HT.sIx n d (some (k : Int)) = min k n := HT.sIx_nat n d k
theorem cutL_to {α : Type} (xs : List α) (k : Nat) : cutL xs none (some (k : Int)) = xs.take k := by
  unfold cutL
  rw [HT.sIx_none, sIx_nn]
  show (xs.drop 0).take (min k xs.length - 0) = _
  rw [List.drop_zero, Nat.sub_zero]
  by_cases h : k ≤ xs.length
  · rw [Nat.min_eq_left h]
  · rw [Nat.min_eq_right (by omega), List.take_of_length_le (Nat.le_refl _), List.take_of_length_le (by omega)]
theorem cutL_from {α : Type} (xs : List α) (k : Nat) : cutL xs (some (k : Int)) none = xs.drop k := by
  unfold cutL
  rw [HT.sIx_none, sIx_nn]
  by_cases h : k ≤ xs.length
  · rw [Nat.min_eq_left h, List.take_of_length_le (by rw [List.length_drop]; exact Nat.le_refl _)]
  · rw [Nat.min_eq_right (by omega), List.drop_of_length_le (Nat.le_refl _), List.drop_of_length_le (by omega)]
    simp
/-- how an if goes -/
theorem ite_b {b : Bool} {A B : Prop} (h1 : b = true → A) (h2 : b = false → B) : if b = true then A else B := by
  cases b with
  | true => rw [if_pos rfl]; exact h1 rfl
  | false => rw [if_neg (by simp)]; exact h2 rfl
abbrev sp_law : Spec := spLaw
theorem sp_law_len : ∀ xs M Q E, sp_law xs M Q E → xs.length = 1 := by rintro xs M Q E ⟨n, rfl, _⟩; rfl
theorem callD {P : Prop} (h : P) : P := h
end PD

namespace PD
open PySem L2
/-! our own steps: "v" one step of an expression, "e" all of them, "s" a statement -/
local macro_rules
  | `(tactic| walk_at "v") => `(tactic| first
    | ((with_reducible apply we_var); (exact rfl))
    | (with_reducible refine we_int ?_)
    | (with_reducible refine we_op ?_)
    | (with_reducible refine w2_add ?_)
    | (with_reducible refine w2_sub ?_)
    | (with_reducible refine w2_lt ?_)
    | (with_reducible refine w2_le ?_)
    | (with_reducible refine w2_gt ?_)
    | (with_reducible refine w2_ge ?_)
    | (with_reducible refine w2_eq ?_)
    | (with_reducible refine w2_ne ?_)
    | (with_reducible refine w2_iadd ?_)
    | (with_reducible refine wa_cons ?_)
    | (with_reducible refine wa_nil ?_)
    | (with_reducible refine we_cb ?_)
    | (with_reducible refine wc_int ?_)
    | (with_reducible refine we_str ?_)
    | (with_reducible refine we_bl ?_)
    | (with_reducible refine we_non ?_)
    | (with_reducible refine we_ty ?_)
    | (with_reducible refine we_un ?_)
    | (with_reducible refine w1_neg ?_)
    | (with_reducible refine wt_test ?_)
    | (with_reducible refine wt_B ?_)
    | (with_reducible refine wt_yes ?_)
    | (with_reducible refine wt_and ?_)
    | (with_reducible refine wt_or ?_)
    | (with_reducible refine wt_not ?_)
    | (with_reducible refine wt_tru ?_)
    | (with_reducible refine we_notV ?_)
    | (with_reducible refine we_andV ?_)
    | (with_reducible refine we_orV ?_)
    | (with_reducible refine we_if ?_)
    | (with_reducible refine we_chain ?_)
    | (with_reducible refine we_slice ?_)
    | (with_reducible refine wo_none ?_)
    | (with_reducible refine wo_some ?_)
    | (with_reducible refine we_tup ?_)
    | (with_reducible refine we_lst ?_)
    | (with_reducible refine wg_name ?_)
    | (with_reducible refine wgs_nil ?_)
    | (with_reducible refine wgs_cons ?_)
    | (with_reducible refine wg_tup rfl ?_)
    | (with_reducible refine wg_sub ?_)
    | (refine ⟨_, rfl, ?_⟩)
    | (refine ⟨sz_lit (Nat.le_of_ble_eq_true rfl), ?_⟩)
    | (refine ⟨_, _, rfl, rfl, ?_⟩))
local macro_rules
  | `(tactic| walk_at "e") => `(tactic| repeat walk_at "v")
local macro_rules
  | `(tactic| walk_at "s") => `(tactic| (walk_at "e"; (try with_reducible refine rs_seq ?_); (first
    | (with_reducible refine rs_asgN ?_)
    | (with_reducible refine rs_asg ?_)
    | (with_reducible refine rs_ret ?_)
    | (with_reducible refine rs_retN ?_)
    | (with_reducible refine rs_drop ?_)
    | (with_reducible refine rs_if ?_)
    | (with_reducible refine rs_par ?_)
    | (with_reducible refine rs_next ?_)
    | (with_reducible refine rs_cont ?_)
    | (with_reducible refine rs_break ?_)
    | ((with_reducible apply rs_aug); (exact rfl))); walk_at "e"))

/-! ### the text -/
def topS (i : Nat) : Stmt := PySem.Challenge.pw_plandays_k27_values_of_polynomials.main.body.getD i (.Pass ⟨0, 0, 0, 0⟩)
abbrev s_law_spring : Stmt := topS 6
abbrev s_law_draw : Stmt := topS 7
abbrev s_law_value : Stmt := topS 8
abbrev s_choose : Stmt := topS 1
abbrev s_value_at : Stmt := topS 3
abbrev s_law_is_integer : Stmt := topS 5
abbrev s_law : Stmt := topS 9
theorem sc_law_spring : FnScope ["cell", "low", "mixed", "k"] ["cell"] (defScope s_law_spring) := ⟨rfl, rfl, rfl, by decide +kernel, rfl, by decide +kernel, by decide +kernel⟩
theorem sc_law_draw : FnScope ["spring", "many", "drawn"] ["spring", "many"] (defScope s_law_draw) := ⟨rfl, rfl, rfl, by decide +kernel, rfl, by decide +kernel, by decide +kernel⟩
theorem sc_law_value : FnScope ["terms", "at", "total", "binomial", "k"] ["terms", "at"] (defScope s_law_value) := ⟨rfl, rfl, rfl, by decide +kernel, rfl, by decide +kernel, by decide +kernel⟩
theorem sc_choose : FnScope ["top", "bottom", "result", "index"] ["top", "bottom"] (defScope s_choose) := ⟨rfl, rfl, rfl, by decide +kernel, rfl, by decide +kernel, by decide +kernel⟩
theorem sc_value_at : FnScope ["poly", "n", "index"] ["poly", "n"] (defScope s_value_at) := ⟨rfl, rfl, rfl, by decide +kernel, rfl, by decide +kernel, by decide +kernel⟩
theorem sc_law_is_integer : FnScope ["found"] ["found"] (defScope s_law_is_integer) := ⟨rfl, rfl, rfl, by decide +kernel, rfl, by decide +kernel, by decide +kernel⟩
theorem sc_law : FnScope ["script", "cell", "spring", "most", "long", "at", "ends", "row", "handed", "due", "found", "spot", "k"] ["script"] (defScope s_law) := ⟨rfl, rfl, rfl, by decide +kernel, rfl, by decide +kernel, by decide +kernel⟩
structure Txt (K : PySem.W.Frag) (mg : Str → Option Value) where
  a_law_spring : Addr
  fd_law_spring : FuncData
  k_law_spring : Kn K mg "_law_spring" "_law_spring" s_law_spring a_law_spring fd_law_spring ["cell"]
  a_law_draw : Addr
  fd_law_draw : FuncData
  k_law_draw : Kn K mg "_law_draw" "_law_draw" s_law_draw a_law_draw fd_law_draw ["spring", "many"]
  a_law_value : Addr
  fd_law_value : FuncData
  k_law_value : Kn K mg "_law_value" "_law_value" s_law_value a_law_value fd_law_value ["terms", "at"]
  a_choose : Addr
  fd_choose : FuncData
  k_choose : Kn K mg "choose" "choose" s_choose a_choose fd_choose ["top", "bottom"]
  a_value_at : Addr
  fd_value_at : FuncData
  k_value_at : Kn K mg "value_at" "value_at" s_value_at a_value_at fd_value_at ["poly", "n"]
  a_law_is_integer : Addr
  fd_law_is_integer : FuncData
  k_law_is_integer : Kn K mg "_law_is_integer" "_law_is_integer" s_law_is_integer a_law_is_integer fd_law_is_integer ["found"]
  a_law : Addr
  fd_law : FuncData
  k_law : Kn K mg "law" "law" s_law a_law fd_law ["script"]
  bool_ : mg "bool" = none
  int_ : mg "int" = none
  isinstance_ : mg "isinstance" = none
  len_ : mg "len" = none
  list_ : mg "list" = none
  range_ : mg "range" = none
  sum_ : mg "sum" = none
section
variable {P : Program} {w : World} {K : PySem.W.Frag} {mg : Str → Option Value} {base : Heap}
/-! ### _law_spring -/
/-- a new list of one integer, any -/
def sp_law_spring : Spec := fun xs M Q _ => ∃ c : Int, xs = [.d (.int c)] ∧ M = [] ∧ ∀ z : Int, Q (.m 0) [.lst [.int z]]
theorem sp_law_spring_len : ∀ xs M Q E, sp_law_spring xs M Q E → xs.length = 1 := by rintro xs M Q E ⟨n, rfl, _⟩; rfl
theorem sp_law_spring_mono : Mono sp_law_spring := by
  rintro ys M0 Q1 Q2 E1 E2 h1 h2 ⟨n, e, e2, q⟩
  exact ⟨n, e, e2, fun z => h1 _ _ (q z)⟩
theorem ok_law_spring (T : Txt K mg) : FnOk P w K mg base CX0 1 T.a_law_spring T.fd_law_spring ["cell"] (spD K sp_law_spring) := by
  refine ok_of T.k_law_spring.fn sc_law_spring (sp_law_spring_len) fun cdv A outer s H E hr => ⟨_, (pss_cons (ps_if (pt_cmpR op_ge (pv 0) (pe_op op_pow pe_int pe_int) (nomark _)) (pss_one (ps_ret (pe_lst (pa_cons (pe_op op_sub (pv 0) (pe_op op_pow pe_int pe_int)) pa_nil)))) pss_nil)
    (pss_cons (ps_set (i := 1) sc_law_spring.nd rfl (Or.inl rfl) (pe_op op_mod (pe_callTy call_intA (by rfl) T.int_ (by decide +kernel) (pa_cons (pv 0) pa_nil)) pe_int))
    (pss_cons (ps_set (i := 2) sc_law_spring.nd rfl (Or.inl rfl) pe_int)
    (pss_cons (ps_for PassesOwn.never rfl (pi_range1 (by rfl) T.range_ (pa_cons pe_int pa_nil)) (pg_name (i := 3) sc_law_spring.nd rfl (Or.inl rfl)) (pss_cons (ps_set (i := 1) sc_law_spring.nd rfl (Or.inl rfl) (pe_op op_mod (pe_callTy call_intA (by rfl) T.int_ (by decide +kernel) (pa_cons (pe_op (op_addK K) (pe_op (op_addK K) (pe_op (op_addK K) (pe_op (op_mulK K) (pv 1) (pv 1)) (pe_op (op_mulK K) (pe_op (op_addK K) pe_int (pe_op (op_mulK K) pe_int (pv 3))) (pv 1))) (pe_op (op_mulK K) pe_int (pv 3))) pe_int) pa_nil)) pe_int))
    (pss_one (ps_set (i := 2) sc_law_spring.nd rfl (Or.inl rfl) (pe_op (op_addK K) (pe_op (op_mulK K) (pv 2) (pe_op op_pow pe_int pe_int)) (pe_op op_fdivW (pv 1) pe_int))))))
    (pss_one (ps_ret (pe_lst (pa_cons (pv 2) pa_nil)))))))), fun xs M Qd Ed h => ?_⟩
  obtain ⟨c, rfl, rfl, q⟩ := h
  walk_at "s"
  refine w2_pow ⟨by decide, by decide, by decide⟩ ?_
  walk_at "e"
  refine ite_b (fun _ => ?_) (fun _ => ?_)
  · refine rs_ret (we_lstO ?_)
    walk_at "e"
    refine w2_pow ⟨by decide, by decide, by decide⟩ ?_
    walk_at "e"
    exact q _
  · walk_at "s"
    walk_at "s"
    refine w2_mod (by decide) ?_
    walk_at "s"
    refine rs_seq (rs_for (wi_rng1 ?_))
    walk_at "e"
    refine ⟨by decide, fun i e M' => ∃ (lo mi : Int) (x : Option X), e = [some (.d (.int c)), some (.d (.int lo)), some (.d (.int mi)), x] ∧ M' = [] ∧ i ≤ 10 ∧ lo.natAbs < 2 ^ 60 ∧ mi.natAbs < 2 ^ (70 * i + 1),
      ⟨_, _, _, rfl, rfl, by decide, ?_, by decide⟩, fun _ _ _ _ => trivial, ?_, ?_⟩
    · exact bd_mod (by decide) (by decide)
    · rintro i d e M' hd ⟨lo, mi, x, rfl, rfl, hi, hlo, hmi⟩
      obtain ⟨hi2, rfl⟩ := rng0_at hd
      have hi2 : i < 10 := by simpa using hi2
      have hk : ((i : Nat) : Int).natAbs < 2 ^ 60 := by
        have : (10 : Nat) < 2 ^ 60 := by decide
        omega
      walk_at "e"
      walk_at "s"
      refine w2_mul (cmul_of hlo hlo (by decide)) ?_
      walk_at "e"
      refine w2_mul (cmul_of (a := 60) (b := 60) (by decide) hk (by decide)) ?_
      walk_at "e"
      refine w2_mul (cmul_of (a := 60) (b := 60) (by
        have e1 : (2 : Nat) ^ 60 = 1152921504606846976 := by decide
        omega) hlo (by decide)) ?_
      walk_at "e"
      refine w2_mul (cmul_of (a := 60) (b := 60) (by decide) hk (by decide)) ?_
      walk_at "e"
      refine w2_mod (by decide) ?_
      walk_at "s"
      refine w2_pow ⟨by decide, by decide, by decide⟩ ?_
      refine w2_mul (cmul_of (b := 60) hmi (by decide) (by omega)) ?_
      walk_at "e"
      refine w2_fdiv (cdiv_of (b := 60) (by decide) (by decide) (by decide)) ?_
      walk_at "e"
      refine .inl ⟨_, _, _, rfl, rfl, hi2, bd_mod (by decide) (by decide), ?_⟩
      have h1 := bd_mul hmi (show ((10 : Int) ^ (17 : Int).toNat).natAbs < 2 ^ 57 by decide)
      have h2 := bd_div (bd_mod (i := lo * lo + (48271 + 2 * (i : Int)) * lo + 69621 * (i : Int) + 5) (show ((999999999999999877 : Int)).natAbs < 2 ^ 60 by decide) (by decide)) (show (0 : Int) < 10 by decide)
      have h3 := bd_add (lt_pow_of h1 (show 70 * i + 1 + 57 ≤ 70 * i + 70 by omega)) (lt_pow_of h2 (show 60 ≤ 70 * i + 70 by omega))
      exact h3
    · rintro e M' ⟨lo, mi, x, rfl, rfl, _⟩
      refine rs_ret (we_lstO ?_)
      walk_at "e"
      exact q _

/-! ### _law_draw -/
/-- a number below many is drawn; the spring holds another integer -/
def sp_law_draw : Spec := fun xs M Q _ => ∃ m z : Int, xs = [.m 0, .d (.int m)] ∧ M = [.lst [.int z]] ∧ 0 < m ∧ m.natAbs < 2 ^ 8000 ∧ ∀ r z' : Int, 0 ≤ r → r < m → Q (.d (.int r)) [.lst [.int z']]
theorem sp_law_draw_len : ∀ xs M Q E, sp_law_draw xs M Q E → xs.length = 2 := by rintro xs M Q E ⟨n, z, rfl, _⟩; rfl
theorem sp_law_draw_mono : Mono sp_law_draw := by
  rintro ys M0 Q1 Q2 E1 E2 h1 h2 ⟨n, z, e, e2, a, b, q⟩
  exact ⟨n, z, e, e2, a, b, fun r z' c d => h1 _ _ (q r z' c d)⟩
theorem ok_law_draw (T : Txt K mg) : FnOk P w K mg base CX0 1 T.a_law_draw T.fd_law_draw ["spring", "many"] (spD K sp_law_draw) := by
  refine ok_of T.k_law_draw.fn sc_law_draw (sp_law_draw_len) fun cdv A outer s H E hr => ⟨_, (pss_cons (ps_set (i := 2) sc_law_draw.nd rfl (Or.inl rfl) (pe_op op_mod (pe_callTy call_intA (by rfl) T.int_ (by decide +kernel) (pa_cons (pe_ix (ixK K) (pv 0) pe_int (fun _ _ => rfl)) pa_nil)) (pv 1)))
    (pss_cons (ps_asg (pe_op op_fdivW (pe_ix (ixK K) (pv 0) pe_int (fun _ _ => rfl)) (pv 1)) (pg_sub (pv 0) pe_int set_list))
    (pss_one (ps_ret (pv 2))))), fun xs M Qd Ed h => ?_⟩
  obtain ⟨m, z, rfl, rfl, hm, hb, q⟩ := h
  walk_at "s"
  refine w2_ix rfl rfl ?_
  walk_at "e"
  refine w2_mod hm ?_
  walk_at "s"
  refine w2_ix rfl rfl ?_
  walk_at "e"
  refine w2_fdiv (cdiv_of hm hb (by decide)) ?_
  walk_at "e"
  refine wset_list rfl rfl ?_
  walk_at "s"
  exact q _ _ (Int.emod_nonneg _ (by omega)) (Int.emod_lt_of_pos _ hm)

/-! ### mpoly -/
/-- the binomial coefficient of an integer, as the program reckons it -/
def cz (n : Int) : Nat → Int
  | 0 => 1
  | k + 1 => cz n k * (n - k) / (k + 1)
theorem cz_bd {n : Int} {b : Nat} (hn : n.natAbs < 2 ^ b) : ∀ k : Nat, k < 2 ^ b → (cz n k).natAbs < 2 ^ ((b + 1) * k + 1)
  | 0, _ => by simp [cz]
  | k + 1, h => by
    have ih := cz_bd hn k (by omega)
    have h1 : (n - (k : Int)).natAbs < 2 ^ (b + 1) := bd_sub hn (by omega)
    have h2 := bd_div (bd_mul ih h1) (show (0 : Int) < (k : Int) + 1 by omega)
    have e : (b + 1) * k + 1 + (b + 1) = (b + 1) * (k + 1) + 1 := by rw [Nat.mul_succ]; omega
    rw [e] at h2
    exact h2
/-- the value of a polynomial -/
def vat (cs : List Int) (n : Int) : Int := ((List.range cs.length).map fun i => cs.getD i 0 * cz n i).sum
/-- how great all that is reckoned with may be -/
def Bnd (cs : List Int) (n : Int) (b a : Nat) : Prop := (∀ c ∈ cs, c.natAbs < 2 ^ a) ∧ n.natAbs < 2 ^ b ∧ cs.length < 2 ^ b ∧ b ≤ 8000 ∧ (b + 1) * (cs.length + 1) + 10 + a ≤ 900000
theorem getD_bd {cs : List Int} {a : Nat} (h : ∀ c ∈ cs, c.natAbs < 2 ^ a) (i : Nat) : (cs.getD i 0).natAbs < 2 ^ a := by
  rw [List.getD_eq_getElem?_getD]
  cases e : cs[i]? with
  | none => exact Nat.two_pow_pos a
  | some c => exact h c (List.mem_of_getElem? e)
theorem getD_at {cs : List Int} {i : Nat} (h : i < cs.length) : atI (cs.map D.int) (i : Int) = some (.int (cs.getD i 0)) := by
  refine ix_get (by omega) ?_
  rw [Int.toNat_natCast, List.getElem?_map, List.getElem?_eq_getElem h, List.getD_eq_getElem?_getD, List.getElem?_eq_getElem h]
  rfl
theorem vat_part (cs : List Int) (n : Int) (i : Nat) : ((List.range (i + 1)).map fun i => cs.getD i 0 * cz n i).sum = ((List.range i).map fun i => cs.getD i 0 * cz n i).sum + cs.getD i 0 * cz n i := by
  rw [List.range_succ, List.map_append, List.sum_append]
  simp
def sp_val : Spec := fun xs M Q _ => ∃ (cs : List Int) (n : Int) (b a : Nat), xs = [.d (.lst (cs.map D.int)), .d (.int n)] ∧ M = [] ∧ Bnd cs n b a ∧ Q (.d (.int (vat cs n))) []
theorem sp_val_len : ∀ xs M Q E, sp_val xs M Q E → xs.length = 2 := by rintro xs M Q E ⟨n, k, b, a, rfl, _⟩; rfl
theorem sp_val_mono : Mono sp_val := by
  rintro ys M0 Q1 Q2 E1 E2 h1 h2 ⟨n, k, b, a, e, e2, hb, q⟩
  exact ⟨n, k, b, a, e, e2, hb, h1 _ _ q⟩

/-! ### _law_value -/
def sp_law_value : Spec := sp_val
theorem sp_law_value_len : ∀ xs M Q E, sp_law_value xs M Q E → xs.length = 2 := sp_val_len
theorem sp_law_value_mono : Mono sp_law_value := sp_val_mono
theorem ok_law_value (T : Txt K mg) : FnOk P w K mg base CX0 1 T.a_law_value T.fd_law_value ["terms", "at"] (spD K sp_law_value) := by
  refine ok_of T.k_law_value.fn sc_law_value (sp_law_value_len) fun cdv A outer s H E hr => ⟨_, (pss_cons (ps_set (i := 2) sc_law_value.nd rfl (Or.inl rfl) pe_int)
    (pss_cons (ps_set (i := 3) sc_law_value.nd rfl (Or.inl rfl) pe_int)
    (pss_cons (ps_for PassesOwn.never rfl (pi_range1 (by rfl) T.range_ (pa_cons (pe_callB (call_lenK K) (by rfl) T.len_ (by decide +kernel) (pa_cons (pv 0) pa_nil)) pa_nil)) (pg_name (i := 4) sc_law_value.nd rfl (Or.inl rfl)) (pss_cons (ps_set (i := 2) sc_law_value.nd rfl (Or.inl rfl) (pe_op (op_addK K) (pv 2) (pe_op (op_mulK K) (pe_ix (ixK K) (pv 0) (pv 4) (fun _ _ => rfl)) (pv 3))))
    (pss_one (ps_set (i := 3) sc_law_value.nd rfl (Or.inl rfl) (pe_op op_fdivW (pe_op (op_mulK K) (pv 3) (pe_op op_sub (pv 1) (pv 4))) (pe_op (op_addK K) (pv 4) pe_int))))))
    (pss_one (ps_ret (pv 2)))))), fun xs M Qd Ed h => ?_⟩
  obtain ⟨cs, n, b, a, rfl, rfl, ⟨hc, hn, hl, hb, hz⟩, q⟩ := h
  have hl2 : cs.length < 900000 := by
    have : cs.length + 1 ≤ (b + 1) * (cs.length + 1) := Nat.le_mul_of_pos_left _ (by omega)
    omega
  walk_at "s"
  walk_at "s"
  refine rs_seq (rs_for (wi_rng1 ?_))
  walk_at "e"
  refine wc_len rfl ?_
  walk_at "e"
  refine ⟨by rw [List.length_map]; omega, fun i e M' => ∃ x, e = [some (.d (.lst (cs.map D.int))), some (.d (.int n)), some (.d (.int ((List.range i).map fun i => cs.getD i 0 * cz n i).sum)), some (.d (.int (cz n i))), x] ∧ M' = [] ∧ i ≤ cs.length, ⟨_, rfl, rfl, Nat.zero_le _⟩, fun _ _ _ _ => trivial, ?_, ?_⟩
  · rintro i d e M' hd ⟨x, rfl, rfl, hi⟩
    obtain ⟨hi2, rfl⟩ := rng0_at hd
    have hi2 : i < cs.length := by simpa using hi2
    have hm : (b + 1) * (i + 1) ≤ (b + 1) * (cs.length + 1) := Nat.mul_le_mul_left _ (by omega)
    have hm2 : (b + 1) * (i + 1) = (b + 1) * i + (b + 1) := Nat.mul_succ _ _
    have h2 := cz_bd hn i (by omega)
    have h1 : (n - (i : Int)).natAbs < 2 ^ (b + 1) := bd_sub hn (by omega)
    walk_at "e"
    walk_at "s"
    refine w2_ix rfl (getD_at hi2) ?_
    walk_at "e"
    refine w2_mul (cmul_of (getD_bd hc i) h2 (by omega)) ?_
    walk_at "s"
    refine w2_mul (cmul_of h2 h1 (by omega)) ?_
    walk_at "e"
    refine w2_fdiv (cdiv_of (b := b + 1) (by omega) (by rw [Nat.pow_succ]; omega) (by omega)) ?_
    exact .inl ⟨_, by rw [vat_part]; rfl, rfl, hi2⟩
  · rintro e M' ⟨x, rfl, rfl, hi⟩
    rw [rng0_dl, Int.toNat_natCast, List.length_map]
    walk_at "s"
    exact q

/-! ### choose -/
def sp_choose : Spec := fun xs M Q _ => ∃ (n : Int) (k b : Nat), xs = [.d (.int n), .d (.int (k : Int))] ∧ M = [] ∧ n.natAbs < 2 ^ b ∧ k < 2 ^ b ∧ b ≤ 8000 ∧ (b + 1) * (k + 1) + 3 ≤ 1000000 ∧ Q (.d (.int (cz n k))) []
theorem sp_choose_len : ∀ xs M Q E, sp_choose xs M Q E → xs.length = 2 := by rintro xs M Q E ⟨n, k, b, rfl, _⟩; rfl
theorem sp_choose_mono : Mono sp_choose := by
  rintro ys M0 Q1 Q2 E1 E2 h1 h2 ⟨n, k, b, e, e2, a, b', c, d, q⟩
  exact ⟨n, k, b, e, e2, a, b', c, d, h1 _ _ q⟩
theorem ok_choose (T : Txt K mg) : FnOk P w K mg base CX0 1 T.a_choose T.fd_choose ["top", "bottom"] (spD K sp_choose) := by
  refine ok_of T.k_choose.fn sc_choose (sp_choose_len) fun cdv A outer s H E hr => ⟨_, (pss_cons (ps_set (i := 2) sc_choose.nd rfl (Or.inl rfl) pe_int)
    (pss_cons (ps_for PassesOwn.never rfl (pi_range1 (by rfl) T.range_ (pa_cons (pv 1) pa_nil)) (pg_name (i := 3) sc_choose.nd rfl (Or.inl rfl)) (pss_one (ps_set (i := 2) sc_choose.nd rfl (Or.inl rfl) (pe_op op_fdivW (pe_op (op_mulK K) (pv 2) (pe_op op_sub (pv 0) (pv 3))) (pe_op (op_addK K) (pv 3) pe_int)))))
    (pss_one (ps_ret (pv 2))))), fun xs M Qd Ed h => ?_⟩
  obtain ⟨n, k, b, rfl, rfl, hn, hk, hb, hz, q⟩ := h
  walk_at "s"
  refine rs_seq (rs_for (wi_rng1 ?_))
  walk_at "e"
  have hk2 : k < 1000000 := by
    have : k + 1 ≤ (b + 1) * (k + 1) := Nat.le_mul_of_pos_left _ (by omega)
    omega
  refine ⟨by omega, fun i e M' => ∃ x, e = [some (.d (.int n)), some (.d (.int (k : Int))), some (.d (.int (cz n i))), x] ∧ M' = [] ∧ i ≤ k, ⟨_, rfl, rfl, Nat.zero_le _⟩, fun _ _ _ _ => trivial, ?_, ?_⟩
  · rintro i d e M' hd ⟨x, rfl, rfl, hi⟩
    obtain ⟨hi2, rfl⟩ := rng0_at hd
    have hi2 : i < k := by simpa using hi2
    walk_at "e"
    walk_at "s"
    have h0 := cz_bd hn i (by omega)
    have h1 : (n - (i : Int)).natAbs < 2 ^ (b + 1) := bd_sub hn (by omega)
    have h4 : (b + 1) * i + (b + 1) ≤ (b + 1) * (k + 1) := by
      have := Nat.mul_le_mul_left (b + 1) (show i + 1 ≤ k + 1 by omega)
      rw [Nat.mul_succ] at this
      exact this
    refine w2_mul (cmul_of h0 h1 (by omega)) ?_
    walk_at "e"
    refine w2_fdiv (cdiv_of (b := b + 1) (by omega) (by rw [Nat.pow_succ]; omega) (by omega)) ?_
    exact .inl ⟨_, rfl, rfl, hi2⟩
  · rintro e M' ⟨x, rfl, rfl, hi⟩
    rw [rng0_dl]
    walk_at "s"
    exact q

/-! ### value_at -/
def sp_value_at : Spec := sp_val
theorem sp_value_at_len : ∀ xs M Q E, sp_value_at xs M Q E → xs.length = 2 := sp_val_len
theorem sp_value_at_mono : Mono sp_value_at := sp_val_mono
theorem ok_value_at (T : Txt K mg) : FnOk P w K mg base CX0 2 T.a_value_at T.fd_value_at ["poly", "n"] (spD K sp_value_at) := by
  have G_choose : FnOk P w K mg base CX0 1 T.a_choose T.fd_choose ["top", "bottom"] (spD K sp_choose) := ok_choose T
  refine ok_of T.k_value_at.fn sc_value_at (sp_value_at_len) fun cdv A outer s H E hr => ⟨_, (pss_one (ps_ret (pe_callB (cr_sumK K) (by rfl) T.sum_ (by decide +kernel) (pa_cons (pe_lc (own := [("index", 2)]) rfl sc_value_at.nd (pi_range1 (by rfl) T.range_ (pa_cons (pe_callB (call_lenK K) (by rfl) T.len_ (by decide +kernel) (pa_cons (pv 0) pa_nil)) pa_nil)) (blkOk_by (own := [("index", 2)]) (N := ["poly", "n", "index"]) (sc := defScope s_value_at) (by decide +kernel)) (fun _ _ _ _ _ => (pg_name (i := 2) sc_value_at.nd rfl (by first | exact Or.inl rfl | exact Or.inr rfl))) (fun _ _ _ _ _ => pts_nil) (fun _ _ _ _ _ => (pe_op (op_mulK K) (pe_ix (ixK K) (pv 0) (pv 2) (fun _ _ => rfl)) (pe_call G_choose (hr.mono (by decide)) (by rfl) T.k_choose.g T.k_choose.fn.kp T.k_choose.b .nil pass0 (pa_cons (pv 1) (pa_cons (pv 2) pa_nil)))))) pa_nil)))), fun xs M Qd Ed h => ?_⟩
  obtain ⟨cs, n, b, a, rfl, rfl, ⟨hc, hn, hl, hb, hz⟩, q⟩ := h
  have hl2 : cs.length < 900000 := by
    have : cs.length + 1 ≤ (b + 1) * (cs.length + 1) := Nat.le_mul_of_pos_left _ (by omega)
    omega
  walk_at "s"
  refine we_lc (gw_name (by simp)) (wi_rng1 ?_)
  walk_at "e"
  refine wc_len rfl ?_
  walk_at "e"
  refine ⟨by rw [List.length_map]; omega, ?_⟩
  rw [Int.toNat_natCast, List.length_map]
  refine lc_rng (fun i => .int (cs.getD i 0 * cz n i)) trivial (sz_lt (by omega)) (fun i hi => ?_) ⟨_, rfl, ?_⟩
  · walk_at "e"
    refine ⟨rfl, ?_⟩
    walk_at "e"
    refine w2_ix rfl (getD_at hi) ?_
    have hm : (b + 1) * (i + 1) ≤ (b + 1) * (cs.length + 1) := Nat.mul_le_mul_left _ (by omega)
    refine we_call ?_
    walk_at "e"
    refine callP rfl ⟨n, i, b, rfl, rfl, hn, by omega, hb, by omega, _, rfl, rfl, ?_⟩ sp_choose_mono
    have h2 := cz_bd hn i (by omega)
    have hm2 : (b + 1) * i ≤ (b + 1) * (i + 1) := Nat.mul_le_mul_left _ (by omega)
    exact w2_mul (cmul_of (getD_bd hc i) h2 (by omega)) ⟨rfl, rfl⟩
  · walk_at "e"
    exact wc_sum (ns := (List.range cs.length).map fun i => cs.getD i 0 * cz n i) (by show some _ = some _; rw [List.map_map]; rfl) q

/-! ### _law_is_integer -/
def sp_law_is_integer : Spec := fun xs M Q _ => ∃ i : Int, xs = [.d (.int i)] ∧ M = [] ∧ Q (.d (.bl true)) []
theorem sp_law_is_integer_len : ∀ xs M Q E, sp_law_is_integer xs M Q E → xs.length = 1 := by rintro xs M Q E ⟨n, rfl, _⟩; rfl
theorem sp_law_is_integer_mono : Mono sp_law_is_integer := by
  rintro ys M0 Q1 Q2 E1 E2 h1 h2 ⟨n, e, e2, q⟩
  exact ⟨n, e, e2, h1 _ _ q⟩
theorem ok_law_is_integer (T : Txt K mg) : FnOk P w K mg base CX0 1 T.a_law_is_integer T.fd_law_is_integer ["found"] (spD K sp_law_is_integer) := by
  refine ok_of T.k_law_is_integer.fn sc_law_is_integer (sp_law_is_integer_len) fun cdv A outer s H E hr => ⟨_, (pss_one (ps_ret (pe_and (pe_callB (call_isiK' K) (by rfl) T.isinstance_ (by decide +kernel) (pa_cons (pv 0) (pa_cons (pe_bltn (by rfl) T.int_ (by decide +kernel) (v := .ty "int") rfl) pa_nil))) (pe_one (pe_not (pe_callB (call_isiK' K) (by rfl) T.isinstance_ (by decide +kernel) (pa_cons (pv 0) (pa_cons (pe_bltn (by rfl) T.bool_ (by decide +kernel) (v := .ty "bool") rfl) pa_nil)))))))), fun xs M Qd Ed h => ?_⟩
  obtain ⟨i, rfl, rfl, q⟩ := h
  walk_at "s"
  refine wc_isi (d := .non) tx_int (b := true) (by decide +kernel) ?_
  walk_at "e"
  refine ite_b (fun _ => ?_) (fun h => by cases h)
  walk_at "e"
  refine wc_isi (d := .non) tx_int (b := false) (by decide +kernel) ?_
  walk_at "e"
  exact q

/-! ### mpascal -/
/-! Pascal's rule for the program's binomials -/
def ff (n : Int) : Nat → Int
  | 0 => 1
  | k + 1 => ff n k * (n - k)
def fac : Nat → Int
  | 0 => 1
  | k + 1 => fac k * (k + 1)
theorem ff_shift (n : Int) : ∀ k : Nat, ff (n + 1) (k + 1) = (n + 1) * ff n k
  | 0 => by simp [ff]
  | k + 1 => by
    have ih := ff_shift n k
    have h1 : ff (n + 1) (k + 2) = ff (n + 1) (k + 1) * (n + 1 - ((k + 1 : Nat) : Int)) := rfl
    have h2 : ff n (k + 1) = ff n k * (n - (k : Int)) := rfl
    rw [h1, ih, h2, show n + 1 - ((k + 1 : Nat) : Int) = n - (k : Int) by omega, Int.mul_assoc]
theorem ff_pascal (n : Int) (k : Nat) : ff (n + 1) (k + 1) = ff n (k + 1) + ((k : Int) + 1) * ff n k := by
  have h2 : ff n (k + 1) = ff n k * (n - (k : Int)) := rfl
  rw [ff_shift, h2]
  grind
theorem ff_zero : ∀ k : Nat, ff 0 (k + 1) = 0
  | 0 => by simp [ff]
  | k + 1 => by
    have h1 : ff 0 (k + 2) = ff 0 (k + 1) * (0 - ((k + 1 : Nat) : Int)) := rfl
    rw [h1, ff_zero k, Int.zero_mul]
theorem fac_pos : ∀ k : Nat, 0 < fac k
  | 0 => by simp [fac]
  | k + 1 => Int.mul_pos (fac_pos k) (by omega)
theorem int_ind {P : Int → Prop} (h0 : P 0) (up : ∀ n, P n → P (n + 1)) (dn : ∀ n, P (n + 1) → P n) (n : Int) : P n := by
  rcases Int.le_total 0 n with h | h
  · obtain ⟨m, rfl⟩ := Int.eq_ofNat_of_zero_le h
    induction m with
    | zero => exact h0
    | succ m ih => exact up _ (ih (by omega))
  · obtain ⟨m, hm⟩ := Int.eq_ofNat_of_zero_le (show 0 ≤ -n by omega)
    have : n = -(m : Int) := by omega
    subst this
    clear h hm
    induction m with
    | zero => exact h0
    | succ m ih => exact dn _ (by rw [show -((m + 1 : Nat) : Int) + 1 = -(m : Int) by omega]; exact ih)
theorem fac_dvd : ∀ (k : Nat) (n : Int), fac k ∣ ff n k
  | 0, n => ⟨1, by simp [ff, fac]⟩
  | k + 1, n => by
    have ih := fac_dvd k
    have step : ∀ m : Int, (fac (k + 1) ∣ ff (m + 1) (k + 1)) ↔ fac (k + 1) ∣ ff m (k + 1) := fun m => by
      have h1 : fac (k + 1) ∣ ((k : Int) + 1) * ff m k := by
        obtain ⟨c, hc⟩ := ih m
        exact ⟨c, by rw [hc]; show _ = fac k * ((k : Int) + 1) * c; grind⟩
      rw [ff_pascal]
      exact ⟨fun h => (Int.dvd_add_left h1).mp h, fun h => (Int.dvd_add_left h1).mpr h⟩
    exact int_ind (P := fun m => fac (k + 1) ∣ ff m (k + 1)) (by rw [ff_zero]; exact Int.dvd_zero _) (fun m h => (step m).mpr h) (fun m h => (step m).mp h) n
theorem cz_fac (n : Int) : ∀ k : Nat, fac k * cz n k = ff n k
  | 0 => by simp [fac, cz, ff]
  | k + 1 => by
    have ih := cz_fac n k
    have h1 : cz n (k + 1) = cz n k * (n - k) / ((k : Int) + 1) := rfl
    have h2 : ff n (k + 1) = fac k * (cz n k * (n - (k : Int))) := by
      show ff n k * (n - (k : Int)) = _
      rw [← ih, Int.mul_assoc]
    obtain ⟨c, hc⟩ := fac_dvd (k + 1) n
    have h3 : cz n k * (n - (k : Int)) = ((k : Int) + 1) * c := by
      have h4 : fac k * (cz n k * (n - (k : Int))) = fac k * (((k : Int) + 1) * c) := by
        rw [← h2, hc]
        show fac k * ((k : Int) + 1) * c = _
        rw [Int.mul_assoc]
      exact Int.eq_of_mul_eq_mul_left (by have := fac_pos k; omega) h4
    rw [h1, h3, Int.mul_ediv_cancel_left _ (by omega), hc]
theorem cz_pascal (n : Int) (k : Nat) : cz (n + 1) (k + 1) = cz n (k + 1) + cz n k := by
  have h : fac (k + 1) * cz (n + 1) (k + 1) = fac (k + 1) * (cz n (k + 1) + cz n k) := by
    rw [cz_fac, ff_pascal, Int.mul_add, cz_fac, ← cz_fac n k]
    show _ = _ + fac k * ((k : Int) + 1) * cz n k
    grind
  exact Int.eq_of_mul_eq_mul_left (by have := fac_pos (k + 1); omega) h
theorem cz_zero (k : Nat) : cz 0 (k + 1) = 0 := by
  have h := cz_fac 0 (k + 1)
  rw [ff_zero] at h
  rcases Int.mul_eq_zero.mp h with h | h
  · have := fac_pos (k + 1); omega
  · exact h
/-- the exact step -/
theorem cz_step (n : Int) (k : Nat) : ((k : Int) + 1) * cz n (k + 1) = cz n k * (n - k) := by
  have h := cz_fac n (k + 1)
  have h2 : ff n (k + 1) = fac k * (cz n k * (n - (k : Int))) := by
    show ff n k * (n - (k : Int)) = _
    rw [← cz_fac n k, Int.mul_assoc]
  rw [h2] at h
  have h3 : fac k * (((k : Int) + 1) * cz n (k + 1)) = fac k * (cz n k * (n - (k : Int))) := by
    rw [← h]
    show _ = fac k * ((k : Int) + 1) * _
    rw [Int.mul_assoc]
  exact Int.eq_of_mul_eq_mul_left (by have := fac_pos k; omega) h3
/-! the value, item by item -/
def vlist : List Int → Int → Nat → Int
  | [], _, _ => 0
  | c :: r, n, i => c * cz n i + vlist r n (i + 1)
theorem vat_vlist_aux (n : Int) : ∀ (cs : List Int) (j : Nat), ((List.range cs.length).map fun i => cs.getD i 0 * cz n (i + j)).sum = vlist cs n j
  | [], j => by simp [vlist]
  | c :: r, j => by
    have ih := vat_vlist_aux n r (j + 1)
    rw [List.length_cons, List.range_succ_eq_map, List.map_cons, List.sum_cons, List.map_map]
    show _ = c * cz n j + vlist r n (j + 1)
    rw [← ih]
    congr 1
    · simp
    · congr 1
      apply List.map_congr_left
      intro i _
      show r.getD i 0 * cz n (i + 1 + j) = r.getD i 0 * cz n (i + (j + 1))
      rw [show i + 1 + j = i + (j + 1) by omega]
theorem vat_vlist (cs : List Int) (n : Int) : vat cs n = vlist cs n 0 := vat_vlist_aux n cs 0
theorem vlist_succ (n : Int) : ∀ (cs : List Int) (i : Nat), vlist cs (n + 1) (i + 1) - vlist cs n (i + 1) = vlist cs n i
  | [], _ => by simp [vlist]
  | c :: r, i => by
    have ih := vlist_succ n r (i + 1)
    show c * cz (n + 1) (i + 1) + vlist r (n + 1) (i + 1 + 1) - (c * cz n (i + 1) + vlist r n (i + 1 + 1)) = c * cz n i + vlist r n (i + 1)
    rw [cz_pascal]
    grind
theorem vat_diff (cs : List Int) (n : Int) : vat cs (n + 1) - vat cs n = vat (cs.drop 1) n := by
  rw [vat_vlist, vat_vlist, vat_vlist]
  cases cs with
  | nil => simp [vlist]
  | cons c r =>
    have h := vlist_succ n r 0
    show c * cz (n + 1) 0 + vlist r (n + 1) 1 - (c * cz n 0 + vlist r n 1) = vlist r n 0
    have e1 : cz (n + 1) 0 = 1 := rfl
    have e2 : cz n 0 = 1 := rfl
    rw [e1, e2]
    have h' : vlist r (n + 1) 1 - vlist r n 1 = vlist r n 0 := h
    omega
theorem vlist_zero : ∀ (cs : List Int) (i : Nat), vlist cs 0 (i + 1) = 0
  | [], _ => rfl
  | c :: r, i => by
    show c * cz 0 (i + 1) + vlist r 0 (i + 1 + 1) = 0
    rw [cz_zero, vlist_zero r (i + 1)]
    simp
theorem vat_at0 (cs : List Int) : vat cs 0 = (cs.take 1).sum := by
  rw [vat_vlist]
  cases cs with
  | nil => rfl
  | cons c r =>
    show c * cz 0 0 + vlist r 0 1 = _
    rw [vlist_zero]
    simp [cz]

/-! ### law -/
theorem bnd_of {cs : List Int} {n : Int} (hc : ∀ c ∈ cs, c.natAbs < 2 ^ 650) (hl : cs.length ≤ 120) (hn : n.natAbs < 2 ^ 300) : Bnd cs n 300 650 := by
  have h1 : (120 : Nat) < 2 ^ 300 := by decide
  have h2 : (300 + 1) * (cs.length + 1) ≤ (300 + 1) * 121 := Nat.mul_le_mul_left _ (by omega)
  exact ⟨hc, hn, by omega, by decide, by omega⟩
theorem ok_law (T : Txt K mg) : FnOk P w K mg base CX0 3 T.a_law T.fd_law ["script"] (spD K sp_law) := by
  have G_law_spring : FnOk P w K mg base CX0 1 T.a_law_spring T.fd_law_spring ["cell"] (spD K sp_law_spring) := ok_law_spring T
  have G_law_draw : FnOk P w K mg base CX0 1 T.a_law_draw T.fd_law_draw ["spring", "many"] (spD K sp_law_draw) := ok_law_draw T
  have G_law_value : FnOk P w K mg base CX0 1 T.a_law_value T.fd_law_value ["terms", "at"] (spD K sp_law_value) := ok_law_value T
  have G_value_at : FnOk P w K mg base CX0 2 T.a_value_at T.fd_value_at ["poly", "n"] (spD K sp_value_at) := ok_value_at T
  have G_law_is_integer : FnOk P w K mg base CX0 1 T.a_law_is_integer T.fd_law_is_integer ["found"] (spD K sp_law_is_integer) := ok_law_is_integer T
  refine ok_of T.k_law.fn sc_law (sp_law_len) fun cdv A outer s H E hr => ⟨_, (pss_cons (ps_for PassesOwn.never rfl (pi_listK K rfl (pe_op (op_addK K) (pe_lst (pa_cons pe_int pa_nil)) (pe_slice (sl_listK K) (pv 0) po_none (po_some pe_int)))) (pg_name (i := 1) sc_law.nd rfl (Or.inl rfl)) (pss_cons (ps_set (i := 2) sc_law.nd rfl (Or.inr rfl) (pe_call G_law_spring (hr.mono (by decide)) (by rfl) T.k_law_spring.g T.k_law_spring.fn.kp T.k_law_spring.b .nil pass0 (pa_cons (pv 1) pa_nil)))
    (pss_cons (ps_set (i := 3) sc_law.nd rfl (Or.inr rfl) (pe_ix (ixK K) (pe_lst (pa_cons pe_int (pa_cons (pe_op op_pow pe_int pe_int) (pa_cons (pe_op op_pow pe_int pe_int) (pa_cons (pe_op (op_mulK K) (pe_op (op_mulK K) (pe_op op_pow pe_int pe_int) (pe_op op_pow pe_int pe_int)) (pe_op op_pow pe_int pe_int)) pa_nil))))) (pe_call G_law_draw (hr.mono (by decide)) (by rfl) T.k_law_draw.g T.k_law_draw.fn.kp T.k_law_draw.b .nil pass0 (pa_cons (pv 2) (pa_cons pe_int pa_nil))) (fun _ _ => rfl)))
    (pss_cons (ps_set (i := 4) sc_law.nd rfl (Or.inl rfl) (pe_op (op_addK K) (pe_call G_law_draw (hr.mono (by decide)) (by rfl) T.k_law_draw.g T.k_law_draw.fn.kp T.k_law_draw.b .nil pass0 (pa_cons (pv 2) (pa_cons pe_int pa_nil))) (pe_ix (ixK K) (pe_lst (pa_cons pe_int (pa_cons pe_int (pa_cons pe_int (pa_cons pe_int (pa_cons pe_int (pa_cons pe_int pa_nil))))))) (pe_call G_law_draw (hr.mono (by decide)) (by rfl) T.k_law_draw.g T.k_law_draw.fn.kp T.k_law_draw.b .nil pass0 (pa_cons (pv 2) (pa_cons pe_int pa_nil))) (fun _ _ => rfl))))
    (pss_cons (ps_set (i := 5) sc_law.nd rfl (Or.inl rfl) (pe_op op_sub (pe_call G_law_draw (hr.mono (by decide)) (by rfl) T.k_law_draw.g T.k_law_draw.fn.kp T.k_law_draw.b .nil pass0 (pa_cons (pv 2) (pa_cons pe_int pa_nil))) pe_int))
    (pss_cons (ps_if (pt_cmpR (op_eqK K rfl hr.units) (pe_call G_law_draw (hr.mono (by decide)) (by rfl) T.k_law_draw.g T.k_law_draw.fn.kp T.k_law_draw.b .nil pass0 (pa_cons (pv 2) (pa_cons pe_int pa_nil))) pe_int (nomark _)) (pss_one (ps_set (i := 5) sc_law.nd rfl (Or.inl rfl) (pe_op (op_mulK K) (pv 5) (pe_op (op_addK K) (pe_op op_pow pe_int pe_int) (pe_call G_law_draw (hr.mono (by decide)) (by rfl) T.k_law_draw.g T.k_law_draw.fn.kp T.k_law_draw.b .nil pass0 (pa_cons (pv 2) (pa_cons (pe_op op_pow pe_int pe_int) pa_nil))))))) pss_nil)
    (pss_cons (ps_set (i := 6) sc_law.nd rfl (Or.inl rfl) (pe_call G_law_draw (hr.mono (by decide)) (by rfl) T.k_law_draw.g T.k_law_draw.fn.kp T.k_law_draw.b .nil pass0 (pa_cons (pv 2) (pa_cons pe_int pa_nil))))
    (pss_cons (ps_set (i := 7) sc_law.nd rfl (Or.inl rfl) (pe_op (op_addK K) (pe_lc (own := [("k", 12)]) rfl sc_law.nd (pi_range1 (by rfl) T.range_ (pa_cons (pv 4) pa_nil)) (blkOk_by (own := [("k", 12)]) (N := ["script", "cell", "spring", "most", "long", "at", "ends", "row", "handed", "due", "found", "spot", "k"]) (sc := defScope s_law) (by decide +kernel)) (fun _ _ _ _ _ => (pg_name (i := 12) sc_law.nd rfl (by first | exact Or.inl rfl | exact Or.inr rfl))) (fun _ _ _ _ _ => pts_nil) (fun _ _ _ _ _ => (pe_op op_sub (pe_op op_fdivW (pv 3) pe_int) (pe_call G_law_draw (hr.mono (by decide)) (by rfl) T.k_law_draw.g T.k_law_draw.fn.kp T.k_law_draw.b .nil pass0 (pa_cons (pv 2) (pa_cons (pv 3) pa_nil)))))) (pe_slice (sl_listK K) (pe_lst (pa_cons pe_int (pa_cons pe_int pa_nil))) po_none (po_some (pv 6)))))
    (pss_cons (ps_set (i := 8) sc_law.nd rfl (Or.inl rfl) (pe_callTy (call_listK K) (by rfl) T.list_ (by decide +kernel) (pa_cons (pv 7) pa_nil)))
    (pss_cons (ps_set (i := 9) sc_law.nd rfl (Or.inl rfl) (pe_call G_law_value (hr.mono (by decide)) (by rfl) T.k_law_value.g T.k_law_value.fn.kp T.k_law_value.b .nil pass0 (pa_cons (pv 7) (pa_cons (pv 5) pa_nil))))
    (pss_cons (ps_for PassesOwn.never rfl (pi_listK K rfl (pe_lst (pa_cons (pe_call G_value_at (hr.mono (by decide)) (by rfl) T.k_value_at.g T.k_value_at.fn.kp T.k_value_at.b .nil pass0 (pa_cons (pv 8) (pa_cons (pv 5) pa_nil))) (pa_cons (pe_callK0 G_value_at (hr.mono (by decide)) (by rfl) T.k_value_at.g T.k_value_at.fn.kp (kb_of T.k_value_at.fn (ps := ["poly", "n"]) (ks := ["poly", "n"]) (is := [0, 1]) fun _ _ _ _ _ _ ws hl => match ws, hl with | [_, _], _ => rfl) pass0 (pk_cons (pv 8) (pk_cons (pv 5) pk_nil))) pa_nil)))) (pg_name (i := 10) sc_law.nd rfl (Or.inl rfl)) (pss_one (ps_if (PW.pt (pw_or (pt_not (pt_truK K rfl (pe_call G_law_is_integer (hr.mono (by decide)) (by rfl) T.k_law_is_integer.g T.k_law_is_integer.fn.kp T.k_law_is_integer.b .nil pass0 (pa_cons (pv 10) pa_nil)))) (pw_or1 (pt_cmpR (op_neK K rfl hr.units) (pv 10) (pv 9) (nomark _))))) (pss_one (ps_ret pe_bl)) pss_nil)))
    (pss_cons (ps_if (PW.pt (pw_or (pt_cmpR (op_neK K rfl hr.units) (pe_op op_sub (pe_call G_value_at (hr.mono (by decide)) (by rfl) T.k_value_at.g T.k_value_at.fn.kp T.k_value_at.b .nil pass0 (pa_cons (pv 8) (pa_cons (pe_op (op_addK K) (pv 5) pe_int) pa_nil))) (pv 9)) (pe_call G_value_at (hr.mono (by decide)) (by rfl) T.k_value_at.g T.k_value_at.fn.kp T.k_value_at.b .nil pass0 (pa_cons (pe_slice (sl_listK K) (pv 7) (po_some pe_int) po_none) (pa_cons (pv 5) pa_nil))) (nomark _)) (pw_or1 (pt_cmpR (op_neK K rfl hr.units) (pe_call G_value_at (hr.mono (by decide)) (by rfl) T.k_value_at.g T.k_value_at.fn.kp T.k_value_at.b .nil pass0 (pa_cons (pv 8) (pa_cons pe_int pa_nil))) (pe_callB (cr_sumK K) (by rfl) T.sum_ (by decide +kernel) (pa_cons (pe_slice (sl_listK K) (pv 7) po_none (po_some pe_int)) pa_nil)) (nomark _))))) (pss_one (ps_ret pe_bl)) pss_nil)
    (pss_cons (ps_if (pt_cmpR (op_neK K rfl hr.units) (pv 8) (pv 7) (nomark _)) (pss_one (ps_ret pe_bl)) pss_nil)
    (pss_one (ps_if (pt_cmpR (op_neK K rfl hr.units) (pv 8) (pe_lst pa_nil) (nomark _)) (pss_cons (ps_set (i := 11) sc_law.nd rfl (Or.inl rfl) (pe_call G_law_draw (hr.mono (by decide)) (by rfl) T.k_law_draw.g T.k_law_draw.fn.kp T.k_law_draw.b .nil pass0 (pa_cons (pv 2) (pa_cons (pe_callB (call_lenK K) (by rfl) T.len_ (by decide +kernel) (pa_cons (pv 8) pa_nil)) pa_nil))))
    (pss_cons (ps_asg (pe_op (op_addK K) (pe_ix (ixK K) (pv 8) (pv 11) (fun _ _ => rfl)) pe_int) (pg_sub (pv 8) (pv 11) set_list))
    (pss_one (ps_if (pt_cmpR (op_neK K rfl hr.units) (pe_call G_value_at (hr.mono (by decide)) (by rfl) T.k_value_at.g T.k_value_at.fn.kp T.k_value_at.b .nil pass0 (pa_cons (pv 8) (pa_cons (pv 5) pa_nil))) (pe_call G_law_value (hr.mono (by decide)) (by rfl) T.k_law_value.g T.k_law_value.fn.kp T.k_law_value.b .nil pass0 (pa_cons (pv 8) (pa_cons (pv 5) pa_nil))) (nomark _)) (pss_one (ps_ret pe_bl)) pss_nil)))) pss_nil)))))))))))))))
    (pss_one (ps_ret pe_bl))), fun xs M Qd Ed h => ?_⟩
  obtain ⟨ns, rfl, rfl, hlen, hbits, q⟩ := h
  refine rs_seq (rs_for (wi_list ?_))
  walk_at "e"
  refine wsl_listD rfl ?_
  refine w2_cat tr_lst tr_lst ?_ ?_
  · have h1 := cutL_len (ns.map D.int) none (some 10)
    rw [List.length_map] at h1
    refine sz_lit ?_
    show 1 + _ ≤ _
    omega
  refine ⟨_, .inl ⟨rfl, ?_⟩⟩
  refine ⟨fun i e M' => ∃ o1 o2 o3 o4 o5 o6 o7 o8 o9 o10 o11 o12 : Option X, e = [some (.d (.slst (ns.map D.int))), o1, o2, o3, o4, o5, o6, o7, o8, o9, o10, o11, o12] ∧ M' = [], ⟨_, _, _, _, _, _, _, _, _, _, _, _, rfl, rfl⟩, fun _ _ _ _ => trivial, ?_, ?_⟩
  · rintro i d e M' hd ⟨o1, o2, o3, o4, o5, o6, o7, o8, o9, o10, o11, o12, rfl, rfl⟩
    obtain ⟨c, rfl⟩ : ∃ c : Int, d = .int c := by
      have hm := List.mem_of_getElem? hd
      rcases List.mem_append.mp hm with hm | hm
      · rw [List.mem_singleton] at hm; exact ⟨11, hm⟩
      · obtain ⟨c, _, h2⟩ := List.mem_map.mp (cutL_mem hm)
        exact ⟨c, h2.symm⟩
    walk_at "e"
    -- spring
    refine rs_seq (rs_asgN (we_call ?_))
    walk_at "e"
    refine callN sp_law_spring_mono rfl ⟨c, rfl, rfl, fun z => ⟨_, rfl, rfl, trivial, ?_⟩⟩
    -- most
    walk_at "s"
    refine w2_pow ⟨by decide, by decide, by decide⟩ ?_
    walk_at "e"
    refine w2_pow ⟨by decide, by decide, by decide⟩ ?_
    walk_at "e"
    refine w2_pow ⟨by decide, by decide, by decide⟩ ?_
    walk_at "e"
    refine w2_pow ⟨by decide, by decide, by decide⟩ ?_
    refine w2_mul (cmul_of (a := 220) (b := 220) (by decide) (by decide) (by decide)) ?_
    walk_at "e"
    refine w2_pow ⟨by decide, by decide, by decide⟩ ?_
    refine w2_mul (cmul_of (a := 430) (b := 220) (by decide) (by decide) (by decide)) ?_
    walk_at "e"
    refine we_call ?_
    walk_at "e"
    refine callI sp_law_draw_mono rfl rfl trivial ⟨4, z, rfl, rfl, by decide, by decide, fun r z' h0 h1 => ⟨_, _, rfl, rfl, trivial, ?_⟩⟩
    obtain ⟨m, hm, em⟩ := atI_ints (ns := [7, 10 ^ (6 : Int).toNat, 10 ^ (30 : Int).toNat, 10 ^ (64 : Int).toNat * 10 ^ (64 : Int).toNat * 10 ^ (64 : Int).toNat]) h0 (by simpa using h1)
    have hm2 : 0 < m ∧ m.natAbs < 2 ^ 640 := by
      have : ∀ m ∈ [7, 10 ^ (6 : Int).toNat, 10 ^ (30 : Int).toNat, 10 ^ (64 : Int).toNat * 10 ^ (64 : Int).toNat * 10 ^ (64 : Int).toNat], (0 : Int) < m ∧ m.natAbs < 2 ^ 640 := by decide
      exact this m hm
    clear hm
    refine w2_ix rfl em ?_
    -- long
    walk_at "s"
    refine we_call ?_
    walk_at "e"
    refine callI sp_law_draw_mono rfl rfl trivial ⟨5, z', rfl, rfl, by decide, by decide, fun r1 z1 h0 h1 => ⟨_, _, rfl, rfl, trivial, ?_⟩⟩
    walk_at "e"
    refine we_call ?_
    walk_at "e"
    refine callI sp_law_draw_mono rfl rfl trivial ⟨6, z1, rfl, rfl, by decide, by decide, fun r2 z2 h2 h3 => ⟨_, _, rfl, rfl, trivial, ?_⟩⟩
    obtain ⟨lo, hlo, el⟩ := atI_ints (ns := [0, 0, 0, 0, 36, 94]) h2 (by simpa using h3)
    have hlo2 : 0 ≤ lo ∧ lo ≤ 94 := by
      have : ∀ m ∈ [0, 0, 0, 0, 36, 94], (0 : Int) ≤ m ∧ m ≤ 94 := by decide
      exact this lo hlo
    refine w2_ix rfl el ?_
    walk_at "e"
    have hlong : 0 ≤ r1 + lo ∧ r1 + lo ≤ 98 := by omega
    generalize r1 + lo = long at hlong
    clear el hlo hlo2 h0 h1 h2 h3 r2 r1 lo
    -- at
    walk_at "s"
    refine we_call ?_
    walk_at "e"
    refine callI sp_law_draw_mono rfl rfl trivial ⟨20, z2, rfl, rfl, by decide, by decide, fun r z3 h0 h1 => ⟨_, _, rfl, rfl, trivial, ?_⟩⟩
    walk_at "e"
    have hat : (r - 10).natAbs < 2 ^ 5 := by omega
    generalize r - 10 = at0 at hat
    clear h0 h1 r
    -- if
    refine rs_cut (fun e M' => ∃ (at1 z : Int), at1.natAbs < 2 ^ 300 - 1 ∧ e = [some (.d (.slst (ns.map D.int))), some (.d (.int c)), some (.m 0), some (.d (.int m)), some (.d (.int long)), some (.d (.int at1)), o6, o7, o8, o9, o10, o11, o12] ∧ M' = [.lst [.int z]]) ?_ ?_
    · walk_at "s"
      refine we_call ?_
      walk_at "e"
      refine callI sp_law_draw_mono rfl rfl trivial ⟨2, z3, rfl, rfl, by decide, by decide, fun r z4 h0 h1 => ⟨_, _, rfl, rfl, trivial, ?_⟩⟩
      walk_at "e"
      refine ite_b (fun _ => ?_) (fun _ => ?_)
      · walk_at "s"
        refine w2_pow ⟨by decide, by decide, by decide⟩ ?_
        walk_at "e"
        refine we_call ?_
        walk_at "e"
        refine w2_pow ⟨by decide, by decide, by decide⟩ ?_
        walk_at "e"
        refine callI sp_law_draw_mono rfl rfl trivial ⟨10 ^ (9 : Int).toNat, z4, rfl, rfl, by decide, by decide, fun r z5 h0 h1 => ⟨_, _, rfl, rfl, trivial, ?_⟩⟩
        walk_at "e"
        have hr : (10 ^ (57 : Int).toNat + r).natAbs < 2 ^ 200 := bd_add (a := 199) (by decide) (wide_le h0 (Int.le_of_lt h1) (by decide))
        refine w2_mul (cmul_of hat hr (by decide)) ?_
        refine ⟨_, _, ?_, rfl, rfl⟩
        have h5 := bd_mul hat hr
        have h6 : 2 ^ (5 + 200) ≤ 2 ^ 300 - 1 := by decide
        exact Nat.lt_of_lt_of_le h5 h6
      · walk_at "s"
        refine ⟨_, _, ?_, rfl, rfl⟩
        have h6 : 2 ^ 5 ≤ 2 ^ 300 - 1 := by decide
        exact Nat.lt_of_lt_of_le hat h6
    rintro e M' ⟨at1, z, hat1, rfl, rfl⟩
    have hat2 : at1.natAbs < 2 ^ 300 := by omega
    have hat3 : (at1 + 1).natAbs < 2 ^ 300 := by omega
    -- ends
    walk_at "s"
    refine we_call ?_
    walk_at "e"
    refine callI sp_law_draw_mono rfl rfl trivial ⟨3, z, rfl, rfl, by decide, by decide, fun en z1 h0 h1 => ⟨_, _, rfl, rfl, trivial, ?_⟩⟩
    -- row
    walk_at "s"
    refine we_lc (gw_name (by simp)) (wi_rng1 ?_)
    walk_at "e"
    refine ⟨by omega, ?_⟩
    refine ⟨fun i acc M' => ∃ (cs : List Int) (z : Int), acc = cs.map D.int ∧ cs.length = i ∧ (∀ c ∈ cs, c.natAbs < 2 ^ 650) ∧ M' = [.lst [.int z]], ⟨[], _, rfl, rfl, by simp, rfl⟩, fun _ _ _ _ => trivial, ?_, ?_⟩
    · rintro i d acc M' hd ⟨cs, z, rfl, rfl, hcs, rfl⟩
      obtain ⟨hi, rfl⟩ := rng0_at hd
      walk_at "e"
      rw [if_pos rfl]
      walk_at "e"
      refine w2_fdiv (cdiv_of (b := 5) (by decide) (by decide) (by decide)) ?_
      walk_at "e"
      refine we_call ?_
      walk_at "e"
      refine callI sp_law_draw_mono rfl rfl trivial ⟨m, z, rfl, rfl, hm2.1, Nat.lt_of_lt_of_le hm2.2 (Nat.pow_le_pow_right (by decide) (by decide)), fun r z5 h0 h1 => ⟨_, _, rfl, rfl, trivial, ?_⟩⟩
      walk_at "e"
      refine ⟨sz_lt (by rw [List.length_map]; omega), .inl ⟨cs ++ [m / 2 - r], z5, by rw [List.map_append]; rfl, by simp, fun c hc => ?_, rfl⟩⟩
      rcases List.mem_append.mp hc with hc | hc
      · exact hcs c hc
      · rw [List.mem_singleton] at hc
        subst hc
        exact lt_pow_of (bd_sub (bd_div hm2.2 (by decide)) (wide_le h0 (Int.le_of_lt h1) hm2.2)) (by decide)
    rintro acc M' ⟨cs, z, rfl, hl, hcs, rfl⟩
    rw [rng0_dl] at hl
    walk_at "e"
    refine wsl_listD rfl ?_
    have e2 : cutL [D.int 0, D.int 0] none (some en) = (cutL [0, 0] none (some en)).map D.int := cutL_map D.int [0, 0] none (some en)
    have hl2 := cutL_len [(0 : Int), 0] none (some en)
    have hz2 : ∀ c ∈ cutL [(0 : Int), 0] none (some en), c = 0 := fun c hc => by
      have := cutL_mem hc
      simpa using this
    rw [e2]
    generalize cutL [(0 : Int), 0] none (some en) = zs at hl2 hz2
    refine w2_cat tr_lst tr_lst (sz_lit (by rw [List.length_map, List.length_map]; simp at hl2; omega)) ?_
    have hcs2 : ∀ c ∈ cs ++ zs, c.natAbs < 2 ^ 650 := fun c hc => by
      rcases List.mem_append.mp hc with hc | hc
      · exact hcs c hc
      · rw [hz2 c hc]; decide
    have hl3 : (cs ++ zs).length ≤ 110 := by
      rw [List.length_append]
      simp at hl2
      omega
    rw [← List.map_append]
    generalize cs ++ zs = row at hcs2 hl3
    -- handed, due
    refine rs_seq (rs_asgN ?_)
    walk_at "e"
    refine wc_listO rfl ?_
    walk_at "s"
    refine we_call ?_
    walk_at "e"
    refine callP rfl ⟨row, at1, 300, 650, rfl, rfl, bnd_of hcs2 (by omega) hat2, _, rfl, rfl, ?_⟩ sp_law_value_mono
    -- for found in [..]
    refine rs_seq (rs_for (wi_list ?_))
    walk_at "e"
    refine we_callV ?_
    walk_at "e"
    refine ⟨row, at1, 300, 650, rfl, rfl, bnd_of hcs2 (by omega) hat2, _, rfl, rfl, ?_⟩
    walk_at "e"
    refine we_callVK ?_
    walk_at "e"
    refine ⟨rfl, by simp, _, rfl, row, at1, 300, 650, rfl, rfl, bnd_of hcs2 (by omega) hat2, _, rfl, rfl, ?_⟩
    walk_at "e"
    refine ⟨_, .inl ⟨rfl, ?_⟩⟩
    refine ⟨fun i e M' => ∃ o, e = [some (.d (.slst (ns.map D.int))), some (.d (.int c)), some (.m 0), some (.d (.int m)), some (.d (.int long)), some (.d (.int at1)), some (.d (.int en)), some (.d (.lst (row.map D.int))), some (.m 1), some (.d (.int (vat row at1))), o, o11, o12] ∧ M' = [.lst [.int z], .lst (row.map D.int)], ⟨_, rfl, rfl⟩, fun _ _ _ _ => trivial, ?_, ?_⟩
    · rintro i d e M' hd ⟨o, rfl, rfl⟩
      have hd2 : d = .int (vat row at1) := by
        have hm := List.mem_of_getElem? hd
        simpa using hm
      subst hd2
      walk_at "e"
      walk_at "s"
      refine we_callV ?_
      walk_at "e"
      refine ⟨rfl, _, rfl, rfl, ?_⟩
      refine ⟨true, tru_bl, ?_⟩
      show if (false : Bool) = true then _ else _
      rw [if_neg (by simp)]
      walk_at "e"
      rw [decide_eq_true rfl]
      rw [if_neg (by simp)]
      walk_at "s"
      exact .inl ⟨_, rfl, rfl⟩
    rintro e M' ⟨o, rfl, rfl⟩
    -- the differences
    walk_at "s"
    refine we_callV ?_
    walk_at "e"
    refine ⟨row, at1 + 1, 300, 650, rfl, rfl, bnd_of hcs2 (by omega) hat3, _, rfl, rfl, ?_⟩
    walk_at "e"
    refine we_callV ?_
    walk_at "e"
    refine wsl_listD rfl ?_
    walk_at "e"
    have e3 : cutL (row.map D.int) (some 1) none = (row.drop 1).map D.int := (cutL_from (row.map D.int) 1).trans (by rw [List.map_drop])
    rw [e3]
    refine ⟨row.drop 1, at1, 300, 650, rfl, rfl, bnd_of (fun c hc => hcs2 c (List.mem_of_mem_drop hc)) (by rw [List.length_drop]; omega) hat2, _, rfl, rfl, ?_⟩
    walk_at "e"
    rw [vat_diff, decide_eq_true rfl]
    rw [if_neg (by simp)]
    walk_at "e"
    refine we_callV ?_
    walk_at "e"
    refine ⟨row, 0, 300, 650, rfl, rfl, bnd_of hcs2 (by omega) (by decide), _, rfl, rfl, ?_⟩
    walk_at "e"
    refine wsl_listD rfl ?_
    have e4 : cutL (row.map D.int) none (some 1) = (row.take 1).map D.int := (cutL_to (row.map D.int) 1).trans (by rw [List.map_take])
    rw [e4]
    walk_at "e"
    refine wc_sum rfl ?_
    walk_at "e"
    rw [vat_at0, decide_eq_true rfl]
    rw [if_neg (by simp)]
    -- handed != row
    walk_at "s"
    walk_at "s"
    refine w2_neL rfl rfl ?_
    walk_at "e"
    rw [decide_eq_true rfl]
    rw [if_neg (by simp)]
    walk_at "s"
    -- handed != []
    walk_at "s"
    refine w2_neL (ms := []) rfl rfl ?_
    walk_at "e"
    refine ite_b (fun hne => ?_) (fun _ => ?_)
    · have hne2 : row ≠ [] := by simpa using hne
      have hpos : 0 < row.length := List.length_pos_iff.mpr hne2
      walk_at "s"
      refine we_call ?_
      walk_at "e"
      refine wc_len rfl ?_
      walk_at "e"
      refine callI sp_law_draw_mono rfl rfl trivial ⟨_, z, rfl, rfl, by rw [List.length_map]; omega, ?_, fun r z5 h0 h1 => ⟨_, _, rfl, rfl, trivial, ?_⟩⟩
      · rw [List.length_map]
        have h7 : (110 : Nat) < 2 ^ 8000 := Nat.lt_of_lt_of_le (show (110 : Nat) < 2 ^ 7 by decide) (Nat.pow_le_pow_right (by decide) (by decide))
        omega
      rw [List.length_map] at h1
      have hr : r.toNat < row.length := by omega
      walk_at "s"
      have er : atI (row.map D.int) r = some (.int (row.getD r.toNat 0)) := by
        have := getD_at hr
        rw [Int.toNat_of_nonneg h0] at this
        exact this
      refine w2_ix rfl er ?_
      walk_at "e"
      refine wset_list rfl (ixN_nn h0 (by rw [List.length_map]; exact h1)) ?_
      have e5 : (row.map D.int).set r.toNat (.int (row.getD r.toNat 0 + 3)) = (row.set r.toNat (row.getD r.toNat 0 + 3)).map D.int := by rw [List.map_set]
      rw [e5]
      have hcs3 : ∀ c ∈ row.set r.toNat (row.getD r.toNat 0 + 3), c.natAbs < 2 ^ 660 := fun c hc => by
        rcases List.mem_or_eq_of_mem_set hc with hc | hc
        · exact lt_pow_of (hcs2 c hc) (by decide)
        · rw [hc]
          exact lt_pow_of (bd_add (getD_bd hcs2 _) (show (3 : Int).natAbs < 2 ^ 650 from Nat.lt_of_lt_of_le (show (3 : Nat) < 2 ^ 2 by decide) (Nat.pow_le_pow_right (by decide) (by decide)))) (by decide)
      have hb3 : Bnd (row.set r.toNat (row.getD r.toNat 0 + 3)) at1 300 660 := by
        have hb := bnd_of hcs2 (by omega) hat2
        obtain ⟨_, b2, b3, b4, b5⟩ := hb
        exact ⟨hcs3, b2, by rw [List.length_set]; exact b3, b4, by rw [List.length_set]; omega⟩
      generalize row.set r.toNat (row.getD r.toNat 0 + 3) = row2 at hb3
      walk_at "s"
      refine we_callV ?_
      walk_at "e"
      refine ⟨row2, at1, 300, 660, rfl, rfl, hb3, _, rfl, rfl, ?_⟩
      walk_at "e"
      refine we_callV ?_
      walk_at "e"
      refine ⟨row2, at1, 300, 660, rfl, rfl, hb3, _, rfl, rfl, ?_⟩
      walk_at "e"
      rw [decide_eq_true rfl]
      rw [if_neg (by simp)]
      walk_at "s"
      exact rel_drop0 ⟨_, _, _, _, _, _, _, _, _, _, _, _, rfl, rfl⟩
    · walk_at "s"
      exact rel_drop0 ⟨_, _, _, _, _, _, _, _, _, _, _, _, rfl, rfl⟩
  · rintro e M' ⟨o1, o2, o3, o4, o5, o6, o7, o8, o9, o10, o11, o12, rfl, rfl⟩
    walk_at "s"
    exact q

end
theorem all_mk {l : PySem.W.OpenLaw} {w : World} {K : PySem.W.Frag} {h : Heap} {mg : Str → Option Value} {fa : Addr} (X : K.In h) (G : h.Ns mainGlobals mg) (hfa : mg "law" = some (.ref fa))
    {f0 : Addr} {od0 an0 : Option Addr} {sl0 : Array (Option Value)} {oc0 kV0 dc0 pm0 cd0 ct0 : Value}
    {f1 : Addr} {od1 an1 : Option Addr} {sl1 : Array (Option Value)} {oc1 kV1 dc1 pm1 cd1 ct1 : Value}
    {f2 : Addr} {od2 an2 : Option Addr} {sl2 : Array (Option Value)} {oc2 kV2 dc2 pm2 cd2 ct2 : Value}
    {f3 : Addr} {od3 an3 : Option Addr} {sl3 : Array (Option Value)} {oc3 kV3 dc3 pm3 cd3 ct3 : Value}
    {f4 : Addr} {od4 an4 : Option Addr} {sl4 : Array (Option Value)} {oc4 kV4 dc4 pm4 cd4 ct4 : Value}
    {f5 : Addr} {od5 an5 : Option Addr} {sl5 : Array (Option Value)} {oc5 kV5 dc5 pm5 cd5 ct5 : Value}
    {f6 : Addr} {od6 an6 : Option Addr} {sl6 : Array (Option Value)} {oc6 kV6 dc6 pm6 cd6 ct6 : Value}
    (a0 : PySem.W.nsIn K mainGlobals "_law_spring" = some (some (.ref f0))) (l0 : K.lookup f0 = some ⟨oc0, od0, .func (PySem.W.fnOf "_law_spring" "_law_spring" (defArgs s_law_spring) (defBody s_law_spring) (defScope s_law_spring) .none kV0 dc0 pm0 an0 cd0 ct0), sl0⟩) (c0 : PySem.W.codeIn K cd0 "_law_spring" = true) (k0 : PySem.W.keepIn K (.ref f0) = true)
    (a1 : PySem.W.nsIn K mainGlobals "_law_draw" = some (some (.ref f1))) (l1 : K.lookup f1 = some ⟨oc1, od1, .func (PySem.W.fnOf "_law_draw" "_law_draw" (defArgs s_law_draw) (defBody s_law_draw) (defScope s_law_draw) .none kV1 dc1 pm1 an1 cd1 ct1), sl1⟩) (c1 : PySem.W.codeIn K cd1 "_law_draw" = true) (k1 : PySem.W.keepIn K (.ref f1) = true)
    (a2 : PySem.W.nsIn K mainGlobals "_law_value" = some (some (.ref f2))) (l2 : K.lookup f2 = some ⟨oc2, od2, .func (PySem.W.fnOf "_law_value" "_law_value" (defArgs s_law_value) (defBody s_law_value) (defScope s_law_value) .none kV2 dc2 pm2 an2 cd2 ct2), sl2⟩) (c2 : PySem.W.codeIn K cd2 "_law_value" = true) (k2 : PySem.W.keepIn K (.ref f2) = true)
    (a3 : PySem.W.nsIn K mainGlobals "choose" = some (some (.ref f3))) (l3 : K.lookup f3 = some ⟨oc3, od3, .func (PySem.W.fnOf "choose" "choose" (defArgs s_choose) (defBody s_choose) (defScope s_choose) .none kV3 dc3 pm3 an3 cd3 ct3), sl3⟩) (c3 : PySem.W.codeIn K cd3 "choose" = true) (k3 : PySem.W.keepIn K (.ref f3) = true)
    (a4 : PySem.W.nsIn K mainGlobals "value_at" = some (some (.ref f4))) (l4 : K.lookup f4 = some ⟨oc4, od4, .func (PySem.W.fnOf "value_at" "value_at" (defArgs s_value_at) (defBody s_value_at) (defScope s_value_at) .none kV4 dc4 pm4 an4 cd4 ct4), sl4⟩) (c4 : PySem.W.codeIn K cd4 "value_at" = true) (k4 : PySem.W.keepIn K (.ref f4) = true)
    (a5 : PySem.W.nsIn K mainGlobals "_law_is_integer" = some (some (.ref f5))) (l5 : K.lookup f5 = some ⟨oc5, od5, .func (PySem.W.fnOf "_law_is_integer" "_law_is_integer" (defArgs s_law_is_integer) (defBody s_law_is_integer) (defScope s_law_is_integer) .none kV5 dc5 pm5 an5 cd5 ct5), sl5⟩) (c5 : PySem.W.codeIn K cd5 "_law_is_integer" = true) (k5 : PySem.W.keepIn K (.ref f5) = true)
    (a6 : PySem.W.nsIn K mainGlobals "law" = some (some (.ref f6))) (l6 : K.lookup f6 = some ⟨oc6, od6, .func (PySem.W.fnOf "law" "law" (defArgs s_law) (defBody s_law) (defScope s_law) .none kV6 dc6 pm6 an6 cd6 ct6), sl6⟩) (c6 : PySem.W.codeIn K cd6 "law" = true) (k6 : PySem.W.keepIn K (.ref f6) = true)
    (z_bool : PySem.W.nsIn K mainGlobals "bool" = some none)
    (z_int : PySem.W.nsIn K mainGlobals "int" = some none)
    (z_isinstance : PySem.W.nsIn K mainGlobals "isinstance" = some none)
    (z_len : PySem.W.nsIn K mainGlobals "len" = some none)
    (z_list : PySem.W.nsIn K mainGlobals "list" = some none)
    (z_range : PySem.W.nsIn K mainGlobals "range" = some none)
    (z_sum : PySem.W.nsIn K mainGlobals "sum" = some none)
    : ∃ fd : FuncData, (∀ (s : Shared) (v : Value), BindsTo s fd ⟨[v], []⟩ [("script", v)]) ∧ ∀ base : Heap, K.In base → base.Ns mainGlobals mg → FnOk l.prog w K mg base CX0 3 fa fd ["script"] (spD K sp_law) := by
  have e := hfa.symm.trans (PySem.W.mg_of X G a6)
  cases e
  have F0 := fun_mk (st := s_law_spring) l0 c0 k0
  have F1 := fun_mk (st := s_law_draw) l1 c1 k1
  have F2 := fun_mk (st := s_law_value) l2 c2 k2
  have F3 := fun_mk (st := s_choose) l3 c3 k3
  have F4 := fun_mk (st := s_value_at) l4 c4 k4
  have F5 := fun_mk (st := s_law_is_integer) l5 c5 k5
  have F6 := fun_mk (st := s_law) l6 c6 k6
  let T : Txt K mg := { a_law_spring := f0, fd_law_spring := _, k_law_spring := ⟨F0, (F0.binds (ps := ["cell"]) fun _ _ _ _ _ _ us hl => match us, hl with | [_], _ => rfl), PySem.W.mg_of X G a0⟩, a_law_draw := f1, fd_law_draw := _, k_law_draw := ⟨F1, (F1.binds (ps := ["spring", "many"]) fun _ _ _ _ _ _ us hl => match us, hl with | [_, _], _ => rfl), PySem.W.mg_of X G a1⟩, a_law_value := f2, fd_law_value := _, k_law_value := ⟨F2, (F2.binds (ps := ["terms", "at"]) fun _ _ _ _ _ _ us hl => match us, hl with | [_, _], _ => rfl), PySem.W.mg_of X G a2⟩, a_choose := f3, fd_choose := _, k_choose := ⟨F3, (F3.binds (ps := ["top", "bottom"]) fun _ _ _ _ _ _ us hl => match us, hl with | [_, _], _ => rfl), PySem.W.mg_of X G a3⟩, a_value_at := f4, fd_value_at := _, k_value_at := ⟨F4, (F4.binds (ps := ["poly", "n"]) fun _ _ _ _ _ _ us hl => match us, hl with | [_, _], _ => rfl), PySem.W.mg_of X G a4⟩, a_law_is_integer := f5, fd_law_is_integer := _, k_law_is_integer := ⟨F5, (F5.binds (ps := ["found"]) fun _ _ _ _ _ _ us hl => match us, hl with | [_], _ => rfl), PySem.W.mg_of X G a5⟩, a_law := fa, fd_law := _, k_law := ⟨F6, (F6.binds (ps := ["script"]) fun _ _ _ _ _ _ us hl => match us, hl with | [_], _ => rfl), PySem.W.mg_of X G a6⟩, bool_ := PySem.W.mg_none_of X G z_bool, int_ := PySem.W.mg_none_of X G z_int, isinstance_ := PySem.W.mg_none_of X G z_isinstance, len_ := PySem.W.mg_none_of X G z_len, list_ := PySem.W.mg_none_of X G z_list, range_ := PySem.W.mg_none_of X G z_range, sum_ := PySem.W.mg_none_of X G z_sum }
  exact ⟨_, fun s v => .of_eq rfl, fun base _ _ => ok_law T⟩
end PD
open PySem PySem.W PyProof.Rows
set_option maxRecDepth 100000 in
set_option maxHeartbeats 0 in
theorem PySem.Challenge.cw_plandays_k27_values_of_polynomials_holds : PySem.Challenge.rw_plandays_k27_values_of_polynomials.Holds := by
  w_on; o_law; k_head; (case hw => w_witness2)
  k_fill
  refine L2.walk_ofB (l := PySem.Challenge.rw_plandays_k27_values_of_polynomials) (n := 63) (k := 3) (x := "script") (CX := fun _ => L2.CX0) (sp := fun w => PD.spD _ PD.sp_law) rfl (by decide) rfl ⟨rfl, by decide, by decide⟩ (fun w h Y => PySem.W.kIn_of Y) ?F (fun w H a ns hl hb _ hS => PD.law_in hl hb hS) (fun _ _ _ _ _ h => h)
  case F =>
    intro w mg fa h KX G hmg
    refine' PD.all_mk KX G hmg ?a0 ?l0 ?c0 ?k0 ?a1 ?l1 ?c1 ?k1 ?a2 ?l2 ?c2 ?k2 ?a3 ?l3 ?c3 ?k3 ?a4 ?l4 ?c4 ?k4 ?a5 ?l5 ?c5 ?k5 ?a6 ?l6 ?c6 ?k6 ?z_bool ?z_int ?z_isinstance ?z_len ?z_list ?z_range ?z_sum
    (case a0 => k_is); (case l0 => k_is); (case c0 => k_is); (case k0 => k_is)
    (case a1 => k_is); (case l1 => k_is); (case c1 => k_is); (case k1 => k_is)
    (case a2 => k_is); (case l2 => k_is); (case c2 => k_is); (case k2 => k_is)
    (case a3 => k_is); (case l3 => k_is); (case c3 => k_is); (case k3 => k_is)
    (case a4 => k_is); (case l4 => k_is); (case c4 => k_is); (case k4 => k_is)
    (case a5 => k_is); (case l5 => k_is); (case c5 => k_is); (case k5 => k_is)
    (case a6 => k_is); (case l6 => k_is); (case c6 => k_is); (case k6 => k_is)
    (case z_bool => k_is)
    (case z_int => k_is)
    (case z_isinstance => k_is)
    (case z_len => k_is)
    (case z_list => k_is)
    (case z_range => k_is)
    (case z_sum => k_is)

import PyProof.Rows.All
import Wide.All
import OpenK.AllK
import Wide.FinOn
import KE.KStateDown
import HandS.ForMost
import HandS.Exc
import HandS.WordsExc
import HandS.Defaults
import HandS.TupAny
import HandS.IsInst
import HandS.Deep
import HandS.Style
import HandS.Wide
import HandS.HeadHook1
import HandS.HeadHook2
import HandS.SetKeys
import HandS.Conv
import HandS.ExcIs
import HandS.ExcOwn
import HandS.OwnEq
import HandS.Small
import HandS.DictComp
import HandS.More
import HandS.TupLen
import KE.KCallOwn
import KE.KDictCopyH
import KE.KDictOf
import HandS.TupSets
import HandS.FStr
import HandS.Steps
import HandS.SetFor
import HandS.Text
import Lean
import HandS.Head0
import HandS.Head1
import HandS.Head2
import HandS.HeadEnd
import HandS.HeadHook3
import HandS.HeadHook4
import PySem.Challenge.RW_blotbook_k17_whole_kept_books
set_option Elab.async false
set_option linter.all false
set_option maxRecDepth 100000
set_option maxHeartbeats 0
/-! BbA -/
/-! Data, frozen heaps, and what pure code gives: the calculus of this proof. -/
namespace Bb
open PySem PySem.Spec PyProof.Rows L2

/-- data, and opaque values -/
inductive Da where
  | non | bl (b : Bool) | int (i : Int) | str (s : Str) | lst (xs : List Da) | tup (xs : List Da) | ob (v : V)

mutual
inductive Dt (F : Hp) : V → Da → Prop
  | non : Dt F .non .non
  | bl (b : Bool) : Dt F (.bl b) (.bl b)
  | int (i : Int) : Dt F (.int i) (.int i)
  | str (x : Str) : Dt F (.str x) (.str x)
  | ob (v : V) : Dt F v (.ob v)
  | lst {a : Addr} {xs : List V} {ds : List Da} : F a = some (.lst xs) → DtA F xs ds → Dt F (.ref a) (.lst ds)
  | tup {a : Addr} {xs : List V} {ds : List Da} : F a = some (.tup xs) → DtA F xs ds → Dt F (.ref a) (.tup ds)
inductive DtA (F : Hp) : List V → List Da → Prop
  | nil : DtA F [] []
  | cons {v : V} {vs : List V} {d : Da} {ds : List Da} : Dt F v d → DtA F vs ds → DtA F (v :: vs) (d :: ds)
end

mutual
theorem Dt.mono {F F' : Hp} (s : Same F F') : ∀ {v : V} {d : Da}, Dt F v d → Dt F' v d
  | _, _, .non => .non
  | _, _, .bl b => .bl b
  | _, _, .int i => .int i
  | _, _, .str x => .str x
  | _, _, .ob v => .ob v
  | _, _, .lst h r => .lst (s _ _ h) (DtA.mono s r)
  | _, _, .tup h r => .tup (s _ _ h) (DtA.mono s r)
theorem DtA.mono {F F' : Hp} (s : Same F F') : ∀ {vs : List V} {ds : List Da}, DtA F vs ds → DtA F' vs ds
  | _, _, .nil => .nil
  | _, _, .cons h r => .cons (Dt.mono s h) (DtA.mono s r)
end
theorem DtA.length {F : Hp} : ∀ {vs : List V} {ds : List Da}, DtA F vs ds → vs.length = ds.length
  | _, _, .nil => rfl
  | _, _, .cons _ r => congrArg (· + 1) (DtA.length r)
theorem DtA.get {F : Hp} : ∀ {vs : List V} {ds : List Da} {i : Nat} {d : Da}, DtA F vs ds → ds[i]? = some d → ∃ v, vs[i]? = some v ∧ Dt F v d
  | _, _, _, _, .nil, e => by simp at e
  | _, _, 0, _, .cons h _, e => by simp at e; subst e; exact ⟨_, rfl, h⟩
  | _, _, i + 1, _, .cons _ r, e => by
    obtain ⟨v, h1, h2⟩ := DtA.get (i := i) r (by simpa using e)
    exact ⟨v, by simpa using h1, h2⟩
theorem DtA.getV {F : Hp} {vs : List V} {ds : List Da} {i : Nat} {v : V} (h : DtA F vs ds) (e : vs[i]? = some v) : ∃ d, ds[i]? = some d ∧ Dt F v d := by
  have hi : i < ds.length := by rw [← h.length]; exact (List.getElem?_eq_some_iff.mp e).1
  obtain ⟨w, e2, h2⟩ := h.get (List.getElem?_eq_getElem hi)
  rw [e] at e2; cases e2
  exact ⟨_, List.getElem?_eq_getElem hi, h2⟩
theorem DtA.append {F : Hp} : ∀ {vs ws : List V} {ds es : List Da}, DtA F vs ds → DtA F ws es → DtA F (vs ++ ws) (ds ++ es)
  | _, _, _, _, .nil, s => s
  | _, _, _, _, .cons h r, s => .cons h (DtA.append r s)
theorem DtA.take {F : Hp} : ∀ {vs : List V} {ds : List Da} (n : Nat), DtA F vs ds → DtA F (vs.take n) (ds.take n)
  | _, _, 0, _ => .nil
  | _, _, _ + 1, .nil => .nil
  | _, _, n + 1, .cons h r => .cons h (DtA.take n r)
theorem DtA.drop {F : Hp} : ∀ {vs : List V} {ds : List Da} (n : Nat), DtA F vs ds → DtA F (vs.drop n) (ds.drop n)
  | _, _, 0, r => r
  | _, _, _ + 1, .nil => .nil
  | _, _, n + 1, .cons _ r => DtA.drop n r
theorem DtA.set {F : Hp} {v : V} {d : Da} (q : Dt F v d) : ∀ {vs : List V} {ds : List Da} (n : Nat), DtA F vs ds → DtA F (vs.set n v) (ds.set n d)
  | _, _, _, .nil => .nil
  | _, _, 0, .cons _ r => .cons q r
  | _, _, n + 1, .cons h r => .cons h (DtA.set q n r)
theorem DtA.reverse {F : Hp} : ∀ {vs : List V} {ds : List Da}, DtA F vs ds → DtA F vs.reverse ds.reverse
  | _, _, .nil => .nil
  | _, _, .cons h r => by
    rw [List.reverse_cons, List.reverse_cons]
    exact (DtA.reverse r).append (.cons h .nil)
theorem DtA.snoc {F : Hp} {vs : List V} {ds : List Da} {v : V} {d : Da} (r : DtA F vs ds) (h : Dt F v d) : DtA F (vs ++ [v]) (ds ++ [d]) := r.append (.cons h .nil)
theorem DtA.one {F : Hp} {v : V} {d : Da} (h : Dt F v d) : DtA F [v] [d] := .cons h .nil
theorem DtA.ints {F : Hp} : ∀ {vs : List V} {l : List Int}, DtA F vs (l.map Da.int) → vs = l.map V.int
  | _, [], h => by cases h; rfl
  | _, i :: l, h => by
    cases h with
    | cons a r =>
      cases a
      rw [DtA.ints r]
      rfl
theorem DtA.of_ints {F : Hp} : ∀ l : List Int, DtA F (l.map V.int) (l.map Da.int)
  | [] => .nil
  | i :: l => .cons (.int i) (DtA.of_ints l)
theorem Dt.of_tup {F : Hp} {v : V} {ds : List Da} (h : Dt F v (.tup ds)) : ∃ a xs, v = .ref a ∧ F a = some (.tup xs) ∧ DtA F xs ds := by
  cases h with
  | tup e r => exact ⟨_, _, rfl, e, r⟩
theorem Dt.of_lst {F : Hp} {v : V} {ds : List Da} (h : Dt F v (.lst ds)) : ∃ a xs, v = .ref a ∧ F a = some (.lst xs) ∧ DtA F xs ds := by
  cases h with
  | lst e r => exact ⟨_, _, rfl, e, r⟩
theorem Dt.of_int {F : Hp} {v : V} {i : Int} (h : Dt F v (.int i)) : v = .int i := by cases h; rfl
theorem Dt.of_str {F : Hp} {v : V} {x : Str} (h : Dt F v (.str x)) : v = .str x := by cases h; rfl
theorem Dt.of_bl {F : Hp} {v : V} {b : Bool} (h : Dt F v (.bl b)) : v = .bl b := by cases h; rfl
theorem Dt.of_non {F : Hp} {v : V} (h : Dt F v .non) : v = .non := by cases h; rfl
theorem Dt.of_ob {F : Hp} {v w : V} (h : Dt F v (.ob w)) : v = w := by cases h; rfl
/-- a tuple of ints -/
theorem Dt.tupI {F : Hp} {v : V} {l : List Int} (h : Dt F v (.tup (l.map Da.int))) : ∃ a, v = .ref a ∧ F a = some (.tup (l.map V.int)) := by
  obtain ⟨a, xs, e, h1, h2⟩ := h.of_tup
  exact ⟨a, e, by rw [h1, h2.ints]⟩

/-- the data as the library has it -/
def Da.py : Da → PyData
  | .non => .none
  | .bl b => .bool b
  | .int i => .int i
  | .str s => .str s
  | .lst xs => .list (pyAll xs)
  | .tup xs => .tuple (pyAll xs)
  | .ob _ => .none
where
  pyAll : List Da → List PyData
    | [] => []
    | x :: xs => Da.py x :: pyAll xs
theorem pyAll_map : ∀ xs : List Da, Da.py.pyAll xs = xs.map Da.py
  | [] => rfl
  | x :: xs => by rw [Da.py.pyAll, pyAll_map xs, List.map_cons]
/-- no opaque value within -/
def Da.plain : Da → Bool
  | .ob _ => false
  | .lst xs => plainAll xs
  | .tup xs => plainAll xs
  | _ => true
where
  plainAll : List Da → Bool
    | [] => true
    | x :: xs => Da.plain x && plainAll xs
mutual
theorem Dt.dp {K : PySem.W.Frag} {F H : Hp} (s : Same F H) : ∀ {v : V} {d : Da}, Dt F v d → d.plain = true → Dp K H v d.py
  | _, _, .non, _ => .non
  | _, _, .bl b, _ => .bl b
  | _, _, .int i, _ => .int i
  | _, _, .str x, _ => .str x
  | _, _, .ob v, p => by simp [Da.plain] at p
  | _, _, .lst h r, p => .lst (SqL.of (s _ _ h)) (DtA.dp s r (by simpa [Da.plain] using p))
  | _, _, .tup h r, p => .tup (SqT.of (s _ _ h)) (DtA.dp s r (by simpa [Da.plain] using p))
theorem DtA.dp {K : PySem.W.Frag} {F H : Hp} (s : Same F H) : ∀ {vs : List V} {ds : List Da}, DtA F vs ds → Da.plain.plainAll ds = true → DpAll K H vs (Da.py.pyAll ds)
  | _, _, .nil, _ => .nil
  | _, _, .cons h r, p => by
    have q := Bool.and_eq_true_iff.mp (show (Da.plain _ && Da.plain.plainAll _) = true from p)
    exact .cons (Dt.dp s h q.1) (DtA.dp s r q.2)
end

/-! ### growth -/
def HO.isTup : HO → Bool
  | .tup _ => true
  | _ => false
/-- F grows to F' (frozen things: new ones, and tuples), H to H'; only what stands at M may be changed -/
structure Gr (M : List Addr) (F H F' H' : Hp) : Prop where
  ff : Same F F'
  fh : Same F' H'
  hh : ∀ b o, b ∉ M → H b = some o → H' b = some o
  nw : ∀ b o, H b = some o → HO.isTup o = false → F' b = F b
section
variable {M : List Addr} {F H F1 H1 F2 H2 : Hp}
theorem Gr.refl (s : Same F H) : Gr M F H F H := ⟨Same.refl _, s, fun _ _ _ e => e, fun _ _ _ _ => rfl⟩
theorem Gr.same (g : Gr [] F H F1 H1) : Same H H1 := fun b o e => g.hh b o (by simp) e
theorem Gr.trans (a : Gr M F H F1 H1) (b : Gr M F1 H1 F2 H2) (hM : ∀ m ∈ M, ∃ o, H1 m = some o ∧ HO.isTup o = false) : Gr M F H F2 H2 where
  ff := a.ff.trans b.ff
  fh := b.fh
  hh := fun c o n e => b.hh c o n (a.hh c o n e)
  nw := fun c o e t => by
    by_cases n : c ∈ M
    · obtain ⟨o', e', t'⟩ := hM c n
      rw [b.nw c o' e' t', a.nw c o e t]
    · rw [b.nw c o (a.hh c o n e) t, a.nw c o e t]
theorem Gr.trans0 (a : Gr [] F H F1 H1) (b : Gr [] F1 H1 F2 H2) : Gr [] F H F2 H2 := a.trans b (by simp)
theorem Gr.wide (a : Gr [] F H F1 H1) : Gr M F H F1 H1 := ⟨a.ff, a.fh, fun b o _ e => a.same b o e, a.nw⟩
/-- a new thing, frozen | not frozen -/
theorem Gr.new {p : Addr} {o : HO} (s : Same F H) (hp : H p = none) : Gr [] F H (upd F p o) (upd H p o) where
  ff := fun b u e => by rw [upd_ne (fun z => by subst z; rw [s _ _ e] at hp; cases hp)]; exact e
  fh := fun b u e => by
    by_cases h : b = p
    · subst h; rw [upd_same] at e ⊢; exact e
    · rw [upd_ne h] at e ⊢; exact s _ _ e
  hh := fun b u _ e => by rw [upd_ne (ne_of_none e hp)]; exact e
  nw := fun b u e _ => by rw [upd_ne (ne_of_none e hp)]
theorem Gr.newM {p : Addr} {o : HO} (s : Same F H) (hp : H p = none) : Gr [] F H F (upd H p o) where
  ff := Same.refl _
  fh := fun b u e => by rw [upd_ne (ne_of_none (s _ _ e) hp)]; exact s _ _ e
  hh := fun b u _ e => by rw [upd_ne (ne_of_none e hp)]; exact e
  nw := fun _ _ _ _ => rfl
/-- a thing that isn't frozen is changed -/
theorem Gr.put {m : Addr} {o : HO} (s : Same F H) (hm : F m = none) : Gr [m] F H F (upd H m o) where
  ff := Same.refl _
  fh := fun b u e => by rw [upd_ne (ne_of_none e hm)]; exact s _ _ e
  hh := fun b u n e => by rw [upd_ne (by simpa using n)]; exact e
  nw := fun _ _ _ _ => rfl
/-- only new things are made -/
theorem Gr.of_same (s : Same F H) (h : Same H H1) : Gr [] F H F H1 := ⟨Same.refl _, s.trans h, fun b o _ e => h b o e, fun _ _ _ _ => rfl⟩
theorem Gr.mono {M' : List Addr} (a : Gr M F H F1 H1) (h : ∀ m ∈ M, m ∈ M') : Gr M' F H F1 H1 := ⟨a.ff, a.fh, fun b o n e => a.hh b o (fun z => n (h b z)) e, a.nw⟩
/-- a tuple that stands is taken among the frozen -/
theorem Gr.tupIn {p : Addr} {xs : List V} (s : Same F H) (hp : H p = some (.tup xs)) : Gr [] F H (upd F p (.tup xs)) H where
  ff := fun b u e => by
    by_cases h : b = p
    · subst h
      rw [s _ _ e] at hp
      cases hp
      exact upd_same
    · rw [upd_ne h]; exact e
  fh := fun b u e => by
    by_cases h : b = p
    · subst h; rw [upd_same] at e; cases e; exact hp
    · rw [upd_ne h] at e; exact s _ _ e
  hh := fun b u _ e => e
  nw := fun b u e t => by
    refine upd_ne fun z => ?_
    subst z
    rw [hp] at e
    cases e
    cases t
end

/-! ### slots -/
abbrev Rho := List (Option Da)
structure Env (F : Hp) (σ : L2.St) (ρ : Rho) : Prop where
  len : σ.length = ρ.length
  at_ : ∀ (i : Nat) (d : Da), ρ[i]? = some (some d) → ∃ v, σ[i]? = some (some v) ∧ Dt F v d
section
variable {F F' : Hp} {σ : L2.St} {ρ : Rho}
theorem Env.mono (s : Same F F') (e : Env F σ ρ) : Env F' σ ρ := ⟨e.len, fun i d h => let ⟨v, a, b⟩ := e.at_ i d h; ⟨v, a, b.mono s⟩⟩
theorem Env.set {i : Nat} {v : V} {d : Da} (e : Env F σ ρ) (h : Dt F v d) : Env F (σ.set i (some v)) (ρ.set i (some d)) := by
  refine ⟨by rw [List.length_set, List.length_set]; exact e.len, fun j d' q => ?_⟩
  by_cases hj : i = j
  · subst hj
    have hi : i < ρ.length := by
      have := (List.getElem?_eq_some_iff.mp q).1
      rw [List.length_set] at this
      exact this
    rw [List.getElem?_set_self hi] at q
    cases q
    exact ⟨v, List.getElem?_set_self (by rw [e.len]; exact hi), h⟩
  · rw [List.getElem?_set_ne hj] at q ⊢
    exact e.at_ j d' q
theorem Env.none {i : Nat} (e : Env F σ ρ) (o : Option V) : Env F (σ.set i o) (ρ.set i Option.none) := by
  refine ⟨by rw [List.length_set, List.length_set]; exact e.len, fun j d' q => ?_⟩
  by_cases hj : i = j
  · subst hj
    have hi : i < ρ.length := by
      have := (List.getElem?_eq_some_iff.mp q).1
      rw [List.length_set] at this
      exact this
    rw [List.getElem?_set_self hi] at q
    cases q
  · rw [List.getElem?_set_ne hj] at q ⊢
    exact e.at_ j d' q
def wipeR (ρ : Rho) : List Nat → Rho
  | [] => ρ
  | v :: vs => (wipeR ρ vs).set v Option.none
theorem Env.wipe (e : Env F σ ρ) : ∀ vs : List Nat, Env F (wipe σ vs) (wipeR ρ vs)
  | [] => e
  | v :: vs => (Env.wipe e vs).none Option.none
end
def startR (N : List Str) (ds : List Da) : Rho := ds.map some ++ List.replicate (N.length - ds.length) none
theorem env_start {F : Hp} {N : List Str} {vs : List V} {ds : List Da} (h : DtA F vs ds) : Env F (L2.start N vs) (startR N ds) := by
  refine ⟨by unfold L2.start startR; simp [h.length], fun i d q => ?_⟩
  unfold startR at q
  have hi : i < ds.length := by
    rw [List.getElem?_append] at q
    split at q
    · rename_i hl
      simpa using hl
    · exfalso
      rw [List.getElem?_replicate] at q
      split at q
      · cases q
      · cases q
  rw [List.getElem?_append_left (by simpa using hi), List.getElem?_map] at q
  cases e : ds[i]? with
  | none => rw [e] at q; cases q
  | some d' =>
    rw [e] at q
    cases q
    obtain ⟨v, e2, h2⟩ := h.get e
    refine ⟨v, ?_, h2⟩
    unfold L2.start
    rw [List.getElem?_append_left (by simpa [h.length] using hi), List.getElem?_map, e2]
    rfl
theorem wipe_get {σ : L2.St} {i : Nat} : ∀ {vs : List Nat}, i ∈ vs → (wipe σ vs)[i]? = some Option.none ∨ (wipe σ vs)[i]? = Option.none
  | [], h => by simp at h
  | v :: vs, h => by
    show ((L2.wipe σ vs).set v Option.none)[i]? = _ ∨ ((L2.wipe σ vs).set v Option.none)[i]? = _
    by_cases e : v = i
    · subst e
      by_cases l : v < (L2.wipe σ vs).length
      · exact .inl (List.getElem?_set_self l)
      · exact .inr (List.getElem?_eq_none_iff.mpr (by rw [List.length_set]; omega))
    · rw [List.getElem?_set_ne e]
      exact wipe_get (by simpa [Ne.symm e] using h)
/-- wiping what was stored within -/
theorem wipe_set {σ : L2.St} {vs : List Nat} {j : Nat} {o : Option V} (h : j ∈ vs) : wipe (σ.set j o) vs = wipe σ vs := by
  refine List.ext_getElem? fun i => ?_
  by_cases e : i ∈ vs
  · have l : (wipe (σ.set j o) vs).length = (wipe σ vs).length := by rw [wipe_length, wipe_length, List.length_set]
    rcases wipe_get (σ := σ.set j o) e with a | a <;> rcases wipe_get (σ := σ) e with b | b
    · rw [a, b]
    · have := (List.getElem?_eq_some_iff.mp a).1
      have := List.getElem?_eq_none_iff.mp b
      omega
    · have := (List.getElem?_eq_some_iff.mp b).1
      have := List.getElem?_eq_none_iff.mp a
      omega
    · rw [a, b]
  · rw [wipe_out e, wipe_out e, List.getElem?_set_ne (fun z => e (by rw [← z]; exact h))]
theorem wipe_wipe {σ : L2.St} {vs : List Nat} : wipe (wipe σ vs) vs = wipe σ vs := by
  refine List.ext_getElem? fun i => ?_
  by_cases e : i ∈ vs
  · have l : (wipe (wipe σ vs) vs).length = (wipe σ vs).length := by rw [wipe_length]
    rcases wipe_get (σ := wipe σ vs) e with a | a <;> rcases wipe_get (σ := σ) e with b | b
    · rw [a, b]
    · have := (List.getElem?_eq_some_iff.mp a).1
      have := List.getElem?_eq_none_iff.mp b
      omega
    · have := (List.getElem?_eq_some_iff.mp b).1
      have := List.getElem?_eq_none_iff.mp a
      omega
    · rw [a, b]
  · rw [wipe_out e]
end Bb
/-! BbB -/
namespace Bb
open PySem PySem.Spec PyProof.Rows L2

/-! ### what pure code gives: by the slots' data; F0 frozen things, B things that stand at the start -/
structure At (F0 B F H : Hp) : Prop where
  f : Same F0 F
  h : Same F H
  b : Same B H
theorem At.go {F0 B F H F1 H1 : Hp} (a : At F0 B F H) (g : Gr [] F H F1 H1) : At F0 B F1 H1 := ⟨a.f.trans g.ff, g.fh, a.b.trans g.same⟩
section
variable (F0 B : Hp)
def Dv (te : TE) (ρ : Rho) (d : Da) : Prop := ∀ σ F H, At F0 B F H → Env F σ ρ → ∀ Q : VK, (∀ v F' H', Gr [] F H F' H' → Dt F' v d → Q v H') → te σ H Q
def DvT (tt : TT) (ρ : Rho) (b : Bool) : Prop := ∀ σ F H, At F0 B F H → Env F σ ρ → ∀ Q : Bool → Hp → Prop, (∀ F' H', Gr [] F H F' H' → Q b H') → tt σ H Q
def DvA (ta : TA) (ρ : Rho) (ds : List Da) : Prop := ∀ σ F H, At F0 B F H → Env F σ ρ → ∀ Q : List V → Hp → Prop, (∀ vs F' H', Gr [] F H F' H' → DtA F' vs ds → Q vs H') → ta σ H Q
inductive Out where
  | nx (ρ : Rho) | rt (d : Da)
def Sv (t : TS) (ρ : Rho) : Out → Prop
  | .nx ρ' => ∀ σ F H, At F0 B F H → Env F σ ρ → ∀ D : Ends, (∀ σ' F' H', Gr [] F H F' H' → Env F' σ' ρ' → D.nx σ' H') → t D σ H
  | .rt d => ∀ σ F H, At F0 B F H → Env F σ ρ → ∀ D : Ends, (∀ v F' H', Gr [] F H F' H' → Dt F' v d → D.rt v H') → t D σ H
/-- two-place operations, calls, by data -/
def RD (r : R2) (x y z : Da) : Prop := ∀ F H v u, At F0 B F H → Dt F v x → Dt F u y → ∀ Q : VK, (∀ w F' H', Gr [] F H F' H' → Dt F' w z → Q w H') → r v u H Q
def RU (r : V → Hp → VK → Prop) (x z : Da) : Prop := ∀ F H v, At F0 B F H → Dt F v x → ∀ Q : VK, (∀ w F' H', Gr [] F H F' H' → Dt F' w z → Q w H') → r v H Q
def RC (r : List V → Hp → VK → Prop) (ds : List Da) (z : Da) : Prop := ∀ F H vs, At F0 B F H → DtA F vs ds → ∀ Q : VK, (∀ w F' H', Gr [] F H F' H' → Dt F' w z → Q w H') → r vs H Q
end
section
variable {F0 B : Hp} {ρ ρ' ρ1 : Rho} {K : PySem.W.Frag} {d e x y z : Da} {ds es : List Da} {ta tb tc te : TE} {tt tu : TT} {t u : TS} {o : Out} {r r' : R2}
theorem dv_var {i : Nat} (h : ρ[i]? = some (some d)) : Dv F0 B (tVar i) ρ d := fun σ F H a E Q k => by
  obtain ⟨v, e, hv⟩ := E.at_ i d h
  exact ⟨v, e, k v F H (.refl a.h) hv⟩
theorem dv_int {i : Int} : Dv F0 B (tC (.int i)) ρ (.int i) := fun σ F H a E Q k => k _ F H (.refl a.h) (.int i)
theorem dv_str {x : Str} : Dv F0 B (tC (.str x)) ρ (.str x) := fun σ F H a E Q k => k _ F H (.refl a.h) (.str x)
theorem dv_bl {b : Bool} : Dv F0 B (tC (.bl b)) ρ (.bl b) := fun σ F H a E Q k => k _ F H (.refl a.h) (.bl b)
theorem dv_non : Dv F0 B (tC .non) ρ .non := fun σ F H a E Q k => k _ F H (.refl a.h) .non
theorem dv_ty {n : String} : Dv F0 B (tC (.ty n)) ρ (.ob (.ty n)) := fun σ F H a E Q k => k _ F H (.refl a.h) (.ob _)
theorem dv_ob {v : V} : Dv F0 B (tC v) ρ (.ob v) := fun σ F H a E Q k => k _ F H (.refl a.h) (.ob _)
theorem dv_to (h : Dv F0 B te ρ d) (e : d = z) : Dv F0 B te ρ z := e ▸ h
theorem dt_to {b c : Bool} (h : DvT F0 B tt ρ b) (e : b = c) : DvT F0 B tt ρ c := e ▸ h
theorem dv_op (ha : Dv F0 B ta ρ x) (hb : Dv F0 B tb ρ y) (hr : RD F0 B r x y z) : Dv F0 B (tOp r ta tb) ρ z := fun σ F H a E Q k =>
  ha σ F H a E _ fun v F1 H1 g1 d1 => hb σ F1 H1 (a.go g1) (E.mono g1.ff) _ fun u F2 H2 g2 d2 =>
    hr F2 H2 v u ((a.go g1).go g2) (d1.mono g2.ff) d2 Q fun w F3 H3 g3 d3 => k w F3 H3 ((g1.trans0 g2).trans0 g3) d3
theorem dv_un {q : V → Hp → VK → Prop} (ha : Dv F0 B ta ρ x) (hr : RU F0 B q x z) : Dv F0 B (tUn q ta) ρ z := fun σ F H a E Q k =>
  ha σ F H a E _ fun v F1 H1 g1 d1 => hr F1 H1 v (a.go g1) d1 Q fun w F3 H3 g3 d3 => k w F3 H3 (g1.trans0 g3) d3
theorem da_nil : DvA F0 B tNil ρ [] := fun σ F H a E Q k => k _ F H (.refl a.h) .nil
theorem da_cons {tr : TA} (h : Dv F0 B te ρ d) (hr : DvA F0 B tr ρ ds) : DvA F0 B (tCons te tr) ρ (d :: ds) := fun σ F H a E Q k =>
  h σ F H a E _ fun v F1 H1 g1 d1 => hr σ F1 H1 (a.go g1) (E.mono g1.ff) _ fun vs F2 H2 g2 d2 => k _ F2 H2 (g1.trans0 g2) (.cons (d1.mono g2.ff) d2)
theorem dv_tup {tr : TA} (h : DvA F0 B tr ρ ds) (hl : ds.length ≤ sizeLine) : Dv F0 B (tTup tr) ρ (.tup ds) := fun σ F H a E Q k =>
  h σ F H a E _ fun vs F1 H1 g1 d1 => ⟨by rw [d1.length]; exact hl, fun p hp =>
    k _ (upd F1 p (.tup vs)) _ (g1.trans0 (.new g1.fh hp)) (.tup upd_same (d1.mono (Gr.new (o := .tup vs) g1.fh hp).ff))⟩
theorem dv_lst {tr : TA} (h : DvA F0 B tr ρ ds) (hl : ds.length ≤ sizeLine) : Dv F0 B (tLst tr) ρ (.lst ds) := fun σ F H a E Q k =>
  h σ F H a E _ fun vs F1 H1 g1 d1 => ⟨by rw [d1.length]; exact hl, fun p hp =>
    k _ (upd F1 p (.lst vs)) _ (g1.trans0 (.new g1.fh hp)) (.lst upd_same (d1.mono (Gr.new (o := .lst vs) g1.fh hp).ff))⟩
theorem dv_cb {q : List V → Hp → VK → Prop} {tr : TA} (h : DvA F0 B tr ρ ds) (hr : RC F0 B q ds z) : Dv F0 B (tCB q tr) ρ z := fun σ F H a E Q k =>
  h σ F H a E _ fun vs F1 H1 g1 d1 => hr F1 H1 vs (a.go g1) d1 Q fun w F3 H3 g3 d3 => k w F3 H3 (g1.trans0 g3) d3
/-! ### truth values -/
theorem dv_and {b : Bool} {c : Bool} (h1 : Dv F0 B ta ρ (.bl b)) (h2 : b = true → Dv F0 B tb ρ (.bl c)) : Dv F0 B (tAndV ta tb) ρ (.bl (b && c)) := fun σ F H a E Q k =>
  h1 σ F H a E _ fun v F1 H1 g1 d1 => by
    refine ⟨b, d1.of_bl, ?_⟩
    cases b with
    | true => exact iteT (h2 rfl σ F1 H1 (a.go g1) (E.mono g1.ff) Q fun w F2 H2 g2 d2 => k w F2 H2 (g1.trans0 g2) (by simpa using d2))
    | false => exact iteF (k _ F1 H1 g1 (.bl false))
theorem dv_or {b : Bool} {c : Bool} (h1 : Dv F0 B ta ρ (.bl b)) (h2 : b = false → Dv F0 B tb ρ (.bl c)) : Dv F0 B (tOrV ta tb) ρ (.bl (b || c)) := fun σ F H a E Q k =>
  h1 σ F H a E _ fun v F1 H1 g1 d1 => by
    refine ⟨b, d1.of_bl, ?_⟩
    cases b with
    | false => exact iteF (h2 rfl σ F1 H1 (a.go g1) (E.mono g1.ff) Q fun w F2 H2 g2 d2 => k w F2 H2 (g1.trans0 g2) (by simpa using d2))
    | true => exact iteT (k _ F1 H1 g1 (.bl true))
theorem dv_not {b : Bool} (h1 : Dv F0 B ta ρ (.bl b)) : Dv F0 B (tNotV ta) ρ (.bl (!b)) := fun σ F H a E Q k =>
  h1 σ F H a E _ fun v F1 H1 g1 d1 => ⟨b, d1.of_bl, k _ F1 H1 g1 (.bl _)⟩
theorem dt_test {b : Bool} (h : Dv F0 B te ρ (.bl b)) : DvT F0 B (tTest te) ρ b := fun σ F H a E Q k => h σ F H a E _ fun v F1 H1 g1 d1 => ⟨b, d1.of_bl, k F1 H1 g1⟩
theorem dt_val {b : Bool} (h : Dv F0 B te ρ (.bl b)) : DvT F0 B (tB te) ρ b := fun σ F H a E Q k => h σ F H a E _ fun v F1 H1 g1 d1 => ⟨b, d1.of_bl, k F1 H1 g1⟩
theorem dt_and {b c : Bool} (h1 : DvT F0 B tt ρ b) (h2 : b = true → DvT F0 B tu ρ c) : DvT F0 B (tAnd tt tu) ρ (b && c) := fun σ F H a E Q k => h1 σ F H a E _ fun F1 H1 g1 => by
    cases b with
    | true => exact iteT (h2 rfl σ F1 H1 (a.go g1) (E.mono g1.ff) Q fun F2 H2 g2 => k F2 H2 (g1.trans0 g2))
    | false => exact iteF (k F1 H1 g1)
theorem dt_or {b c : Bool} (h1 : DvT F0 B tt ρ b) (h2 : b = false → DvT F0 B tu ρ c) : DvT F0 B (tOr tt tu) ρ (b || c) := fun σ F H a E Q k => h1 σ F H a E _ fun F1 H1 g1 => by
    cases b with
    | false => exact iteF (h2 rfl σ F1 H1 (a.go g1) (E.mono g1.ff) Q fun F2 H2 g2 => k F2 H2 (g1.trans0 g2))
    | true => exact iteT (k F1 H1 g1)
theorem dt_not {b : Bool} (h1 : DvT F0 B tt ρ b) : DvT F0 B (tNot tt) ρ (!b) := fun σ F H a E Q k => h1 σ F H a E _ fun F1 H1 g1 => k F1 H1 g1
theorem dv_if {b : Bool} (h : DvT F0 B tt ρ b) (h1 : b = true → Dv F0 B ta ρ d) (h2 : b = false → Dv F0 B tb ρ d) : Dv F0 B (tIf tt ta tb) ρ d := fun σ F H a E Q k => h σ F H a E _ fun F1 H1 g1 => by
    cases b with
    | true => exact iteT (h1 rfl σ F1 H1 (a.go g1) (E.mono g1.ff) Q fun v F2 H2 g2 d2 => k v F2 H2 (g1.trans0 g2) d2)
    | false => exact iteF (h2 rfl σ F1 H1 (a.go g1) (E.mono g1.ff) Q fun v F2 H2 g2 d2 => k v F2 H2 (g1.trans0 g2) d2)
theorem dv_chain {b : Bool} {c : Bool} (ha : Dv F0 B ta ρ x) (hb : Dv F0 B tb ρ y) (hr : RD F0 B r x y (.bl b)) (hc : b = true → Dv F0 B tc ρ z) (hr' : b = true → RD F0 B r' y z (.bl c)) : Dv F0 B (tChain r r' ta tb tc) ρ (.bl (b && c)) := fun σ F H a E Q k =>
  ha σ F H a E _ fun v F1 H1 g1 d1 => hb σ F1 H1 (a.go g1) (E.mono g1.ff) _ fun u F2 H2 g2 d2 => by
    have a2 := (a.go g1).go g2
    refine hr F2 H2 v u a2 (d1.mono g2.ff) d2 _ fun w F3 H3 g3 d3 => ⟨b, d3.of_bl, ?_⟩
    have g123 := (g1.trans0 g2).trans0 g3
    cases b with
    | true => exact iteT (hc rfl σ F3 H3 (a2.go g3) (E.mono g123.ff) _ fun w2 F4 H4 g4 d4 => hr' rfl F4 H4 u w2 ((a2.go g3).go g4) ((d2.mono g3.ff).mono g4.ff) d4 Q fun w3 F5 H5 g5 d5 => k w3 F5 H5 ((g123.trans0 g4).trans0 g5) (by simpa using d5))
    | false => exact iteF (k _ F3 H3 g123 (.bl false))

/-! ### statements -/
theorem sv_next : Sv F0 B tNext ρ (.nx ρ) := fun σ F H a E D k => k σ F H (.refl a.h) E
theorem sv_seq (h1 : Sv F0 B t ρ (.nx ρ1)) (h2 : Sv F0 B u ρ1 o) : Sv F0 B (tSeq t u) ρ o := by
  cases o with
  | nx ρ' => exact fun σ F H a E D k => h1 σ F H a E _ fun σ1 F1 H1 g1 E1 => h2 σ1 F1 H1 (a.go g1) E1 D fun σ2 F2 H2 g2 E2 => k σ2 F2 H2 (g1.trans0 g2) E2
  | rt d => exact fun σ F H a E D k => h1 σ F H a E _ fun σ1 F1 H1 g1 E1 => h2 σ1 F1 H1 (a.go g1) E1 D fun v F2 H2 g2 E2 => k v F2 H2 (g1.trans0 g2) E2
theorem sv_seqR (h1 : Sv F0 B t ρ (.rt d)) : Sv F0 B (tSeq t u) ρ (.rt d) := fun σ F H a E D k => h1 σ F H a E _ fun v F1 H1 g1 E1 => k v F1 H1 g1 E1
theorem sv_ret (h : Dv F0 B te ρ d) : Sv F0 B (tRet te) ρ (.rt d) := fun σ F H a E D k => h σ F H a E _ fun v F1 H1 g1 d1 => k v F1 H1 g1 d1
theorem sv_set {i : Nat} (h : Dv F0 B te ρ d) (e : ρ.set i (some d) = ρ' := by first | (dsimp only [List.set] <;> rfl) | rfl) : Sv F0 B (tAsg te (gName i)) ρ (.nx ρ') := fun σ F H a E D k => h σ F H a E _ fun v F1 H1 g1 d1 => by
  subst e
  exact k _ F1 H1 g1 ((E.mono g1.ff).set d1)
theorem sv_drop (h : Dv F0 B te ρ d) : Sv F0 B (tDrop te) ρ (.nx ρ) := fun σ F H a E D k => h σ F H a E _ fun v F1 H1 g1 d1 => k σ F1 H1 g1 (E.mono g1.ff)
theorem sv_if {b : Bool} (h : DvT F0 B tt ρ b) (h1 : b = true → Sv F0 B t ρ o) (h2 : b = false → Sv F0 B u ρ o) : Sv F0 B (tIfS tt t u) ρ o := by
  cases o with
  | nx ρ' =>
    refine fun σ F H a E D k => h σ F H a E _ fun F1 H1 g1 => ?_
    cases b with
    | true => exact iteT (h1 rfl σ F1 H1 (a.go g1) (E.mono g1.ff) D fun σ2 F2 H2 g2 E2 => k σ2 F2 H2 (g1.trans0 g2) E2)
    | false => exact iteF (h2 rfl σ F1 H1 (a.go g1) (E.mono g1.ff) D fun σ2 F2 H2 g2 E2 => k σ2 F2 H2 (g1.trans0 g2) E2)
  | rt d =>
    refine fun σ F H a E D k => h σ F H a E _ fun F1 H1 g1 => ?_
    cases b with
    | true => exact iteT (h1 rfl σ F1 H1 (a.go g1) (E.mono g1.ff) D fun v F2 H2 g2 E2 => k v F2 H2 (g1.trans0 g2) E2)
    | false => exact iteF (h2 rfl σ F1 H1 (a.go g1) (E.mono g1.ff) D fun v F2 H2 g2 E2 => k v F2 H2 (g1.trans0 g2) E2)
/-- if ..: (returns, or goes on), then the rest -/
theorem sv_ifS {b : Bool} {rest : TS} (h : DvT F0 B tt ρ b) (h1 : b = true → Sv F0 B (tSeq t rest) ρ o) (h2 : b = false → Sv F0 B (tSeq u rest) ρ o) : Sv F0 B (tSeq (tIfS tt t u) rest) ρ o := by
  cases o with
  | nx ρ' =>
    refine fun σ F H a E D k => h σ F H a E _ fun F1 H1 g1 => ?_
    cases b with
    | true => exact iteT (h1 rfl σ F1 H1 (a.go g1) (E.mono g1.ff) D fun σ2 F2 H2 g2 E2 => k σ2 F2 H2 (g1.trans0 g2) E2)
    | false => exact iteF (h2 rfl σ F1 H1 (a.go g1) (E.mono g1.ff) D fun σ2 F2 H2 g2 E2 => k σ2 F2 H2 (g1.trans0 g2) E2)
  | rt d =>
    refine fun σ F H a E D k => h σ F H a E _ fun F1 H1 g1 => ?_
    cases b with
    | true => exact iteT (h1 rfl σ F1 H1 (a.go g1) (E.mono g1.ff) D fun v F2 H2 g2 E2 => k v F2 H2 (g1.trans0 g2) E2)
    | false => exact iteF (h2 rfl σ F1 H1 (a.go g1) (E.mono g1.ff) D fun v F2 H2 g2 E2 => k v F2 H2 (g1.trans0 g2) E2)
theorem sv_nextS (h : Sv F0 B t ρ o) : Sv F0 B (tSeq tNext t) ρ o := sv_seq sv_next h
/-- a, b = a tuple -/
theorem sv_un2 {i j : Nat} (h : Dv F0 B te ρ (.tup [x, y])) (e : (ρ.set i (some x)).set j (some y) = ρ' := by first | (dsimp only [List.set] <;> rfl) | rfl) : Sv F0 B (tAsg te (gTup K 2 (gCons (gName i) (gCons (gName j) gNil)))) ρ (.nx ρ') := fun σ F H a E D k =>
  h σ F H a E _ fun v F1 H1 g1 d1 => by
    obtain ⟨p, xs, rfl, hp, hd⟩ := d1.of_tup
    cases hd with
    | cons h1 r1 =>
      cases r1 with
      | cons h2 r2 =>
        cases r2
        subst e
        exact ⟨p, _, rfl, SqT.of (g1.fh _ _ hp), rfl, _, _, rfl, _, _, rfl, rfl, k _ F1 H1 g1 (((E.mono g1.ff).set h1).set h2)⟩
theorem sv_un3 {i j l : Nat} (h : Dv F0 B te ρ (.tup [x, y, z])) (e : ((ρ.set i (some x)).set j (some y)).set l (some z) = ρ' := by first | (dsimp only [List.set] <;> rfl) | rfl) : Sv F0 B (tAsg te (gTup K 3 (gCons (gName i) (gCons (gName j) (gCons (gName l) gNil))))) ρ (.nx ρ') := fun σ F H a E D k =>
  h σ F H a E _ fun v F1 H1 g1 d1 => by
    obtain ⟨p, xs, rfl, hp, hd⟩ := d1.of_tup
    cases hd with
    | cons h1 r1 =>
      cases r1 with
      | cons h2 r2 =>
        cases r2 with
        | cons h3 r3 =>
          cases r3
          subst e
          exact ⟨p, _, rfl, SqT.of (g1.fh _ _ hp), rfl, _, _, rfl, _, _, rfl, _, _, rfl, rfl, k _ F1 H1 g1 ((((E.mono g1.ff).set h1).set h2).set h3)⟩
theorem sv_un4 {i j l m : Nat} {w : Da} (h : Dv F0 B te ρ (.tup [x, y, z, w])) (e : (((ρ.set i (some x)).set j (some y)).set l (some z)).set m (some w) = ρ' := by first | (dsimp only [List.set] <;> rfl) | rfl) : Sv F0 B (tAsg te (gTup K 4 (gCons (gName i) (gCons (gName j) (gCons (gName l) (gCons (gName m) gNil)))))) ρ (.nx ρ') := fun σ F H a E D k =>
  h σ F H a E _ fun v F1 H1 g1 d1 => by
    obtain ⟨p, xs, rfl, hp, hd⟩ := d1.of_tup
    cases hd with
    | cons h1 r1 =>
      cases r1 with
      | cons h2 r2 =>
        cases r2 with
        | cons h3 r3 =>
          cases r3 with
          | cons h4 r4 =>
            cases r4
            subst e
            exact ⟨p, _, rfl, SqT.of (g1.fh _ _ hp), rfl, _, _, rfl, _, _, rfl, _, _, rfl, _, _, rfl, rfl, k _ F1 H1 g1 (((((E.mono g1.ff).set h1).set h2).set h3).set h4)⟩
/-- a, b = x, y, the names stored from the right -/
theorem sv_par {i j : Nat} {tr : TA} (h : DvA F0 B tr ρ [x, y]) (e : (ρ.set i (some x)).set j (some y) = ρ' := by first | (dsimp only [List.set] <;> rfl) | rfl) : Sv F0 B (tPar i j tr) ρ (.nx ρ') := fun σ F H a E D k => h σ F H a E _ fun vs F1 H1 g1 d1 => by
  cases d1 with
  | cons h1 r1 =>
    cases r1 with
    | cons h2 r2 =>
      cases r2
      subst e
      exact ⟨_, _, rfl, k _ F1 H1 g1 (((E.mono g1.ff).set h1).set h2)⟩
theorem sv_par3 {i j l : Nat} {tr : TA} (h : DvA F0 B tr ρ [x, y, z]) (e : ((ρ.set i (some x)).set j (some y)).set l (some z) = ρ' := by first | (dsimp only [List.set] <;> rfl) | rfl) : Sv F0 B (tPar3 i j l tr) ρ (.nx ρ') := fun σ F H a E D k => h σ F H a E _ fun vs F1 H1 g1 d1 => by
  cases d1 with
  | cons h1 r1 =>
    cases r1 with
    | cons h2 r2 =>
      cases r2 with
      | cons h3 r3 =>
        cases r3
        subst e
        exact ⟨_, _, _, rfl, k _ F1 H1 g1 ((((E.mono g1.ff).set h1).set h2).set h3)⟩

/-! ### operations -/
theorem rd_val {r : R2} (h : ∀ F H v u, At F0 B F H → Dt F v x → Dt F u y → ∀ Q : VK, (∀ w, Dt F w z → Q w H) → r v u H Q) : RD F0 B r x y z := fun F H v u a dx dy Q k => h F H v u a dx dy Q fun w hw => k w F H (.refl a.h) hw
theorem rd_I0 {i j k : Int} {g : Int → Int → Int} (e : g i j = k := by rfl) : RD F0 B (rI0 fun i j => .int (g i j)) (.int i) (.int j) (.int k) := rd_val fun F H v u a dx dy Q q => ⟨i, j, dx.of_int, dy.of_int, q _ (by subst e; exact .int _)⟩
theorem rd_B0 {i j : Int} {g : Int → Int → Bool} : RD F0 B (rI0 fun i j => .bl (g i j)) (.int i) (.int j) (.bl (g i j)) := rd_val fun F H v u a dx dy Q q => ⟨i, j, dx.of_int, dy.of_int, q _ (.bl _)⟩
theorem rd_I {C : Int → Int → Prop} {i j : Int} {g : Int → Int → Int} (c : C i j) : RD F0 B (rI C fun i j => .int (g i j)) (.int i) (.int j) (.int (g i j)) := rd_val fun F H v u a dx dy Q q => ⟨i, j, dx.of_int, dy.of_int, c, q _ (.int _)⟩
theorem rd_eqI {i j : Int} : RD F0 B rEq (.int i) (.int j) (.bl (decide (i = j))) := rd_val fun F H v u a dx dy Q q => by
  rw [dx.of_int, dy.of_int]
  refine ⟨rfl, q _ ?_⟩
  rw [show decide (V.int i = V.int j) = decide (i = j) by simp]
  exact .bl _
theorem rd_neI {i j : Int} : RD F0 B rNe (.int i) (.int j) (.bl (!decide (i = j))) := rd_val fun F H v u a dx dy Q q => by
  rw [dx.of_int, dy.of_int]
  refine ⟨rfl, q _ ?_⟩
  rw [show decide (V.int i = V.int j) = decide (i = j) by simp]
  exact .bl _
theorem rd_eqS {i j : Str} : RD F0 B rEq (.str i) (.str j) (.bl (decide (i = j))) := rd_val fun F H v u a dx dy Q q => by
  rw [dx.of_str, dy.of_str]
  refine ⟨rfl, q _ ?_⟩
  rw [show decide (V.str i = V.str j) = decide (i = j) by simp]
  exact .bl _
theorem rd_eqB {i j : Bool} : RD F0 B rEq (.bl i) (.bl j) (.bl (decide (i = j))) := rd_val fun F H v u a dx dy Q q => by
  rw [dx.of_bl, dy.of_bl]
  refine ⟨rfl, q _ ?_⟩
  rw [show decide (V.bl i = V.bl j) = decide (i = j) by simp]
  exact .bl _
theorem rd_neB {i j : Bool} : RD F0 B rNe (.bl i) (.bl j) (.bl (!decide (i = j))) := rd_val fun F H v u a dx dy Q q => by
  rw [dx.of_bl, dy.of_bl]
  refine ⟨rfl, q _ ?_⟩
  rw [show decide (V.bl i = V.bl j) = decide (i = j) by simp]
  exact .bl _
theorem rd_ixT {i : Int} (h : atI ds i = some z) : RD F0 B (rIxT K) (.tup ds) (.int i) z := rd_val fun F H v u a dx dy Q q => by
  obtain ⟨p, xs, rfl, hp, hd⟩ := dx.of_tup
  obtain ⟨j, e1, e2, hj, _⟩ := atI_get h
  obtain ⟨w, e3, hw⟩ := hd.get e2
  refine ⟨p, xs, i, w, rfl, dy.of_int, SqT.of (a.h _ _ hp), ?_, q w hw⟩
  unfold atI at h ⊢
  rw [hd.length]
  cases q2 : ixN ds.length i with
  | none => rw [q2] at h; cases h
  | some k =>
    have := ixN_seq q2
    rw [this.1] at e1
    cases e1
    exact e3
theorem rd_ixL {i : Int} (h : atI ds i = some z) : RD F0 B (rIxL K) (.lst ds) (.int i) z := rd_val fun F H v u a dx dy Q q => by
  obtain ⟨p, xs, rfl, hp, hd⟩ := dx.of_lst
  obtain ⟨j, e1, e2, hj, _⟩ := atI_get h
  obtain ⟨w, e3, hw⟩ := hd.get e2
  refine ⟨p, xs, i, w, rfl, dy.of_int, SqL.of (a.h _ _ hp), ?_, q w hw⟩
  unfold atI at h ⊢
  rw [hd.length]
  cases q2 : ixN ds.length i with
  | none => rw [q2] at h; cases h
  | some k =>
    have := ixN_seq q2
    rw [this.1] at e1
    cases e1
    exact e3
theorem rd_catT (hl : ds.length + es.length ≤ sizeLine) : RD F0 B (rCatA K) (.tup ds) (.tup es) (.tup (ds ++ es)) := fun F H v u a dx dy Q q => by
  obtain ⟨p, xs, rfl, hp, hd⟩ := dx.of_tup
  obtain ⟨p', ys, rfl, hp', hd'⟩ := dy.of_tup
  refine ⟨p, p', xs, ys, rfl, rfl, SqT.of (a.h _ _ hp), SqT.of (a.h _ _ hp'), by rw [hd.length, hd'.length]; exact hl, fun e => ?_, fun _ e => ?_, fun _ _ r hr => ?_⟩
  · subst e
    cases hd
    exact q _ F H (.refl a.h) (.tup hp' hd')
  · subst e
    cases hd'
    refine q _ F H (.refl a.h) ?_
    rw [List.append_nil]
    exact .tup hp hd
  · have g := Gr.new (o := .tup (xs ++ ys)) a.h hr
    exact q _ _ _ g (.tup upd_same ((hd.append hd').mono g.ff))
theorem rd_catL (hl : ds.length + es.length ≤ sizeLine) : RD F0 B rCat (.lst ds) (.lst es) (.lst (ds ++ es)) := fun F H v u a dx dy Q q => by
  obtain ⟨p, xs, rfl, hp, hd⟩ := dx.of_lst
  obtain ⟨p', ys, rfl, hp', hd'⟩ := dy.of_lst
  refine ⟨p, p', xs, ys, rfl, rfl, a.h _ _ hp, a.h _ _ hp', by rw [hd.length, hd'.length]; exact hl, fun r hr => ?_⟩
  have g := Gr.new (o := .lst (xs ++ ys)) a.h hr
  exact q _ _ _ g (.lst upd_same ((hd.append hd').mono g.ff))
/-- == and != of data -/
theorem rd_eqD (p1 : x.plain = true) (p2 : y.plain = true) (s1 : SeqAt.shaped x.py = true) (s2 : SeqAt.shaped y.py = true) : RD F0 B (rEqD K) x y (.bl (PyData.eqv x.py y.py)) := rd_val fun F H v u a dx dy Q q =>
  ⟨_, _, dx.dp a.h p1, dy.dp a.h p2, s1, s2, q _ (.bl _)⟩
theorem rd_neD (p1 : x.plain = true) (p2 : y.plain = true) (s1 : SeqAt.shaped x.py = true) (s2 : SeqAt.shaped y.py = true) : RD F0 B (rNeD K) x y (.bl (!PyData.eqv x.py y.py)) := rd_val fun F H v u a dx dy Q q =>
  ⟨_, _, dx.dp a.h p1, dy.dp a.h p2, s1, s2, q _ (.bl _)⟩
end
end Bb
/-! BbC -/
namespace Bb
open PySem PySem.Spec PyProof.Rows L2
section
variable {F0 B : Hp} {ρ ρ' ρ1 : Rho} {K : PySem.W.Frag} {d e x y z : Da} {ds es : List Da} {ta tb tc te : TE} {tt tu : TT} {t u : TS} {o : Out} {r r' : R2}
theorem small_ {n : Nat} (h : Nat.ble n 1000 = true) : n ≤ sizeLine := Nat.le_trans (Nat.le_of_ble_eq_true h) (by decide)
/-! ### isinstance -/
def Da.isT (c : String) : Da → Bool
  | .non => c == "NoneType"
  | .bl _ => c == "bool" || c == "int"
  | .int _ => c == "int"
  | .str _ => c == "str"
  | .lst _ => c == "list"
  | .tup _ => c == "tuple"
  | .ob _ => false
def Da.tyS : Da → String
  | .non => "NoneType"
  | .bl _ => "bool"
  | .int _ => "int"
  | .str _ => "str"
  | .lst _ => "list"
  | .tup _ => "tuple"
  | .ob _ => ""
def Da.isOb : Da → Bool
  | .ob _ => true
  | _ => false
theorem tyX_of {F H : Hp} {v : V} (s : Same F H) (h : Dt F v d) (n : d.isOb = false) : TyX K H v (.type d.tyS) := by
  cases h with
  | non => exact .base .non
  | bl b => exact .base (.bl b)
  | int i => exact .base (.int i)
  | str x => exact .base (.str x)
  | ob v => cases n
  | lst e r => exact .base (.lst (s _ _ e))
  | tup e r => exact .base (.tup (s _ _ e))
/-- the classes that are asked for -/
def fiveB (c : String) : Bool := ["NoneType", "bool", "int", "str", "list", "tuple"].all fun t => kitB t c == some ((t == c) || (t == "bool" && c == "int"))
theorem five_all : (["bool", "int", "str", "list", "tuple"].all fiveB) = true := by decide +kernel
theorem five_of {c : String} (h : c ∈ ["bool", "int", "str", "list", "tuple"]) (n : d.isOb = false) : PySem.W.kitOne K (.type d.tyS) (.type c) = some (d.isT c) := by
  have f := List.all_eq_true.mp five_all c h
  have g : ∀ t ∈ ["NoneType", "bool", "int", "str", "list", "tuple"], kitB t c = some ((t == c) || (t == "bool" && c == "int")) := fun t ht => eq_of_beq (List.all_eq_true.mp f t ht)
  have hc : c ≠ "NoneType" := by
    intro e
    subst e
    simp at h
  have sy : ∀ t : String, (t == c) = (c == t) := fun t => by
    by_cases e : t = c
    · subst e; rfl
    · have e2 : ¬ c = t := fun z => e z.symm
      rw [beq_eq_false_iff_ne.mpr e, beq_eq_false_iff_ne.mpr e2]
  refine kit_ty ?_
  cases d with
  | non => rw [show (Da.non).tyS = "NoneType" from rfl, g _ (by simp)]; simp [Da.isT, sy]
  | bl b => rw [show (Da.bl b).tyS = "bool" from rfl, g _ (by simp)]; simp [Da.isT, sy]
  | int i => rw [show (Da.int i).tyS = "int" from rfl, g _ (by simp)]; simp [Da.isT, sy]
  | str i => rw [show (Da.str i).tyS = "str" from rfl, g _ (by simp)]; simp [Da.isT, sy]
  | lst i => rw [show (Da.lst i).tyS = "list" from rfl, g _ (by simp)]; simp [Da.isT, sy]
  | tup i => rw [show (Da.tup i).tyS = "tuple" from rfl, g _ (by simp)]; simp [Da.isT, sy]
  | ob v => cases n
theorem rc_val {q : List V → Hp → VK → Prop} (h : ∀ F H vs, At F0 B F H → DtA F vs ds → ∀ Q : VK, (∀ w, Dt F w z → Q w H) → q vs H Q) : RC F0 B q ds z := fun F H vs a hd Q k => h F H vs a hd Q fun w hw => k w F H (.refl a.h) hw
theorem DtA.two {F : Hp} {vs : List V} (h : DtA F vs [x, y]) : ∃ v u, vs = [v, u] ∧ Dt F v x ∧ Dt F u y := by
  cases h with
  | cons h1 r => cases r with
    | cons h2 r2 => cases r2; exact ⟨_, _, rfl, h1, h2⟩
theorem DtA.sole {F : Hp} {vs : List V} (h : DtA F vs [x]) : ∃ v, vs = [v] ∧ Dt F v x := by
  cases h with
  | cons h1 r => cases r; exact ⟨_, rfl, h1⟩
theorem rc_isi {c : String} (h : c ∈ ["bool", "int", "str", "list", "tuple"] := by decide) (n : x.isOb = false := by rfl) : RC F0 B (rIsi K) [x, .ob (.ty c)] (.bl (x.isT c)) := rc_val fun F H vs a hd Q q => by
  obtain ⟨v, u, rfl, h1, h2⟩ := hd.two
  rw [h2.of_ob]
  exact ⟨v, .ty c, _, _, _, rfl, .ty c, tyX_of a.h h1 n, five_of h n, q _ (.bl _)⟩
theorem rc_isi2 {c c' : String} (h : c ∈ ["bool", "int", "str", "list", "tuple"] := by decide) (h' : c' ∈ ["bool", "int", "str", "list", "tuple"] := by decide) (n : x.isOb = false := by rfl) :
    RC F0 B (rIsiT K) [x, .tup [.ob (.ty c), .ob (.ty c')]] (.bl (x.isT c || x.isT c')) := rc_val fun F H vs a hd Q q => by
  obtain ⟨v, u, rfl, h1, h2⟩ := hd.two
  obtain ⟨p, xs, rfl, hp, hx⟩ := h2.of_tup
  obtain ⟨v1, v2, rfl, k1, k2⟩ := hx.two
  rw [k1.of_ob, k2.of_ob] at hp
  refine ⟨v, p, _, .type x.tyS, [.type c, .type c'], _, rfl, a.h _ _ hp, .cons (.ty c) (.cons (.ty c') .nil), tyX_of a.h h1 n, ?_, q _ (.bl _)⟩
  refine kitAny_cons (five_of h n) (fun e => ?_) (fun e => by rw [e]; rfl)
  refine kitAny_cons (five_of h' n) (fun e' => ?_) (fun e' => by rw [e']; simp)
  rw [e, e']
  exact kitAny_nil
/-! ### len, list, tuple, all, sum -/
theorem rc_lenT : RC F0 B (fun xs H Q => ∃ p ys, xs = [.ref p] ∧ (SqL K H p ys ∨ SqT K H p ys) ∧ Q (.int ys.length) H) [.tup ds] (.int ds.length) := rc_val fun F H vs a hd Q q => by
  obtain ⟨v, rfl, h1⟩ := hd.sole
  obtain ⟨p, xs, rfl, hp, hx⟩ := h1.of_tup
  exact ⟨p, xs, rfl, .inr (SqT.of (a.h _ _ hp)), q _ (by rw [hx.length]; exact .int _)⟩
theorem rc_lenL : RC F0 B (fun xs H Q => ∃ p ys, xs = [.ref p] ∧ (SqL K H p ys ∨ SqT K H p ys) ∧ Q (.int ys.length) H) [.lst ds] (.int ds.length) := rc_val fun F H vs a hd Q q => by
  obtain ⟨v, rfl, h1⟩ := hd.sole
  obtain ⟨p, xs, rfl, hp, hx⟩ := h1.of_lst
  exact ⟨p, xs, rfl, .inl (SqL.of (a.h _ _ hp)), q _ (by rw [hx.length]; exact .int _)⟩
theorem rc_lenS {s : Str} (h : s.length ≤ sizeLine) : RC F0 B (fun xs H Q => ∃ z, xs = [.str z] ∧ z.length ≤ sizeLine ∧ Q (.int z.length) H) [.str s] (.int s.length) := rc_val fun F H vs a hd Q q => by
  obtain ⟨v, rfl, h1⟩ := hd.sole
  rw [h1.of_str]
  exact ⟨s, rfl, h, q _ (.int _)⟩
abbrev rListOf (K : PySem.W.Frag) : List V → Hp → VK → Prop := fun xs H Q => ∃ p ys, xs = [.ref p] ∧ (SqL K H p ys ∨ SqT K H p ys) ∧ ∀ l, H l = none → Q (.ref l) (upd H l (.lst ys))
theorem rc_listT : RC F0 B (rListOf K) [.tup ds] (.lst ds) := fun F H vs a hd Q q => by
  obtain ⟨v, rfl, h1⟩ := hd.sole
  obtain ⟨p, xs, rfl, hp, hx⟩ := h1.of_tup
  refine ⟨p, xs, rfl, .inr (SqT.of (a.h _ _ hp)), fun l hl => ?_⟩
  have g := Gr.new (o := .lst xs) a.h hl
  exact q _ _ _ g (.lst upd_same (hx.mono g.ff))
theorem rc_listL : RC F0 B (rListOf K) [.lst ds] (.lst ds) := fun F H vs a hd Q q => by
  obtain ⟨v, rfl, h1⟩ := hd.sole
  obtain ⟨p, xs, rfl, hp, hx⟩ := h1.of_lst
  refine ⟨p, xs, rfl, .inl (SqL.of (a.h _ _ hp)), fun l hl => ?_⟩
  have g := Gr.new (o := .lst xs) a.h hl
  exact q _ _ _ g (.lst upd_same (hx.mono g.ff))
abbrev rTupOf (K : PySem.W.Frag) : List V → Hp → VK → Prop := fun xs H Q => ∃ p ys, xs = [.ref p] ∧ ((SqL K H p ys ∧ ∀ l, H l = none → Q (.ref l) (upd H l (.tup ys))) ∨ (SqT K H p ys ∧ Q (.ref p) H))
theorem rc_tupL : RC F0 B (rTupOf K) [.lst ds] (.tup ds) := fun F H vs a hd Q q => by
  obtain ⟨v, rfl, h1⟩ := hd.sole
  obtain ⟨p, xs, rfl, hp, hx⟩ := h1.of_lst
  refine ⟨p, xs, rfl, .inl ⟨SqL.of (a.h _ _ hp), fun l hl => ?_⟩⟩
  have g := Gr.new (o := .tup xs) a.h hl
  exact q _ _ _ g (.tup upd_same (hx.mono g.ff))
theorem DtA.bls {F : Hp} : ∀ {vs : List V} {l : List Bool}, DtA F vs (l.map Da.bl) → vs = l.map V.bl
  | _, [], h => by cases h; rfl
  | _, i :: l, h => by
    cases h with
    | cons a r =>
      cases a
      rw [DtA.bls r]
      rfl
theorem rc_all {l : List Bool} : RC F0 B (rAll K) [.lst (l.map Da.bl)] (.bl (l.all id)) := rc_val fun F H vs a hd Q q => by
  obtain ⟨v, rfl, h1⟩ := hd.sole
  obtain ⟨p, xs, rfl, hp, hx⟩ := h1.of_lst
  have e := hx.bls
  subst e
  exact ⟨p, l, rfl, SqL.of (a.h _ _ hp), q _ (.bl _)⟩
theorem rc_sum {l : List Int} : RC F0 B (rSum K) [.lst (l.map Da.int)] (.int l.sum) := rc_val fun F H vs a hd Q q => by
  obtain ⟨v, rfl, h1⟩ := hd.sole
  obtain ⟨p, xs, rfl, hp, hx⟩ := h1.of_lst
  have e := hx.ints
  subst e
  exact ⟨p, l, rfl, SqL.of (a.h _ _ hp), q _ (.int _)⟩
theorem rc_max2 {i j : Int} : RC F0 B (fun xs H Q => ∃ i j, xs = [.int i, .int j] ∧ Q (.int (if j > i then j else i)) H) [.int i, .int j] (.int (if j > i then j else i)) := rc_val fun F H vs a hd Q q => by
  obtain ⟨v, u, rfl, h1, h2⟩ := hd.two
  rw [h1.of_int, h2.of_int]
  exact ⟨i, j, rfl, q _ (.int _)⟩
theorem rc_min2 {i j : Int} : RC F0 B (fun xs H Q => ∃ i j, xs = [.int i, .int j] ∧ Q (.int (if j < i then j else i)) H) [.int i, .int j] (.int (if j < i then j else i)) := rc_val fun F H vs a hd Q q => by
  obtain ⟨v, u, rfl, h1, h2⟩ := hd.two
  rw [h1.of_int, h2.of_int]
  exact ⟨i, j, rfl, q _ (.int _)⟩
theorem rc_intB {b : Bool} : RC F0 B (fun xs H Q => (∃ i, xs = [.int i] ∧ Q (.int i) H) ∨ ∃ k, xs = [.bl k] ∧ Q (.int (if k then 1 else 0)) H) [.bl b] (.int (if b then 1 else 0)) := rc_val fun F H vs a hd Q q => by
  obtain ⟨v, rfl, h1⟩ := hd.sole
  rw [h1.of_bl]
  exact .inr ⟨b, rfl, q _ (.int _)⟩
/-! ### texts -/
theorem rd_addS {i j : Str} (h : i.length + j.length ≤ sizeLine) : RD F0 B (fun x y H Q => ∃ i j, x = .str i ∧ y = .str j ∧ i.length + j.length ≤ sizeLine ∧ Q (.str (i ++ j)) H) (.str i) (.str j) (.str (i ++ j)) := rd_val fun F H v u a dx dy Q q =>
  ⟨i, j, dx.of_str, dy.of_str, h, q _ (.str _)⟩
/-! ### slices -/
def DvO (F0 B : Hp) (t : TO) (ρ : Rho) (o : Option Int) : Prop := ∀ σ F H, At F0 B F H → Env F σ ρ → ∀ Q : Option Int → Hp → Prop, (∀ F' H', Gr [] F H F' H' → Q o H') → t σ H Q
theorem do_none : DvO F0 B tNoPart ρ none := fun σ F H a E Q k => k F H (.refl a.h)
theorem do_some {i : Int} (h : Dv F0 B te ρ (.int i)) : DvO F0 B (tPart te) ρ (some i) := fun σ F H a E Q k => h σ F H a E _ fun v F1 H1 g1 d1 => ⟨i, d1.of_int, k F1 H1 g1⟩
def cutD (xs : List Da) (lo hi : Option Int) : List Da := (xs.drop (HT.sIx xs.length 0 lo)).take (HT.sIx xs.length xs.length hi - HT.sIx xs.length 0 lo)
theorem DtA.cut {F : Hp} {vs : List V} (h : DtA F vs ds) (lo hi : Option Int) : DtA F (cutV vs lo hi) (cutD ds lo hi) := by
  unfold cutV cutD
  rw [h.length]
  exact (h.drop _).take _
theorem dv_slT {tl th : TO} {lo hi : Option Int} (h : Dv F0 B te ρ (.tup ds)) (h1 : DvO F0 B tl ρ lo) (h2 : DvO F0 B th ρ hi) : Dv F0 B (tSl (rSlA K) te tl th) ρ (.tup (cutD ds lo hi)) := fun σ F H a E Q k =>
  h σ F H a E _ fun v F1 H1 g1 d1 => h1 σ F1 H1 (a.go g1) (E.mono g1.ff) _ fun F2 H2 g2 => h2 σ F2 H2 ((a.go g1).go g2) ((E.mono g1.ff).mono g2.ff) _ fun F3 H3 g3 => by
    obtain ⟨p, xs, rfl, hp, hd⟩ := ((d1.mono g2.ff).mono g3.ff).of_tup
    refine ⟨p, xs, rfl, SqT.of (g3.fh _ _ hp), fun w => k _ F3 H3 ((g1.trans0 g2).trans0 g3) ?_, fun _ r hr => ?_⟩
    · have e : cutD ds lo hi = ds := by
        unfold cutD
        rw [← hd.length, w.1, w.2]
        simp [hd.length]
      rw [e]
      exact .tup hp hd
    · have g := Gr.new (o := .tup (cutV xs lo hi)) g3.fh hr
      exact k _ _ _ (((g1.trans0 g2).trans0 g3).trans0 g) (.tup upd_same ((hd.cut lo hi).mono g.ff))
theorem dv_slL {tl th : TO} {lo hi : Option Int} (h : Dv F0 B te ρ (.lst ds)) (h1 : DvO F0 B tl ρ lo) (h2 : DvO F0 B th ρ hi) : Dv F0 B (tSl (rSlL K) te tl th) ρ (.lst (cutD ds lo hi)) := fun σ F H a E Q k =>
  h σ F H a E _ fun v F1 H1 g1 d1 => h1 σ F1 H1 (a.go g1) (E.mono g1.ff) _ fun F2 H2 g2 => h2 σ F2 H2 ((a.go g1).go g2) ((E.mono g1.ff).mono g2.ff) _ fun F3 H3 g3 => by
    obtain ⟨p, xs, rfl, hp, hd⟩ := ((d1.mono g2.ff).mono g3.ff).of_lst
    refine ⟨p, xs, rfl, SqL.of (g3.fh _ _ hp), fun r hr => ?_⟩
    have g := Gr.new (o := .lst (cutV xs lo hi)) g3.fh hr
    exact k _ _ _ (((g1.trans0 g2).trans0 g3).trans0 g) (.lst upd_same ((hd.cut lo hi).mono g.ff))
theorem dv_slS {tl th : TO} {lo hi : Option Int} {s : Str} (h : Dv F0 B te ρ (.str s)) (h1 : DvO F0 B tl ρ lo) (h2 : DvO F0 B th ρ hi) (hl : s.length ≤ sizeLine) : Dv F0 B (tSl rSlS te tl th) ρ (.str (cutS s lo hi)) := fun σ F H a E Q k =>
  h σ F H a E _ fun v F1 H1 g1 d1 => h1 σ F1 H1 (a.go g1) (E.mono g1.ff) _ fun F2 H2 g2 => h2 σ F2 H2 ((a.go g1).go g2) ((E.mono g1.ff).mono g2.ff) _ fun F3 H3 g3 =>
    ⟨s, d1.of_str, hl, k _ F3 H3 ((g1.trans0 g2).trans0 g3) (.str _)⟩
theorem dv_revL (h : Dv F0 B te ρ (.lst ds)) : Dv F0 B (tRevL K te) ρ (.lst ds.reverse) := fun σ F H a E Q k => h σ F H a E _ fun v F1 H1 g1 d1 => by
    obtain ⟨p, xs, rfl, hp, hd⟩ := d1.of_lst
    refine ⟨p, xs, rfl, SqL.of (g1.fh _ _ hp), fun r hr => ?_⟩
    have g := Gr.new (o := .lst xs.reverse) g1.fh hr
    exact k _ _ _ (g1.trans0 g) (.lst upd_same (hd.reverse.mono g.ff))
end
/-! ### a thing of our own is built -/
section
variable {F H F1 H1 : Hp} {D : Addr} {o : HO}
theorem Gr.mine (g : Gr [] F H F1 H1) (hD : H D = none) (hF : F1 D = none) : Gr [] F H F1 (upd H1 D o) :=
  ⟨g.ff, fun b u e => by rw [upd_ne (ne_of_none e hF)]; exact g.fh b u e, fun b u n e => by rw [upd_ne (ne_of_none e hD)]; exact g.hh b u n e, g.nw⟩
theorem Gr.freeze (g : Gr [] F H F1 H1) (hD : H D = none) (hF : F1 D = none) (h : H1 D = some o) : Gr [] F H (upd F1 D o) H1 where
  ff := fun b u e => by
    rw [upd_ne (ne_of_none (g.ff _ _ e) hF)]
    exact g.ff _ _ e
  fh := fun b u e => by
    by_cases q : b = D
    · subst q; rw [upd_same] at e; cases e; exact h
    · rw [upd_ne q] at e; exact g.fh _ _ e
  hh := g.hh
  nw := fun b u e t => by rw [upd_ne (ne_of_none e hD)]; exact g.nw b u e t
end

/-! ### what is walked -/
/-- F1 has grown from F, and stands -/
structure Ab (F F1 H1 : Hp) : Prop where
  ff : Same F F1
  fh : Same F1 H1
theorem Gr.ab {M : List Addr} {F H F1 H1 : Hp} (g : Gr M F H F1 H1) : Ab F F1 H1 := ⟨g.ff, g.fh⟩
/-- the iterator J yields xs, now and later -/
structure Yl (J : It) (xs : List Da) (F : Hp) : Prop where
  go : ∀ F1 H1, Ab F F1 H1 → ∀ (i : Nat) (x : Da), xs[i]? = some x → J.go i H1
  yld : ∀ F1 H1, Ab F F1 H1 → ∀ (i : Nat) (x : Da), xs[i]? = some x → ∀ v H2, J.yld i H1 v H2 → ∃ F2, Gr [] F1 H1 F2 H2 ∧ Dt F2 v x
  stop : ∀ F1 H1, Ab F F1 H1 → J.stop xs.length H1
def DvI (F0 B : Hp) (wi : TI) (ρ : Rho) (xs : List Da) : Prop := ∀ σ F H, At F0 B F H → Env F σ ρ → ∀ R : It → Hp → Prop, (∀ J F' H', Gr [] F H F' H' → Yl J xs F' → R J H') → wi σ H R
section
variable {F0 B : Hp} {ρ ρ' ρ1 : Rho} {K : PySem.W.Frag} {d e x y z : Da} {ds es xs ys : List Da} {ta tb tc te : TE} {tt tu : TT} {t u : TS} {o : Out} {r r' : R2}
theorem yl_list {a : Addr} {vs : List V} {F : Hp} (h : F a = some (.lst vs)) (hd : DtA F vs xs) : Yl (Itl K a) xs F where
  go := fun F1 H1 g i x hx => by
    obtain ⟨v, e, _⟩ := hd.get hx
    exact ⟨vs, v, SqL.of (g.fh _ _ (g.ff _ _ h)), e⟩
  yld := fun F1 H1 g i x hx v H2 hy => by
    obtain ⟨rfl, hy⟩ := hy
    obtain ⟨w, e, hw⟩ := hd.get hx
    have := hy vs (SqL.of (g.fh _ _ (g.ff _ _ h)))
    rw [e] at this
    cases this
    exact ⟨F1, .refl g.fh, hw.mono g.ff⟩
  stop := fun F1 H1 g => ⟨vs, SqL.of (g.fh _ _ (g.ff _ _ h)), by rw [hd.length]; exact Nat.le_refl _⟩
theorem yl_tup {a : Addr} {vs : List V} {F : Hp} (h : F a = some (.tup vs)) (hd : DtA F vs xs) : Yl (Itt K a) xs F where
  go := fun F1 H1 g i x hx => by
    obtain ⟨v, e, _⟩ := hd.get hx
    exact ⟨vs, v, SqT.of (g.fh _ _ (g.ff _ _ h)), e⟩
  yld := fun F1 H1 g i x hx v H2 hy => by
    obtain ⟨rfl, hy⟩ := hy
    obtain ⟨w, e, hw⟩ := hd.get hx
    have := hy vs (SqT.of (g.fh _ _ (g.ff _ _ h)))
    rw [e] at this
    cases this
    exact ⟨F1, .refl g.fh, hw.mono g.ff⟩
  stop := fun F1 H1 g => ⟨vs, SqT.of (g.fh _ _ (g.ff _ _ h)), by rw [hd.length]; exact Nat.le_refl _⟩
theorem di_list {tl : TE} (h : Dv F0 B tl ρ (.lst xs)) : DvI F0 B (iList K tl) ρ xs := fun σ F H a E R k => h σ F H a E _ fun v F1 H1 g1 d1 => by
  obtain ⟨p, vs, rfl, hp, hd⟩ := d1.of_lst
  exact ⟨p, rfl, ⟨vs, SqL.of (g1.fh _ _ hp)⟩, k _ F1 H1 g1 (yl_list hp hd)⟩
theorem di_tup {tl : TE} (h : Dv F0 B tl ρ (.tup xs)) : DvI F0 B (iTup K tl) ρ xs := fun σ F H a E R k => h σ F H a E _ fun v F1 H1 g1 d1 => by
  obtain ⟨p, vs, rfl, hp, hd⟩ := d1.of_tup
  exact ⟨p, rfl, ⟨vs, SqT.of (g1.fh _ _ hp)⟩, k _ F1 H1 g1 (yl_tup hp hd)⟩
def rangeD (n : Nat) : List Da := (List.range n).map fun i => .int (i : Nat)
theorem rangeD_get {n i : Nat} {x : Da} (h : (rangeD n)[i]? = some x) : i < n ∧ x = .int (i : Nat) := by
  unfold rangeD at h
  rw [List.getElem?_map] at h
  by_cases hi : i < n
  · rw [List.getElem?_range hi] at h
    cases h
    exact ⟨hi, rfl⟩
  · rw [List.getElem?_eq_none_iff.mpr (by simpa using hi)] at h
    cases h
theorem rangeD_len {n : Nat} : (rangeD n).length = n := by simp [rangeD]
theorem di_range {tr : TA} {n : Int} (h : DvA F0 B tr ρ [.int n]) (h1 : -(2 ^ 62) ≤ n) (h2 : n < 2 ^ 62) : DvI F0 B (iRng1 tr) ρ (rangeD n.toNat) := fun σ F H a E R k => h σ F H a E _ fun vs F1 H1 g1 d1 => by
  obtain ⟨v, rfl, hv⟩ := d1.sole
  rw [hv.of_int]
  refine ⟨n, rfl, h1, h2, k _ F1 H1 g1 ⟨fun F2 H2 g2 i x hx => (rangeD_get hx).1, fun F2 H2 g2 i x hx v H3 hy => ?_, fun F2 H2 g2 => by rw [rangeD_len]; exact Nat.le_refl _⟩⟩
  obtain ⟨rfl, rfl⟩ := hy
  rw [(rangeD_get hx).2, show (0 : Int) + (i : Nat) = (i : Nat) by omega]
  exact ⟨F2, .refl g2.fh, .int _⟩
def signD (s : Str) : List Da := s.cps.toList.map fun c => .str ⟨#[c]⟩
theorem di_str (s : Str) (h : Dv F0 B te ρ (.str s)) : DvI F0 B (iStr te) ρ (signD s) := fun σ F H a E R k => h σ F H a E _ fun v F1 H1 g1 d1 => by
  have hg : ∀ i x, (signD s)[i]? = some x → i < s.cps.size ∧ ∃ c, s.cps[i]? = some c ∧ x = .str ⟨#[c]⟩ := fun i x hx => by
    unfold signD at hx
    rw [List.getElem?_map] at hx
    cases q : s.cps.toList[i]? with
    | none => rw [q] at hx; cases hx
    | some c =>
      rw [q] at hx
      cases hx
      exact ⟨by simpa using (List.getElem?_eq_some_iff.mp q).1, c, by simpa using q, rfl⟩
  refine ⟨s, d1.of_str, k _ F1 H1 g1 ⟨fun F2 H2 g2 i x hx => (hg i x hx).1, fun F2 H2 g2 i x hx v H3 hy => ?_, fun F2 H2 g2 => by simp [signD, Its]⟩⟩
  obtain ⟨rfl, c, e1, rfl⟩ := hy
  obtain ⟨_, c', e2, rfl⟩ := hg i x hx
  rw [e1] at e2
  cases e2
  exact ⟨F2, .refl g2.fh, .str _⟩
/-- the pairs -/
def zipD (xs ys : List Da) : List Da := (xs.zip ys).map fun p => .tup [p.1, p.2]
theorem di_zip {tr : TA} (h : DvA F0 B tr ρ [.lst xs, .lst ys]) : DvI F0 B (iZip K tr) ρ (zipD xs ys) := fun σ F H a E R k => h σ F H a E _ fun vs F1 H1 g1 d1 => by
  obtain ⟨v, u, rfl, h1, h2⟩ := d1.two
  obtain ⟨p, us, rfl, hp, hd⟩ := h1.of_lst
  obtain ⟨p', us', rfl, hp', hd'⟩ := h2.of_lst
  have hg : ∀ (i : Nat) (x : Da), (zipD xs ys)[i]? = some x → ∃ a b, xs[i]? = some a ∧ ys[i]? = some b ∧ x = Da.tup [a, b] := fun i x hx => by
    unfold zipD at hx
    rw [List.getElem?_map] at hx
    cases q : (xs.zip ys)[i]? with
    | none => rw [q] at hx; cases hx
    | some z =>
      rw [q] at hx
      cases hx
      have q' := List.getElem?_zip_eq_some.mp q
      exact ⟨z.1, z.2, q'.1, q'.2, rfl⟩
  refine ⟨p, p', us, us', rfl, SqL.of (g1.fh _ _ hp), SqL.of (g1.fh _ _ hp'), k _ F1 H1 g1 ⟨fun F2 H2 g2 i x hx => ?_, fun F2 H2 g2 i x hx v H3 hy => ?_, fun F2 H2 g2 => ?_⟩⟩
  · obtain ⟨a1, b1, e1, e2, rfl⟩ := hg i x hx
    obtain ⟨w1, q1, _⟩ := hd.get e1
    obtain ⟨w2, q2, _⟩ := hd'.get e2
    exact ⟨us, us', w1, w2, SqL.of (g2.fh _ _ (g2.ff _ _ hp)), SqL.of (g2.fh _ _ (g2.ff _ _ hp')), q1, q2⟩
  · obtain ⟨a1, b1, e1, e2, rfl⟩ := hg i x hx
    obtain ⟨w1, q1, k1⟩ := hd.get e1
    obtain ⟨w2, q2, k2⟩ := hd'.get e2
    obtain ⟨T, x1, y1, rfl, hT, rfl, f1, f2⟩ := hy
    have z1 := f1 us (SqL.of (g2.fh _ _ (g2.ff _ _ hp)))
    have z2 := f2 us' (SqL.of (g2.fh _ _ (g2.ff _ _ hp')))
    rw [q1] at z1; cases z1
    rw [q2] at z2; cases z2
    have g := Gr.new (o := .tup [w1, w2]) g2.fh hT
    exact ⟨_, g, .tup upd_same (.cons ((k1.mono g2.ff).mono g.ff) (.cons ((k2.mono g2.ff).mono g.ff) .nil))⟩
  · refine ⟨us, us', SqL.of (g2.fh _ _ (g2.ff _ _ hp)), SqL.of (g2.fh _ _ (g2.ff _ _ hp')), ?_⟩
    unfold zipD
    rw [List.length_map, List.length_zip, hd.length, hd'.length]
    omega
/-! ### targets -/
/-- within a block: only the block's own slots are stored -/
def Bd (F0 B : Hp) (g : TG) (vs : List Nat) (ρ : Rho) (x : Da) (ρx : Rho) : Prop := ∀ σ F H v, At F0 B F H → Env F σ ρ → Dt F v x → ∀ Q : L2.St → Hp → Prop, (∀ σ', wipe σ' vs = wipe σ vs → Env F σ' ρx → Q σ' H) → g v σ H Q
/-- a loop's target -/
def Bl (F0 B : Hp) (g : TG) (ρ : Rho) (x : Da) (ρx : Rho) : Prop := ∀ σ F H v, At F0 B F H → Env F σ ρ → Dt F v x → ∀ Q : L2.St → Hp → Prop, (∀ σ', Env F σ' ρx → Q σ' H) → g v σ H Q
theorem bd_name {j : Nat} {vs : List Nat} (h : j ∈ vs := by simp) (e : ρ.set j (some x) = ρ' := by first | (dsimp only [List.set, wipeR] <;> rfl) | rfl) : Bd F0 B (gName j) vs ρ x ρ' := fun σ F H v a E d Q k => by
  subst e
  exact k _ (wipe_set h) (E.set d)
theorem bl_name {j : Nat} (e : ρ.set j (some x) = ρ' := by first | (dsimp only [List.set, wipeR] <;> rfl) | rfl) : Bl F0 B (gName j) ρ x ρ' := fun σ F H v a E d Q k => by
  subst e
  exact k _ (E.set d)
theorem bd_two {i j : Nat} {vs : List Nat} (h : i ∈ vs := by simp) (h' : j ∈ vs := by simp) (e : (ρ.set i (some x)).set j (some y) = ρ' := by first | (dsimp only [List.set, wipeR] <;> rfl) | rfl) : Bd F0 B (gTup K 2 (gCons (gName i) (gCons (gName j) gNil))) vs ρ (.tup [x, y]) ρ' := fun σ F H v a E d Q k => by
  subst e
  obtain ⟨p, xs, rfl, hp, hd⟩ := d.of_tup
  obtain ⟨v1, v2, rfl, k1, k2⟩ := hd.two
  exact ⟨p, _, rfl, SqT.of (a.h _ _ hp), rfl, _, _, rfl, _, _, rfl, rfl, k _ (by rw [wipe_set h', wipe_set h]) ((E.set k1).set k2)⟩
theorem bl_two {i j : Nat} (e : (ρ.set i (some x)).set j (some y) = ρ' := by first | (dsimp only [List.set, wipeR] <;> rfl) | rfl) : Bl F0 B (gTup K 2 (gCons (gName i) (gCons (gName j) gNil))) ρ (.tup [x, y]) ρ' := fun σ F H v a E d Q k => by
  subst e
  obtain ⟨p, xs, rfl, hp, hd⟩ := d.of_tup
  obtain ⟨v1, v2, rfl, k1, k2⟩ := hd.two
  exact ⟨p, _, rfl, SqT.of (a.h _ _ hp), rfl, _, _, rfl, _, _, rfl, rfl, k _ ((E.set k1).set k2)⟩
theorem dt_yes : DvT F0 B tYes ρ true := fun σ F H a E Q k => k F H (.refl a.h)
/-! ### comprehensions -/
theorem filter_snoc {α : Type} (p : α → Bool) {xs : List α} {i : Nat} {x : α} (h : xs[i]? = some x) : (xs.take (i + 1)).filter p = if p x = true then (xs.take i).filter p ++ [x] else (xs.take i).filter p := by
  rw [List.take_succ_eq_append_getElem (List.getElem?_eq_some_iff.mp h).1, (List.getElem?_eq_some_iff.mp h).2, List.filter_append]
  by_cases q : p x = true
  · rw [if_pos q, List.filter_cons_of_pos q]; simp
  · rw [if_neg q, List.filter_cons_of_neg q]; simp
theorem dv_lc {α : Type} {wi : TI} {g : TG} {vs : List Nat} (l : List α) (gd : α → Da) (keep : α → Bool) (f : α → Da) (hi : DvI F0 B wi ρ (l.map gd)) (hl : l.length < sizeLine)
    (turn : ∀ x, x ∈ l → ∃ ρx, Bd F0 B g vs (wipeR ρ vs) (gd x) ρx ∧ DvT F0 B tt ρx (keep x) ∧ (keep x = true → Dv F0 B te ρx (f x))) :
    Dv F0 B (tLc wi g tt te vs) ρ (.lst ((l.filter keep).map f)) := fun σ F H a E Q k => hi σ F H a E _ fun J F1 H1 g1 Y D hD => by
  have FD : ∀ {F2 H2 : Hp}, Gr [] F1 (upd H1 D (.lst [])) F2 H2 → F2 D = none := fun {F2 H2} q => by
    rw [q.nw D _ upd_same rfl]
    cases e : F1 D with
    | none => rfl
    | some o => rw [g1.fh _ _ e] at hD; cases hD
  have s1 : Gr [] F1 H1 F1 (upd H1 D (.lst [])) := Gr.newM g1.fh hD
  -- F', the frozen part; H' behind i turns; D holds what is made so far
  refine ⟨fun i m H' => m = l.length - i ∧ i ≤ l.length ∧ ∃ F', Gr [] F1 H1 F' H' ∧ F' D = none ∧ ∃ acc, H' D = some (.lst acc) ∧ DtA F' acc (((l.take i).filter keep).map f),
    ⟨l.length, by simp, Nat.zero_le _, F1, s1, FD (.refl s1.fh), [], upd_same, .nil⟩, ?_⟩
  rintro i m H' ⟨rfl, hle, F', g', nD, acc, hacc, hd⟩
  by_cases hlt : i < l.length
  · have hx0 : l[i]? = some l[i] := List.getElem?_eq_getElem hlt
    have hx : (l.map gd)[i]? = some (gd l[i]) := by rw [List.getElem?_map, hx0]; rfl
    refine .inr ⟨Y.go F' H' g'.ab i _ hx, fun H2 => i + 1 ≤ l.length ∧ ∃ F2, Gr [] F1 H1 F2 H2 ∧ F2 D = none ∧ ∃ acc, H2 D = some (.lst acc) ∧ DtA F2 acc (((l.take (i + 1)).filter keep).map f),
      fun H2 ⟨h1, h2⟩ => ⟨l.length - (i + 1), by omega, rfl, h1, h2⟩, fun v H2 hy => ?_⟩
    obtain ⟨F2, g2, hv⟩ := Y.yld F' H' g'.ab i _ hx v H2 hy
    obtain ⟨ρx, hb, ht, he⟩ := turn _ (List.getElem_mem hlt)
    have a2 : At F0 B F2 H2 := ((a.go g1).go g').go g2
    have E2 : Env F2 (wipe σ vs) (wipeR ρ vs) := (((E.mono g1.ff).mono g'.ff).mono g2.ff).wipe vs
    refine hb _ F2 H2 v a2 E2 hv _ fun σ' hw Ex => ⟨by rw [hw, wipe_wipe], ?_⟩
    refine ht σ' F2 H2 a2 Ex _ fun F3 H3 g3 => ?_
    have h23 := g2.trans0 g3
    have hD3 : H3 D = some (.lst acc) := h23.same _ _ hacc
    have nD3 : F3 D = none := by rw [h23.nw D _ hacc rfl]; exact nD
    have hd3 := (hd.mono g2.ff).mono g3.ff
    have fs := filter_snoc keep hx0
    cases q : keep l[i] with
    | false =>
      refine iteF ⟨hlt, F3, g'.trans0 h23, nD3, acc, hD3, ?_⟩
      rw [fs, if_neg (by rw [q]; decide)]
      exact hd3
    | true =>
      refine iteT (he q σ' F3 H3 (a2.go g3) (Ex.mono g3.ff) _ fun w F4 H4 g4 hw4 => ?_)
      have hD4 : H4 D = some (.lst acc) := g4.same _ _ hD3
      have nD4 : F4 D = none := by rw [g4.nw D _ hD3 rfl]; exact nD3
      refine ⟨acc, hD4, ?_, hlt, F4, ((g'.trans0 h23).trans0 g4).mine hD nD4, nD4, _, upd_same, ?_⟩
      · have l1 := hd.length
        have l2 : (((l.take i).filter keep).map f).length ≤ i := by
          rw [List.length_map]
          exact Nat.le_trans (List.length_filter_le _ _) (by simp; omega)
        omega
      · rw [fs, if_pos q, List.map_append]
        exact (hd3.mono g4.ff).append (.cons hw4 .nil)
  · have e : i = l.length := by omega
    subst e
    rw [List.take_length] at hd
    refine .inl ⟨by have q := Y.stop F' H' g'.ab; rw [List.length_map] at q; exact q, ?_⟩
    have gf := g'.freeze hD nD hacc
    exact k _ _ _ (g1.trans0 gf) (.lst upd_same (hd.mono (fun b u e => by rw [upd_ne (ne_of_none e nD)]; exact e)))
/-- without a test -/
theorem dv_lcM {α : Type} {wi : TI} {g : TG} {vs : List Nat} (l : List α) (gd : α → Da) (f : α → Da) (hi : DvI F0 B wi ρ (l.map gd)) (hl : l.length < sizeLine)
    (turn : ∀ x, x ∈ l → ∃ ρx, Bd F0 B g vs (wipeR ρ vs) (gd x) ρx ∧ Dv F0 B te ρx (f x)) :
    Dv F0 B (tLc wi g tYes te vs) ρ (.lst (l.map f)) := by
  have h := dv_lc (tt := tYes) (te := te) (g := g) (vs := vs) l gd (fun _ => true) f hi hl fun x hx => by
    obtain ⟨ρx, h1, h2⟩ := turn x hx
    exact ⟨ρx, h1, dt_yes, fun _ => h2⟩
  have e : l.filter (fun _ => true) = l := List.filter_eq_self.mpr (fun _ _ => rfl)
  rw [e] at h
  exact h
/-! ### loops: the slots' data by the turn -/
theorem sv_for {wi : TI} {g : TG} {tb : TS} (ρi : Nat → Rho) (hi : DvI F0 B wi (ρi 0) xs)
    (turn : ∀ (i : Nat) (x : Da), xs[i]? = some x → ∃ ρx, Bl F0 B g (ρi i) x ρx ∧ Sv F0 B tb ρx (.nx (ρi (i + 1)))) :
    Sv F0 B (tFor wi g tb) (ρi 0) (.nx (ρi xs.length)) := fun σ F H a E D k => hi σ F H a E _ fun J F1 H1 g1 Y => by
  refine ⟨fun i m σ' H' => m = xs.length - i ∧ i ≤ xs.length ∧ ∃ F', Gr [] F1 H1 F' H' ∧ Env F' σ' (ρi i), ⟨xs.length, by simp, Nat.zero_le _, F1, .refl g1.fh, E.mono g1.ff⟩, ?_⟩
  rintro i m σ' H' ⟨rfl, hle, F', g', E'⟩
  by_cases hlt : i < xs.length
  · have hx : xs[i]? = some xs[i] := List.getElem?_eq_getElem hlt
    refine .inr ⟨Y.go F' H' g'.ab i _ hx, fun σ2 H2 => i + 1 ≤ xs.length ∧ ∃ F2, Gr [] F1 H1 F2 H2 ∧ Env F2 σ2 (ρi (i + 1)), fun σ2 H2 ⟨h1, h2⟩ => ⟨xs.length - (i + 1), by omega, rfl, h1, h2⟩, fun v H2 hy => ?_⟩
    obtain ⟨F2, g2, hv⟩ := Y.yld F' H' g'.ab i _ hx v H2 hy
    obtain ⟨ρx, hb, hs⟩ := turn i _ hx
    have a2 : At F0 B F2 H2 := ((a.go g1).go g').go g2
    exact hb _ F2 H2 v a2 (E'.mono g2.ff) hv _ fun σ3 E3 => hs σ3 F2 H2 a2 E3 _ fun σ4 F4 H4 g4 E4 => ⟨hlt, F4, (g'.trans0 g2).trans0 g4, E4⟩
  · have e : i = xs.length := by omega
    subst e
    exact .inl ⟨Y.stop F' H' g'.ab, k _ F' H' (g1.trans0 g') E'⟩
/-! ### calls of defs by what they give -/
/-- a def's promise: of data ds it gives r where P says so, and only makes new things -/
def spD (P : List Da → Da → Prop) : Sp := fun vs H Q _ => ∃ F ds r, Same F H ∧ DtA F vs ds ∧ P ds r ∧ ∀ v F' H', Gr [] F H F' H' → Dt F' v r → Q v H'
theorem dv_call {P : List Da → Da → Prop} {E : XK} {tr : TA} (h : DvA F0 B tr ρ ds) (p : P ds z) : Dv F0 B (tCall (spD P) [] E tr) ρ z := fun σ F H a En Q k => h σ F H a En _ fun vs F1 H1 g1 d1 => by
  rw [List.append_nil]
  exact ⟨F1, ds, z, g1.fh, d1, p, fun v F' H' g d => k v F' H' (g1.trans0 g) d⟩
end
end Bb
/-! BbT -/
/-! The text by places, what the top leaves. -/
namespace Bb
open PySem PySem.Spec PyProof.Rows L2
def top (i : Nat) : Stmt := PySem.Challenge.pw_blotbook_k17_whole_kept_books.main.body.getD i (.Pass ⟨0, 0, 0, 0⟩)
abbrev s_is_within : Stmt := top 15
abbrev s_is_name : Stmt := top 16
abbrev s_is_shape : Stmt := top 17
abbrev s_is_spot : Stmt := top 18
abbrev s_first_stand : Stmt := top 19
abbrev s_far_from_back : Stmt := top 20
abbrev s_touched : Stmt := top 21
abbrev s_pairs_at : Stmt := top 22
abbrev s_is_deed : Stmt := top 23
abbrev s_takes : Stmt := top 24
abbrev s_moved : Stmt := top 25
abbrev s_put_on : Stmt := top 27
abbrev s_pressed : Stmt := top 28
abbrev s_ly_init : Stmt := inClass (top 31) 0
abbrev s_ly_twin : Stmt := inClass (top 31) 1
abbrev s_ly_shown : Stmt := inClass (top 31) 2
abbrev s_ly_drop : Stmt := inClass (top 31) 3
abbrev s_ly_press : Stmt := inClass (top 31) 4
abbrev s_ly_tells : Stmt := inClass (top 31) 5
abbrev s_ly_spots : Stmt := inClass (top 31) 6
abbrev s_bk_init : Stmt := inClass (top 32) 0
abbrev s_bk_do : Stmt := inClass (top 32) 1
abbrev s_bk_back : Stmt := inClass (top 32) 2
abbrev s_bk_stand : Stmt := inClass (top 32) 3
abbrev s_bk_tick : Stmt := inClass (top 32) 4
abbrev s_bk_marks : Stmt := inClass (top 32) 5
abbrev s_bk_colours : Stmt := inClass (top 32) 6
abbrev s_bk_book : Stmt := inClass (top 32) 7
abbrev s_bk_eq : Stmt := inClass (top 32) 8
abbrev s_bk_len : Stmt := inClass (top 32) 9
abbrev s_bk_str : Stmt := inClass (top 32) 10
abbrev s_w_draw : Stmt := top 34
abbrev s_w_whole : Stmt := top 35
abbrev s_w_within : Stmt := top 36
abbrev s_w_like : Stmt := top 37
abbrev s_w_spoilt : Stmt := top 38
abbrev s_w_is_name : Stmt := top 39
abbrev s_w_any : Stmt := top 40
abbrev s_w_shape : Stmt := top 41
abbrev s_w_spots : Stmt := top 42
abbrev s_w_spot : Stmt := top 43
abbrev s_w_a_deed : Stmt := top 44
abbrev s_w_cells : Stmt := top 45
abbrev s_w_pairs : Stmt := top 46
abbrev s_w_moved : Stmt := top 47
abbrev s_w_due : Stmt := top 48
abbrev s_w_pressed : Stmt := top 49
abbrev s_w_no_drop : Stmt := top 50
abbrev s_w_is_deed : Stmt := top 51
abbrev s_w_right : Stmt := top 52
abbrev s_w_copied : Stmt := top 53
abbrev s_w_done : Stmt := top 54
abbrev s_w_word : Stmt := top 55
abbrev s_law : Stmt := top 56
def d_is_within : He.DefD := ⟨("is_within", none), "is_within", "is_within", defArgs s_is_within, defBody s_is_within, defScope s_is_within, [], []⟩
def d_is_name : He.DefD := ⟨("is_name", none), "is_name", "is_name", defArgs s_is_name, defBody s_is_name, defScope s_is_name, [], []⟩
def d_is_shape : He.DefD := ⟨("is_shape", none), "is_shape", "is_shape", defArgs s_is_shape, defBody s_is_shape, defScope s_is_shape, [], []⟩
def d_is_spot : He.DefD := ⟨("is_spot", none), "is_spot", "is_spot", defArgs s_is_spot, defBody s_is_spot, defScope s_is_spot, [], []⟩
def d_first_stand : He.DefD := ⟨("first_stand", none), "first_stand", "first_stand", defArgs s_first_stand, defBody s_first_stand, defScope s_first_stand, [], []⟩
def d_far_from_back : He.DefD := ⟨("far_from_back", none), "far_from_back", "far_from_back", defArgs s_far_from_back, defBody s_far_from_back, defScope s_far_from_back, [], []⟩
def d_touched : He.DefD := ⟨("touched", none), "touched", "touched", defArgs s_touched, defBody s_touched, defScope s_touched, [], []⟩
def d_pairs_at : He.DefD := ⟨("pairs_at", none), "pairs_at", "pairs_at", defArgs s_pairs_at, defBody s_pairs_at, defScope s_pairs_at, [], []⟩
def d_is_deed : He.DefD := ⟨("is_deed", none), "is_deed", "is_deed", defArgs s_is_deed, defBody s_is_deed, defScope s_is_deed, [], []⟩
def d_takes : He.DefD := ⟨("takes", none), "takes", "takes", defArgs s_takes, defBody s_takes, defScope s_takes, [], []⟩
def d_moved : He.DefD := ⟨("moved", none), "moved", "moved", defArgs s_moved, defBody s_moved, defScope s_moved, [], []⟩
def d_put_on : He.DefD := ⟨("put_on", none), "put_on", "put_on", defArgs s_put_on, defBody s_put_on, defScope s_put_on, [], []⟩
def d_pressed : He.DefD := ⟨("pressed", none), "pressed", "pressed", defArgs s_pressed, defBody s_pressed, defScope s_pressed, [], []⟩
def d_ly_init : He.DefD := ⟨("Lying", some "__init__"), "__init__", "Lying.__init__", defArgs s_ly_init, defBody s_ly_init, defScope s_ly_init, [], []⟩
def d_ly_twin : He.DefD := ⟨("Lying", some "twin"), "twin", "Lying.twin", defArgs s_ly_twin, defBody s_ly_twin, defScope s_ly_twin, [], []⟩
def d_ly_shown : He.DefD := ⟨("Lying", some "shown"), "shown", "Lying.shown", defArgs s_ly_shown, defBody s_ly_shown, defScope s_ly_shown, [], []⟩
def d_ly_drop : He.DefD := ⟨("Lying", some "drop"), "drop", "Lying.drop", defArgs s_ly_drop, defBody s_ly_drop, defScope s_ly_drop, [], []⟩
def d_ly_press : He.DefD := ⟨("Lying", some "press"), "press", "Lying.press", defArgs s_ly_press, defBody s_ly_press, defScope s_ly_press, [], []⟩
def d_ly_tells : He.DefD := ⟨("Lying", some "tells"), "tells", "Lying.tells", defArgs s_ly_tells, defBody s_ly_tells, defScope s_ly_tells, [], []⟩
def d_ly_spots : He.DefD := ⟨("Lying", some "spots"), "spots", "Lying.spots", defArgs s_ly_spots, defBody s_ly_spots, defScope s_ly_spots, [], []⟩
def d_bk_init : He.DefD := ⟨("Book", some "__init__"), "__init__", "Book.__init__", defArgs s_bk_init, defBody s_bk_init, defScope s_bk_init, [], []⟩
def d_bk_do : He.DefD := ⟨("Book", some "do"), "do", "Book.do", defArgs s_bk_do, defBody s_bk_do, defScope s_bk_do, [], []⟩
def d_bk_back : He.DefD := ⟨("Book", some "back"), "back", "Book.back", defArgs s_bk_back, defBody s_bk_back, defScope s_bk_back, [], []⟩
def d_bk_stand : He.DefD := ⟨("Book", some "stand"), "stand", "Book.stand", defArgs s_bk_stand, defBody s_bk_stand, defScope s_bk_stand, [], []⟩
def d_bk_tick : He.DefD := ⟨("Book", some "tick"), "tick", "Book.tick", defArgs s_bk_tick, defBody s_bk_tick, defScope s_bk_tick, [], []⟩
def d_bk_marks : He.DefD := ⟨("Book", some "marks"), "marks", "Book.marks", defArgs s_bk_marks, defBody s_bk_marks, defScope s_bk_marks, [], []⟩
def d_bk_colours : He.DefD := ⟨("Book", some "colours"), "colours", "Book.colours", defArgs s_bk_colours, defBody s_bk_colours, defScope s_bk_colours, [], []⟩
def d_bk_book : He.DefD := ⟨("Book", some "book"), "book", "Book.book", defArgs s_bk_book, defBody s_bk_book, defScope s_bk_book, [], []⟩
def d_bk_eq : He.DefD := ⟨("Book", some "__eq__"), "__eq__", "Book.__eq__", defArgs s_bk_eq, defBody s_bk_eq, defScope s_bk_eq, [], []⟩
def d_bk_len : He.DefD := ⟨("Book", some "__len__"), "__len__", "Book.__len__", defArgs s_bk_len, defBody s_bk_len, defScope s_bk_len, [], []⟩
def d_bk_str : He.DefD := ⟨("Book", some "__str__"), "__str__", "Book.__str__", defArgs s_bk_str, defBody s_bk_str, defScope s_bk_str, [], []⟩
def d_w_draw : He.DefD := ⟨("_law_draw", none), "_law_draw", "_law_draw", defArgs s_w_draw, defBody s_w_draw, defScope s_w_draw, [], []⟩
def d_w_whole : He.DefD := ⟨("_law_whole", none), "_law_whole", "_law_whole", defArgs s_w_whole, defBody s_w_whole, defScope s_w_whole, [], []⟩
def d_w_within : He.DefD := ⟨("_law_within", none), "_law_within", "_law_within", defArgs s_w_within, defBody s_w_within, defScope s_w_within, [], []⟩
def d_w_like : He.DefD := ⟨("_law_like", none), "_law_like", "_law_like", defArgs s_w_like, defBody s_w_like, defScope s_w_like, [], []⟩
def d_w_spoilt : He.DefD := ⟨("_law_spoilt", none), "_law_spoilt", "_law_spoilt", defArgs s_w_spoilt, defBody s_w_spoilt, defScope s_w_spoilt, [], []⟩
def d_w_is_name : He.DefD := ⟨("_law_is_name", none), "_law_is_name", "_law_is_name", defArgs s_w_is_name, defBody s_w_is_name, defScope s_w_is_name, [], []⟩
def d_w_any : He.DefD := ⟨("_law_any", none), "_law_any", "_law_any", defArgs s_w_any, defBody s_w_any, defScope s_w_any, [], []⟩
def d_w_shape : He.DefD := ⟨("_law_shape", none), "_law_shape", "_law_shape", defArgs s_w_shape, defBody s_w_shape, defScope s_w_shape, [], []⟩
def d_w_spots : He.DefD := ⟨("_law_spots", none), "_law_spots", "_law_spots", defArgs s_w_spots, defBody s_w_spots, defScope s_w_spots, [], []⟩
def d_w_spot : He.DefD := ⟨("_law_spot", none), "_law_spot", "_law_spot", defArgs s_w_spot, defBody s_w_spot, defScope s_w_spot, [], []⟩
def d_w_a_deed : He.DefD := ⟨("_law_a_deed", none), "_law_a_deed", "_law_a_deed", defArgs s_w_a_deed, defBody s_w_a_deed, defScope s_w_a_deed, [], []⟩
def d_w_cells : He.DefD := ⟨("_law_cells", none), "_law_cells", "_law_cells", defArgs s_w_cells, defBody s_w_cells, defScope s_w_cells, [], []⟩
def d_w_pairs : He.DefD := ⟨("_law_pairs", none), "_law_pairs", "_law_pairs", defArgs s_w_pairs, defBody s_w_pairs, defScope s_w_pairs, [], []⟩
def d_w_moved : He.DefD := ⟨("_law_moved", none), "_law_moved", "_law_moved", defArgs s_w_moved, defBody s_w_moved, defScope s_w_moved, [], []⟩
def d_w_due : He.DefD := ⟨("_law_due", none), "_law_due", "_law_due", defArgs s_w_due, defBody s_w_due, defScope s_w_due, [], []⟩
def d_w_pressed : He.DefD := ⟨("_law_pressed", none), "_law_pressed", "_law_pressed", defArgs s_w_pressed, defBody s_w_pressed, defScope s_w_pressed, [], []⟩
def d_w_no_drop : He.DefD := ⟨("_law_no_drop", none), "_law_no_drop", "_law_no_drop", defArgs s_w_no_drop, defBody s_w_no_drop, defScope s_w_no_drop, [], []⟩
def d_w_is_deed : He.DefD := ⟨("_law_is_deed", none), "_law_is_deed", "_law_is_deed", defArgs s_w_is_deed, defBody s_w_is_deed, defScope s_w_is_deed, [], []⟩
def d_w_right : He.DefD := ⟨("_law_right", none), "_law_right", "_law_right", defArgs s_w_right, defBody s_w_right, defScope s_w_right, [], []⟩
def d_w_copied : He.DefD := ⟨("_law_copied", none), "_law_copied", "_law_copied", defArgs s_w_copied, defBody s_w_copied, defScope s_w_copied, [], []⟩
def d_w_done : He.DefD := ⟨("_law_done", none), "_law_done", "_law_done", defArgs s_w_done, defBody s_w_done, defScope s_w_done, [], []⟩
def d_w_word : He.DefD := ⟨("_law_word", none), "_law_word", "_law_word", defArgs s_w_word, defBody s_w_word, defScope s_w_word, [], []⟩
def d_law : He.DefD := ⟨("law", none), "law", "law", defArgs s_law, defBody s_law, defScope s_law, [], []⟩
def fn : List He.DefD := [d_is_within, d_is_name, d_is_shape, d_is_spot, d_first_stand, d_far_from_back, d_touched, d_pairs_at, d_is_deed, d_takes, d_moved, d_put_on, d_pressed, d_ly_init, d_ly_twin, d_ly_shown, d_ly_drop, d_ly_press, d_ly_tells, d_ly_spots, d_bk_init, d_bk_do, d_bk_back, d_bk_stand, d_bk_tick, d_bk_marks, d_bk_colours, d_bk_book, d_bk_eq, d_bk_len, d_bk_str, d_w_draw, d_w_whole, d_w_within, d_w_like, d_w_spoilt, d_w_is_name, d_w_any, d_w_shape, d_w_spots, d_w_spot, d_w_a_deed, d_w_cells, d_w_pairs, d_w_moved, d_w_due, d_w_pressed, d_w_no_drop, d_w_is_deed, d_w_right, d_w_copied, d_w_done, d_w_word, d_law]
def exL (K : PySem.W.Frag) : List Bool := [decide (PySem.W.findIn K (.ref (He.ga K "Book")) "__class__" = some (some (.builtin "object.__class__"))),
  decide (PySem.W.specialIn K (.builtin "object.__class__") "__get__" = some (some (.builtin "getset_descriptor.__get__"))),
  decide (PySem.W.takesIn K (.builtin "object.__class__") = some true),
  decide (PySem.W.mroIn K (He.ga K "Book") (.type "object") = some true),
  decide (PySem.W.findIn K (.ref (He.ga K "NoDeed")) "__getattribute__" = some (some (.builtin "BaseException.__getattribute__"))),
  decide (PySem.W.findIn K (.ref (He.ga K "NoDeed")) "__getattr__" = some none),
  decide (PySem.W.hasDictIn K (He.ga K "NoDeed") = true),
  decide (PySem.W.findIn K (.ref (He.ga K "NoDeed")) "__class__" = some (some (.builtin "object.__class__"))),
  decide (PySem.W.mroIn K (He.ga K "NoDeed") (.type "object") = some true),
  decide (PySem.W.kitOne K (.ref (He.ga K "NoDeed")) (.ref (He.ga K "NoShape")) = some false),
  decide (PySem.W.kitOne K (.ref (He.ga K "NoDeed")) (.ref (He.ga K "NoDeed")) = some true),
  decide (PySem.W.kitOne K (.ref (He.ga K "NoDeed")) (.ref (He.ga K "NoSpot")) = some false),
  decide (PySem.W.kitOne K (.ref (He.ga K "NoDeed")) (.ref (He.ga K "NoColour")) = some false),
  decide (PySem.W.kitOne K (.ref (He.ga K "NoDeed")) (.ref (He.ga K "NoWet")) = some false),
  decide (PySem.W.kitOne K (.ref (He.ga K "NoDeed")) (.ref (He.ga K "TooMany")) = some false),
  decide (PySem.W.kitOne K (.ref (He.ga K "NoDeed")) (.ref (He.ga K "NothingLeft")) = some false),
  decide (PySem.W.kitOne K (.ref (He.ga K "NoDeed")) (.ref (He.ga K "ToldError")) = some true),
  decide (PySem.W.kitOne K (.ref (He.ga K "NoDeed")) (.ref (He.ga K "AskedError")) = some false),
  decide (PySem.W.kitOne K (.ref (He.ga K "NoDeed")) (.type "ValueError") = some true),
  decide (PySem.W.findIn K (.ref (He.ga K "NoSpot")) "__getattribute__" = some (some (.builtin "BaseException.__getattribute__"))),
  decide (PySem.W.findIn K (.ref (He.ga K "NoSpot")) "__getattr__" = some none),
  decide (PySem.W.hasDictIn K (He.ga K "NoSpot") = true),
  decide (PySem.W.findIn K (.ref (He.ga K "NoSpot")) "__class__" = some (some (.builtin "object.__class__"))),
  decide (PySem.W.mroIn K (He.ga K "NoSpot") (.type "object") = some true),
  decide (PySem.W.kitOne K (.ref (He.ga K "NoSpot")) (.ref (He.ga K "NoShape")) = some false),
  decide (PySem.W.kitOne K (.ref (He.ga K "NoSpot")) (.ref (He.ga K "NoDeed")) = some false),
  decide (PySem.W.kitOne K (.ref (He.ga K "NoSpot")) (.ref (He.ga K "NoSpot")) = some true),
  decide (PySem.W.kitOne K (.ref (He.ga K "NoSpot")) (.ref (He.ga K "NoColour")) = some false),
  decide (PySem.W.kitOne K (.ref (He.ga K "NoSpot")) (.ref (He.ga K "NoWet")) = some false),
  decide (PySem.W.kitOne K (.ref (He.ga K "NoSpot")) (.ref (He.ga K "TooMany")) = some false),
  decide (PySem.W.kitOne K (.ref (He.ga K "NoSpot")) (.ref (He.ga K "NothingLeft")) = some false),
  decide (PySem.W.kitOne K (.ref (He.ga K "NoSpot")) (.ref (He.ga K "ToldError")) = some true),
  decide (PySem.W.kitOne K (.ref (He.ga K "NoSpot")) (.ref (He.ga K "AskedError")) = some false),
  decide (PySem.W.kitOne K (.ref (He.ga K "NoSpot")) (.type "ValueError") = some true),
  decide (PySem.W.findIn K (.ref (He.ga K "NoColour")) "__getattribute__" = some (some (.builtin "BaseException.__getattribute__"))),
  decide (PySem.W.findIn K (.ref (He.ga K "NoColour")) "__getattr__" = some none),
  decide (PySem.W.hasDictIn K (He.ga K "NoColour") = true),
  decide (PySem.W.findIn K (.ref (He.ga K "NoColour")) "__class__" = some (some (.builtin "object.__class__"))),
  decide (PySem.W.mroIn K (He.ga K "NoColour") (.type "object") = some true),
  decide (PySem.W.kitOne K (.ref (He.ga K "NoColour")) (.ref (He.ga K "NoShape")) = some false),
  decide (PySem.W.kitOne K (.ref (He.ga K "NoColour")) (.ref (He.ga K "NoDeed")) = some false),
  decide (PySem.W.kitOne K (.ref (He.ga K "NoColour")) (.ref (He.ga K "NoSpot")) = some false),
  decide (PySem.W.kitOne K (.ref (He.ga K "NoColour")) (.ref (He.ga K "NoColour")) = some true),
  decide (PySem.W.kitOne K (.ref (He.ga K "NoColour")) (.ref (He.ga K "NoWet")) = some false),
  decide (PySem.W.kitOne K (.ref (He.ga K "NoColour")) (.ref (He.ga K "TooMany")) = some false),
  decide (PySem.W.kitOne K (.ref (He.ga K "NoColour")) (.ref (He.ga K "NothingLeft")) = some false),
  decide (PySem.W.kitOne K (.ref (He.ga K "NoColour")) (.ref (He.ga K "ToldError")) = some true),
  decide (PySem.W.kitOne K (.ref (He.ga K "NoColour")) (.ref (He.ga K "AskedError")) = some false),
  decide (PySem.W.kitOne K (.ref (He.ga K "NoColour")) (.type "ValueError") = some true),
  decide (PySem.W.findIn K (.ref (He.ga K "NoWet")) "__getattribute__" = some (some (.builtin "BaseException.__getattribute__"))),
  decide (PySem.W.findIn K (.ref (He.ga K "NoWet")) "__getattr__" = some none),
  decide (PySem.W.hasDictIn K (He.ga K "NoWet") = true),
  decide (PySem.W.findIn K (.ref (He.ga K "NoWet")) "__class__" = some (some (.builtin "object.__class__"))),
  decide (PySem.W.mroIn K (He.ga K "NoWet") (.type "object") = some true),
  decide (PySem.W.kitOne K (.ref (He.ga K "NoWet")) (.ref (He.ga K "NoShape")) = some false),
  decide (PySem.W.kitOne K (.ref (He.ga K "NoWet")) (.ref (He.ga K "NoDeed")) = some false),
  decide (PySem.W.kitOne K (.ref (He.ga K "NoWet")) (.ref (He.ga K "NoSpot")) = some false),
  decide (PySem.W.kitOne K (.ref (He.ga K "NoWet")) (.ref (He.ga K "NoColour")) = some false),
  decide (PySem.W.kitOne K (.ref (He.ga K "NoWet")) (.ref (He.ga K "NoWet")) = some true),
  decide (PySem.W.kitOne K (.ref (He.ga K "NoWet")) (.ref (He.ga K "TooMany")) = some false),
  decide (PySem.W.kitOne K (.ref (He.ga K "NoWet")) (.ref (He.ga K "NothingLeft")) = some false),
  decide (PySem.W.kitOne K (.ref (He.ga K "NoWet")) (.ref (He.ga K "ToldError")) = some true),
  decide (PySem.W.kitOne K (.ref (He.ga K "NoWet")) (.ref (He.ga K "AskedError")) = some false),
  decide (PySem.W.kitOne K (.ref (He.ga K "NoWet")) (.type "ValueError") = some true),
  decide (PySem.W.findIn K (.ref (He.ga K "NothingLeft")) "__getattribute__" = some (some (.builtin "BaseException.__getattribute__"))),
  decide (PySem.W.findIn K (.ref (He.ga K "NothingLeft")) "__getattr__" = some none),
  decide (PySem.W.hasDictIn K (He.ga K "NothingLeft") = true),
  decide (PySem.W.findIn K (.ref (He.ga K "NothingLeft")) "__class__" = some (some (.builtin "object.__class__"))),
  decide (PySem.W.mroIn K (He.ga K "NothingLeft") (.type "object") = some true),
  decide (PySem.W.kitOne K (.ref (He.ga K "NothingLeft")) (.ref (He.ga K "NoShape")) = some false),
  decide (PySem.W.kitOne K (.ref (He.ga K "NothingLeft")) (.ref (He.ga K "NoDeed")) = some false),
  decide (PySem.W.kitOne K (.ref (He.ga K "NothingLeft")) (.ref (He.ga K "NoSpot")) = some false),
  decide (PySem.W.kitOne K (.ref (He.ga K "NothingLeft")) (.ref (He.ga K "NoColour")) = some false),
  decide (PySem.W.kitOne K (.ref (He.ga K "NothingLeft")) (.ref (He.ga K "NoWet")) = some false),
  decide (PySem.W.kitOne K (.ref (He.ga K "NothingLeft")) (.ref (He.ga K "TooMany")) = some false),
  decide (PySem.W.kitOne K (.ref (He.ga K "NothingLeft")) (.ref (He.ga K "NothingLeft")) = some true),
  decide (PySem.W.kitOne K (.ref (He.ga K "NothingLeft")) (.ref (He.ga K "ToldError")) = some false),
  decide (PySem.W.kitOne K (.ref (He.ga K "NothingLeft")) (.ref (He.ga K "AskedError")) = some true),
  decide (PySem.W.kitOne K (.ref (He.ga K "NothingLeft")) (.type "ValueError") = some true)]
def exB (K : PySem.W.Frag) : Bool := (exL K).all id
def fa : List He.Fa := [.glo "is_within",
  .glo "is_name",
  .glo "is_shape",
  .glo "is_spot",
  .glo "first_stand",
  .glo "far_from_back",
  .glo "touched",
  .glo "pairs_at",
  .glo "is_deed",
  .glo "takes",
  .glo "moved",
  .glo "put_on",
  .glo "pressed",
  .glo "_law_draw",
  .glo "_law_whole",
  .glo "_law_within",
  .glo "_law_like",
  .glo "_law_spoilt",
  .glo "_law_is_name",
  .glo "_law_any",
  .glo "_law_shape",
  .glo "_law_spots",
  .glo "_law_spot",
  .glo "_law_a_deed",
  .glo "_law_cells",
  .glo "_law_pairs",
  .glo "_law_moved",
  .glo "_law_due",
  .glo "_law_pressed",
  .glo "_law_no_drop",
  .glo "_law_is_deed",
  .glo "_law_right",
  .glo "_law_copied",
  .glo "_law_done",
  .glo "_law_word",
  .glo "law",
  .glo "Lying",
  .glo "Book",
  .glo "NoShape",
  .glo "NoDeed",
  .glo "NoSpot",
  .glo "NoColour",
  .glo "NoWet",
  .glo "TooMany",
  .glo "NothingLeft",
  .glo "BlotError",
  .glo "ToldError",
  .glo "AskedError",
  .free "isinstance",
  .free "int",
  .free "bool",
  .free "str",
  .free "tuple",
  .free "list",
  .free "dict",
  .free "len",
  .free "all",
  .free "range",
  .free "sum",
  .free "max",
  .free "min",
  .free "sorted",
  .free "zip",
  .free "ValueError",
  .int "MOST_LEAVES" 5,
  .int "MOST_CELLS" 5,
  .int "MOST_WET" 400,
  .str "LETTERS" "abcdefghijklmnopqrstuvwxyz",
  .cls "Lying",
  .cls "Book",
  .noat "Lying" "shape",
  .noat "Lying" "order",
  .noat "Lying" "now",
  .noat "Lying" "stained",
  .noat "Lying" "done",
  .noat "Book" "here",
  .noat "Book" "past",
  .meth "Lying" "twin",
  .meth "Lying" "shown",
  .meth "Lying" "drop",
  .meth "Lying" "press",
  .meth "Lying" "tells",
  .meth "Lying" "spots",
  .meth "Book" "do",
  .meth "Book" "back",
  .meth "Book" "stand",
  .meth "Book" "tick",
  .meth "Book" "marks",
  .meth "Book" "colours",
  .meth "Book" "book",
  .meth "Book" "__eq__",
  .meth "Book" "__len__",
  .meth "Book" "__str__",
  .mkr "Lying",
  .mkr "Book",
  .exc "NoDeed",
  .exm "NoDeed" "BlotError" true,
  .exc "NoSpot",
  .exm "NoSpot" "BlotError" true,
  .exc "NoColour",
  .exm "NoColour" "BlotError" true,
  .exc "NoWet",
  .exm "NoWet" "BlotError" true,
  .exc "NothingLeft",
  .exm "NothingLeft" "BlotError" true]
structure Txt (K : PySem.W.Frag) (mg : Str → Option Value) : Prop where
  s : He.SaysD fa fn K
  m : ∃ h : Heap, K.In h ∧ h.Ns mainGlobals mg
  e : exB K = true
section
variable {K : PySem.W.Frag} {mg : Str → Option Value}
theorem Txt.g_is_within (T : Txt K mg) : mg "is_within" = some (.ref (He.fAd K d_is_within.at_)) := T.m.elim fun _ z => He.glo_ok z.1 z.2 (T.s.fact 0 (f := .glo "is_within") rfl)
theorem Txt.g_is_name (T : Txt K mg) : mg "is_name" = some (.ref (He.fAd K d_is_name.at_)) := T.m.elim fun _ z => He.glo_ok z.1 z.2 (T.s.fact 1 (f := .glo "is_name") rfl)
theorem Txt.g_is_shape (T : Txt K mg) : mg "is_shape" = some (.ref (He.fAd K d_is_shape.at_)) := T.m.elim fun _ z => He.glo_ok z.1 z.2 (T.s.fact 2 (f := .glo "is_shape") rfl)
theorem Txt.g_is_spot (T : Txt K mg) : mg "is_spot" = some (.ref (He.fAd K d_is_spot.at_)) := T.m.elim fun _ z => He.glo_ok z.1 z.2 (T.s.fact 3 (f := .glo "is_spot") rfl)
theorem Txt.g_first_stand (T : Txt K mg) : mg "first_stand" = some (.ref (He.fAd K d_first_stand.at_)) := T.m.elim fun _ z => He.glo_ok z.1 z.2 (T.s.fact 4 (f := .glo "first_stand") rfl)
theorem Txt.g_far_from_back (T : Txt K mg) : mg "far_from_back" = some (.ref (He.fAd K d_far_from_back.at_)) := T.m.elim fun _ z => He.glo_ok z.1 z.2 (T.s.fact 5 (f := .glo "far_from_back") rfl)
theorem Txt.g_touched (T : Txt K mg) : mg "touched" = some (.ref (He.fAd K d_touched.at_)) := T.m.elim fun _ z => He.glo_ok z.1 z.2 (T.s.fact 6 (f := .glo "touched") rfl)
theorem Txt.g_pairs_at (T : Txt K mg) : mg "pairs_at" = some (.ref (He.fAd K d_pairs_at.at_)) := T.m.elim fun _ z => He.glo_ok z.1 z.2 (T.s.fact 7 (f := .glo "pairs_at") rfl)
theorem Txt.g_is_deed (T : Txt K mg) : mg "is_deed" = some (.ref (He.fAd K d_is_deed.at_)) := T.m.elim fun _ z => He.glo_ok z.1 z.2 (T.s.fact 8 (f := .glo "is_deed") rfl)
theorem Txt.g_takes (T : Txt K mg) : mg "takes" = some (.ref (He.fAd K d_takes.at_)) := T.m.elim fun _ z => He.glo_ok z.1 z.2 (T.s.fact 9 (f := .glo "takes") rfl)
theorem Txt.g_moved (T : Txt K mg) : mg "moved" = some (.ref (He.fAd K d_moved.at_)) := T.m.elim fun _ z => He.glo_ok z.1 z.2 (T.s.fact 10 (f := .glo "moved") rfl)
theorem Txt.g_put_on (T : Txt K mg) : mg "put_on" = some (.ref (He.fAd K d_put_on.at_)) := T.m.elim fun _ z => He.glo_ok z.1 z.2 (T.s.fact 11 (f := .glo "put_on") rfl)
theorem Txt.g_pressed (T : Txt K mg) : mg "pressed" = some (.ref (He.fAd K d_pressed.at_)) := T.m.elim fun _ z => He.glo_ok z.1 z.2 (T.s.fact 12 (f := .glo "pressed") rfl)
theorem Txt.g_w_draw (T : Txt K mg) : mg "_law_draw" = some (.ref (He.fAd K d_w_draw.at_)) := T.m.elim fun _ z => He.glo_ok z.1 z.2 (T.s.fact 13 (f := .glo "_law_draw") rfl)
theorem Txt.g_w_whole (T : Txt K mg) : mg "_law_whole" = some (.ref (He.fAd K d_w_whole.at_)) := T.m.elim fun _ z => He.glo_ok z.1 z.2 (T.s.fact 14 (f := .glo "_law_whole") rfl)
theorem Txt.g_w_within (T : Txt K mg) : mg "_law_within" = some (.ref (He.fAd K d_w_within.at_)) := T.m.elim fun _ z => He.glo_ok z.1 z.2 (T.s.fact 15 (f := .glo "_law_within") rfl)
theorem Txt.g_w_like (T : Txt K mg) : mg "_law_like" = some (.ref (He.fAd K d_w_like.at_)) := T.m.elim fun _ z => He.glo_ok z.1 z.2 (T.s.fact 16 (f := .glo "_law_like") rfl)
theorem Txt.g_w_spoilt (T : Txt K mg) : mg "_law_spoilt" = some (.ref (He.fAd K d_w_spoilt.at_)) := T.m.elim fun _ z => He.glo_ok z.1 z.2 (T.s.fact 17 (f := .glo "_law_spoilt") rfl)
theorem Txt.g_w_is_name (T : Txt K mg) : mg "_law_is_name" = some (.ref (He.fAd K d_w_is_name.at_)) := T.m.elim fun _ z => He.glo_ok z.1 z.2 (T.s.fact 18 (f := .glo "_law_is_name") rfl)
theorem Txt.g_w_any (T : Txt K mg) : mg "_law_any" = some (.ref (He.fAd K d_w_any.at_)) := T.m.elim fun _ z => He.glo_ok z.1 z.2 (T.s.fact 19 (f := .glo "_law_any") rfl)
theorem Txt.g_w_shape (T : Txt K mg) : mg "_law_shape" = some (.ref (He.fAd K d_w_shape.at_)) := T.m.elim fun _ z => He.glo_ok z.1 z.2 (T.s.fact 20 (f := .glo "_law_shape") rfl)
theorem Txt.g_w_spots (T : Txt K mg) : mg "_law_spots" = some (.ref (He.fAd K d_w_spots.at_)) := T.m.elim fun _ z => He.glo_ok z.1 z.2 (T.s.fact 21 (f := .glo "_law_spots") rfl)
theorem Txt.g_w_spot (T : Txt K mg) : mg "_law_spot" = some (.ref (He.fAd K d_w_spot.at_)) := T.m.elim fun _ z => He.glo_ok z.1 z.2 (T.s.fact 22 (f := .glo "_law_spot") rfl)
theorem Txt.g_w_a_deed (T : Txt K mg) : mg "_law_a_deed" = some (.ref (He.fAd K d_w_a_deed.at_)) := T.m.elim fun _ z => He.glo_ok z.1 z.2 (T.s.fact 23 (f := .glo "_law_a_deed") rfl)
theorem Txt.g_w_cells (T : Txt K mg) : mg "_law_cells" = some (.ref (He.fAd K d_w_cells.at_)) := T.m.elim fun _ z => He.glo_ok z.1 z.2 (T.s.fact 24 (f := .glo "_law_cells") rfl)
theorem Txt.g_w_pairs (T : Txt K mg) : mg "_law_pairs" = some (.ref (He.fAd K d_w_pairs.at_)) := T.m.elim fun _ z => He.glo_ok z.1 z.2 (T.s.fact 25 (f := .glo "_law_pairs") rfl)
theorem Txt.g_w_moved (T : Txt K mg) : mg "_law_moved" = some (.ref (He.fAd K d_w_moved.at_)) := T.m.elim fun _ z => He.glo_ok z.1 z.2 (T.s.fact 26 (f := .glo "_law_moved") rfl)
theorem Txt.g_w_due (T : Txt K mg) : mg "_law_due" = some (.ref (He.fAd K d_w_due.at_)) := T.m.elim fun _ z => He.glo_ok z.1 z.2 (T.s.fact 27 (f := .glo "_law_due") rfl)
theorem Txt.g_w_pressed (T : Txt K mg) : mg "_law_pressed" = some (.ref (He.fAd K d_w_pressed.at_)) := T.m.elim fun _ z => He.glo_ok z.1 z.2 (T.s.fact 28 (f := .glo "_law_pressed") rfl)
theorem Txt.g_w_no_drop (T : Txt K mg) : mg "_law_no_drop" = some (.ref (He.fAd K d_w_no_drop.at_)) := T.m.elim fun _ z => He.glo_ok z.1 z.2 (T.s.fact 29 (f := .glo "_law_no_drop") rfl)
theorem Txt.g_w_is_deed (T : Txt K mg) : mg "_law_is_deed" = some (.ref (He.fAd K d_w_is_deed.at_)) := T.m.elim fun _ z => He.glo_ok z.1 z.2 (T.s.fact 30 (f := .glo "_law_is_deed") rfl)
theorem Txt.g_w_right (T : Txt K mg) : mg "_law_right" = some (.ref (He.fAd K d_w_right.at_)) := T.m.elim fun _ z => He.glo_ok z.1 z.2 (T.s.fact 31 (f := .glo "_law_right") rfl)
theorem Txt.g_w_copied (T : Txt K mg) : mg "_law_copied" = some (.ref (He.fAd K d_w_copied.at_)) := T.m.elim fun _ z => He.glo_ok z.1 z.2 (T.s.fact 32 (f := .glo "_law_copied") rfl)
theorem Txt.g_w_done (T : Txt K mg) : mg "_law_done" = some (.ref (He.fAd K d_w_done.at_)) := T.m.elim fun _ z => He.glo_ok z.1 z.2 (T.s.fact 33 (f := .glo "_law_done") rfl)
theorem Txt.g_w_word (T : Txt K mg) : mg "_law_word" = some (.ref (He.fAd K d_w_word.at_)) := T.m.elim fun _ z => He.glo_ok z.1 z.2 (T.s.fact 34 (f := .glo "_law_word") rfl)
theorem Txt.g_law (T : Txt K mg) : mg "law" = some (.ref (He.fAd K d_law.at_)) := T.m.elim fun _ z => He.glo_ok z.1 z.2 (T.s.fact 35 (f := .glo "law") rfl)
theorem Txt.g_Lying (T : Txt K mg) : mg "Lying" = some (.ref (He.ga K "Lying")) := T.m.elim fun _ z => He.glo_ok z.1 z.2 (T.s.fact 36 (f := .glo "Lying") rfl)
theorem Txt.g_Book (T : Txt K mg) : mg "Book" = some (.ref (He.ga K "Book")) := T.m.elim fun _ z => He.glo_ok z.1 z.2 (T.s.fact 37 (f := .glo "Book") rfl)
theorem Txt.g_NoShape (T : Txt K mg) : mg "NoShape" = some (.ref (He.ga K "NoShape")) := T.m.elim fun _ z => He.glo_ok z.1 z.2 (T.s.fact 38 (f := .glo "NoShape") rfl)
theorem Txt.g_NoDeed (T : Txt K mg) : mg "NoDeed" = some (.ref (He.ga K "NoDeed")) := T.m.elim fun _ z => He.glo_ok z.1 z.2 (T.s.fact 39 (f := .glo "NoDeed") rfl)
theorem Txt.g_NoSpot (T : Txt K mg) : mg "NoSpot" = some (.ref (He.ga K "NoSpot")) := T.m.elim fun _ z => He.glo_ok z.1 z.2 (T.s.fact 40 (f := .glo "NoSpot") rfl)
theorem Txt.g_NoColour (T : Txt K mg) : mg "NoColour" = some (.ref (He.ga K "NoColour")) := T.m.elim fun _ z => He.glo_ok z.1 z.2 (T.s.fact 41 (f := .glo "NoColour") rfl)
theorem Txt.g_NoWet (T : Txt K mg) : mg "NoWet" = some (.ref (He.ga K "NoWet")) := T.m.elim fun _ z => He.glo_ok z.1 z.2 (T.s.fact 42 (f := .glo "NoWet") rfl)
theorem Txt.g_TooMany (T : Txt K mg) : mg "TooMany" = some (.ref (He.ga K "TooMany")) := T.m.elim fun _ z => He.glo_ok z.1 z.2 (T.s.fact 43 (f := .glo "TooMany") rfl)
theorem Txt.g_NothingLeft (T : Txt K mg) : mg "NothingLeft" = some (.ref (He.ga K "NothingLeft")) := T.m.elim fun _ z => He.glo_ok z.1 z.2 (T.s.fact 44 (f := .glo "NothingLeft") rfl)
theorem Txt.g_BlotError (T : Txt K mg) : mg "BlotError" = some (.ref (He.ga K "BlotError")) := T.m.elim fun _ z => He.glo_ok z.1 z.2 (T.s.fact 45 (f := .glo "BlotError") rfl)
theorem Txt.g_ToldError (T : Txt K mg) : mg "ToldError" = some (.ref (He.ga K "ToldError")) := T.m.elim fun _ z => He.glo_ok z.1 z.2 (T.s.fact 46 (f := .glo "ToldError") rfl)
theorem Txt.g_AskedError (T : Txt K mg) : mg "AskedError" = some (.ref (He.ga K "AskedError")) := T.m.elim fun _ z => He.glo_ok z.1 z.2 (T.s.fact 47 (f := .glo "AskedError") rfl)
theorem Txt.n_isinstance (T : Txt K mg) : mg "isinstance" = none := T.m.elim fun _ z => He.free_ok z.1 z.2 (T.s.fact 48 (f := .free "isinstance") rfl)
theorem Txt.n_int (T : Txt K mg) : mg "int" = none := T.m.elim fun _ z => He.free_ok z.1 z.2 (T.s.fact 49 (f := .free "int") rfl)
theorem Txt.n_bool (T : Txt K mg) : mg "bool" = none := T.m.elim fun _ z => He.free_ok z.1 z.2 (T.s.fact 50 (f := .free "bool") rfl)
theorem Txt.n_str (T : Txt K mg) : mg "str" = none := T.m.elim fun _ z => He.free_ok z.1 z.2 (T.s.fact 51 (f := .free "str") rfl)
theorem Txt.n_tuple (T : Txt K mg) : mg "tuple" = none := T.m.elim fun _ z => He.free_ok z.1 z.2 (T.s.fact 52 (f := .free "tuple") rfl)
theorem Txt.n_list (T : Txt K mg) : mg "list" = none := T.m.elim fun _ z => He.free_ok z.1 z.2 (T.s.fact 53 (f := .free "list") rfl)
theorem Txt.n_dict (T : Txt K mg) : mg "dict" = none := T.m.elim fun _ z => He.free_ok z.1 z.2 (T.s.fact 54 (f := .free "dict") rfl)
theorem Txt.n_len (T : Txt K mg) : mg "len" = none := T.m.elim fun _ z => He.free_ok z.1 z.2 (T.s.fact 55 (f := .free "len") rfl)
theorem Txt.n_all (T : Txt K mg) : mg "all" = none := T.m.elim fun _ z => He.free_ok z.1 z.2 (T.s.fact 56 (f := .free "all") rfl)
theorem Txt.n_range (T : Txt K mg) : mg "range" = none := T.m.elim fun _ z => He.free_ok z.1 z.2 (T.s.fact 57 (f := .free "range") rfl)
theorem Txt.n_sum (T : Txt K mg) : mg "sum" = none := T.m.elim fun _ z => He.free_ok z.1 z.2 (T.s.fact 58 (f := .free "sum") rfl)
theorem Txt.n_max (T : Txt K mg) : mg "max" = none := T.m.elim fun _ z => He.free_ok z.1 z.2 (T.s.fact 59 (f := .free "max") rfl)
theorem Txt.n_min (T : Txt K mg) : mg "min" = none := T.m.elim fun _ z => He.free_ok z.1 z.2 (T.s.fact 60 (f := .free "min") rfl)
theorem Txt.n_sorted (T : Txt K mg) : mg "sorted" = none := T.m.elim fun _ z => He.free_ok z.1 z.2 (T.s.fact 61 (f := .free "sorted") rfl)
theorem Txt.n_zip (T : Txt K mg) : mg "zip" = none := T.m.elim fun _ z => He.free_ok z.1 z.2 (T.s.fact 62 (f := .free "zip") rfl)
theorem Txt.n_ValueError (T : Txt K mg) : mg "ValueError" = none := T.m.elim fun _ z => He.free_ok z.1 z.2 (T.s.fact 63 (f := .free "ValueError") rfl)
theorem Txt.i_MOST_LEAVES (T : Txt K mg) : ∃ t, mg "MOST_LEAVES" = some (.int 5 t) := T.m.elim fun _ z => He.int_ok z.1 z.2 (T.s.fact 64 (f := .int "MOST_LEAVES" 5) rfl)
theorem Txt.i_MOST_CELLS (T : Txt K mg) : ∃ t, mg "MOST_CELLS" = some (.int 5 t) := T.m.elim fun _ z => He.int_ok z.1 z.2 (T.s.fact 65 (f := .int "MOST_CELLS" 5) rfl)
theorem Txt.i_MOST_WET (T : Txt K mg) : ∃ t, mg "MOST_WET" = some (.int 400 t) := T.m.elim fun _ z => He.int_ok z.1 z.2 (T.s.fact 66 (f := .int "MOST_WET" 400) rfl)
theorem Txt.i_LETTERS (T : Txt K mg) : ∃ t, mg "LETTERS" = some (.str "abcdefghijklmnopqrstuvwxyz" t) := T.m.elim fun _ z => He.str_ok z.1 z.2 (T.s.fact 67 (f := .str "LETTERS" "abcdefghijklmnopqrstuvwxyz") rfl)
theorem Txt.c_Lying (T : Txt K mg) : Cls K (He.ga K "Lying") := He.cls_ok (T.s.fact 68 (f := .cls "Lying") rfl)
theorem Txt.c_Book (T : Txt K mg) : Cls K (He.ga K "Book") := He.cls_ok (T.s.fact 69 (f := .cls "Book") rfl)
theorem Txt.a_Lying_shape (T : Txt K mg) : NoAttr K (He.ga K "Lying") "shape" := He.noat_ok (T.s.fact 70 (f := .noat "Lying" "shape") rfl)
theorem Txt.a_Lying_order (T : Txt K mg) : NoAttr K (He.ga K "Lying") "order" := He.noat_ok (T.s.fact 71 (f := .noat "Lying" "order") rfl)
theorem Txt.a_Lying_now (T : Txt K mg) : NoAttr K (He.ga K "Lying") "now" := He.noat_ok (T.s.fact 72 (f := .noat "Lying" "now") rfl)
theorem Txt.a_Lying_stained (T : Txt K mg) : NoAttr K (He.ga K "Lying") "stained" := He.noat_ok (T.s.fact 73 (f := .noat "Lying" "stained") rfl)
theorem Txt.a_Lying_done (T : Txt K mg) : NoAttr K (He.ga K "Lying") "done" := He.noat_ok (T.s.fact 74 (f := .noat "Lying" "done") rfl)
theorem Txt.a_Book_here (T : Txt K mg) : NoAttr K (He.ga K "Book") "here" := He.noat_ok (T.s.fact 75 (f := .noat "Book" "here") rfl)
theorem Txt.a_Book_past (T : Txt K mg) : NoAttr K (He.ga K "Book") "past" := He.noat_ok (T.s.fact 76 (f := .noat "Book" "past") rfl)
theorem Txt.m_ly_twin (T : Txt K mg) : Meth K (He.ga K "Lying") "twin" (He.fAd K d_ly_twin.at_) := He.meth_ok (T.s.fact 77 (f := .meth "Lying" "twin") rfl)
theorem Txt.m_ly_shown (T : Txt K mg) : Meth K (He.ga K "Lying") "shown" (He.fAd K d_ly_shown.at_) := He.meth_ok (T.s.fact 78 (f := .meth "Lying" "shown") rfl)
theorem Txt.m_ly_drop (T : Txt K mg) : Meth K (He.ga K "Lying") "drop" (He.fAd K d_ly_drop.at_) := He.meth_ok (T.s.fact 79 (f := .meth "Lying" "drop") rfl)
theorem Txt.m_ly_press (T : Txt K mg) : Meth K (He.ga K "Lying") "press" (He.fAd K d_ly_press.at_) := He.meth_ok (T.s.fact 80 (f := .meth "Lying" "press") rfl)
theorem Txt.m_ly_tells (T : Txt K mg) : Meth K (He.ga K "Lying") "tells" (He.fAd K d_ly_tells.at_) := He.meth_ok (T.s.fact 81 (f := .meth "Lying" "tells") rfl)
theorem Txt.m_ly_spots (T : Txt K mg) : Meth K (He.ga K "Lying") "spots" (He.fAd K d_ly_spots.at_) := He.meth_ok (T.s.fact 82 (f := .meth "Lying" "spots") rfl)
theorem Txt.m_bk_do (T : Txt K mg) : Meth K (He.ga K "Book") "do" (He.fAd K d_bk_do.at_) := He.meth_ok (T.s.fact 83 (f := .meth "Book" "do") rfl)
theorem Txt.m_bk_back (T : Txt K mg) : Meth K (He.ga K "Book") "back" (He.fAd K d_bk_back.at_) := He.meth_ok (T.s.fact 84 (f := .meth "Book" "back") rfl)
theorem Txt.m_bk_stand (T : Txt K mg) : Meth K (He.ga K "Book") "stand" (He.fAd K d_bk_stand.at_) := He.meth_ok (T.s.fact 85 (f := .meth "Book" "stand") rfl)
theorem Txt.m_bk_tick (T : Txt K mg) : Meth K (He.ga K "Book") "tick" (He.fAd K d_bk_tick.at_) := He.meth_ok (T.s.fact 86 (f := .meth "Book" "tick") rfl)
theorem Txt.m_bk_marks (T : Txt K mg) : Meth K (He.ga K "Book") "marks" (He.fAd K d_bk_marks.at_) := He.meth_ok (T.s.fact 87 (f := .meth "Book" "marks") rfl)
theorem Txt.m_bk_colours (T : Txt K mg) : Meth K (He.ga K "Book") "colours" (He.fAd K d_bk_colours.at_) := He.meth_ok (T.s.fact 88 (f := .meth "Book" "colours") rfl)
theorem Txt.m_bk_book (T : Txt K mg) : Meth K (He.ga K "Book") "book" (He.fAd K d_bk_book.at_) := He.meth_ok (T.s.fact 89 (f := .meth "Book" "book") rfl)
theorem Txt.m_bk_eq (T : Txt K mg) : Meth K (He.ga K "Book") "__eq__" (He.fAd K d_bk_eq.at_) := He.meth_ok (T.s.fact 90 (f := .meth "Book" "__eq__") rfl)
theorem Txt.m_bk_len (T : Txt K mg) : Meth K (He.ga K "Book") "__len__" (He.fAd K d_bk_len.at_) := He.meth_ok (T.s.fact 91 (f := .meth "Book" "__len__") rfl)
theorem Txt.m_bk_str (T : Txt K mg) : Meth K (He.ga K "Book") "__str__" (He.fAd K d_bk_str.at_) := He.meth_ok (T.s.fact 92 (f := .meth "Book" "__str__") rfl)
theorem Txt.k_Lying (T : Txt K mg) : Mk K (He.ga K "Lying") (He.fAd K d_ly_init.at_) := He.mkr_ok (T.s.fact 93 (f := .mkr "Lying") rfl)
theorem Txt.k_Book (T : Txt K mg) : Mk K (He.ga K "Book") (He.fAd K d_bk_init.at_) := He.mkr_ok (T.s.fact 94 (f := .mkr "Book") rfl)
theorem Txt.e_NoDeed (T : Txt K mg) : PySem.W.excIn K (He.ga K "NoDeed") He.veBase "ValueError.__new__" = true ∧ PySem.W.keepIn K (.ref (He.ga K "NoDeed")) = true ∧ PySem.W.subIn K (.ref (He.ga K "NoDeed")) (.type "BaseException") = some true ∧ PySem.W.typeIn K (.ref (He.ga K "NoDeed")) = some (.type "type") := He.exc_ok (T.s.fact 95 (f := .exc "NoDeed") rfl)
theorem Txt.x_NoDeed (T : Txt K mg) : PySem.W.exmOne K (.ref (He.ga K "NoDeed")) (.ref (He.ga K "BlotError")) = some true := He.exm_ok (T.s.fact 96 (f := .exm "NoDeed" "BlotError" true) rfl)
theorem Txt.e_NoSpot (T : Txt K mg) : PySem.W.excIn K (He.ga K "NoSpot") He.veBase "ValueError.__new__" = true ∧ PySem.W.keepIn K (.ref (He.ga K "NoSpot")) = true ∧ PySem.W.subIn K (.ref (He.ga K "NoSpot")) (.type "BaseException") = some true ∧ PySem.W.typeIn K (.ref (He.ga K "NoSpot")) = some (.type "type") := He.exc_ok (T.s.fact 97 (f := .exc "NoSpot") rfl)
theorem Txt.x_NoSpot (T : Txt K mg) : PySem.W.exmOne K (.ref (He.ga K "NoSpot")) (.ref (He.ga K "BlotError")) = some true := He.exm_ok (T.s.fact 98 (f := .exm "NoSpot" "BlotError" true) rfl)
theorem Txt.e_NoColour (T : Txt K mg) : PySem.W.excIn K (He.ga K "NoColour") He.veBase "ValueError.__new__" = true ∧ PySem.W.keepIn K (.ref (He.ga K "NoColour")) = true ∧ PySem.W.subIn K (.ref (He.ga K "NoColour")) (.type "BaseException") = some true ∧ PySem.W.typeIn K (.ref (He.ga K "NoColour")) = some (.type "type") := He.exc_ok (T.s.fact 99 (f := .exc "NoColour") rfl)
theorem Txt.x_NoColour (T : Txt K mg) : PySem.W.exmOne K (.ref (He.ga K "NoColour")) (.ref (He.ga K "BlotError")) = some true := He.exm_ok (T.s.fact 100 (f := .exm "NoColour" "BlotError" true) rfl)
theorem Txt.e_NoWet (T : Txt K mg) : PySem.W.excIn K (He.ga K "NoWet") He.veBase "ValueError.__new__" = true ∧ PySem.W.keepIn K (.ref (He.ga K "NoWet")) = true ∧ PySem.W.subIn K (.ref (He.ga K "NoWet")) (.type "BaseException") = some true ∧ PySem.W.typeIn K (.ref (He.ga K "NoWet")) = some (.type "type") := He.exc_ok (T.s.fact 101 (f := .exc "NoWet") rfl)
theorem Txt.x_NoWet (T : Txt K mg) : PySem.W.exmOne K (.ref (He.ga K "NoWet")) (.ref (He.ga K "BlotError")) = some true := He.exm_ok (T.s.fact 102 (f := .exm "NoWet" "BlotError" true) rfl)
theorem Txt.e_NothingLeft (T : Txt K mg) : PySem.W.excIn K (He.ga K "NothingLeft") He.veBase "ValueError.__new__" = true ∧ PySem.W.keepIn K (.ref (He.ga K "NothingLeft")) = true ∧ PySem.W.subIn K (.ref (He.ga K "NothingLeft")) (.type "BaseException") = some true ∧ PySem.W.typeIn K (.ref (He.ga K "NothingLeft")) = some (.type "type") := He.exc_ok (T.s.fact 103 (f := .exc "NothingLeft") rfl)
theorem Txt.x_NothingLeft (T : Txt K mg) : PySem.W.exmOne K (.ref (He.ga K "NothingLeft")) (.ref (He.ga K "BlotError")) = some true := He.exm_ok (T.s.fact 104 (f := .exm "NothingLeft" "BlotError" true) rfl)
theorem Txt.ex (T : Txt K mg) {i : Nat} {p : Prop} [Decidable p] (h : (exL K)[i]? = some (decide p)) : p := of_decide_eq_true (List.all_eq_true.mp T.e _ (List.mem_of_getElem? h))
theorem Txt.bk_ha (T : Txt K mg) : PySem.W.findIn K (.ref (He.ga K "Book")) "__class__" = some (some (.builtin "object.__class__")) := T.ex (i := 0) rfl
theorem Txt.bk_hn (T : Txt K mg) : PySem.W.specialIn K (.builtin "object.__class__") "__get__" = some (some (.builtin "getset_descriptor.__get__")) := T.ex (i := 1) rfl
theorem Txt.bk_ht (T : Txt K mg) : PySem.W.takesIn K (.builtin "object.__class__") = some true := T.ex (i := 2) rfl
theorem Txt.bk_hm (T : Txt K mg) : PySem.W.mroIn K (He.ga K "Book") (.type "object") = some true := T.ex (i := 3) rfl
theorem Txt.hg_NoDeed (T : Txt K mg) : PySem.W.findIn K (.ref (He.ga K "NoDeed")) "__getattribute__" = some (some (.builtin "BaseException.__getattribute__")) := T.ex (i := 4) rfl
theorem Txt.hk_NoDeed (T : Txt K mg) : PySem.W.findIn K (.ref (He.ga K "NoDeed")) "__getattr__" = some none := T.ex (i := 5) rfl
theorem Txt.hd_NoDeed (T : Txt K mg) : PySem.W.hasDictIn K (He.ga K "NoDeed") = true := T.ex (i := 6) rfl
theorem Txt.ha_NoDeed (T : Txt K mg) : PySem.W.findIn K (.ref (He.ga K "NoDeed")) "__class__" = some (some (.builtin "object.__class__")) := T.ex (i := 7) rfl
theorem Txt.hm_NoDeed (T : Txt K mg) : PySem.W.mroIn K (He.ga K "NoDeed") (.type "object") = some true := T.ex (i := 8) rfl
theorem Txt.ki_NoDeed_NoShape (T : Txt K mg) : PySem.W.kitOne K (.ref (He.ga K "NoDeed")) (.ref (He.ga K "NoShape")) = some false := T.ex (i := 9) rfl
theorem Txt.ki_NoDeed_NoDeed (T : Txt K mg) : PySem.W.kitOne K (.ref (He.ga K "NoDeed")) (.ref (He.ga K "NoDeed")) = some true := T.ex (i := 10) rfl
theorem Txt.ki_NoDeed_NoSpot (T : Txt K mg) : PySem.W.kitOne K (.ref (He.ga K "NoDeed")) (.ref (He.ga K "NoSpot")) = some false := T.ex (i := 11) rfl
theorem Txt.ki_NoDeed_NoColour (T : Txt K mg) : PySem.W.kitOne K (.ref (He.ga K "NoDeed")) (.ref (He.ga K "NoColour")) = some false := T.ex (i := 12) rfl
theorem Txt.ki_NoDeed_NoWet (T : Txt K mg) : PySem.W.kitOne K (.ref (He.ga K "NoDeed")) (.ref (He.ga K "NoWet")) = some false := T.ex (i := 13) rfl
theorem Txt.ki_NoDeed_TooMany (T : Txt K mg) : PySem.W.kitOne K (.ref (He.ga K "NoDeed")) (.ref (He.ga K "TooMany")) = some false := T.ex (i := 14) rfl
theorem Txt.ki_NoDeed_NothingLeft (T : Txt K mg) : PySem.W.kitOne K (.ref (He.ga K "NoDeed")) (.ref (He.ga K "NothingLeft")) = some false := T.ex (i := 15) rfl
theorem Txt.ki_NoDeed_ToldError (T : Txt K mg) : PySem.W.kitOne K (.ref (He.ga K "NoDeed")) (.ref (He.ga K "ToldError")) = some true := T.ex (i := 16) rfl
theorem Txt.ki_NoDeed_AskedError (T : Txt K mg) : PySem.W.kitOne K (.ref (He.ga K "NoDeed")) (.ref (He.ga K "AskedError")) = some false := T.ex (i := 17) rfl
theorem Txt.ki_NoDeed_ValueError (T : Txt K mg) : PySem.W.kitOne K (.ref (He.ga K "NoDeed")) (.type "ValueError") = some true := T.ex (i := 18) rfl
theorem Txt.hg_NoSpot (T : Txt K mg) : PySem.W.findIn K (.ref (He.ga K "NoSpot")) "__getattribute__" = some (some (.builtin "BaseException.__getattribute__")) := T.ex (i := 19) rfl
theorem Txt.hk_NoSpot (T : Txt K mg) : PySem.W.findIn K (.ref (He.ga K "NoSpot")) "__getattr__" = some none := T.ex (i := 20) rfl
theorem Txt.hd_NoSpot (T : Txt K mg) : PySem.W.hasDictIn K (He.ga K "NoSpot") = true := T.ex (i := 21) rfl
theorem Txt.ha_NoSpot (T : Txt K mg) : PySem.W.findIn K (.ref (He.ga K "NoSpot")) "__class__" = some (some (.builtin "object.__class__")) := T.ex (i := 22) rfl
theorem Txt.hm_NoSpot (T : Txt K mg) : PySem.W.mroIn K (He.ga K "NoSpot") (.type "object") = some true := T.ex (i := 23) rfl
theorem Txt.ki_NoSpot_NoShape (T : Txt K mg) : PySem.W.kitOne K (.ref (He.ga K "NoSpot")) (.ref (He.ga K "NoShape")) = some false := T.ex (i := 24) rfl
theorem Txt.ki_NoSpot_NoDeed (T : Txt K mg) : PySem.W.kitOne K (.ref (He.ga K "NoSpot")) (.ref (He.ga K "NoDeed")) = some false := T.ex (i := 25) rfl
theorem Txt.ki_NoSpot_NoSpot (T : Txt K mg) : PySem.W.kitOne K (.ref (He.ga K "NoSpot")) (.ref (He.ga K "NoSpot")) = some true := T.ex (i := 26) rfl
theorem Txt.ki_NoSpot_NoColour (T : Txt K mg) : PySem.W.kitOne K (.ref (He.ga K "NoSpot")) (.ref (He.ga K "NoColour")) = some false := T.ex (i := 27) rfl
theorem Txt.ki_NoSpot_NoWet (T : Txt K mg) : PySem.W.kitOne K (.ref (He.ga K "NoSpot")) (.ref (He.ga K "NoWet")) = some false := T.ex (i := 28) rfl
theorem Txt.ki_NoSpot_TooMany (T : Txt K mg) : PySem.W.kitOne K (.ref (He.ga K "NoSpot")) (.ref (He.ga K "TooMany")) = some false := T.ex (i := 29) rfl
theorem Txt.ki_NoSpot_NothingLeft (T : Txt K mg) : PySem.W.kitOne K (.ref (He.ga K "NoSpot")) (.ref (He.ga K "NothingLeft")) = some false := T.ex (i := 30) rfl
theorem Txt.ki_NoSpot_ToldError (T : Txt K mg) : PySem.W.kitOne K (.ref (He.ga K "NoSpot")) (.ref (He.ga K "ToldError")) = some true := T.ex (i := 31) rfl
theorem Txt.ki_NoSpot_AskedError (T : Txt K mg) : PySem.W.kitOne K (.ref (He.ga K "NoSpot")) (.ref (He.ga K "AskedError")) = some false := T.ex (i := 32) rfl
theorem Txt.ki_NoSpot_ValueError (T : Txt K mg) : PySem.W.kitOne K (.ref (He.ga K "NoSpot")) (.type "ValueError") = some true := T.ex (i := 33) rfl
theorem Txt.hg_NoColour (T : Txt K mg) : PySem.W.findIn K (.ref (He.ga K "NoColour")) "__getattribute__" = some (some (.builtin "BaseException.__getattribute__")) := T.ex (i := 34) rfl
theorem Txt.hk_NoColour (T : Txt K mg) : PySem.W.findIn K (.ref (He.ga K "NoColour")) "__getattr__" = some none := T.ex (i := 35) rfl
theorem Txt.hd_NoColour (T : Txt K mg) : PySem.W.hasDictIn K (He.ga K "NoColour") = true := T.ex (i := 36) rfl
theorem Txt.ha_NoColour (T : Txt K mg) : PySem.W.findIn K (.ref (He.ga K "NoColour")) "__class__" = some (some (.builtin "object.__class__")) := T.ex (i := 37) rfl
theorem Txt.hm_NoColour (T : Txt K mg) : PySem.W.mroIn K (He.ga K "NoColour") (.type "object") = some true := T.ex (i := 38) rfl
theorem Txt.ki_NoColour_NoShape (T : Txt K mg) : PySem.W.kitOne K (.ref (He.ga K "NoColour")) (.ref (He.ga K "NoShape")) = some false := T.ex (i := 39) rfl
theorem Txt.ki_NoColour_NoDeed (T : Txt K mg) : PySem.W.kitOne K (.ref (He.ga K "NoColour")) (.ref (He.ga K "NoDeed")) = some false := T.ex (i := 40) rfl
theorem Txt.ki_NoColour_NoSpot (T : Txt K mg) : PySem.W.kitOne K (.ref (He.ga K "NoColour")) (.ref (He.ga K "NoSpot")) = some false := T.ex (i := 41) rfl
theorem Txt.ki_NoColour_NoColour (T : Txt K mg) : PySem.W.kitOne K (.ref (He.ga K "NoColour")) (.ref (He.ga K "NoColour")) = some true := T.ex (i := 42) rfl
theorem Txt.ki_NoColour_NoWet (T : Txt K mg) : PySem.W.kitOne K (.ref (He.ga K "NoColour")) (.ref (He.ga K "NoWet")) = some false := T.ex (i := 43) rfl
theorem Txt.ki_NoColour_TooMany (T : Txt K mg) : PySem.W.kitOne K (.ref (He.ga K "NoColour")) (.ref (He.ga K "TooMany")) = some false := T.ex (i := 44) rfl
theorem Txt.ki_NoColour_NothingLeft (T : Txt K mg) : PySem.W.kitOne K (.ref (He.ga K "NoColour")) (.ref (He.ga K "NothingLeft")) = some false := T.ex (i := 45) rfl
theorem Txt.ki_NoColour_ToldError (T : Txt K mg) : PySem.W.kitOne K (.ref (He.ga K "NoColour")) (.ref (He.ga K "ToldError")) = some true := T.ex (i := 46) rfl
theorem Txt.ki_NoColour_AskedError (T : Txt K mg) : PySem.W.kitOne K (.ref (He.ga K "NoColour")) (.ref (He.ga K "AskedError")) = some false := T.ex (i := 47) rfl
theorem Txt.ki_NoColour_ValueError (T : Txt K mg) : PySem.W.kitOne K (.ref (He.ga K "NoColour")) (.type "ValueError") = some true := T.ex (i := 48) rfl
theorem Txt.hg_NoWet (T : Txt K mg) : PySem.W.findIn K (.ref (He.ga K "NoWet")) "__getattribute__" = some (some (.builtin "BaseException.__getattribute__")) := T.ex (i := 49) rfl
theorem Txt.hk_NoWet (T : Txt K mg) : PySem.W.findIn K (.ref (He.ga K "NoWet")) "__getattr__" = some none := T.ex (i := 50) rfl
theorem Txt.hd_NoWet (T : Txt K mg) : PySem.W.hasDictIn K (He.ga K "NoWet") = true := T.ex (i := 51) rfl
theorem Txt.ha_NoWet (T : Txt K mg) : PySem.W.findIn K (.ref (He.ga K "NoWet")) "__class__" = some (some (.builtin "object.__class__")) := T.ex (i := 52) rfl
theorem Txt.hm_NoWet (T : Txt K mg) : PySem.W.mroIn K (He.ga K "NoWet") (.type "object") = some true := T.ex (i := 53) rfl
theorem Txt.ki_NoWet_NoShape (T : Txt K mg) : PySem.W.kitOne K (.ref (He.ga K "NoWet")) (.ref (He.ga K "NoShape")) = some false := T.ex (i := 54) rfl
theorem Txt.ki_NoWet_NoDeed (T : Txt K mg) : PySem.W.kitOne K (.ref (He.ga K "NoWet")) (.ref (He.ga K "NoDeed")) = some false := T.ex (i := 55) rfl
theorem Txt.ki_NoWet_NoSpot (T : Txt K mg) : PySem.W.kitOne K (.ref (He.ga K "NoWet")) (.ref (He.ga K "NoSpot")) = some false := T.ex (i := 56) rfl
theorem Txt.ki_NoWet_NoColour (T : Txt K mg) : PySem.W.kitOne K (.ref (He.ga K "NoWet")) (.ref (He.ga K "NoColour")) = some false := T.ex (i := 57) rfl
theorem Txt.ki_NoWet_NoWet (T : Txt K mg) : PySem.W.kitOne K (.ref (He.ga K "NoWet")) (.ref (He.ga K "NoWet")) = some true := T.ex (i := 58) rfl
theorem Txt.ki_NoWet_TooMany (T : Txt K mg) : PySem.W.kitOne K (.ref (He.ga K "NoWet")) (.ref (He.ga K "TooMany")) = some false := T.ex (i := 59) rfl
theorem Txt.ki_NoWet_NothingLeft (T : Txt K mg) : PySem.W.kitOne K (.ref (He.ga K "NoWet")) (.ref (He.ga K "NothingLeft")) = some false := T.ex (i := 60) rfl
theorem Txt.ki_NoWet_ToldError (T : Txt K mg) : PySem.W.kitOne K (.ref (He.ga K "NoWet")) (.ref (He.ga K "ToldError")) = some true := T.ex (i := 61) rfl
theorem Txt.ki_NoWet_AskedError (T : Txt K mg) : PySem.W.kitOne K (.ref (He.ga K "NoWet")) (.ref (He.ga K "AskedError")) = some false := T.ex (i := 62) rfl
theorem Txt.ki_NoWet_ValueError (T : Txt K mg) : PySem.W.kitOne K (.ref (He.ga K "NoWet")) (.type "ValueError") = some true := T.ex (i := 63) rfl
theorem Txt.hg_NothingLeft (T : Txt K mg) : PySem.W.findIn K (.ref (He.ga K "NothingLeft")) "__getattribute__" = some (some (.builtin "BaseException.__getattribute__")) := T.ex (i := 64) rfl
theorem Txt.hk_NothingLeft (T : Txt K mg) : PySem.W.findIn K (.ref (He.ga K "NothingLeft")) "__getattr__" = some none := T.ex (i := 65) rfl
theorem Txt.hd_NothingLeft (T : Txt K mg) : PySem.W.hasDictIn K (He.ga K "NothingLeft") = true := T.ex (i := 66) rfl
theorem Txt.ha_NothingLeft (T : Txt K mg) : PySem.W.findIn K (.ref (He.ga K "NothingLeft")) "__class__" = some (some (.builtin "object.__class__")) := T.ex (i := 67) rfl
theorem Txt.hm_NothingLeft (T : Txt K mg) : PySem.W.mroIn K (He.ga K "NothingLeft") (.type "object") = some true := T.ex (i := 68) rfl
theorem Txt.ki_NothingLeft_NoShape (T : Txt K mg) : PySem.W.kitOne K (.ref (He.ga K "NothingLeft")) (.ref (He.ga K "NoShape")) = some false := T.ex (i := 69) rfl
theorem Txt.ki_NothingLeft_NoDeed (T : Txt K mg) : PySem.W.kitOne K (.ref (He.ga K "NothingLeft")) (.ref (He.ga K "NoDeed")) = some false := T.ex (i := 70) rfl
theorem Txt.ki_NothingLeft_NoSpot (T : Txt K mg) : PySem.W.kitOne K (.ref (He.ga K "NothingLeft")) (.ref (He.ga K "NoSpot")) = some false := T.ex (i := 71) rfl
theorem Txt.ki_NothingLeft_NoColour (T : Txt K mg) : PySem.W.kitOne K (.ref (He.ga K "NothingLeft")) (.ref (He.ga K "NoColour")) = some false := T.ex (i := 72) rfl
theorem Txt.ki_NothingLeft_NoWet (T : Txt K mg) : PySem.W.kitOne K (.ref (He.ga K "NothingLeft")) (.ref (He.ga K "NoWet")) = some false := T.ex (i := 73) rfl
theorem Txt.ki_NothingLeft_TooMany (T : Txt K mg) : PySem.W.kitOne K (.ref (He.ga K "NothingLeft")) (.ref (He.ga K "TooMany")) = some false := T.ex (i := 74) rfl
theorem Txt.ki_NothingLeft_NothingLeft (T : Txt K mg) : PySem.W.kitOne K (.ref (He.ga K "NothingLeft")) (.ref (He.ga K "NothingLeft")) = some true := T.ex (i := 75) rfl
theorem Txt.ki_NothingLeft_ToldError (T : Txt K mg) : PySem.W.kitOne K (.ref (He.ga K "NothingLeft")) (.ref (He.ga K "ToldError")) = some false := T.ex (i := 76) rfl
theorem Txt.ki_NothingLeft_AskedError (T : Txt K mg) : PySem.W.kitOne K (.ref (He.ga K "NothingLeft")) (.ref (He.ga K "AskedError")) = some true := T.ex (i := 77) rfl
theorem Txt.ki_NothingLeft_ValueError (T : Txt K mg) : PySem.W.kitOne K (.ref (He.ga K "NothingLeft")) (.type "ValueError") = some true := T.ex (i := 78) rfl
theorem Txt.f_is_within (T : Txt K mg) : ∃ fd, FunD K d_is_within.name d_is_within.qual d_is_within.params d_is_within.body d_is_within.scope [] [] (He.fAd K d_is_within.at_) fd := T.s.def_ 0 (d := d_is_within) rfl
theorem Txt.f_is_name (T : Txt K mg) : ∃ fd, FunD K d_is_name.name d_is_name.qual d_is_name.params d_is_name.body d_is_name.scope [] [] (He.fAd K d_is_name.at_) fd := T.s.def_ 1 (d := d_is_name) rfl
theorem Txt.f_is_shape (T : Txt K mg) : ∃ fd, FunD K d_is_shape.name d_is_shape.qual d_is_shape.params d_is_shape.body d_is_shape.scope [] [] (He.fAd K d_is_shape.at_) fd := T.s.def_ 2 (d := d_is_shape) rfl
theorem Txt.f_is_spot (T : Txt K mg) : ∃ fd, FunD K d_is_spot.name d_is_spot.qual d_is_spot.params d_is_spot.body d_is_spot.scope [] [] (He.fAd K d_is_spot.at_) fd := T.s.def_ 3 (d := d_is_spot) rfl
theorem Txt.f_first_stand (T : Txt K mg) : ∃ fd, FunD K d_first_stand.name d_first_stand.qual d_first_stand.params d_first_stand.body d_first_stand.scope [] [] (He.fAd K d_first_stand.at_) fd := T.s.def_ 4 (d := d_first_stand) rfl
theorem Txt.f_far_from_back (T : Txt K mg) : ∃ fd, FunD K d_far_from_back.name d_far_from_back.qual d_far_from_back.params d_far_from_back.body d_far_from_back.scope [] [] (He.fAd K d_far_from_back.at_) fd := T.s.def_ 5 (d := d_far_from_back) rfl
theorem Txt.f_touched (T : Txt K mg) : ∃ fd, FunD K d_touched.name d_touched.qual d_touched.params d_touched.body d_touched.scope [] [] (He.fAd K d_touched.at_) fd := T.s.def_ 6 (d := d_touched) rfl
theorem Txt.f_pairs_at (T : Txt K mg) : ∃ fd, FunD K d_pairs_at.name d_pairs_at.qual d_pairs_at.params d_pairs_at.body d_pairs_at.scope [] [] (He.fAd K d_pairs_at.at_) fd := T.s.def_ 7 (d := d_pairs_at) rfl
theorem Txt.f_is_deed (T : Txt K mg) : ∃ fd, FunD K d_is_deed.name d_is_deed.qual d_is_deed.params d_is_deed.body d_is_deed.scope [] [] (He.fAd K d_is_deed.at_) fd := T.s.def_ 8 (d := d_is_deed) rfl
theorem Txt.f_takes (T : Txt K mg) : ∃ fd, FunD K d_takes.name d_takes.qual d_takes.params d_takes.body d_takes.scope [] [] (He.fAd K d_takes.at_) fd := T.s.def_ 9 (d := d_takes) rfl
theorem Txt.f_moved (T : Txt K mg) : ∃ fd, FunD K d_moved.name d_moved.qual d_moved.params d_moved.body d_moved.scope [] [] (He.fAd K d_moved.at_) fd := T.s.def_ 10 (d := d_moved) rfl
theorem Txt.f_put_on (T : Txt K mg) : ∃ fd, FunD K d_put_on.name d_put_on.qual d_put_on.params d_put_on.body d_put_on.scope [] [] (He.fAd K d_put_on.at_) fd := T.s.def_ 11 (d := d_put_on) rfl
theorem Txt.f_pressed (T : Txt K mg) : ∃ fd, FunD K d_pressed.name d_pressed.qual d_pressed.params d_pressed.body d_pressed.scope [] [] (He.fAd K d_pressed.at_) fd := T.s.def_ 12 (d := d_pressed) rfl
theorem Txt.f_ly_init (T : Txt K mg) : ∃ fd, FunD K d_ly_init.name d_ly_init.qual d_ly_init.params d_ly_init.body d_ly_init.scope [] [] (He.fAd K d_ly_init.at_) fd := T.s.def_ 13 (d := d_ly_init) rfl
theorem Txt.f_ly_twin (T : Txt K mg) : ∃ fd, FunD K d_ly_twin.name d_ly_twin.qual d_ly_twin.params d_ly_twin.body d_ly_twin.scope [] [] (He.fAd K d_ly_twin.at_) fd := T.s.def_ 14 (d := d_ly_twin) rfl
theorem Txt.f_ly_shown (T : Txt K mg) : ∃ fd, FunD K d_ly_shown.name d_ly_shown.qual d_ly_shown.params d_ly_shown.body d_ly_shown.scope [] [] (He.fAd K d_ly_shown.at_) fd := T.s.def_ 15 (d := d_ly_shown) rfl
theorem Txt.f_ly_drop (T : Txt K mg) : ∃ fd, FunD K d_ly_drop.name d_ly_drop.qual d_ly_drop.params d_ly_drop.body d_ly_drop.scope [] [] (He.fAd K d_ly_drop.at_) fd := T.s.def_ 16 (d := d_ly_drop) rfl
theorem Txt.f_ly_press (T : Txt K mg) : ∃ fd, FunD K d_ly_press.name d_ly_press.qual d_ly_press.params d_ly_press.body d_ly_press.scope [] [] (He.fAd K d_ly_press.at_) fd := T.s.def_ 17 (d := d_ly_press) rfl
theorem Txt.f_ly_tells (T : Txt K mg) : ∃ fd, FunD K d_ly_tells.name d_ly_tells.qual d_ly_tells.params d_ly_tells.body d_ly_tells.scope [] [] (He.fAd K d_ly_tells.at_) fd := T.s.def_ 18 (d := d_ly_tells) rfl
theorem Txt.f_ly_spots (T : Txt K mg) : ∃ fd, FunD K d_ly_spots.name d_ly_spots.qual d_ly_spots.params d_ly_spots.body d_ly_spots.scope [] [] (He.fAd K d_ly_spots.at_) fd := T.s.def_ 19 (d := d_ly_spots) rfl
theorem Txt.f_bk_init (T : Txt K mg) : ∃ fd, FunD K d_bk_init.name d_bk_init.qual d_bk_init.params d_bk_init.body d_bk_init.scope [] [] (He.fAd K d_bk_init.at_) fd := T.s.def_ 20 (d := d_bk_init) rfl
theorem Txt.f_bk_do (T : Txt K mg) : ∃ fd, FunD K d_bk_do.name d_bk_do.qual d_bk_do.params d_bk_do.body d_bk_do.scope [] [] (He.fAd K d_bk_do.at_) fd := T.s.def_ 21 (d := d_bk_do) rfl
theorem Txt.f_bk_back (T : Txt K mg) : ∃ fd, FunD K d_bk_back.name d_bk_back.qual d_bk_back.params d_bk_back.body d_bk_back.scope [] [] (He.fAd K d_bk_back.at_) fd := T.s.def_ 22 (d := d_bk_back) rfl
theorem Txt.f_bk_stand (T : Txt K mg) : ∃ fd, FunD K d_bk_stand.name d_bk_stand.qual d_bk_stand.params d_bk_stand.body d_bk_stand.scope [] [] (He.fAd K d_bk_stand.at_) fd := T.s.def_ 23 (d := d_bk_stand) rfl
theorem Txt.f_bk_tick (T : Txt K mg) : ∃ fd, FunD K d_bk_tick.name d_bk_tick.qual d_bk_tick.params d_bk_tick.body d_bk_tick.scope [] [] (He.fAd K d_bk_tick.at_) fd := T.s.def_ 24 (d := d_bk_tick) rfl
theorem Txt.f_bk_marks (T : Txt K mg) : ∃ fd, FunD K d_bk_marks.name d_bk_marks.qual d_bk_marks.params d_bk_marks.body d_bk_marks.scope [] [] (He.fAd K d_bk_marks.at_) fd := T.s.def_ 25 (d := d_bk_marks) rfl
theorem Txt.f_bk_colours (T : Txt K mg) : ∃ fd, FunD K d_bk_colours.name d_bk_colours.qual d_bk_colours.params d_bk_colours.body d_bk_colours.scope [] [] (He.fAd K d_bk_colours.at_) fd := T.s.def_ 26 (d := d_bk_colours) rfl
theorem Txt.f_bk_book (T : Txt K mg) : ∃ fd, FunD K d_bk_book.name d_bk_book.qual d_bk_book.params d_bk_book.body d_bk_book.scope [] [] (He.fAd K d_bk_book.at_) fd := T.s.def_ 27 (d := d_bk_book) rfl
theorem Txt.f_bk_eq (T : Txt K mg) : ∃ fd, FunD K d_bk_eq.name d_bk_eq.qual d_bk_eq.params d_bk_eq.body d_bk_eq.scope [] [] (He.fAd K d_bk_eq.at_) fd := T.s.def_ 28 (d := d_bk_eq) rfl
theorem Txt.f_bk_len (T : Txt K mg) : ∃ fd, FunD K d_bk_len.name d_bk_len.qual d_bk_len.params d_bk_len.body d_bk_len.scope [] [] (He.fAd K d_bk_len.at_) fd := T.s.def_ 29 (d := d_bk_len) rfl
theorem Txt.f_bk_str (T : Txt K mg) : ∃ fd, FunD K d_bk_str.name d_bk_str.qual d_bk_str.params d_bk_str.body d_bk_str.scope [] [] (He.fAd K d_bk_str.at_) fd := T.s.def_ 30 (d := d_bk_str) rfl
theorem Txt.f_w_draw (T : Txt K mg) : ∃ fd, FunD K d_w_draw.name d_w_draw.qual d_w_draw.params d_w_draw.body d_w_draw.scope [] [] (He.fAd K d_w_draw.at_) fd := T.s.def_ 31 (d := d_w_draw) rfl
theorem Txt.f_w_whole (T : Txt K mg) : ∃ fd, FunD K d_w_whole.name d_w_whole.qual d_w_whole.params d_w_whole.body d_w_whole.scope [] [] (He.fAd K d_w_whole.at_) fd := T.s.def_ 32 (d := d_w_whole) rfl
theorem Txt.f_w_within (T : Txt K mg) : ∃ fd, FunD K d_w_within.name d_w_within.qual d_w_within.params d_w_within.body d_w_within.scope [] [] (He.fAd K d_w_within.at_) fd := T.s.def_ 33 (d := d_w_within) rfl
theorem Txt.f_w_like (T : Txt K mg) : ∃ fd, FunD K d_w_like.name d_w_like.qual d_w_like.params d_w_like.body d_w_like.scope [] [] (He.fAd K d_w_like.at_) fd := T.s.def_ 34 (d := d_w_like) rfl
theorem Txt.f_w_spoilt (T : Txt K mg) : ∃ fd, FunD K d_w_spoilt.name d_w_spoilt.qual d_w_spoilt.params d_w_spoilt.body d_w_spoilt.scope [] [] (He.fAd K d_w_spoilt.at_) fd := T.s.def_ 35 (d := d_w_spoilt) rfl
theorem Txt.f_w_is_name (T : Txt K mg) : ∃ fd, FunD K d_w_is_name.name d_w_is_name.qual d_w_is_name.params d_w_is_name.body d_w_is_name.scope [] [] (He.fAd K d_w_is_name.at_) fd := T.s.def_ 36 (d := d_w_is_name) rfl
theorem Txt.f_w_any (T : Txt K mg) : ∃ fd, FunD K d_w_any.name d_w_any.qual d_w_any.params d_w_any.body d_w_any.scope [] [] (He.fAd K d_w_any.at_) fd := T.s.def_ 37 (d := d_w_any) rfl
theorem Txt.f_w_shape (T : Txt K mg) : ∃ fd, FunD K d_w_shape.name d_w_shape.qual d_w_shape.params d_w_shape.body d_w_shape.scope [] [] (He.fAd K d_w_shape.at_) fd := T.s.def_ 38 (d := d_w_shape) rfl
theorem Txt.f_w_spots (T : Txt K mg) : ∃ fd, FunD K d_w_spots.name d_w_spots.qual d_w_spots.params d_w_spots.body d_w_spots.scope [] [] (He.fAd K d_w_spots.at_) fd := T.s.def_ 39 (d := d_w_spots) rfl
theorem Txt.f_w_spot (T : Txt K mg) : ∃ fd, FunD K d_w_spot.name d_w_spot.qual d_w_spot.params d_w_spot.body d_w_spot.scope [] [] (He.fAd K d_w_spot.at_) fd := T.s.def_ 40 (d := d_w_spot) rfl
theorem Txt.f_w_a_deed (T : Txt K mg) : ∃ fd, FunD K d_w_a_deed.name d_w_a_deed.qual d_w_a_deed.params d_w_a_deed.body d_w_a_deed.scope [] [] (He.fAd K d_w_a_deed.at_) fd := T.s.def_ 41 (d := d_w_a_deed) rfl
theorem Txt.f_w_cells (T : Txt K mg) : ∃ fd, FunD K d_w_cells.name d_w_cells.qual d_w_cells.params d_w_cells.body d_w_cells.scope [] [] (He.fAd K d_w_cells.at_) fd := T.s.def_ 42 (d := d_w_cells) rfl
theorem Txt.f_w_pairs (T : Txt K mg) : ∃ fd, FunD K d_w_pairs.name d_w_pairs.qual d_w_pairs.params d_w_pairs.body d_w_pairs.scope [] [] (He.fAd K d_w_pairs.at_) fd := T.s.def_ 43 (d := d_w_pairs) rfl
theorem Txt.f_w_moved (T : Txt K mg) : ∃ fd, FunD K d_w_moved.name d_w_moved.qual d_w_moved.params d_w_moved.body d_w_moved.scope [] [] (He.fAd K d_w_moved.at_) fd := T.s.def_ 44 (d := d_w_moved) rfl
theorem Txt.f_w_due (T : Txt K mg) : ∃ fd, FunD K d_w_due.name d_w_due.qual d_w_due.params d_w_due.body d_w_due.scope [] [] (He.fAd K d_w_due.at_) fd := T.s.def_ 45 (d := d_w_due) rfl
theorem Txt.f_w_pressed (T : Txt K mg) : ∃ fd, FunD K d_w_pressed.name d_w_pressed.qual d_w_pressed.params d_w_pressed.body d_w_pressed.scope [] [] (He.fAd K d_w_pressed.at_) fd := T.s.def_ 46 (d := d_w_pressed) rfl
theorem Txt.f_w_no_drop (T : Txt K mg) : ∃ fd, FunD K d_w_no_drop.name d_w_no_drop.qual d_w_no_drop.params d_w_no_drop.body d_w_no_drop.scope [] [] (He.fAd K d_w_no_drop.at_) fd := T.s.def_ 47 (d := d_w_no_drop) rfl
theorem Txt.f_w_is_deed (T : Txt K mg) : ∃ fd, FunD K d_w_is_deed.name d_w_is_deed.qual d_w_is_deed.params d_w_is_deed.body d_w_is_deed.scope [] [] (He.fAd K d_w_is_deed.at_) fd := T.s.def_ 48 (d := d_w_is_deed) rfl
theorem Txt.f_w_right (T : Txt K mg) : ∃ fd, FunD K d_w_right.name d_w_right.qual d_w_right.params d_w_right.body d_w_right.scope [] [] (He.fAd K d_w_right.at_) fd := T.s.def_ 49 (d := d_w_right) rfl
theorem Txt.f_w_copied (T : Txt K mg) : ∃ fd, FunD K d_w_copied.name d_w_copied.qual d_w_copied.params d_w_copied.body d_w_copied.scope [] [] (He.fAd K d_w_copied.at_) fd := T.s.def_ 50 (d := d_w_copied) rfl
theorem Txt.f_w_done (T : Txt K mg) : ∃ fd, FunD K d_w_done.name d_w_done.qual d_w_done.params d_w_done.body d_w_done.scope [] [] (He.fAd K d_w_done.at_) fd := T.s.def_ 51 (d := d_w_done) rfl
theorem Txt.f_w_word (T : Txt K mg) : ∃ fd, FunD K d_w_word.name d_w_word.qual d_w_word.params d_w_word.body d_w_word.scope [] [] (He.fAd K d_w_word.at_) fd := T.s.def_ 52 (d := d_w_word) rfl
theorem Txt.f_law (T : Txt K mg) : ∃ fd, FunD K d_law.name d_law.qual d_law.params d_law.body d_law.scope [] [] (He.fAd K d_law.at_) fd := T.s.def_ 53 (d := d_law) rfl
end
theorem _root_.L2.Room.units65 {k : Nat} {A : Around} (r : Room k A) : A.units + 65 < cLine := by
  have := r.un
  omega
/-! ### the rules with the written part by its name (within a block too) -/
section
variable {X : Cx} {K : PySem.W.Frag} {e o value tg it : Expr} {es : List Expr} {te ta tv : TE} {t : TA} {f : Str} {pos pos' : Pos}
theorem kix_tup (h : X.K = K := by rfl) : IxR X (rIxT K) := by subst h; exact ix_tup
theorem kix_list (h : X.K = K := by rfl) : IxR X (rIxL K) := by subst h; exact ix_list
theorem kix_seq (h : X.K = K := by rfl) : IxR X (rIx K) := by subst h; exact ix_seq
theorem kcall_isi (h : X.K = K := by rfl) : CallR X (.builtin "isinstance") (rIsi K) := by subst h; exact call_isi
theorem kcall_isiT (h : X.K = K := by rfl) : CallR X (.builtin "isinstance") (rIsiT K) := by subst h; exact call_isiT
abbrev rLenQ (K : PySem.W.Frag) : List V → Hp → VK → Prop := fun xs H Q => ∃ p ys, xs = [.ref p] ∧ (SqL K H p ys ∨ SqT K H p ys) ∧ Q (.int ys.length) H
theorem kcall_len (h : X.K = K := by rfl) : CallR X (.builtin "len") (rLenQ K) := by subst h; exact call_len_seq
theorem kcall_list (h : X.K = K := by rfl) : CallR X (.type "list") (rListOf K) := by subst h; exact call_list_of
theorem kcall_tuple (h : X.K = K := by rfl) : CallR X (.type "tuple") (rTupOf K) := by subst h; exact call_tuple_of
theorem kcr_all (hc : X.calm = true := by rfl) (h : X.K = K := by rfl) : CallR X (.builtin "all") (rAll K) := by subst h; exact cr_all hc
theorem kcr_sum (hc : X.calm = true := by rfl) (h : X.K = K := by rfl) : CallR X (.builtin "sum") (rSum K) := by subst h; exact cr_sum hc
theorem kcr_max (hc : X.calm = true := by rfl) (h : X.K = K := by rfl) : CallR X (.builtin "max") (rMax K) := by subst h; exact cr_max hc
theorem kop_in (h : X.K = K := by rfl) : OpR X (compareOp .In) (rIn K false) := by subst h; exact op_in_seq
theorem kop_notIn (h : X.K = K := by rfl) : OpR X (compareOp .NotIn) (rIn K true) := by subst h; exact op_notIn_seq
theorem kop_eqD (hu : X.A.units + 64 < cLine) (h : X.K = K := by rfl) : OpR X (compareOp .Eq) (rEqD K) := by subst h; exact op_eqD hu
theorem kop_neD (hu : X.A.units + 64 < cLine) (h : X.K = K := by rfl) : OpR X (compareOp .NotEq) (rNeD K) := by subst h; exact op_neD hu
theorem kop_notInD (hu : X.A.units + 65 < cLine) (h : X.K = K := by rfl) : OpR X (compareOp .NotIn) (rNotInD K) := by subst h; exact op_notInD hu
theorem kop_catA (h : X.K = K := by rfl) : OpR X (binaryOp .Add) (rCatA K) := by subst h; exact op_catA
theorem ksl_tup (h : X.K = K := by rfl) : SlR X (rSlA K) := by subst h; exact sl_tupA
theorem ksl_list (h : X.K = K := by rfl) : SlR X (rSlL K) := by subst h; exact sl_list
theorem kpe_revL {k : Nat} {p1 p2 p3 : Pos} (he : PE X e te) (h : X.K = K := by rfl) : PE X (.Subscript e (.Slice none none (some (.UnaryOp .USub (.Constant (.int 1) k p1) p2)) p3) pos) (tRevL K te) := by subst h; exact pe_revL he
theorem kpe_fld (he : PE X e ta) (hb : attributeBase e f X.env (eval e X.env) = eval e X.env) (h : X.K = K := by rfl) : PE X (.Attribute e f pos) (tFld K ta f) := by subst h; exact pe_fld he hb
theorem kps_fld (ha : PE X o ta) (hv : PE X value tv) (hs : swapsWith value (some (.Attribute o f pos')) pos.line X.env = pure false) (h : X.K = K := by rfl) : PS X (.Assign [.Attribute o f pos'] value pos) (sFld K ta tv f) := by subst h; exact ps_fld ha hv hs
theorem kpg_tup {k : Nat} {u : TGs} {n : Nat} (hc : X.calm = true) (h : PGs X es u) (hK : X.K = K := by rfl) (hn : (assignEach es X.env).length = n := by rfl) (hst : (assignEach es X.env).findIdx? (·.1) = none := by rfl) : PG X (.Tuple es k pos) (gTup K n u) := by subst hK; exact pg_tup hc h hn hst
theorem kpi_list (hl : PE X e te) (h : X.K = K := by rfl) : PI X tg e (iList K te) := by subst h; exact pi_list hl
theorem kpi_tup (hl : PE X e te) (h : X.K = K := by rfl) : PI X tg e (iTup K te) := by subst h; exact pi_tup hl
theorem kpi_zip {e2 : Expr} {p tpos : Pos} {elts : List Expr} {kk : Nat} (hg : Gl X "zip") (hm : X.mg "zip" = none) (ha : PA X [e, e2] t) (h : X.K = K := by rfl)
    (hs : starEach [e, e2] X.env = (false, eval e X.env) :: starEach [e2] X.env := by rfl) (hpl : (backTo pos (starEach [e2] X.env)).any (·.1) = false := by rfl) :
    PI X (.Tuple elts kk tpos) (.Call (.Name "zip" p) [e, e2] [] pos) (iZip K t) := by subst h; exact pi_zip hg hm ha hs hpl
theorem kmt_index (h : X.K = K := by rfl) : MtR X "list.index" (rIndex K) := by subst h; exact mt_index
theorem kpe_bm {name : Str} {apos cpos : Pos} {Ty id : String} {r : V → List V → Hp → VK → Prop} (pa : PlainAttrs Ty) (slot : Slot Ty name id) (hty : typeOf (.builtin id) = pure (.type "method_descriptor")) (hm : MtR X id r) (ho : PE X o ta) (ha : PA X (e :: es) t)
    (h : X.K = K := by rfl) (hbase : attributeBase o name X.env (eval o X.env) = eval o X.env := by rfl)
    (hfew : ((backTo cpos (starEach (e :: es) X.env)).all (fun x => !x.1) && (backToKw cpos (keywordEach [] X.env)).all (fun x => x.1.isSome)
      && decide ((e :: es).length + ([] : List Keyword).length + (if ([] : List Keyword).isEmpty then 0 else 1) < 30)) = true := by rfl)
    (hline : (apos.endLine == cpos.line) = true := by rfl) (hs : starEach (e :: es) X.env = (false, eval e X.env) :: starEach es X.env := by rfl) (hplain : (backTo cpos (starEach es X.env)).any (·.1) = false := by rfl) :
    PE X (.Call (.Attribute o name apos) (e :: es) [] cpos) (tBM K Ty r ta t) := by subst h; exact pe_bm pa slot hty hm ho ha hbase hfew hline hs hplain
end
/-! ### defs: that one keeps a promise; calls -/
def Ok (P : Program) (w : World) (K : PySem.W.Frag) (mg : Str → Option Value) (base : Heap) (CX : CXT) (k : Nat) (d : He.DefD) (ps : List Str) (sp : Sp) : Prop :=
  ∃ fd, FnOk P w K mg base CX k (He.fAd K d.at_) fd ps sp ∧ Binds K fd ps [] ∧ PySem.W.keepIn K (.ref (He.fAd K d.at_)) = true
theorem Ok.mono {P : Program} {w : World} {K : PySem.W.Frag} {mg : Str → Option Value} {base : Heap} {CX : CXT} {j k : Nat} {d : He.DefD} {ps : List Str} {sp : Sp} (G : Ok P w K mg base CX j d ps sp) (h : j ≤ k) : Ok P w K mg base CX k d ps sp := by
  obtain ⟨fd, F, b, c⟩ := G
  exact ⟨fd, F.mono h, b, c⟩
theorem Ok.imp {P : Program} {w : World} {K : PySem.W.Frag} {mg : Str → Option Value} {base : Heap} {CX : CXT} {k : Nat} {d : He.DefD} {ps : List Str} {sp sp' : Sp} (G : Ok P w K mg base CX k d ps sp) (h : ∀ vs H Q E, sp' vs H Q E → sp vs H Q E) : Ok P w K mg base CX k d ps sp' := by
  obtain ⟨fd, F, b, c⟩ := G
  exact ⟨fd, F.imp h, b, c⟩
section
variable {X : Cx} {CX : CXT} {k : Nat} {d : He.DefD} {ps : List Str} {sp : Sp} {E : XK} {x m : Str} {p pos apos : Pos} {e o : Expr} {es : List Expr} {ta : TE} {t : TA} {C : Addr}
theorem pe_callO (G : Ok X.prog X.w X.K X.mg X.base CX k d ps sp) (hr : Room k X.A) (hg : Gl X x) (hm : X.mg x = some (.ref (He.fAd X.K d.at_))) (hx : Passes CX X E)
    (ha : PA X (e :: es) t) (hdb : (x == ("__debug__" : Str)) = false := by decide) (he : starEach (e :: es) X.env = (false, eval e X.env) :: starEach es X.env := by rfl) (hpl : (backTo pos (starEach es X.env)).any (·.1) = false := by rfl) :
    PE X (.Call (.Name x p) (e :: es) [] pos) (tCall sp [] E t) := by
  obtain ⟨fd, F, b, c⟩ := G
  exact pe_call F hr hg hm c b .nil hx ha hdb he hpl
theorem pe_methO {pl : Sem Bool} (he : PE X o ta) (c : Cls X.K C) (hm : Meth X.K C m (He.fAd X.K d.at_)) (G : Ok X.prog X.w X.K X.mg X.base CX k d ps sp) (hr : Room k X.A) (hx : Passes CX X E) (ha : PA X (e :: es) t)
    (hst : starEach (e :: es) X.env = (false, eval e X.env) :: starEach es X.env := by rfl) (hpl : (backTo pos (starEach es X.env)).any (·.1) = false := by rfl)
    (ht : eval (.Call (.Attribute o m apos) (e :: es) [] pos) X.env = (do
      let ov ← eval o X.env
      standAt apos.atName
      let (f, first) ← holding [ov] (getMethod ov m pl)
      callWith pos f first (backTo pos (starEach (e :: es) X.env)) (backToKw pos (keywordEach [] X.env))) := by rfl) :
    PE X (.Call (.Attribute o m apos) (e :: es) [] pos) (tMeth C m sp [] E ta t) := by
  obtain ⟨fd, F, b, _⟩ := G
  exact pe_meth he c hm F hr b .nil hx ha hst hpl ht
theorem pe_methO0 {pl : Sem Bool} (he : PE X o ta) (c : Cls X.K C) (hm : Meth X.K C m (He.fAd X.K d.at_)) (G : Ok X.prog X.w X.K X.mg X.base CX k d ps sp) (hr : Room k X.A) (hx : Passes CX X E)
    (ht : eval (.Call (.Attribute o m apos) [] [] pos) X.env = (do
      let ov ← eval o X.env
      standAt apos.atName
      let (f, first) ← holding [ov] (getMethod ov m pl)
      callWith pos f first (backTo pos (starEach [] X.env)) (backToKw pos (keywordEach [] X.env))) := by rfl) :
    PE X (.Call (.Attribute o m apos) [] [] pos) (tMeth C m sp [] E ta tNil) := by
  obtain ⟨fd, F, b, _⟩ := G
  exact pe_meth0 he c hm F hr b .nil hx ht
theorem pe_makeO (M : Mk X.K C (He.fAd X.K d.at_)) (G : Ok X.prog X.w X.K X.mg X.base CX k d ps sp) (hr : Room (k + 1) X.A) (hg : Gl X x) (hm : X.mg x = some (.ref C)) (hx : Passes CX X E)
    (ha : PA X (e :: es) t) (hdb : (x == ("__debug__" : Str)) = false := by decide) (he : starEach (e :: es) X.env = (false, eval e X.env) :: starEach es X.env := by rfl) (hpl : (backTo pos (starEach es X.env)).any (·.1) = false := by rfl) :
    PE X (.Call (.Name x p) (e :: es) [] pos) (tMake C sp [] E t) := by
  obtain ⟨fd, F, b, _⟩ := G
  exact pe_make M F hr hg hm b .nil hx ha hdb he hpl
end
/-- nothing frozen -/
abbrev noH : Hp := fun _ => none
theorem at_noH {F H : Hp} (s : Same F H) : At noH noH F H := ⟨fun _ _ e => (nomatch e), s, fun _ _ e => (nomatch e)⟩
abbrev BindsD (d : He.DefD) (ps : List Str) : Prop := ∀ (kV doc pm : Value) (an : Option Addr) (cdv ct : Value) (us : List Value), us.length = ps.length → bindArgs (PySem.W.fnOf d.name d.qual d.params d.body d.scope .none kV doc pm an cdv ct) ⟨us, []⟩ = pure (ps.zip us)
theorem sv_rho {F0 B : Hp} {t : TS} {ρ ρ' : Rho} {o : Out} (e : ρ' = ρ) (h : Sv F0 B t ρ o) : Sv F0 B t ρ' o := e ▸ h
section
variable {P : Program} {w : World} {K : PySem.W.Frag} {mg : Str → Option Value} {base : Heap} {k : Nat} {d : He.DefD} {N ps : List Str}
/-- a def by its body: any promise -/
theorem okG {CX : CXT} {sp : Sp} (F : ∃ fd, FunD K d.name d.qual d.params d.body d.scope [] [] (He.fAd K d.at_) fd) (S : FnScope N ps d.scope) (hb : BindsD d ps) (len : ∀ vs H Q E, sp vs H Q E → vs.length = ps.length)
    (hbody : ∀ (cdv : Value) (A : Around) (outer : List PySem.Env) (s : Shared) (H : Hp) (vs : List V) (Q : VK) (E : XK), Room k (A.deeper (envOfC d.qual d.scope s.heap.objs.size (He.fAd K d.at_) cdv)) → sp vs H Q E →
      ∃ t, PSs (cxOf CX P w K mg base N d.qual d.scope (He.fAd K d.at_) cdv A outer s H E) d.body t ∧ t { nx := fun _ H' => Q .non H', rt := Q } (L2.start N vs) H) : Ok P w K mg base CX (k + 1) d ps sp := by
  obtain ⟨fd, F⟩ := F
  exact ⟨fd, F.ok S len hbody, F.bindsN hb, F.kp⟩
/-- a pure def by its body -/
theorem okD {Pr : List Da → Da → Prop} (F : ∃ fd, FunD K d.name d.qual d.params d.body d.scope [] [] (He.fAd K d.at_) fd) (S : FnScope N ps d.scope) (hb : BindsD d ps) (len : ∀ ds r, Pr ds r → ds.length = ps.length)
    (hbody : ∀ (cdv : Value) (A : Around) (outer : List PySem.Env) (s : Shared) (H : Hp) (E : XK), Room k (A.deeper (envOfC d.qual d.scope s.heap.objs.size (He.fAd K d.at_) cdv)) →
      ∃ t, PSs (cxOf CX0 P w K mg base N d.qual d.scope (He.fAd K d.at_) cdv A outer s H E).nox d.body t ∧ ∀ ds r, Pr ds r → Sv noH noH t (startR N ds) (.rt r)) : Ok P w K mg base CX0 (k + 1) d ps (spD Pr) := by
  refine okG F S hb (fun vs H Q E h => ?_) fun cdv A outer s H vs Q E hr h => ?_
  · obtain ⟨F, ds, r, _, hd, p, _⟩ := h
    rw [hd.length]
    exact len ds r p
  · obtain ⟨F, ds, r, sm, hd, p, q⟩ := h
    obtain ⟨t, ht, hs⟩ := hbody cdv A outer s H E hr
    exact ⟨t, ht.nox, hs ds r p _ F H (at_noH sm) (env_start hd) _ fun v F' H' g d => q v F' H' g d⟩
end
end Bb
/-! BbM -/
/-! The mirror: what the defs give, over plain data. -/
namespace Bb
open PySem PySem.Spec PyProof.Rows L2
/-! ### scalars -/
def withinB (lo hi : Int) : Da → Bool
  | .int i => decide (lo ≤ i) && decide (i ≤ hi)
  | _ => false
def wholeB : Da → Bool
  | .int _ => true
  | _ => false
abbrev letters : Str := "abcdefghijklmnopqrstuvwxyz"
def nameB : Da → Bool
  | .str s => decide (1 ≤ s.length) && decide (s.length ≤ 8) && s.cps.toList.all fun c => decide (c ∈ letters.cps.toList)
  | _ => false
/-- data whose texts can be asked for their length -/
def Fin (t : Da) : Prop := t.isOb = false ∧ ∀ s, t = .str s → s.length ≤ 1000000 ∧ s.cps.all (· < 0x110000) = true
/-! ### shapes, spots, stands -/
abbrev Tri := Int × Int × Int
def triD (s : Tri) : Da := .tup [.int s.1, .int s.2.1, .int s.2.2]
def shD (m w : Nat) : Da := .tup [.int m, .int w]
def stD (st : List Tri) : Da := .tup (st.map triD)
def spotB (m w : Nat) : Da → Bool
  | .tup [a, b, c] => withinB 0 (m - 1) a && (withinB 0 1 b && withinB 0 (w - 1) c)
  | _ => false
def firstSt (m : Nat) : List Tri := (List.range m).map fun (i : Nat) => ((i : Int), 0, 0)
def farI (w : Nat) (about cell : Int) : Int := if about = 1 then w - 1 - cell else cell
/-- the pairs at a gap, as the program lists them -/
def pairsP (w : Nat) (p q : Tri) : List (Tri × Tri) := (List.range w).map fun (c : Nat) => ((p.1, 1 - p.2.1, (c : Int)), (q.1, q.2.1, farI w q.2.2 (farI w p.2.2 c)))
def prD (p : Tri × Tri) : Da := .tup [triD p.1, triD p.2]
def cellsL (w : Nat) (about : Int) : List Int := if about = 1 then ((List.range w).map fun (i : Nat) => (i : Int)).reverse else (List.range w).map fun (i : Nat) => (i : Int)
/-- .. as the law lists them -/
def pairsL (w : Nat) (p q : Tri) : List (Tri × Tri) := ((cellsL w p.2.2).zip (cellsL w q.2.2)).map fun z => ((p.1, 1 - p.2.1, z.1), (q.1, q.2.1, z.2))
def spotsL (m w : Nat) : List Tri := (List.range m).flatMap fun (l : Nat) => (List.range 2).flatMap fun (s : Nat) => (List.range w).map fun (c : Nat) => ((l : Int), (s : Int), (c : Int))
/-! ### deeds -/
inductive Dd where
  | press (g : Nat) | swap (g : Nat) | over (p : Nat) | about (p : Nat) | wait (t : Nat)
def ddD : Dd → Da
  | .press g => .tup [.str "press", .int g]
  | .swap g => .tup [.str "swap", .int g]
  | .over p => .tup [.str "over", .int p]
  | .about p => .tup [.str "about", .int p]
  | .wait t => .tup [.str "wait", .int t]
def Dd.ok (m : Nat) : Dd → Prop
  | .press g => g + 1 < m
  | .swap g => g + 1 < m
  | .over p => p < m
  | .about p => p < m
  | .wait t => 1 ≤ t ∧ t ≤ 9
def deedB (m : Nat) : Da → Bool
  | .tup [.str s, a] => if s = "press" ∨ s = "swap" then withinB 0 (m - 2) a else if s = "over" ∨ s = "about" then withinB 0 (m - 1) a else decide (s = "wait") && withinB 1 9 a
  | _ => false
def Dd.takes : Dd → Nat
  | .wait t => t
  | _ => 1
def Dd.move (st : List Tri) : Dd → List Tri
  | .press _ => st
  | .wait _ => st
  | .swap g => st.take g ++ ([st.getD (g + 1) (0, 0, 0), st.getD g (0, 0, 0)] ++ st.drop (g + 2))
  | .over p => st.take p ++ ([((st.getD p (0, 0, 0)).1, 1 - (st.getD p (0, 0, 0)).2.1, (st.getD p (0, 0, 0)).2.2)] ++ st.drop (p + 1))
  | .about p => st.take p ++ ([((st.getD p (0, 0, 0)).1, (st.getD p (0, 0, 0)).2.1, 1 - (st.getD p (0, 0, 0)).2.2)] ++ st.drop (p + 1))
theorem withinB_int {lo hi : Int} {d : Da} (h : withinB lo hi d = true) : ∃ i, d = .int i ∧ lo ≤ i ∧ i ≤ hi := by
  cases d with
  | int i =>
    have h' : (decide (lo ≤ i) && decide (i ≤ hi)) = true := h
    rw [Bool.and_eq_true_iff] at h'
    exact ⟨i, rfl, of_decide_eq_true h'.1, of_decide_eq_true h'.2⟩
  | _ => cases h
theorem withinB_nat {hi : Int} {d : Da} (h : withinB 0 hi d = true) : ∃ i : Nat, d = .int i ∧ (i : Int) ≤ hi := by
  obtain ⟨i, rfl, h0, h1⟩ := withinB_int h
  exact ⟨i.toNat, by rw [Int.toNat_of_nonneg h0], by omega⟩
/-- a deed is one of five -/
theorem deedB_dd {m : Nat} {d : Da} (h : deedB m d = true) : ∃ dd, d = ddD dd ∧ dd.ok m := by
  unfold deedB at h
  split at h
  · rename_i s a
    split at h
    · rename_i hs
      obtain ⟨i, rfl, hi⟩ := withinB_nat h
      rcases hs with rfl | rfl
      · exact ⟨.press i, rfl, by show i + 1 < m; omega⟩
      · exact ⟨.swap i, rfl, by show i + 1 < m; omega⟩
    · split at h
      · rename_i hs
        obtain ⟨i, rfl, hi⟩ := withinB_nat h
        rcases hs with rfl | rfl
        · exact ⟨.over i, rfl, by show i < m; omega⟩
        · exact ⟨.about i, rfl, by show i < m; omega⟩
      · rw [Bool.and_eq_true_iff] at h
        obtain ⟨i, rfl, h0, h1⟩ := withinB_int h.2
        have e : s = "wait" := of_decide_eq_true h.1
        subst e
        exact ⟨.wait i.toNat, by show _ = Da.tup [.str "wait", .int i.toNat]; rw [Int.toNat_of_nonneg (by omega)], by show 1 ≤ i.toNat ∧ i.toNat ≤ 9; omega⟩
  · cases h
theorem spotB_tri {m w : Nat} {d : Da} (h : spotB m w d = true) : ∃ s : Tri, d = triD s ∧ 0 ≤ s.1 ∧ s.1 < m ∧ 0 ≤ s.2.1 ∧ s.2.1 ≤ 1 ∧ 0 ≤ s.2.2 ∧ s.2.2 < w := by
  unfold spotB at h
  split at h
  · rename_i a b c
    rw [Bool.and_eq_true_iff, Bool.and_eq_true_iff] at h
    obtain ⟨h1, h2, h3⟩ := h
    obtain ⟨i, rfl, i0, i1⟩ := withinB_int h1
    obtain ⟨j, rfl, j0, j1⟩ := withinB_int h2
    obtain ⟨k, rfl, k0, k1⟩ := withinB_int h3
    exact ⟨(i, j, k), rfl, i0, by show i < m; omega, j0, j1, k0, by show k < w; omega⟩
  · cases h
end Bb
/-! BbR -/
namespace Bb
open PySem PySem.Spec PyProof.Rows L2
section
variable {F0 B : Hp} {ρ ρ' ρ1 : Rho} {K : PySem.W.Frag} {d e x y z : Da} {ds es xs ys : List Da} {ta tb tc te : TE} {tt tu : TT} {t u : TS} {o : Out} {r r' : R2}
theorem DtA.strs {F : Hp} : ∀ {vs : List V} {l : List Str}, DtA F vs (l.map Da.str) → vs = l.map V.str
  | _, [], h => by cases h; rfl
  | _, i :: l, h => by
    cases h with
    | cons a r =>
      cases a
      rw [DtA.strs r]
      rfl
theorem inV_strs (s : Str) : ∀ l : List Str, inV (.str s) (l.map V.str) = decide (s ∈ l)
  | [] => by simp [inV]
  | a :: l => by
    have ih := inV_strs s l
    unfold inV at ih ⊢
    rw [List.map_cons, List.any_cons, ih]
    by_cases e : s = a
    · subst e; simp [eqV]
    · have e' : ¬ a = s := fun q => e q.symm
      have eb : (a == s) = false := beq_eq_false_iff_ne.mpr e'
      simp [eqV, e, eb]
theorem flat_strs : ∀ l : List Str, (l.map V.str).all flatV = true
  | [] => rfl
  | a :: l => by rw [List.map_cons, List.all_cons, flat_strs l]; rfl
theorem rd_inS {neg : Bool} {s : Str} (l : List Str) : RD F0 B (rIn K neg) (.str s) (.tup (l.map Da.str)) (.bl (if neg then !decide (s ∈ l) else decide (s ∈ l))) := rd_val fun F H v u a dx dy Q q => by
  obtain ⟨p, vs, rfl, hp, hd⟩ := dy.of_tup
  have e := hd.strs
  subst e
  rw [dx.of_str]
  refine ⟨p, _, rfl, .inr (SqT.of (a.h _ _ hp)), rfl, flat_strs l, q _ ?_⟩
  rw [inV_strs]
  exact .bl _
theorem rd_inC {c : Nat} {s : Str} : RD F0 B (fun x y H Q => ∃ (c : Nat) (z : Str), x = .str ⟨#[c]⟩ ∧ y = .str z ∧ Q (.bl (decide (c ∈ z.cps.toList))) H) (.str ⟨#[c]⟩) (.str s) (.bl (decide (c ∈ s.cps.toList))) := rd_val fun F H v u a dx dy Q q =>
  ⟨c, s, dx.of_str, dy.of_str, q _ (.bl _)⟩
theorem rd_notInC {c : Nat} {s : Str} : RD F0 B (fun x y H Q => ∃ (c : Nat) (z : Str), x = .str ⟨#[c]⟩ ∧ y = .str z ∧ Q (.bl (!decide (c ∈ z.cps.toList))) H) (.str ⟨#[c]⟩) (.str s) (.bl (!decide (c ∈ s.cps.toList))) := rd_val fun F H v u a dx dy Q q =>
  ⟨c, s, dx.of_str, dy.of_str, q _ (.bl _)⟩
theorem py_list (xs : List Da) : (Da.lst xs).py = .list (xs.map Da.py) := by rw [Da.py, pyAll_map]
theorem py_tup (xs : List Da) : (Da.tup xs).py = .tuple (xs.map Da.py) := by rw [Da.py, pyAll_map]
theorem rd_notInD (p1 : x.plain = true) (p2 : (Da.lst ds).plain = true) (s1 : SeqAt.shaped x.py = true) (s2 : SeqAt.shaped (Da.lst ds).py = true) : RD F0 B (rNotInD K) x (.lst ds) (.bl (!ds.any fun z => PyData.eqv z.py x.py)) := rd_val fun F H v u a dx dy Q q => by
  refine ⟨_, ds.map Da.py, dx.dp a.h p1, by rw [← py_list]; exact dy.dp a.h p2, s1, by rw [← py_list]; exact s2, q _ ?_⟩
  rw [List.any_map]
  exact .bl _
/-- a method of a built-in list, by data -/
theorem dv_bmL {q : V → List V → Hp → VK → Prop} {tr : TA} (h : Dv F0 B ta ρ (.lst xs)) (hr : DvA F0 B tr ρ ds)
    (k : ∀ F H a vs us, At F0 B F H → F a = some (.lst vs) → DtA F vs xs → DtA F us ds → ∀ Q : VK, (∀ w, Dt F w z → Q w H) → q (.ref a) us H Q) : Dv F0 B (tBM K "list" q ta tr) ρ z := fun σ F H a E Q f =>
  h σ F H a E _ fun v F1 H1 g1 d1 => by
    obtain ⟨p, vs, rfl, hp, hd⟩ := d1.of_lst
    refine ⟨.inl ⟨rfl, vs, SqL.of (g1.fh _ _ hp)⟩, hr σ F1 H1 (a.go g1) (E.mono g1.ff) _ fun us F2 H2 g2 d2 => ?_⟩
    exact k F2 H2 p vs us ((a.go g1).go g2) (g2.ff _ _ hp) (hd.mono g2.ff) d2 Q fun w hw => f w F2 H2 (g1.trans0 g2) hw
theorem flat_ints : ∀ l : List Int, (l.map V.int).all flatV = true
  | [] => rfl
  | a :: l => by rw [List.map_cons, List.all_cons, flat_ints l]; rfl
/-- l.index(k) of whole numbers -/
theorem dv_index {tr : TA} {l : List Int} {k : Int} {j : Nat} (h : Dv F0 B ta ρ (.lst (l.map Da.int))) (hr : DvA F0 B tr ρ [.int k]) (hj : l[j]? = some k) (hn : k ∉ l.take j) : Dv F0 B (tBM K "list" (rIndex K) ta tr) ρ (.int j) :=
  dv_bmL h hr fun F H a vs us at_ hp hd hu Q q => by
    obtain ⟨v, rfl, hv⟩ := hu.sole
    have e := hd.ints
    subst e
    rw [hv.of_int]
    refine ⟨a, l.map V.int, .int k, j, .int k, rfl, rfl, SqL.of (at_.h _ _ hp), rfl, flat_ints l, by rw [List.getElem?_map, hj]; rfl, by simp [eqV], fun m z' hm hz => ?_, q _ (.int _)⟩
    rw [List.getElem?_map] at hz
    cases e : l[m]? with
    | none => rw [e] at hz; cases hz
    | some i =>
      rw [e] at hz
      cases hz
      have : i ∈ l.take j := by
        refine List.mem_iff_getElem?.mpr ⟨m, ?_⟩
        rw [List.getElem?_take_of_lt hm]
        exact e
      have ne : i ≠ k := fun q => hn (q ▸ this)
      simp [eqV, ne]
end
end Bb
/-! BbQ -/
namespace Bb
open PySem PySem.Spec PyProof.Rows L2
section
variable {F0 B : Hp} {ρ ρ' ρ1 : Rho} {K : PySem.W.Frag} {d e x y z : Da} {ds es xs ys : List Da} {ta tb tc te : TE} {tt tu : TT} {t u : TS} {o : Out} {r r' : R2}
/-- less is known -/
def Le (ρ' ρ : Rho) : Prop := ρ'.length = ρ.length ∧ ∀ (i : Nat) (d : Da), ρ'[i]? = some (some d) → ρ[i]? = some (some d)
theorem Env.weak {F : Hp} {σ : L2.St} (e : Env F σ ρ) (h : Le ρ' ρ) : Env F σ ρ' := ⟨e.len.trans h.1.symm, fun i d q => e.at_ i d (h.2 i d q)⟩
theorem Le.refl : Le ρ ρ := ⟨rfl, fun _ _ h => h⟩
/-- .. by a computation: at each place the same or nothing -/
theorem le_nil : Le [] [] := ⟨rfl, fun i d h => h⟩
theorem le_keep {a : Option Da} (h : Le ρ' ρ) : Le (a :: ρ') (a :: ρ) := ⟨by rw [List.length_cons, List.length_cons, h.1], fun i d q => by
  cases i with
  | zero => exact q
  | succ i => exact h.2 i d q⟩
theorem le_drop {a : Option Da} (h : Le ρ' ρ) : Le (none :: ρ') (a :: ρ) := ⟨by rw [List.length_cons, List.length_cons, h.1], fun i d q => by
  cases i with
  | zero => cases q
  | succ i => exact h.2 i d q⟩
theorem sv_le (h : Le ρ' ρ) (s : Sv F0 B t ρ' o) : Sv F0 B t ρ o := by
  cases o with
  | nx r => exact fun σ F H a E D k => s σ F H a (E.weak h) D k
  | rt d => exact fun σ F H a E D k => s σ F H a (E.weak h) D k
theorem dv_le (h : Le ρ' ρ) (s : Dv F0 B te ρ' d) : Dv F0 B te ρ d := fun σ F H a E Q k => s σ F H a (E.weak h) Q k
/-- found = []; for ..: b1; found.append(te) ; return found -/
theorem sv_collect {α : Type} {wi : TI} {g : TG} {b1 : TS} {j : Nat} (l : List α) (gd f : α → Da) (hl : l.length < sizeLine) (hj : j < ρ.length)
    (hi : ∀ a : Addr, DvI F0 B wi (ρ.set j (some (.ob (.ref a)))) (l.map gd))
    (turn : ∀ (a : Addr) (x : α), x ∈ l → ∃ ρx ρy, Bl F0 B g (ρ.set j (some (.ob (.ref a)))) (gd x) ρx ∧ Sv F0 B b1 ρx (.nx ρy) ∧ Dv F0 B te ρy (f x) ∧ Le (ρ.set j (some (.ob (.ref a)))) ρy) :
    Sv F0 B (tSeq (tAsg (tLst tNil) (gName j)) (tSeq (tFor wi g (tSeq b1 (tDrop (tBM K "list" rAppend (tVar j) (tCons te tNil))))) (tRet (tVar j)))) ρ (.rt (.lst (l.map f))) := fun σ F H a E D k => by
  refine ⟨Nat.zero_le _, fun p hp => ?_⟩
  have g0 : Gr [] F H F (upd H p (.lst [])) := Gr.newM a.h hp
  have nF : F p = none := by
    cases e : F p with
    | none => rfl
    | some o => rw [a.h _ _ e] at hp; cases hp
  have E0 : Env F (σ.set j (some (.ref p))) (ρ.set j (some (.ob (.ref p)))) := E.set (.ob _)
  have hjv : (ρ.set j (some (Da.ob (.ref p))))[j]? = some (some (.ob (.ref p))) := List.getElem?_set_self hj
  refine hi p _ F _ (a.go g0) E0 _ fun J F1 H1 g1 Y => ?_
  have g01 := g0.trans0 g1
  have hl1 : H1 p = some (.lst []) := g1.same _ _ upd_same
  have nF1 : F1 p = none := by rw [g1.nw p _ upd_same rfl]; exact nF
  refine ⟨fun i m σ' H' => m = l.length - i ∧ i ≤ l.length ∧ ∃ F', Gr [] F H F' H' ∧ Same F1 F' ∧ Env F' σ' (ρ.set j (some (.ob (.ref p)))) ∧ F' p = none ∧ ∃ acc, H' p = some (.lst acc) ∧ DtA F' acc ((l.take i).map f),
    ⟨l.length, by simp, Nat.zero_le _, F1, g01, Same.refl _, E0.mono g1.ff, nF1, [], hl1, .nil⟩, ?_⟩
  rintro i m σ' H' ⟨rfl, hle, F', g', s1, E', nF', acc, hacc, hd⟩
  have a' : At F0 B F' H' := a.go g'
  by_cases hlt : i < l.length
  · have hx0 : l[i]? = some l[i] := List.getElem?_eq_getElem hlt
    have hx : (l.map gd)[i]? = some (gd l[i]) := by rw [List.getElem?_map, hx0]; rfl
    refine .inr ⟨Y.go F' H' ⟨s1, g'.fh⟩ i _ hx, fun σ2 H2 => i + 1 ≤ l.length ∧ ∃ F2, Gr [] F H F2 H2 ∧ Same F1 F2 ∧ Env F2 σ2 (ρ.set j (some (.ob (.ref p)))) ∧ F2 p = none ∧ ∃ acc, H2 p = some (.lst acc) ∧ DtA F2 acc ((l.take (i + 1)).map f),
      fun σ2 H2 ⟨h1, h2⟩ => ⟨l.length - (i + 1), by omega, rfl, h1, h2⟩, fun v H2 hy => ?_⟩
    obtain ⟨F2, g2, hv⟩ := Y.yld F' H' ⟨s1, g'.fh⟩ i _ hx v H2 hy
    obtain ⟨ρx, ρy, hb, hs, he, hle'⟩ := turn p _ (List.getElem_mem hlt)
    refine hb _ F2 H2 v (a'.go g2) (E'.mono g2.ff) hv _ fun σ3 E3 => ?_
    refine hs σ3 F2 H2 (a'.go g2) E3 _ fun σ4 F4 H4 g4 E4 => ?_
    have a4 := (a'.go g2).go g4
    have E4' := E4.weak hle'
    obtain ⟨v4, e4, h4⟩ := E4'.at_ j _ hjv
    rw [h4.of_ob] at e4
    have g24 := g2.trans0 g4
    have hp4 : H4 p = some (.lst acc) := g24.same _ _ hacc
    refine ⟨_, e4, .inl ⟨rfl, acc, SqL.of hp4⟩, he σ4 F4 H4 a4 E4 _ fun w F5 H5 g5 hw => ?_⟩
    have hp5 : H5 p = some (.lst acc) := g5.same _ _ hp4
    have g25 := g24.trans0 g5
    have nF5 : F5 p = none := by rw [g25.nw p _ hacc rfl]; exact nF'
    have hd5 := hd.mono g25.ff
    refine ⟨p, acc, w, rfl, rfl, hp5, ?_, hlt, F5, (g'.trans0 g25).mine hp nF5, s1.trans g25.ff, E4'.mono g5.ff, nF5, _, upd_same, ?_⟩
    · rw [hd.length, List.length_map, List.length_take]
      omega
    · rw [List.take_succ_eq_append_getElem hlt, List.map_append]
      exact hd5.append (.cons hw .nil)
  · have e : i = l.length := by omega
    subst e
    rw [List.take_length] at hd
    refine .inl ⟨by have q := Y.stop F' H' ⟨s1, g'.fh⟩; rw [List.length_map] at q; exact q, ?_⟩
    obtain ⟨v4, e4, h4⟩ := E'.at_ j _ hjv
    rw [h4.of_ob] at e4
    have gf := g'.freeze hp nF' hacc
    exact ⟨_, e4, k _ _ _ gf (.lst upd_same (hd.mono (fun b u e => by rw [upd_ne (ne_of_none e nF')]; exact e)))⟩
/-- list(range(n)) -/
theorem dv_listRg {n : Nat} (h : Dv F0 B te ρ (.int n)) (hn : n ≤ 10000) : Dv F0 B (tLstRg (tRg1 te)) ρ (.lst (rangeD n)) := fun σ F H a E Q k => h σ F H a E _ fun v F1 H1 g1 d1 => by
  refine ⟨n, d1.of_int, RgOk.of_le (by omega) (by omega) (by omega) (by omega), fun q hq => ?_⟩
  have g := Gr.new (o := .lst (rgV 0 n)) g1.fh hq
  refine k _ _ _ (g1.trans0 g) (.lst upd_same ?_)
  have e1 : rgV 0 n = ((List.range n).map fun (i : Nat) => (i : Int)).map V.int := by
    unfold rgV
    rw [List.map_map]
    rw [show ((n : Int) - 0).toNat = n by omega]
    refine List.map_congr_left fun i _ => ?_
    show V.int (0 + (i : Int)) = V.int (i : Int)
    rw [Int.zero_add]
  have e2 : rangeD n = ((List.range n).map fun (i : Nat) => (i : Int)).map Da.int := by
    unfold rangeD
    rw [List.map_map]
    rfl
  rw [e1, e2]
  exact .of_ints _
theorem sv_nx (h : Sv F0 B t ρ (.nx ρ1)) (l : Le ρ' ρ1) : Sv F0 B t ρ (.nx ρ') := fun σ F H a E D k => h σ F H a E D fun σ' F' H' g E' => k σ' F' H' g (E'.weak l)
/-- d.get(text, whole number) of a dict that stands -/
theorem dv_dget2 {td ty tx : TE} {p : Addr} {kvs : List (Key × V)} {s : Str} {i : Int} {oi : Option Int} (h : Dv F0 B td ρ (.ob (.ref p))) (hB : B p = some (.dK kvs)) (hy : Dv F0 B ty ρ (.str s)) (hx : Dv F0 B tx ρ (.int i)) (hv : valV kvs (.inr s) = oi.map V.int) :
    Dv F0 B (tDGet2 td ty tx) ρ (.int (oi.getD i)) := fun σ F H a E Q k => h σ F H a E _ fun v F1 H1 g1 d1 => by
  have h1 : H1 p = some (.dK kvs) := g1.same _ _ (a.b _ _ hB)
  refine ⟨p, d1.of_ob, .inl ⟨kvs, .inl h1⟩, hy σ F1 H1 (a.go g1) (E.mono g1.ff) _ fun u F2 H2 g2 d2 => hx σ F2 H2 ((a.go g1).go g2) ((E.mono g1.ff).mono g2.ff) _ fun w F3 H3 g3 d3 => ?_⟩
  have h3 : H3 p = some (.dK kvs) := g3.same _ _ (g2.same _ _ h1)
  refine ⟨_, by rw [d2.of_str]; exact DGet.k (k := Sum.inr s) h3, k _ F3 H3 ((g1.trans0 g2).trans0 g3) ?_⟩
  rw [hv, d3.of_int]
  cases oi with
  | none => exact .int _
  | some j => exact .int _
theorem rd_ixSeqL {i : Int} (h : atI ds i = some z) : RD F0 B (rIx K) (.lst ds) (.int i) z := fun F H v u a dx dy Q k => .inl (rd_ixL h F H v u a dx dy Q k)
theorem rd_ixSeqT {i : Int} (h : atI ds i = some z) : RD F0 B (rIx K) (.tup ds) (.int i) z := fun F H v u a dx dy Q k => .inr (.inl (rd_ixT h F H v u a dx dy Q k))
/-- == of scalars that are no mixture of truths and numbers -/
def Da.scal : Da → Da → Bool
  | .non, .non => true | .non, .int _ => true | .non, .str _ => true
  | .int _, .non => true | .int _, .int _ => true | .int _, .str _ => true
  | .str _, .non => true | .str _, .int _ => true | .str _, .str _ => true
  | .bl _, .bl _ => true
  | _, _ => false
def Da.eqS : Da → Da → Bool
  | .non, .non => true
  | .int i, .int j => decide (i = j)
  | .str i, .str j => decide (i = j)
  | .bl i, .bl j => decide (i = j)
  | _, _ => false
theorem rd_eqSc (h : x.scal y = true) : RD F0 B rEq x y (.bl (x.eqS y)) := rd_val fun F H v u a dx dy Q q => by
  cases x <;> cases y <;> first | (cases h; done) | skip
  all_goals (cases dx; cases dy; refine ⟨rfl, q _ ?_⟩)
  all_goals (simp [Da.eqS]; exact .bl _)
theorem shaped_ints (l : List Int) : SeqAt.shaped (Da.lst (l.map Da.int)).py = true := by
  have h1 : ∀ l : List Int, PyData.canLayAll0 ((l.map Da.int).map Da.py) = true := fun l => by
    induction l with
    | nil => rfl
    | cons a l ih => exact ih
  have h2 : ∀ l : List Int, PyData.depthAll ((l.map Da.int).map Da.py) = 0 := fun l => by
    induction l with
    | nil => rfl
    | cons a l ih =>
      show max 0 (PyData.depthAll ((l.map Da.int).map Da.py)) = 0
      rw [ih]
      rfl
  rw [py_list]
  unfold SeqAt.shaped
  rw [PyData.canLay0, h1, PyData.depth, h2]
  rfl
theorem plain_ints (l : List Int) : (Da.lst (l.map Da.int)).plain = true := by
  have h1 : ∀ l : List Int, Da.plain.plainAll (l.map Da.int) = true := fun l => by
    induction l with
    | nil => rfl
    | cons a l ih => exact ih
  rw [Da.plain]
  exact h1 l
/-- [..] == [], [..] != [] of whole numbers -/
theorem rd_eqNil {l : List Int} : RD F0 B (rEqD K) (.lst (l.map Da.int)) (.lst []) (.bl (decide (l = []))) := by
  have h := rd_eqD (F0 := F0) (B := B) (K := K) (plain_ints l) (plain_ints []) (shaped_ints l) (shaped_ints [])
  have e : PyData.eqv (Da.lst (l.map Da.int)).py (Da.lst (([] : List Int).map Da.int)).py = decide (l = []) := by
    cases l with
    | nil => rfl
    | cons a l => rfl
  rw [e] at h
  exact h
theorem rd_neNil {l : List Int} : RD F0 B (rNeD K) (.lst (l.map Da.int)) (.lst []) (.bl (!decide (l = []))) := by
  have h := rd_neD (F0 := F0) (B := B) (K := K) (plain_ints l) (plain_ints []) (shaped_ints l) (shaped_ints [])
  have e : PyData.eqv (Da.lst (l.map Da.int)).py (Da.lst (([] : List Int).map Da.int)).py = decide (l = []) := by
    cases l with
    | nil => rfl
    | cons a l => rfl
  rw [e] at h
  exact h
end
end Bb
/-! Bb1 -/
namespace Bb
open PySem PySem.Spec PyProof.Rows L2

def R_is_within (ds : List Da) (r : Da) : Prop := ∃ t lo hi, ds = [t, .int lo, .int hi] ∧ t.isOb = false ∧ r = .bl (withinB lo hi t)
def R_is_name (ds : List Da) (r : Da) : Prop := ∃ t, ds = [t] ∧ Fin t ∧ r = .bl (nameB t)
def R_is_shape (ds : List Da) (r : Da) : Prop := ∃ m w : Nat, ds = [shD m w] ∧ 1 ≤ m ∧ m ≤ 5 ∧ 1 ≤ w ∧ w ≤ 5 ∧ r = .bl true
def R_is_spot (ds : List Da) (r : Da) : Prop := ∃ m w t, ds = [shD m w, t] ∧ t.plain = true ∧ r = .bl (spotB m w t)
def R_first_stand (ds : List Da) (r : Da) : Prop := ∃ m w : Nat, ds = [shD m w] ∧ m ≤ 100 ∧ r = stD (firstSt m)
def R_far (ds : List Da) (r : Da) : Prop := ∃ (m w : Nat) (a c : Int), ds = [shD m w, .int a, .int c] ∧ r = .int (farI w a c)
theorem plainAll_mem : ∀ {xs : List Da}, Da.plain.plainAll xs = true → ∀ x ∈ xs, x.plain = true
  | y :: ys, h, x, hx => by
    have h' := Bool.and_eq_true_iff.mp (show (Da.plain y && Da.plain.plainAll ys) = true from h)
    rcases List.mem_cons.mp hx with rfl | q
    · exact h'.1
    · exact plainAll_mem h'.2 x q
theorem plain_ob {d : Da} (h : d.plain = true) : d.isOb = false := by cases d <;> first | rfl | (simp [Da.plain] at h)
theorem plain_tup {xs : List Da} (h : (Da.tup xs).plain = true) : ∀ x ∈ xs, x.plain = true := plainAll_mem (by simpa [Da.plain] using h)
section
variable {P : Program} {w : World} {K : PySem.W.Frag} {mg : Str → Option Value} {base : Heap}
abbrev N_is_within : List Str := ["thing", "low", "high"]
abbrev P_is_within : List Str := ["thing", "low", "high"]
theorem sc_is_within : FnScope N_is_within P_is_within (defScope s_is_within) := ⟨rfl, rfl, rfl, by decide +kernel, rfl, by decide +kernel, by decide +kernel⟩
theorem b_is_within : BindsD d_is_within P_is_within := fun _ _ _ _ _ _ us hl => match us, hl with | [_, _, _], _ => rfl
theorem ok_is_within (T : Txt K mg)  : Ok P w K mg base CX0 1 d_is_within P_is_within (spD R_is_within) := by
  refine okD T.f_is_within sc_is_within b_is_within (fun ds r h => ?_) fun cdv A outer s H E hr => ⟨_, (pss_one (ps_ret (pe_and (pe_callB (kcall_isi (K := K)) (by rfl) T.n_isinstance (by decide +kernel) (pa_cons (pv 0) (pa_cons (pe_bltn (v := .ty "int") (u := .type "int") rfl T.n_int (by decide +kernel) rfl) pa_nil))) (pe_and (pe_not (pe_callB (kcall_isi (K := K)) (by rfl) T.n_isinstance (by decide +kernel) (pa_cons (pv 0) (pa_cons (pe_bltn (v := .ty "bool") (u := .type "bool") rfl T.n_bool (by decide +kernel) rfl) pa_nil)))) (pe_one (pe_chain op_le op_le (pv 1) (pv 0) (pv 2))))))), fun ds r h => ?_⟩
  · obtain ⟨t, lo, hi, rfl, _⟩ := h
    rfl
  · obtain ⟨t, lo, hi, rfl, ho, rfl⟩ := h
    refine sv_ret ?_
    refine dv_to (dv_and (c := !t.isT "bool" && withinB lo hi t) (dv_cb (da_cons (dv_var rfl) (da_cons dv_ty da_nil)) (rc_isi (n := ho))) fun b1 => dv_and (dv_not (dv_cb (da_cons (dv_var rfl) (da_cons dv_ty da_nil)) (rc_isi (n := ho)))) fun b2 => ?_) ?_
    · cases t with
      | int i => exact dv_chain (dv_var rfl) (dv_var rfl) rd_B0 (fun _ => dv_var rfl) (fun _ => rd_B0)
      | bl b => simp [Da.isT] at b2
      | _ => simp [Da.isT] at b1
    · cases t <;> simp [Da.isT, withinB] at *
abbrev N_is_name : List Str := ["thing", "sign"]
abbrev P_is_name : List Str := ["thing"]
theorem sc_is_name : FnScope N_is_name P_is_name (defScope s_is_name) := ⟨rfl, rfl, rfl, by decide +kernel, rfl, by decide +kernel, by decide +kernel⟩
theorem b_is_name : BindsD d_is_name P_is_name := fun _ _ _ _ _ _ us hl => match us, hl with | [_], _ => rfl
theorem ok_is_name (T : Txt K mg)  : Ok P w K mg base CX0 1 d_is_name P_is_name (spD R_is_name) := by
  obtain ⟨t0, e_LETTERS⟩ := T.i_LETTERS
  refine okD T.f_is_name sc_is_name b_is_name (fun ds r h => ?_) fun cdv A outer s H E hr => ⟨_, (pss_one (ps_ret (pe_and (pe_callB (kcall_isi (K := K)) (by rfl) T.n_isinstance (by decide +kernel) (pa_cons (pv 0) (pa_cons (pe_bltn (v := .ty "str") (u := .type "str") rfl T.n_str (by decide +kernel) rfl) pa_nil))) (pe_and (pe_chain op_le op_le pe_int (pe_callB call_len_str (by rfl) T.n_len (by decide +kernel) (pa_cons (pv 0) pa_nil)) pe_int) (pe_one (pe_callB (kcr_all (K := K)) (by rfl) T.n_all (by decide +kernel) (pa_cons (pe_lc (own := [("sign", 1)]) rfl sc_is_name.nd (pi_str (pv 0)) (blkOk_by (N := N_is_name) (sc := defScope s_is_name) (by decide +kernel)) (fun _ _ _ _ _ => (pg_name (i := 1) sc_is_name.nd rfl (.inl rfl))) (fun _ _ _ _ _ => pts_nil) (fun _ _ _ _ _ => (pe_cmpR op_in_sign (pv 1) (pe_glob (v := .str "abcdefghijklmnopqrstuvwxyz") rfl e_LETTERS ⟨_, rfl⟩) rfl))) pa_nil))))))), fun ds r h => ?_⟩
  · obtain ⟨t, rfl, _⟩ := h
    rfl
  · obtain ⟨t, rfl, ⟨ho, hl⟩, rfl⟩ := h
    refine sv_ret ?_
    cases t with
    | str s =>
      have hs := (hl s rfl).1
      have hz : s.length < sizeLine := by rw [sizeLine_eq]; omega
      have all : Dv noH noH (tCB (rAll K) (tCons (tLc (iStr (tVar 0)) (gName 1) tYes (tOp (fun x y H Q => ∃ (c : Nat) (z : Str), x = .str ⟨#[c]⟩ ∧ y = .str z ∧ Q (.bl (decide (c ∈ z.cps.toList))) H) (tVar 1) (tC (.str letters))) [1]) tNil)) [some (Da.str s), none] (.bl ((s.cps.toList.map fun c => decide (c ∈ letters.cps.toList)).all id)) :=
        dv_cb (da_cons (dv_to (dv_lcM s.cps.toList (fun c => .str ⟨#[c]⟩) (fun c => .bl (decide (c ∈ letters.cps.toList))) (di_str s (dv_var rfl)) hz fun c hc => ⟨_, bd_name, dv_op (dv_var rfl) dv_str rd_inC⟩) (by rw [List.map_map]; rfl)) da_nil) rc_all
      refine dv_to (dv_and (c := (decide ((1 : Int) ≤ s.length) && decide ((s.length : Int) ≤ 8)) && (s.cps.toList.map fun c => decide (c ∈ letters.cps.toList)).all id) (dv_cb (da_cons (dv_var rfl) (da_cons dv_ty da_nil)) (rc_isi (n := ho))) fun b1 => dv_and (dv_chain dv_int (dv_cb (da_cons (dv_var rfl) da_nil) (rc_lenS (Nat.le_of_lt hz))) rd_B0 (fun _ => dv_int) (fun _ => rd_B0)) fun b2 => all) ?_
      have e1 : decide ((1 : Int) ≤ s.length) = decide (1 ≤ s.length) := by simp; omega
      have e2 : decide ((s.length : Int) ≤ 8) = decide (s.length ≤ 8) := by simp; omega
      rw [e1, e2, List.all_map]
      simp [Da.isT, nameB]
    | _ => exact dv_to (dv_and (c := false) (dv_cb (da_cons (dv_var rfl) (da_cons dv_ty da_nil)) (rc_isi (n := ho))) (fun b => by simp [Da.isT] at b)) (by simp [Da.isT, nameB])
abbrev N_is_shape : List Str := ["thing"]
abbrev P_is_shape : List Str := ["thing"]
theorem sc_is_shape : FnScope N_is_shape P_is_shape (defScope s_is_shape) := ⟨rfl, rfl, rfl, by decide +kernel, rfl, by decide +kernel, by decide +kernel⟩
theorem b_is_shape : BindsD d_is_shape P_is_shape := fun _ _ _ _ _ _ us hl => match us, hl with | [_], _ => rfl
theorem ok_is_shape (T : Txt K mg) (G_is_within : Ok P w K mg base CX0 1 d_is_within P_is_within (spD R_is_within)) : Ok P w K mg base CX0 2 d_is_shape P_is_shape (spD R_is_shape) := by
  obtain ⟨t1, e_MOST_LEAVES⟩ := T.i_MOST_LEAVES
  obtain ⟨t2, e_MOST_CELLS⟩ := T.i_MOST_CELLS
  refine okD T.f_is_shape sc_is_shape b_is_shape (fun ds r h => ?_) fun cdv A outer s H E hr => ⟨_, (pss_cons (ps_if (PW.pt (pw_or (pt_not (pt_val (pe_callB (kcall_isi (K := K)) (by rfl) T.n_isinstance (by decide +kernel) (pa_cons (pv 0) (pa_cons (pe_bltn (v := .ty "tuple") (u := .type "tuple") rfl T.n_tuple (by decide +kernel) rfl) pa_nil))))) (pw_or1 (pt_cmpR op_ne (pe_callB (kcall_len (K := K)) (by rfl) T.n_len (by decide +kernel) (pa_cons (pv 0) pa_nil)) pe_int (nomark _))))) (pss_one (ps_ret pe_bl)) pss_nil)
  (pss_one (ps_ret (pe_and (pe_callO G_is_within (hr.mono (by decide)) rfl T.g_is_within pass0 (pa_cons (pe_ix (kix_tup (K := K)) (pv 0) pe_int (fun _ _ => rfl)) (pa_cons pe_int (pa_cons (pe_glob (v := .int 5) rfl e_MOST_LEAVES ⟨_, rfl⟩) pa_nil)))) (pe_one (pe_callO G_is_within (hr.mono (by decide)) rfl T.g_is_within pass0 (pa_cons (pe_ix (kix_tup (K := K)) (pv 0) pe_int (fun _ _ => rfl)) (pa_cons pe_int (pa_cons (pe_glob (v := .int 5) rfl e_MOST_CELLS ⟨_, rfl⟩) pa_nil))))))))), fun ds r h => ?_⟩
  · obtain ⟨m, w, rfl, _⟩ := h
    rfl
  · obtain ⟨m, w, rfl, m1, m5, w1, w5, rfl⟩ := h
    have ho : (shD m w).isOb = false := rfl
    refine sv_ifS (dt_or (dt_not (dt_val (dv_cb (da_cons (dv_var rfl) (da_cons dv_ty da_nil)) (rc_isi (n := ho))))) fun _ => dt_test (dv_op (dv_cb (da_cons (dv_var rfl) da_nil) rc_lenT) dv_int rd_neI)) (fun b => by simp [shD, Da.isT] at b) fun _ => sv_nextS (sv_ret ?_)
    refine dv_to (dv_and (dv_call (da_cons (dv_op (dv_var rfl) dv_int (rd_ixT (by rfl))) (da_cons dv_int (da_cons dv_int da_nil))) ⟨_, _, _, rfl, rfl, rfl⟩) fun _ => dv_call (da_cons (dv_op (dv_var rfl) dv_int (rd_ixT (by rfl))) (da_cons dv_int (da_cons dv_int da_nil))) ⟨_, _, _, rfl, rfl, rfl⟩) ?_
    simp [withinB]
    omega
abbrev N_is_spot : List Str := ["shape", "thing"]
abbrev P_is_spot : List Str := ["shape", "thing"]
theorem sc_is_spot : FnScope N_is_spot P_is_spot (defScope s_is_spot) := ⟨rfl, rfl, rfl, by decide +kernel, rfl, by decide +kernel, by decide +kernel⟩
theorem b_is_spot : BindsD d_is_spot P_is_spot := fun _ _ _ _ _ _ us hl => match us, hl with | [_, _], _ => rfl
theorem ok_is_spot (T : Txt K mg) (G_is_within : Ok P w K mg base CX0 1 d_is_within P_is_within (spD R_is_within)) : Ok P w K mg base CX0 2 d_is_spot P_is_spot (spD R_is_spot) := by
  refine okD T.f_is_spot sc_is_spot b_is_spot (fun ds r h => ?_) fun cdv A outer s H E hr => ⟨_, (pss_cons (ps_if (PW.pt (pw_or (pt_not (pt_val (pe_callB (kcall_isi (K := K)) (by rfl) T.n_isinstance (by decide +kernel) (pa_cons (pv 1) (pa_cons (pe_bltn (v := .ty "tuple") (u := .type "tuple") rfl T.n_tuple (by decide +kernel) rfl) pa_nil))))) (pw_or1 (pt_cmpR op_ne (pe_callB (kcall_len (K := K)) (by rfl) T.n_len (by decide +kernel) (pa_cons (pv 1) pa_nil)) pe_int (nomark _))))) (pss_one (ps_ret pe_bl)) pss_nil)
  (pss_one (ps_ret (pe_and (pe_callO G_is_within (hr.mono (by decide)) rfl T.g_is_within pass0 (pa_cons (pe_ix (kix_tup (K := K)) (pv 1) pe_int (fun _ _ => rfl)) (pa_cons pe_int (pa_cons (pe_op op_sub (pe_ix (kix_tup (K := K)) (pv 0) pe_int (fun _ _ => rfl)) pe_int) pa_nil)))) (pe_and (pe_callO G_is_within (hr.mono (by decide)) rfl T.g_is_within pass0 (pa_cons (pe_ix (kix_tup (K := K)) (pv 1) pe_int (fun _ _ => rfl)) (pa_cons pe_int (pa_cons pe_int pa_nil)))) (pe_one (pe_callO G_is_within (hr.mono (by decide)) rfl T.g_is_within pass0 (pa_cons (pe_ix (kix_tup (K := K)) (pv 1) pe_int (fun _ _ => rfl)) (pa_cons pe_int (pa_cons (pe_op op_sub (pe_ix (kix_tup (K := K)) (pv 0) pe_int (fun _ _ => rfl)) pe_int) pa_nil)))))))))), fun ds r h => ?_⟩
  · obtain ⟨m, w, t, rfl, _⟩ := h
    rfl
  · obtain ⟨m, w, t, rfl, hp, rfl⟩ := h
    have ho := plain_ob hp
    cases t with
    | tup xs =>
      refine sv_ifS (dt_or (dt_not (dt_val (dv_cb (da_cons (dv_var rfl) (da_cons dv_ty da_nil)) (rc_isi (n := ho))))) fun _ => dt_test (dv_op (dv_cb (da_cons (dv_var rfl) da_nil) rc_lenT) dv_int rd_neI)) (fun b => sv_seqR (sv_ret (dv_to dv_bl ?_))) fun b => sv_nextS (sv_ret ?_)
      · simp [Da.isT] at b
        have nb : ¬ xs.length = 3 := by omega
        unfold spotB
        split
        · rename_i a1 a2 a3 e
          cases e
          exact absurd rfl nb
        · rfl
      · simp [Da.isT] at b
        have l3 : xs.length = 3 := by omega
        match xs, l3 with
        | [a1, a2, a3], _ =>
          have p := plain_tup hp
          exact dv_to (dv_and (dv_call (da_cons (dv_op (dv_var rfl) dv_int (rd_ixT (by rfl))) (da_cons dv_int (da_cons (dv_op (dv_op (dv_var rfl) dv_int (rd_ixT (by rfl))) dv_int rd_I0) da_nil))) ⟨_, _, _, rfl, plain_ob (p a1 (by simp)), rfl⟩) fun _ => dv_and (dv_call (da_cons (dv_op (dv_var rfl) dv_int (rd_ixT (by rfl))) (da_cons dv_int (da_cons dv_int da_nil))) ⟨_, _, _, rfl, plain_ob (p a2 (by simp)), rfl⟩) fun _ =>
            dv_call (da_cons (dv_op (dv_var rfl) dv_int (rd_ixT (by rfl))) (da_cons dv_int (da_cons (dv_op (dv_op (dv_var rfl) dv_int (rd_ixT (by rfl))) dv_int rd_I0) da_nil))) ⟨_, _, _, rfl, plain_ob (p a3 (by simp)), rfl⟩) rfl
    | _ => exact sv_ifS (dt_or (c := false) (dt_not (dt_val (dv_cb (da_cons (dv_var rfl) (da_cons dv_ty da_nil)) (rc_isi (n := ho))))) fun b => by simp [Da.isT] at b) (fun b => sv_seqR (sv_ret (dv_to dv_bl rfl))) fun b => by simp [Da.isT] at b
abbrev N_first_stand : List Str := ["shape", "leaf"]
abbrev P_first_stand : List Str := ["shape"]
theorem sc_first_stand : FnScope N_first_stand P_first_stand (defScope s_first_stand) := ⟨rfl, rfl, rfl, by decide +kernel, rfl, by decide +kernel, by decide +kernel⟩
theorem b_first_stand : BindsD d_first_stand P_first_stand := fun _ _ _ _ _ _ us hl => match us, hl with | [_], _ => rfl
theorem ok_first_stand (T : Txt K mg)  : Ok P w K mg base CX0 1 d_first_stand P_first_stand (spD R_first_stand) := by
  refine okD T.f_first_stand sc_first_stand b_first_stand (fun ds r h => ?_) fun cdv A outer s H E hr => ⟨_, (pss_one (ps_ret (pe_callTy (kcall_tuple (K := K)) (by rfl) T.n_tuple (by decide +kernel) (pa_cons (pe_lc (own := [("leaf", 1)]) rfl sc_first_stand.nd (pi_range1 (by rfl) T.n_range (pa_cons (pe_ix (kix_tup (K := K)) (pv 0) pe_int (fun _ _ => rfl)) pa_nil)) (blkOk_by (N := N_first_stand) (sc := defScope s_first_stand) (by decide +kernel)) (fun _ _ _ _ _ => (pg_name (i := 1) sc_first_stand.nd rfl (.inl rfl))) (fun _ _ _ _ _ => pts_nil) (fun _ _ _ _ _ => (pe_tup (pa_cons (pv 1) (pa_cons pe_int (pa_cons pe_int pa_nil)))))) pa_nil)))), fun ds r h => ?_⟩
  · obtain ⟨m, w, rfl, _⟩ := h
    rfl
  · obtain ⟨m, w, rfl, hm, rfl⟩ := h
    refine sv_ret (dv_to (dv_cb (da_cons (dv_lcM (List.range m) (fun (i : Nat) => .int i) (fun (i : Nat) => .tup [.int i, .int 0, .int 0]) (di_range (n := m) (da_cons (dv_op (dv_var rfl) dv_int (rd_ixT (by rfl))) da_nil) (by omega) (by omega)) (by rw [List.length_range, sizeLine_eq]; omega) fun i hi =>
      ⟨_, bd_name, dv_tup (da_cons (dv_var rfl) (da_cons dv_int (da_cons dv_int da_nil))) (small_ rfl)⟩) da_nil) rc_tupL) ?_)
    unfold stD firstSt
    rw [List.map_map]
    rfl
abbrev N_far_from_back : List Str := ["shape", "about", "cell"]
abbrev P_far_from_back : List Str := ["shape", "about", "cell"]
theorem sc_far_from_back : FnScope N_far_from_back P_far_from_back (defScope s_far_from_back) := ⟨rfl, rfl, rfl, by decide +kernel, rfl, by decide +kernel, by decide +kernel⟩
theorem b_far_from_back : BindsD d_far_from_back P_far_from_back := fun _ _ _ _ _ _ us hl => match us, hl with | [_, _, _], _ => rfl
theorem ok_far_from_back (T : Txt K mg)  : Ok P w K mg base CX0 1 d_far_from_back P_far_from_back (spD R_far) := by
  refine okD T.f_far_from_back sc_far_from_back b_far_from_back (fun ds r h => ?_) fun cdv A outer s H E hr => ⟨_, (pss_one (ps_ret (pe_ifExp (pt_cmpR op_eq (pv 1) pe_int (nomark _)) (pe_op op_sub (pe_op op_sub (pe_ix (kix_tup (K := K)) (pv 0) pe_int (fun _ _ => rfl)) pe_int) (pv 2)) (pv 2)))), fun ds r h => ?_⟩
  · obtain ⟨m, w, a, c, rfl, _⟩ := h
    rfl
  · obtain ⟨m, w, a, c, rfl, rfl⟩ := h
    refine sv_ret (dv_if (dt_test (dv_op (dv_var rfl) dv_int rd_eqI)) (fun b => dv_to (dv_op (dv_op (dv_op (dv_var rfl) dv_int (rd_ixT (by rfl))) dv_int rd_I0) (dv_var rfl) rd_I0) ?_) fun b => dv_to (dv_var rfl) ?_)
    · have b' := of_decide_eq_true b
      subst b'
      rfl
    · have b' := of_decide_eq_false b
      unfold farI
      rw [if_neg b']
end
end Bb
/-! Bb2 -/
namespace Bb
open PySem PySem.Spec PyProof.Rows L2

def R_is_deed (ds : List Da) (r : Da) : Prop := ∃ m w t, ds = [shD m w, t] ∧ t.plain = true ∧ r = .bl (deedB m t)
def R_takes (ds : List Da) (r : Da) : Prop := ∃ dd, ds = [ddD dd] ∧ r = .int dd.takes
def R_moved (ds : List Da) (r : Da) : Prop := ∃ (st : List Tri) (dd : Dd), ds = [stD st, ddD dd] ∧ dd.ok st.length ∧ st.length ≤ 100 ∧ r = stD (dd.move st)
theorem sIx_to {n p : Nat} {i : Int} (e : i = (p : Int)) (h : p ≤ n) (d : Nat) : HT.sIx n d (some i) = p := by
  rw [e, HT.sIx_nat]
  exact Nat.min_eq_left h
theorem cut_to {xs : List Da} {i : Int} {p : Nat} (e : i = (p : Int)) (h : p ≤ xs.length) : cutD xs none (some i) = xs.take p := by
  unfold cutD
  rw [sIx_to e h, HT.sIx_none]
  simp
theorem cut_from {xs : List Da} {i : Int} {p : Nat} (e : i = (p : Int)) (h : p ≤ xs.length) : cutD xs (some i) none = xs.drop p := by
  unfold cutD
  rw [sIx_to e h, HT.sIx_none]
  exact List.take_of_length_le (by simp)
theorem at_map {α : Type} {l : List α} {f : α → Da} {i : Int} {p : Nat} {a : α} (e : i = (p : Int)) (h : l[p]? = some a) : atI (l.map f) i = some (f a) := by
  rw [e]
  exact atI_nat (by rw [List.getElem?_map, h]; rfl)
theorem getD_at {α : Type} {l : List α} {p : Nat} {d : α} (h : p < l.length) : l[p]? = some (l.getD p d) := by
  rw [List.getD_eq_getElem?_getD, List.getElem?_eq_getElem h]
  rfl
section
variable {P : Program} {w : World} {K : PySem.W.Frag} {mg : Str → Option Value} {base : Heap}
abbrev N_is_deed : List Str := ["shape", "thing"]
abbrev P_is_deed : List Str := ["shape", "thing"]
theorem sc_is_deed : FnScope N_is_deed P_is_deed (defScope s_is_deed) := ⟨rfl, rfl, rfl, by decide +kernel, rfl, by decide +kernel, by decide +kernel⟩
theorem b_is_deed : BindsD d_is_deed P_is_deed := fun _ _ _ _ _ _ us hl => match us, hl with | [_, _], _ => rfl
theorem ok_is_deed (T : Txt K mg) (G_is_within : Ok P w K mg base CX0 1 d_is_within P_is_within (spD R_is_within)) : Ok P w K mg base CX0 2 d_is_deed P_is_deed (spD R_is_deed) := by
  refine okD T.f_is_deed sc_is_deed b_is_deed (fun ds r h => ?_) fun cdv A outer s H E hr => ⟨_, (pss_cons (ps_if (PW.pt (pw_or (pt_not (pt_val (pe_callB (kcall_isi (K := K)) (by rfl) T.n_isinstance (by decide +kernel) (pa_cons (pv 1) (pa_cons (pe_bltn (v := .ty "tuple") (u := .type "tuple") rfl T.n_tuple (by decide +kernel) rfl) pa_nil))))) (pw_or (pt_cmpR op_ne (pe_callB (kcall_len (K := K)) (by rfl) T.n_len (by decide +kernel) (pa_cons (pv 1) pa_nil)) pe_int (nomark _)) (pw_or1 (pt_not (pt_val (pe_callB (kcall_isi (K := K)) (by rfl) T.n_isinstance (by decide +kernel) (pa_cons (pe_ix (kix_tup (K := K)) (pv 1) pe_int (fun _ _ => rfl)) (pa_cons (pe_bltn (v := .ty "str") (u := .type "str") rfl T.n_str (by decide +kernel) rfl) pa_nil))))))))) (pss_one (ps_ret pe_bl)) pss_nil)
  (pss_cons (ps_if (pt_cmpR (kop_in (K := K)) (pe_ix (kix_tup (K := K)) (pv 1) pe_int (fun _ _ => rfl)) (pe_tup (pa_cons pe_str (pa_cons pe_str pa_nil))) rfl) (pss_one (ps_ret (pe_callO G_is_within (hr.mono (by decide)) rfl T.g_is_within pass0 (pa_cons (pe_ix (kix_tup (K := K)) (pv 1) pe_int (fun _ _ => rfl)) (pa_cons pe_int (pa_cons (pe_op op_sub (pe_ix (kix_tup (K := K)) (pv 0) pe_int (fun _ _ => rfl)) pe_int) pa_nil)))))) pss_nil)
  (pss_cons (ps_if (pt_cmpR (kop_in (K := K)) (pe_ix (kix_tup (K := K)) (pv 1) pe_int (fun _ _ => rfl)) (pe_tup (pa_cons pe_str (pa_cons pe_str pa_nil))) rfl) (pss_one (ps_ret (pe_callO G_is_within (hr.mono (by decide)) rfl T.g_is_within pass0 (pa_cons (pe_ix (kix_tup (K := K)) (pv 1) pe_int (fun _ _ => rfl)) (pa_cons pe_int (pa_cons (pe_op op_sub (pe_ix (kix_tup (K := K)) (pv 0) pe_int (fun _ _ => rfl)) pe_int) pa_nil)))))) pss_nil)
  (pss_one (ps_ret (pe_and (pe_cmpR op_eq (pe_ix (kix_tup (K := K)) (pv 1) pe_int (fun _ _ => rfl)) pe_str (nomark _)) (pe_one (pe_callO G_is_within (hr.mono (by decide)) rfl T.g_is_within pass0 (pa_cons (pe_ix (kix_tup (K := K)) (pv 1) pe_int (fun _ _ => rfl)) (pa_cons pe_int (pa_cons pe_int pa_nil))))))))))), fun ds r h => ?_⟩
  · obtain ⟨m, w, t, rfl, _⟩ := h
    rfl
  · obtain ⟨m, w, t, rfl, hp, rfl⟩ := h
    have ho := plain_ob hp
    cases t with
    | tup xs =>
      have nope : (∀ s a, xs ≠ [.str s, a]) → deedB m (.tup xs) = false := fun q => by
        unfold deedB
        split
        · rename_i s a e
          cases e
          exact absurd rfl (q s a)
        · rfl
      match xs, hp with
      | [a, b], hp =>
        have p := plain_tup hp
        have ha := plain_ob (p a (by simp))
        have hb := plain_ob (p b (by simp))
        cases a with
        | str s =>
          refine sv_ifS (dt_or (dt_not (dt_val (dv_cb (da_cons (dv_var rfl) (da_cons dv_ty da_nil)) (rc_isi (n := ho))))) fun _ => dt_or (dt_test (dv_op (dv_cb (da_cons (dv_var rfl) da_nil) rc_lenT) dv_int rd_neI)) fun _ => dt_not (dt_val (dv_cb (da_cons (dv_op (dv_var rfl) dv_int (rd_ixT (by rfl))) (da_cons dv_ty da_nil)) (rc_isi (n := ha))))) (fun b => by simp [Da.isT] at b) fun _ => sv_nextS ?_
          refine sv_ifS (dt_test (dv_op (dv_op (dv_var rfl) dv_int (rd_ixT (by rfl))) (dv_tup (da_cons dv_str (da_cons dv_str da_nil)) (small_ rfl)) (rd_inS ["press", "swap"]))) (fun b => sv_seqR (sv_ret (dv_to (dv_call (da_cons (dv_op (dv_var rfl) dv_int (rd_ixT (by rfl))) (da_cons dv_int (da_cons (dv_op (dv_op (dv_var rfl) dv_int (rd_ixT (by rfl))) dv_int rd_I0) da_nil))) ⟨_, _, _, rfl, hb, rfl⟩) ?_))) fun b1 => sv_nextS ?_
          · have e : s = "press" ∨ s = "swap" := by simpa using b
            rw [deedB, if_pos e]
          · have n1 : ¬ (s = "press" ∨ s = "swap") := by simpa using b1
            refine sv_ifS (dt_test (dv_op (dv_op (dv_var rfl) dv_int (rd_ixT (by rfl))) (dv_tup (da_cons dv_str (da_cons dv_str da_nil)) (small_ rfl)) (rd_inS ["over", "about"]))) (fun b => sv_seqR (sv_ret (dv_to (dv_call (da_cons (dv_op (dv_var rfl) dv_int (rd_ixT (by rfl))) (da_cons dv_int (da_cons (dv_op (dv_op (dv_var rfl) dv_int (rd_ixT (by rfl))) dv_int rd_I0) da_nil))) ⟨_, _, _, rfl, hb, rfl⟩) ?_))) fun b2 => sv_nextS (sv_ret (dv_to (dv_and (dv_op (dv_op (dv_var rfl) dv_int (rd_ixT (by rfl))) dv_str rd_eqS) fun _ => dv_call (da_cons (dv_op (dv_var rfl) dv_int (rd_ixT (by rfl))) (da_cons dv_int (da_cons dv_int da_nil))) ⟨_, _, _, rfl, hb, rfl⟩) ?_))
            · have e : s = "over" ∨ s = "about" := by simpa using b
              rw [deedB, if_neg n1, if_pos e]
            · have n2 : ¬ (s = "over" ∨ s = "about") := by simpa using b2
              rw [deedB, if_neg n1, if_neg n2]
        | _ =>
          refine sv_ifS (dt_or (dt_not (dt_val (dv_cb (da_cons (dv_var rfl) (da_cons dv_ty da_nil)) (rc_isi (n := ho))))) fun _ => dt_or (dt_test (dv_op (dv_cb (da_cons (dv_var rfl) da_nil) rc_lenT) dv_int rd_neI)) fun _ => dt_not (dt_val (dv_cb (da_cons (dv_op (dv_var rfl) dv_int (rd_ixT (by rfl))) (da_cons dv_ty da_nil)) (rc_isi (n := ha))))) (fun b => sv_seqR (sv_ret (dv_to dv_bl ?_))) fun b => by simp [Da.isT] at b
          rfl
      | [], _ => exact sv_ifS (dt_or (dt_not (dt_val (dv_cb (da_cons (dv_var rfl) (da_cons dv_ty da_nil)) (rc_isi (n := ho))))) fun _ => dt_or (c := false) (dt_test (dv_op (dv_cb (da_cons (dv_var rfl) da_nil) rc_lenT) dv_int rd_neI)) fun b => by simp at b) (fun b => sv_seqR (sv_ret (dv_to dv_bl rfl))) fun b => by simp [Da.isT] at b
      | [a], _ => exact sv_ifS (dt_or (dt_not (dt_val (dv_cb (da_cons (dv_var rfl) (da_cons dv_ty da_nil)) (rc_isi (n := ho))))) fun _ => dt_or (c := false) (dt_test (dv_op (dv_cb (da_cons (dv_var rfl) da_nil) rc_lenT) dv_int rd_neI)) fun b => by simp at b) (fun b => sv_seqR (sv_ret (dv_to dv_bl (by rw [nope (fun _ _ q => by cases q)])))) fun b => by simp [Da.isT] at b
      | a :: b :: c :: r, _ =>
        have ne : ¬ ((r.length : Int) + 1 + 1 + 1 = 2) := by omega
        exact sv_ifS (dt_or (dt_not (dt_val (dv_cb (da_cons (dv_var rfl) (da_cons dv_ty da_nil)) (rc_isi (n := ho))))) fun _ => dt_or (c := false) (dt_test (dv_op (dv_cb (da_cons (dv_var rfl) da_nil) rc_lenT) dv_int rd_neI)) fun b => by simp [ne] at b) (fun b => sv_seqR (sv_ret (dv_to dv_bl (by rw [nope (fun _ _ q => by cases q)])))) fun b => by simp [Da.isT, ne] at b
    | _ => exact sv_ifS (dt_or (c := false) (dt_not (dt_val (dv_cb (da_cons (dv_var rfl) (da_cons dv_ty da_nil)) (rc_isi (n := ho))))) fun b => by simp [Da.isT] at b) (fun b => sv_seqR (sv_ret (dv_to dv_bl rfl))) fun b => by simp [Da.isT] at b
abbrev N_takes : List Str := ["deed"]
abbrev P_takes : List Str := ["deed"]
theorem sc_takes : FnScope N_takes P_takes (defScope s_takes) := ⟨rfl, rfl, rfl, by decide +kernel, rfl, by decide +kernel, by decide +kernel⟩
theorem b_takes : BindsD d_takes P_takes := fun _ _ _ _ _ _ us hl => match us, hl with | [_], _ => rfl
theorem ok_takes (T : Txt K mg)  : Ok P w K mg base CX0 1 d_takes P_takes (spD R_takes) := by
  refine okD T.f_takes sc_takes b_takes (fun ds r h => ?_) fun cdv A outer s H E hr => ⟨_, (pss_one (ps_ret (pe_ifExp (pt_cmpR op_eq (pe_ix (kix_tup (K := K)) (pv 0) pe_int (fun _ _ => rfl)) pe_str (nomark _)) (pe_ix (kix_tup (K := K)) (pv 0) pe_int (fun _ _ => rfl)) pe_int))), fun ds r h => ?_⟩
  · obtain ⟨dd, rfl, _⟩ := h
    rfl
  · obtain ⟨dd, rfl, rfl⟩ := h
    cases dd with
    | wait t => exact sv_ret (dv_if (dt_test (dv_op (dv_op (dv_var rfl) dv_int (rd_ixT (by rfl))) dv_str rd_eqS)) (fun _ => (dv_op (dv_var rfl) dv_int (rd_ixT (by rfl)))) (fun b => absurd b (by decide +kernel)))
    | _ => exact sv_ret (dv_if (dt_test (dv_op (dv_op (dv_var rfl) dv_int (rd_ixT (by rfl))) dv_str rd_eqS)) (fun b => absurd b (by decide +kernel)) (fun _ => dv_int))
end
end Bb
/-! Bb3 -/
namespace Bb
open PySem PySem.Spec PyProof.Rows L2

/-- what touches a cell across a gap -/
def R_touched (ds : List Da) (r : Da) : Prop := ∃ (m w : Nat) (st : List Tri) (g : Nat) (p q : Tri) (c : Int), ds = [shD m w, stD st, triD (p.1, 1 - p.2.1, c)] ∧ st[g]? = some p ∧ st[g + 1]? = some q ∧ p.1 ∉ (st.map (·.1)).take g ∧ (p.2.1 = 0 ∨ p.2.1 = 1) ∧ st.length ≤ 100 ∧
  r = triD (q.1, q.2.1, farI w q.2.2 (farI w p.2.2 c))
section
variable {P : Program} {w : World} {K : PySem.W.Frag} {mg : Str → Option Value} {base : Heap}
abbrev N_moved : List Str := ["stand", "deed", "word", "place", "leaf", "over", "about", "fresh"]
abbrev P_moved : List Str := ["stand", "deed"]
theorem sc_moved : FnScope N_moved P_moved (defScope s_moved) := ⟨rfl, rfl, rfl, by decide +kernel, rfl, by decide +kernel, by decide +kernel⟩
theorem b_moved : BindsD d_moved P_moved := fun _ _ _ _ _ _ us hl => match us, hl with | [_, _], _ => rfl
theorem ok_moved (T : Txt K mg)  : Ok P w K mg base CX0 1 d_moved P_moved (spD R_moved) := by
  refine okD T.f_moved sc_moved b_moved (fun ds r h => ?_) fun cdv A outer s H E hr => ⟨_, (pss_cons (ps_asg (pv 1) (kpg_tup (K := K) (n := 2) rfl (pgs_cons (pg_name (i := 2) sc_moved.nd rfl (.inl rfl)) (pgs_cons (pg_name (i := 3) sc_moved.nd rfl (.inl rfl)) pgs_nil))))
  (pss_cons (ps_if (pt_cmpR op_eq (pv 2) pe_str (nomark _)) (pss_one (ps_ret (pe_op (kop_catA (K := K)) (pe_op (kop_catA (K := K)) (pe_slice (ksl_tup (K := K)) (pv 0) po_none (po_some (pv 3))) (pe_tup (pa_cons (pe_ix (kix_tup (K := K)) (pv 0) (pe_op op_add (pv 3) pe_int) (fun _ _ => rfl)) (pa_cons (pe_ix (kix_tup (K := K)) (pv 0) (pv 3) (fun _ _ => rfl)) pa_nil)))) (pe_slice (ksl_tup (K := K)) (pv 0) (po_some (pe_op op_add (pv 3) pe_int)) po_none)))) pss_nil)
  (pss_cons (ps_if (pt_cmpR (kop_notIn (K := K)) (pv 2) (pe_tup (pa_cons pe_str (pa_cons pe_str pa_nil))) rfl) (pss_one (ps_ret (pv 0))) pss_nil)
  (pss_cons (ps_asg (pe_ix (kix_tup (K := K)) (pv 0) (pv 3) (fun _ _ => rfl)) (kpg_tup (K := K) (n := 3) rfl (pgs_cons (pg_name (i := 4) sc_moved.nd rfl (.inl rfl)) (pgs_cons (pg_name (i := 5) sc_moved.nd rfl (.inl rfl)) (pgs_cons (pg_name (i := 6) sc_moved.nd rfl (.inl rfl)) pgs_nil)))))
  (pss_cons (ps_set (i := 7) sc_moved.nd rfl (.inl rfl) (pe_ifExp (pt_cmpR op_eq (pv 2) pe_str (nomark _)) (pe_tup (pa_cons (pv 4) (pa_cons (pe_op op_sub pe_int (pv 5)) (pa_cons (pv 6) pa_nil)))) (pe_tup (pa_cons (pv 4) (pa_cons (pv 5) (pa_cons (pe_op op_sub pe_int (pv 6)) pa_nil))))))
  (pss_one (ps_ret (pe_op (kop_catA (K := K)) (pe_op (kop_catA (K := K)) (pe_slice (ksl_tup (K := K)) (pv 0) po_none (po_some (pv 3))) (pe_tup (pa_cons (pv 7) pa_nil))) (pe_slice (ksl_tup (K := K)) (pv 0) (po_some (pe_op op_add (pv 3) pe_int)) po_none))))))))), fun ds r h => ?_⟩
  · obtain ⟨st, dd, rfl, _⟩ := h
    rfl
  · obtain ⟨st, dd, rfl, ho, hl, rfl⟩ := h
    have z : ∀ n, n ≤ 300 → n ≤ sizeLine := fun n h => Nat.le_trans h (by decide)
    have ls : (st.map triD).length = st.length := List.length_map ..
    cases dd with
    | press g =>
      refine sv_seq (sv_un2 (dv_var rfl)) (sv_ifS (dt_test (dv_op (dv_var rfl) dv_str rd_eqS)) (fun b => absurd b (by decide +kernel)) fun _ => sv_nextS ?_)
      exact sv_ifS (dt_test (dv_op (dv_var rfl) (dv_tup (da_cons dv_str (da_cons dv_str da_nil)) (small_ rfl)) (rd_inS ["over", "about"]))) (fun _ => sv_seqR (sv_ret (dv_var rfl))) fun b => absurd b (by decide +kernel)
    | wait g =>
      refine sv_seq (sv_un2 (dv_var rfl)) (sv_ifS (dt_test (dv_op (dv_var rfl) dv_str rd_eqS)) (fun b => absurd b (by decide +kernel)) fun _ => sv_nextS ?_)
      exact sv_ifS (dt_test (dv_op (dv_var rfl) (dv_tup (da_cons dv_str (da_cons dv_str da_nil)) (small_ rfl)) (rd_inS ["over", "about"]))) (fun _ => sv_seqR (sv_ret (dv_var rfl))) fun b => absurd b (by decide +kernel)
    | swap g =>
      have hg : g + 1 < st.length := ho
      refine sv_seq (sv_un2 (dv_var rfl)) (sv_ifS (dt_test (dv_op (dv_var rfl) dv_str rd_eqS)) (fun _ => sv_seqR (sv_ret ?_)) fun b => absurd b (by decide +kernel))
      refine dv_to (dv_op (dv_op (dv_slT (dv_var rfl) do_none (do_some (dv_var rfl))) (dv_tup (da_cons (dv_op (dv_var rfl) (dv_op (dv_var rfl) dv_int rd_I0) (rd_ixT (at_map (f := triD) (p := g + 1) (by omega) (getD_at (d := (0, 0, 0)) hg)))) (da_cons (dv_op (dv_var rfl) (dv_var rfl) (rd_ixT (at_map (f := triD) (p := g) rfl (getD_at (d := (0, 0, 0)) (by omega))))) da_nil)) (small_ rfl)) (rd_catT (z _ ?_))) (dv_slT (dv_var rfl) (do_some (dv_op (dv_var rfl) dv_int rd_I0)) do_none) (rd_catT (z _ ?_))) ?_
      · rw [cut_to (p := g) rfl (by omega)]; simp; omega
      · rw [cut_to (p := g) rfl (by omega), cut_from (p := g + 2) (by omega) (by omega)]; simp; omega
      · rw [cut_to (p := g) rfl (by omega), cut_from (p := g + 2) (by omega) (by omega)]
        simp [stD, Dd.move, List.map_take, List.map_drop]
    | over p =>
      have hg : p < st.length := ho
      have hp := getD_at (d := ((0, 0, 0) : Tri)) hg
      refine sv_seq (sv_un2 (dv_var rfl)) (sv_ifS (dt_test (dv_op (dv_var rfl) dv_str rd_eqS)) (fun b => absurd b (by decide +kernel)) fun _ => sv_nextS ?_)
      refine sv_ifS (dt_test (dv_op (dv_var rfl) (dv_tup (da_cons dv_str (da_cons dv_str da_nil)) (small_ rfl)) (rd_inS ["over", "about"]))) (fun b => absurd b (by decide +kernel)) fun _ => sv_nextS ?_
      refine sv_seq (sv_un3 (dv_op (dv_var rfl) (dv_var rfl) (rd_ixT (at_map (f := triD) (p := p) rfl hp)))) (sv_seq (sv_set (dv_if (dt_test (dv_op (dv_var rfl) dv_str rd_eqS)) (fun _ => dv_tup (da_cons (dv_var rfl) (da_cons (dv_op dv_int (dv_var rfl) rd_I0) (da_cons (dv_var rfl) da_nil))) (small_ rfl)) fun b => absurd b (by decide +kernel))) (sv_ret ?_))
      refine dv_to (dv_op (dv_op (dv_slT (dv_var rfl) do_none (do_some (dv_var rfl))) (dv_tup (da_cons (dv_var rfl) da_nil) (small_ rfl)) (rd_catT (z _ ?_))) (dv_slT (dv_var rfl) (do_some (dv_op (dv_var rfl) dv_int rd_I0)) do_none) (rd_catT (z _ ?_))) ?_
      · rw [cut_to (p := p) rfl (by omega)]; simp; omega
      · rw [cut_to (p := p) rfl (by omega), cut_from (p := p + 1) (by omega) (by omega)]; simp; omega
      · rw [cut_to (p := p) rfl (by omega), cut_from (p := p + 1) (by omega) (by omega)]
        simp [stD, Dd.move, List.map_take, List.map_drop, triD]
    | about p =>
      have hg : p < st.length := ho
      have hp := getD_at (d := ((0, 0, 0) : Tri)) hg
      refine sv_seq (sv_un2 (dv_var rfl)) (sv_ifS (dt_test (dv_op (dv_var rfl) dv_str rd_eqS)) (fun b => absurd b (by decide +kernel)) fun _ => sv_nextS ?_)
      refine sv_ifS (dt_test (dv_op (dv_var rfl) (dv_tup (da_cons dv_str (da_cons dv_str da_nil)) (small_ rfl)) (rd_inS ["over", "about"]))) (fun b => absurd b (by decide +kernel)) fun _ => sv_nextS ?_
      refine sv_seq (sv_un3 (dv_op (dv_var rfl) (dv_var rfl) (rd_ixT (at_map (f := triD) (p := p) rfl hp)))) (sv_seq (sv_set (dv_if (dt_test (dv_op (dv_var rfl) dv_str rd_eqS)) (fun b => absurd b (by decide +kernel)) fun _ => dv_tup (da_cons (dv_var rfl) (da_cons (dv_var rfl) (da_cons (dv_op dv_int (dv_var rfl) rd_I0) da_nil))) (small_ rfl))) (sv_ret ?_))
      refine dv_to (dv_op (dv_op (dv_slT (dv_var rfl) do_none (do_some (dv_var rfl))) (dv_tup (da_cons (dv_var rfl) da_nil) (small_ rfl)) (rd_catT (z _ ?_))) (dv_slT (dv_var rfl) (do_some (dv_op (dv_var rfl) dv_int rd_I0)) do_none) (rd_catT (z _ ?_))) ?_
      · rw [cut_to (p := p) rfl (by omega)]; simp; omega
      · rw [cut_to (p := p) rfl (by omega), cut_from (p := p + 1) (by omega) (by omega)]; simp; omega
      · rw [cut_to (p := p) rfl (by omega), cut_from (p := p + 1) (by omega) (by omega)]
        simp [stD, Dd.move, List.map_take, List.map_drop, triD]
abbrev N_touched : List Str := ["shape", "stand", "spot", "leaf", "side", "cell", "place", "over", "about", "other", "name", "turned", "round_so", "facing", "part"]
abbrev P_touched : List Str := ["shape", "stand", "spot"]
theorem sc_touched : FnScope N_touched P_touched (defScope s_touched) := ⟨rfl, rfl, rfl, by decide +kernel, rfl, by decide +kernel, by decide +kernel⟩
theorem b_touched : BindsD d_touched P_touched := fun _ _ _ _ _ _ us hl => match us, hl with | [_, _, _], _ => rfl
theorem ok_touched (T : Txt K mg) (G_far_from_back : Ok P w K mg base CX0 1 d_far_from_back P_far_from_back (spD R_far)) : Ok P w K mg base CX0 2 d_touched P_touched (spD R_touched) := by
  refine okD T.f_touched sc_touched b_touched (fun ds r h => ?_) fun cdv A outer s H E hr => ⟨_, (pss_cons (ps_asg (pv 2) (kpg_tup (K := K) (n := 3) rfl (pgs_cons (pg_name (i := 3) sc_touched.nd rfl (.inl rfl)) (pgs_cons (pg_name (i := 4) sc_touched.nd rfl (.inl rfl)) (pgs_cons (pg_name (i := 5) sc_touched.nd rfl (.inl rfl)) pgs_nil)))))
  (pss_cons (ps_set (i := 6) sc_touched.nd rfl (.inl rfl) (kpe_bm (K := K) PySem.F.plainAttrs_list PySem.F.slot_list_index PySem.F.type_list_index (kmt_index (K := K)) (pe_lc (own := [("part", 14)]) rfl sc_touched.nd (kpi_tup (K := K) (pv 1)) (blkOk_by (N := N_touched) (sc := defScope s_touched) (by decide +kernel)) (fun _ _ _ _ _ => (pg_name (i := 14) sc_touched.nd rfl (.inl rfl))) (fun _ _ _ _ _ => pts_nil) (fun _ _ _ _ _ => (pe_ix (kix_tup (K := K)) (pv 14) pe_int (fun _ _ => rfl)))) (pa_cons (pv 3) pa_nil)))
  (pss_cons (ps_asg (pe_slice (ksl_tup (K := K)) (pe_ix (kix_tup (K := K)) (pv 1) (pv 6) (fun _ _ => rfl)) (po_some pe_int) po_none) (kpg_tup (K := K) (n := 2) rfl (pgs_cons (pg_name (i := 7) sc_touched.nd rfl (.inl rfl)) (pgs_cons (pg_name (i := 8) sc_touched.nd rfl (.inl rfl)) pgs_nil))))
  (pss_cons (ps_set (i := 9) sc_touched.nd rfl (.inl rfl) (pe_ifExp (pt_cmpR op_eq (pv 4) (pv 7) (nomark _)) (pe_op op_sub (pv 6) pe_int) (pe_op op_add (pv 6) pe_int)))
  (pss_cons (ps_if (pt_not (pt_chain op_le op_lt pe_int (pv 9) (pe_callB (kcall_len (K := K)) (by rfl) T.n_len (by decide +kernel) (pa_cons (pv 1) pa_nil)))) (pss_one (ps_ret pe_non)) pss_nil)
  (pss_cons (ps_asg (pe_ix (kix_tup (K := K)) (pv 1) (pv 9) (fun _ _ => rfl)) (kpg_tup (K := K) (n := 3) rfl (pgs_cons (pg_name (i := 10) sc_touched.nd rfl (.inl rfl)) (pgs_cons (pg_name (i := 11) sc_touched.nd rfl (.inl rfl)) (pgs_cons (pg_name (i := 12) sc_touched.nd rfl (.inl rfl)) pgs_nil)))))
  (pss_cons (ps_set (i := 13) sc_touched.nd rfl (.inl rfl) (pe_ifExp (pt_cmpR op_lt (pv 9) (pv 6) (nomark _)) (pe_op op_sub pe_int (pv 11)) (pv 11)))
  (pss_one (ps_ret (pe_tup (pa_cons (pv 10) (pa_cons (pv 13) (pa_cons (pe_callO G_far_from_back (hr.mono (by decide)) rfl T.g_far_from_back pass0 (pa_cons (pv 0) (pa_cons (pv 12) (pa_cons (pe_callO G_far_from_back (hr.mono (by decide)) rfl T.g_far_from_back pass0 (pa_cons (pv 0) (pa_cons (pv 8) (pa_cons (pv 5) pa_nil)))) pa_nil)))) pa_nil))))))))))))), fun ds r h => ?_⟩
  · obtain ⟨m, w, st, g, p, q, c, rfl, _⟩ := h
    rfl
  · obtain ⟨m, w, st, g, p, q, c, rfl, hp, hq, hn, ho, hl, rfl⟩ := h
    obtain ⟨p1, p2, p3⟩ := p
    obtain ⟨q1, q2, q3⟩ := q
    have lg : g + 1 < st.length := (List.getElem?_eq_some_iff.mp hq).1
    refine sv_rho (ρ := [some (shD m w), some (stD st), some (triD (p1, 1 - p2, c)), none, none, none, none, none, none, none, none, none, none, none, none]) rfl ?_
    refine sv_seq (sv_un3 (dv_var rfl)) (sv_seq (sv_set (dv_index (j := g) (l := st.map (·.1)) (dv_to (dv_lcM st triD (fun p => .int p.1) (di_tup (dv_var rfl)) (by rw [sizeLine_eq]; omega) fun a ha => ⟨_, bd_name, (dv_op (dv_var rfl) dv_int (rd_ixT (by rfl)))⟩) (by rw [List.map_map]; rfl)) (da_cons (dv_var rfl) da_nil) (by rw [List.getElem?_map, hp]; rfl) hn)) ?_)
    refine sv_seq (sv_un2 (dv_to (dv_slT (dv_op (dv_var rfl) (dv_var rfl) (rd_ixT (at_map (f := triD) (p := g) rfl hp))) (do_some dv_int) do_none) rfl)) ?_
    refine sv_seq (sv_set (dv_if (dt_test (dv_op (dv_var rfl) (dv_var rfl) rd_eqI)) (fun b => ?_) fun _ => (dv_op (dv_var rfl) dv_int rd_I0))) ?_
    · have b' : 1 - p2 = p2 := of_decide_eq_true b
      have ho' : p2 = 0 ∨ p2 = 1 := ho
      omega
    refine sv_ifS (dt_not (dt_test (dv_chain dv_int (dv_var rfl) rd_B0 (fun _ => dv_cb (da_cons (dv_var rfl) da_nil) rc_lenT) (fun _ => rd_B0)))) (fun b => ?_) fun _ => sv_nextS ?_
    · have e1 : decide ((0 : Int) ≤ (g : Int) + 1) = true := decide_eq_true (by omega)
      have e2 : decide ((g : Int) + 1 < (((st.map triD).length : Nat) : Int)) = true := decide_eq_true (by rw [List.length_map]; omega)
      rw [e1, e2] at b
      cases b
    refine sv_seq (sv_un3 (dv_op (dv_var rfl) (dv_var rfl) (rd_ixT (at_map (f := triD) (p := g + 1) (by omega) hq)))) ?_
    refine sv_seq (sv_set (dv_if (dt_test (dv_op (dv_var rfl) (dv_var rfl) rd_B0)) (fun b => ?_) fun _ => dv_var rfl)) (sv_ret ?_)
    · have b' := of_decide_eq_true b
      omega
    exact dv_to (dv_tup (da_cons (dv_var rfl) (da_cons (dv_var rfl) (da_cons (dv_call (da_cons (dv_var rfl) (da_cons (dv_var rfl) (da_cons (dv_call (da_cons (dv_var rfl) (da_cons (dv_var rfl) (da_cons (dv_var rfl) da_nil))) ⟨_, _, _, _, rfl, rfl⟩) da_nil))) ⟨_, _, _, _, rfl, rfl⟩) da_nil))) (small_ rfl)) rfl
end
end Bb
/-! Bb4 -/
namespace Bb
open PySem PySem.Spec PyProof.Rows L2

/-- a gap with the leaves at it -/
structure Gap (st : List Tri) (g : Nat) (p q : Tri) : Prop where
  hp : st[g]? = some p
  hq : st[g + 1]? = some q
  one : p.1 ∉ (st.map (·.1)).take g
  bit : p.2.1 = 0 ∨ p.2.1 = 1
  few : st.length ≤ 100
def R_pairs_at (ds : List Da) (r : Da) : Prop := ∃ (m w : Nat) (st : List Tri) (g : Nat) (p q : Tri), ds = [shD m w, stD st, .int g] ∧ Gap st g p q ∧ w ≤ 100 ∧ r = .lst ((pairsP w p q).map prD)
def R_whole (ds : List Da) (r : Da) : Prop := ∃ t, ds = [t] ∧ t.isOb = false ∧ r = .bl (wholeB t)
def R_cells (ds : List Da) (r : Da) : Prop := ∃ (m w : Nat) (a : Int), ds = [shD m w, .int a] ∧ w ≤ 100 ∧ r = .lst ((cellsL w a).map .int)
def R_pairs (ds : List Da) (r : Da) : Prop := ∃ (m w : Nat) (st : List Tri) (g : Nat) (p q : Tri), ds = [shD m w, stD st, .int g] ∧ st[g]? = some p ∧ st[g + 1]? = some q ∧ w ≤ 100 ∧ r = .lst ((pairsL w p q).map prD)
def R_spots (ds : List Da) (r : Da) : Prop := ∃ m w : Nat, ds = [shD m w] ∧ m ≤ 100 ∧ w ≤ 100 ∧ r = .lst ((spotsL m w).map triD)
section
variable {P : Program} {w : World} {K : PySem.W.Frag} {mg : Str → Option Value} {base : Heap}
abbrev N_pairs_at : List Str := ["shape", "stand", "gap", "leaf", "over", "about", "found", "cell", "spot"]
abbrev P_pairs_at : List Str := ["shape", "stand", "gap"]
theorem sc_pairs_at : FnScope N_pairs_at P_pairs_at (defScope s_pairs_at) := ⟨rfl, rfl, rfl, by decide +kernel, rfl, by decide +kernel, by decide +kernel⟩
theorem b_pairs_at : BindsD d_pairs_at P_pairs_at := fun _ _ _ _ _ _ us hl => match us, hl with | [_, _, _], _ => rfl
theorem ok_pairs_at (T : Txt K mg) (G_touched : Ok P w K mg base CX0 2 d_touched P_touched (spD R_touched)) : Ok P w K mg base CX0 3 d_pairs_at P_pairs_at (spD R_pairs_at) := by
  refine okD T.f_pairs_at sc_pairs_at b_pairs_at (fun ds r h => ?_) fun cdv A outer s H E hr => ⟨_, (pss_cons (ps_asg (pe_ix (kix_tup (K := K)) (pv 1) (pv 2) (fun _ _ => rfl)) (kpg_tup (K := K) (n := 3) rfl (pgs_cons (pg_name (i := 3) sc_pairs_at.nd rfl (.inl rfl)) (pgs_cons (pg_name (i := 4) sc_pairs_at.nd rfl (.inl rfl)) (pgs_cons (pg_name (i := 5) sc_pairs_at.nd rfl (.inl rfl)) pgs_nil)))))
  (pss_cons (ps_set (i := 6) sc_pairs_at.nd rfl (.inl rfl) (pe_lst pa_nil))
  (pss_cons (ps_for PassesOwn.never rfl (pi_range1 (by rfl) T.n_range (pa_cons (pe_ix (kix_tup (K := K)) (pv 0) pe_int (fun _ _ => rfl)) pa_nil)) (pg_name (i := 7) sc_pairs_at.nd rfl (.inl rfl)) (pss_cons (ps_set (i := 8) sc_pairs_at.nd rfl (.inl rfl) (pe_tup (pa_cons (pv 3) (pa_cons (pe_op op_sub pe_int (pv 4)) (pa_cons (pv 7) pa_nil)))))
  (pss_one (ps_expr (kpe_bm (K := K) PySem.F.plainAttrs_list PySem.F.slot_list_append PySem.F.type_list_append mt_append (pv 6) (pa_cons (pe_tup (pa_cons (pv 8) (pa_cons (pe_callO G_touched (hr.mono (by decide)) rfl T.g_touched pass0 (pa_cons (pv 0) (pa_cons (pv 1) (pa_cons (pv 8) pa_nil)))) pa_nil))) pa_nil))))))
  (pss_one (ps_ret (pv 6)))))), fun ds r h => ?_⟩
  · obtain ⟨m, w, st, g, p, q, rfl, _⟩ := h
    rfl
  · obtain ⟨m, w, st, g, p, q, rfl, G, hw, rfl⟩ := h
    obtain ⟨p1, p2, p3⟩ := p
    refine sv_rho (ρ := [some (shD m w), some (stD st), some (.int g), none, none, none, none, none, none]) rfl ?_
    refine sv_seq (sv_un3 (dv_op (dv_var rfl) (dv_var rfl) (rd_ixT (at_map (f := triD) (p := g) rfl G.hp)))) ?_
    have e : (pairsP w (p1, p2, p3) q).map prD = (List.range w).map fun (c : Nat) => prD ((p1, 1 - p2, (c : Int)), (q.1, q.2.1, farI w q.2.2 (farI w p3 c))) := by
      unfold pairsP
      rw [List.map_map]
      rfl
    rw [e]
    refine sv_collect (List.range w) (fun (i : Nat) => .int i) _ (by rw [List.length_range, sizeLine_eq]; omega) (Nat.le_of_ble_eq_true rfl) (fun a => di_range (n := w) (da_cons (dv_op (dv_var rfl) dv_int (rd_ixT (by rfl))) da_nil) (by omega) (by omega)) fun a x hx => ?_
    refine ⟨_, [some (shD m w), some (stD st), some (.int g), some (.int p1), some (.int p2), some (.int p3), some (.ob (.ref a)), some (.int x), some (.tup [.int p1, .int (1 - p2), .int x])], bl_name, sv_set (dv_tup (da_cons (dv_var rfl) (da_cons (dv_op dv_int (dv_var rfl) rd_I0) (da_cons (dv_var rfl) da_nil))) (small_ rfl)),
      dv_tup (da_cons (dv_var rfl) (da_cons (dv_call (da_cons (dv_var rfl) (da_cons (dv_var rfl) (da_cons (dv_var rfl) da_nil))) ⟨m, w, st, g, (p1, p2, p3), q, x, rfl, G.hp, G.hq, G.one, G.bit, G.few, rfl⟩) da_nil)) (small_ rfl),
      le_keep (le_keep (le_keep (le_keep (le_keep (le_keep (le_keep (le_drop (le_drop le_nil))))))))⟩
abbrev N_w_whole : List Str := ["_law_item"]
abbrev P_w_whole : List Str := ["_law_item"]
theorem sc_w_whole : FnScope N_w_whole P_w_whole (defScope s_w_whole) := ⟨rfl, rfl, rfl, by decide +kernel, rfl, by decide +kernel, by decide +kernel⟩
theorem b_w_whole : BindsD d_w_whole P_w_whole := fun _ _ _ _ _ _ us hl => match us, hl with | [_], _ => rfl
theorem ok_w_whole (T : Txt K mg)  : Ok P w K mg base CX0 1 d_w_whole P_w_whole (spD R_whole) := by
  refine okD T.f_w_whole sc_w_whole b_w_whole (fun ds r h => ?_) fun cdv A outer s H E hr => ⟨_, (pss_one (ps_ret (pe_and (pe_callB (kcall_isi (K := K)) (by rfl) T.n_isinstance (by decide +kernel) (pa_cons (pv 0) (pa_cons (pe_bltn (v := .ty "int") (u := .type "int") rfl T.n_int (by decide +kernel) rfl) pa_nil))) (pe_one (pe_not (pe_callB (kcall_isi (K := K)) (by rfl) T.n_isinstance (by decide +kernel) (pa_cons (pv 0) (pa_cons (pe_bltn (v := .ty "bool") (u := .type "bool") rfl T.n_bool (by decide +kernel) rfl) pa_nil)))))))), fun ds r h => ?_⟩
  · obtain ⟨t, rfl, _⟩ := h
    rfl
  · obtain ⟨t, rfl, ho, rfl⟩ := h
    refine sv_ret (dv_to (dv_and (dv_cb (da_cons (dv_var rfl) (da_cons dv_ty da_nil)) (rc_isi (n := ho))) fun _ => dv_not (dv_cb (da_cons (dv_var rfl) (da_cons dv_ty da_nil)) (rc_isi (n := ho)))) ?_)
    cases t <;> simp [Da.isT, wholeB] at *
abbrev N_w_within : List Str := ["_law_item", "_law_low", "_law_high"]
abbrev P_w_within : List Str := ["_law_item", "_law_low", "_law_high"]
theorem sc_w_within : FnScope N_w_within P_w_within (defScope s_w_within) := ⟨rfl, rfl, rfl, by decide +kernel, rfl, by decide +kernel, by decide +kernel⟩
theorem b_w_within : BindsD d_w_within P_w_within := fun _ _ _ _ _ _ us hl => match us, hl with | [_, _, _], _ => rfl
theorem ok_w_within (T : Txt K mg) (G_w_whole : Ok P w K mg base CX0 1 d_w_whole P_w_whole (spD R_whole)) : Ok P w K mg base CX0 2 d_w_within P_w_within (spD R_is_within) := by
  refine okD T.f_w_within sc_w_within b_w_within (fun ds r h => ?_) fun cdv A outer s H E hr => ⟨_, (pss_one (ps_ret (pe_and (pe_callO G_w_whole (hr.mono (by decide)) rfl T.g_w_whole pass0 (pa_cons (pv 0) pa_nil)) (pe_one (pe_chain op_le op_le (pv 1) (pv 0) (pv 2)))))), fun ds r h => ?_⟩
  · obtain ⟨t, lo, hi, rfl, _⟩ := h
    rfl
  · obtain ⟨t, lo, hi, rfl, ho, rfl⟩ := h
    refine sv_ret (dv_to (dv_and (c := withinB lo hi t) (dv_call (da_cons (dv_var rfl) da_nil) ⟨_, rfl, ho, rfl⟩) fun b => ?_) ?_)
    · cases t with
      | int i => exact dv_chain (dv_var rfl) (dv_var rfl) rd_B0 (fun _ => dv_var rfl) (fun _ => rd_B0)
      | _ => simp [wholeB] at b
    · cases t <;> simp [wholeB, withinB]
end
end Bb
/-! Bb5 -/
namespace Bb
open PySem PySem.Spec PyProof.Rows L2

def R_w_is_deed (ds : List Da) (r : Da) : Prop := R_is_deed ds r
section
variable {P : Program} {w : World} {K : PySem.W.Frag} {mg : Str → Option Value} {base : Heap}
abbrev N_w_cells : List Str := ["_law_shape_here", "_law_about", "_law_row"]
abbrev P_w_cells : List Str := ["_law_shape_here", "_law_about"]
theorem sc_w_cells : FnScope N_w_cells P_w_cells (defScope s_w_cells) := ⟨rfl, rfl, rfl, by decide +kernel, rfl, by decide +kernel, by decide +kernel⟩
theorem b_w_cells : BindsD d_w_cells P_w_cells := fun _ _ _ _ _ _ us hl => match us, hl with | [_, _], _ => rfl
theorem ok_w_cells (T : Txt K mg)  : Ok P w K mg base CX0 1 d_w_cells P_w_cells (spD R_cells) := by
  refine okD T.f_w_cells sc_w_cells b_w_cells (fun ds r h => ?_) fun cdv A outer s H E hr => ⟨_, (pss_cons (ps_set (i := 2) sc_w_cells.nd rfl (.inl rfl) (pe_listRg rfl (by rfl) T.n_list (prg_1 (by rfl) T.n_range (pe_ix (kix_tup (K := K)) (pv 0) pe_int (fun _ _ => rfl)))))
  (pss_one (ps_ret (pe_ifExp (pt_cmpR op_eq (pv 1) pe_int (nomark _)) (kpe_revL (K := K) (pv 2)) (pv 2))))), fun ds r h => ?_⟩
  · obtain ⟨m, w, a, rfl, _⟩ := h
    rfl
  · obtain ⟨m, w, a, rfl, hw, rfl⟩ := h
    refine sv_rho (ρ := [some (shD m w), some (.int a), none]) rfl ?_
    refine sv_seq (sv_set (dv_listRg (n := w) (dv_op (dv_var rfl) dv_int (rd_ixT (by rfl))) (by omega))) (sv_ret (dv_to (dv_if (d := .lst ((cellsL w a).map .int)) (dt_test (dv_op (dv_var rfl) dv_int rd_eqI)) (fun b => dv_to (dv_revL (dv_var rfl)) ?_) fun b => dv_to (dv_var rfl) ?_) rfl))
    · have b' := of_decide_eq_true b
      subst b'
      unfold cellsL rangeD
      rw [if_pos rfl, List.map_reverse, List.map_map]
      rfl
    · have b' := of_decide_eq_false b
      unfold cellsL rangeD
      rw [if_neg b', List.map_map]
      rfl
abbrev N_w_pairs : List Str := ["_law_shape_here", "_law_stand", "_law_gap", "_law_one", "_law_over", "_law_about", "_law_other", "_law_turned", "_law_round_so", "_law_first", "_law_second", "_law_a", "_law_b"]
abbrev P_w_pairs : List Str := ["_law_shape_here", "_law_stand", "_law_gap"]
theorem sc_w_pairs : FnScope N_w_pairs P_w_pairs (defScope s_w_pairs) := ⟨rfl, rfl, rfl, by decide +kernel, rfl, by decide +kernel, by decide +kernel⟩
theorem b_w_pairs : BindsD d_w_pairs P_w_pairs := fun _ _ _ _ _ _ us hl => match us, hl with | [_, _, _], _ => rfl
theorem ok_w_pairs (T : Txt K mg) (G_w_cells : Ok P w K mg base CX0 1 d_w_cells P_w_cells (spD R_cells)) : Ok P w K mg base CX0 2 d_w_pairs P_w_pairs (spD R_pairs) := by
  refine okD T.f_w_pairs sc_w_pairs b_w_pairs (fun ds r h => ?_) fun cdv A outer s H E hr => ⟨_, (pss_cons (ps_asg (pe_ix (kix_tup (K := K)) (pv 1) (pv 2) (fun _ _ => rfl)) (kpg_tup (K := K) (n := 3) rfl (pgs_cons (pg_name (i := 3) sc_w_pairs.nd rfl (.inr rfl)) (pgs_cons (pg_name (i := 4) sc_w_pairs.nd rfl (.inr rfl)) (pgs_cons (pg_name (i := 5) sc_w_pairs.nd rfl (.inl rfl)) pgs_nil)))))
  (pss_cons (ps_asg (pe_ix (kix_tup (K := K)) (pv 1) (pe_op op_add (pv 2) pe_int) (fun _ _ => rfl)) (kpg_tup (K := K) (n := 3) rfl (pgs_cons (pg_name (i := 6) sc_w_pairs.nd rfl (.inr rfl)) (pgs_cons (pg_name (i := 7) sc_w_pairs.nd rfl (.inr rfl)) (pgs_cons (pg_name (i := 8) sc_w_pairs.nd rfl (.inl rfl)) pgs_nil)))))
  (pss_cons (ps_par (i := 9) (j := 10) rfl sc_w_pairs.nd rfl rfl (by decide) rfl rfl (pa_cons (pe_callO G_w_cells (hr.mono (by decide)) rfl T.g_w_cells pass0 (pa_cons (pv 0) (pa_cons (pv 5) pa_nil))) (pa_cons (pe_callO G_w_cells (hr.mono (by decide)) rfl T.g_w_cells pass0 (pa_cons (pv 0) (pa_cons (pv 8) pa_nil))) pa_nil)) (by rfl))
  (pss_one (ps_ret (pe_lc (own := [("_law_a", 11), ("_law_b", 12)]) rfl sc_w_pairs.nd (kpi_zip (K := K) (by rfl) T.n_zip (pa_cons (pv 9) (pa_cons (pv 10) pa_nil))) (blkOk_by (N := N_w_pairs) (sc := defScope s_w_pairs) (by decide +kernel)) (fun _ _ _ _ _ => (kpg_tup (K := K) (n := 2) rfl (pgs_cons (pg_name (i := 11) sc_w_pairs.nd rfl (.inl rfl)) (pgs_cons (pg_name (i := 12) sc_w_pairs.nd rfl (.inl rfl)) pgs_nil)))) (fun _ _ _ _ _ => pts_nil) (fun _ _ _ _ _ => (pe_tup (pa_cons (pe_tup (pa_cons (pv 3) (pa_cons (pe_op op_sub pe_int (pv 4)) (pa_cons (pv 11) pa_nil)))) (pa_cons (pe_tup (pa_cons (pv 6) (pa_cons (pv 7) (pa_cons (pv 12) pa_nil)))) pa_nil)))))))))), fun ds r h => ?_⟩
  · obtain ⟨m, w, st, g, p, q, rfl, _⟩ := h
    rfl
  · obtain ⟨m, w, st, g, p, q, rfl, hp, hq, hw, rfl⟩ := h
    obtain ⟨p1, p2, p3⟩ := p
    obtain ⟨q1, q2, q3⟩ := q
    refine sv_rho (ρ := [some (shD m w), some (stD st), some (.int g), none, none, none, none, none, none, none, none, none, none]) rfl ?_
    refine sv_seq (sv_un3 (dv_op (dv_var rfl) (dv_var rfl) (rd_ixT (at_map (f := triD) (p := g) rfl hp)))) (sv_seq (sv_un3 (dv_op (dv_var rfl) (dv_op (dv_var rfl) dv_int rd_I0) (rd_ixT (at_map (f := triD) (p := g + 1) (by omega) hq)))) ?_)
    refine sv_seq (sv_par (da_cons (dv_call (da_cons (dv_var rfl) (da_cons (dv_var rfl) da_nil)) ⟨m, w, _, rfl, hw, rfl⟩) (da_cons (dv_call (da_cons (dv_var rfl) (da_cons (dv_var rfl) da_nil)) ⟨m, w, _, rfl, hw, rfl⟩) da_nil))) (sv_ret ?_)
    have l1 : ∀ a : Int, (cellsL w a).length = w := fun a => by unfold cellsL; split <;> simp
    refine dv_to (dv_lcM ((cellsL w p3).zip (cellsL w q3)) (fun z => .tup [.int z.1, .int z.2]) (fun z => prD ((p1, 1 - p2, z.1), (q1, q2, z.2))) ?_ ?_ fun z hz =>
      ⟨_, bd_two, dv_tup (da_cons (dv_tup (da_cons (dv_var rfl) (da_cons (dv_op dv_int (dv_var rfl) rd_I0) (da_cons (dv_var rfl) da_nil))) (small_ rfl)) (da_cons (dv_tup (da_cons (dv_var rfl) (da_cons (dv_var rfl) (da_cons (dv_var rfl) da_nil))) (small_ rfl)) da_nil)) (small_ rfl)⟩) ?_
    · have h := di_zip (F0 := noH) (B := noH) (K := K) (ρ := [some (shD m w), some (stD st), some (.int g), some (.int p1), some (.int p2), some (.int p3), some (.int q1), some (.int q2), some (.int q3), some (.lst ((cellsL w p3).map .int)), some (.lst ((cellsL w q3).map .int)), none, none]) (da_cons (dv_var (i := 9) rfl) (da_cons (dv_var (i := 10) rfl) da_nil))
      have e : zipD ((cellsL w p3).map Da.int) ((cellsL w q3).map Da.int) = ((cellsL w p3).zip (cellsL w q3)).map fun z => .tup [.int z.1, .int z.2] := by
        unfold zipD
        rw [List.zip_map, List.map_map]
        rfl
      rw [e] at h
      exact h
    · rw [List.length_zip, l1, l1, sizeLine_eq]
      omega
    · unfold pairsL
      rw [List.map_map]
      rfl
abbrev N_w_spots : List Str := ["_law_shape_here", "_law_found", "_law_leaf", "_law_side", "_law_cell"]
abbrev P_w_spots : List Str := ["_law_shape_here"]
theorem sc_w_spots : FnScope N_w_spots P_w_spots (defScope s_w_spots) := ⟨rfl, rfl, rfl, by decide +kernel, rfl, by decide +kernel, by decide +kernel⟩
theorem b_w_spots : BindsD d_w_spots P_w_spots := fun _ _ _ _ _ _ us hl => match us, hl with | [_], _ => rfl
theorem ok_w_spots (T : Txt K mg)  : Ok P w K mg base CX0 1 d_w_spots P_w_spots (spD R_spots) := by
  refine okD T.f_w_spots sc_w_spots b_w_spots (fun ds r h => ?_) fun cdv A outer s H E hr => ⟨_, (pss_cons (ps_set (i := 1) sc_w_spots.nd rfl (.inl rfl) (pe_lst pa_nil))
  (pss_cons (ps_for PassesOwn.never rfl (pi_range1 (by rfl) T.n_range (pa_cons (pe_ix (kix_tup (K := K)) (pv 0) pe_int (fun _ _ => rfl)) pa_nil)) (pg_name (i := 2) sc_w_spots.nd rfl (.inr rfl)) (pss_one (ps_for PassesOwn.never rfl (pi_range1 (by rfl) T.n_range (pa_cons pe_int pa_nil)) (pg_name (i := 3) sc_w_spots.nd rfl (.inr rfl)) (pss_one (ps_set (i := 1) sc_w_spots.nd rfl (.inl rfl) (pe_op op_cat (pv 1) (pe_lc (own := [("_law_cell", 4)]) rfl sc_w_spots.nd (pi_range1 (by rfl) T.n_range (pa_cons (pe_ix (kix_tup (K := K)) (pv 0) pe_int (fun _ _ => rfl)) pa_nil)) (blkOk_by (N := N_w_spots) (sc := defScope s_w_spots) (by decide +kernel)) (fun _ _ _ _ _ => (pg_name (i := 4) sc_w_spots.nd rfl (.inl rfl))) (fun _ _ _ _ _ => pts_nil) (fun _ _ _ _ _ => (pe_tup (pa_cons (pv 2) (pa_cons (pv 3) (pa_cons (pv 4) pa_nil))))))))))))
  (pss_one (ps_ret (pv 1))))), fun ds r h => ?_⟩
  · obtain ⟨m, w, rfl, _⟩ := h
    rfl
  · obtain ⟨m, w, rfl, hm, hw, rfl⟩ := h
    refine sv_rho (ρ := [some (shD m w), none, none, none, none]) rfl ?_
    refine sv_seq (sv_set (dv_lst da_nil (Nat.zero_le _))) ?_
    have cells : ∀ l s : Nat, ((List.range w).map fun (c : Nat) => Da.tup [.int l, .int s, .int c]) = ((List.range w).map fun (c : Nat) => ((l : Int), (s : Int), (c : Int))).map triD := fun l s => by
      rw [List.map_map]
      rfl
    -- what is found ahead of the leaf i, and within it ahead of the side j
    let sd : Nat → Nat → List Tri := fun l j => (List.range j).flatMap fun (s : Nat) => (List.range w).map fun (c : Nat) => ((l : Int), (s : Int), (c : Int))
    let bf : Nat → List Tri := fun i => (List.range i).flatMap fun l => sd l 2
    have sdl : ∀ l j, (sd l j).length = j * w := fun l j => by
      show ((List.range j).flatMap _).length = _
      rw [List.length_flatMap]
      have : ((List.range j).map fun (s : Nat) => ((List.range w).map fun (c : Nat) => ((l : Int), (s : Int), (c : Int))).length) = List.replicate j w := by
        refine List.ext_getElem? fun i => ?_
        rw [List.getElem?_map, List.getElem?_replicate]
        by_cases hi : i < j
        · rw [List.getElem?_range hi, if_pos hi]
          simp
        · rw [if_neg hi, List.getElem?_eq_none_iff.mpr (by simpa using hi)]
          rfl
      rw [this, List.sum_replicate_nat]
    have bfl : ∀ i, (bf i).length = i * (2 * w) := fun i => by
      induction i with
      | zero => simp [bf]
      | succ i ih =>
        show ((List.range (i + 1)).flatMap fun l => sd l 2).length = _
        rw [List.range_succ, List.flatMap_append, List.length_append]
        show (bf i).length + _ = _
        rw [ih]
        simp [sdl, Nat.succ_mul]
    have fit : ∀ i j, i < m → j < 2 → ((bf i ++ sd i j).map triD).length + ((List.range w).map fun (c : Nat) => Da.tup [.int (i : Nat), .int (j : Nat), .int c]).length ≤ sizeLine := fun i j hi hj => by
      rw [List.length_map, List.length_append, bfl, sdl, List.length_map, List.length_range, sizeLine_eq]
      have : i * (2 * w) ≤ 100 * 200 := Nat.mul_le_mul (by omega) (by omega)
      have : j * w ≤ 2 * 100 := Nat.mul_le_mul (by omega) (by omega)
      omega
    refine sv_seq (ρ1 := [some (shD m w), some (.lst ((bf m).map triD)), none, none, none]) ?_ (sv_ret (dv_to (dv_var rfl) rfl))
    have outer := sv_for (F0 := noH) (B := noH) (xs := rangeD m) (g := gName 2) (wi := iRng1 (tCons (tOp (rIxT K) (tVar 0) (tC (.int 0))) tNil))
      (tb := tFor (iRng1 (tCons (tC (.int 2)) tNil)) (gName 3) (tAsg (tOp rCat (tVar 1) (tLc (iRng1 (tCons (tOp (rIxT K) (tVar 0) (tC (.int 1))) tNil)) (gName 4) tYes (tTup (tCons (tVar 2) (tCons (tVar 3) (tCons (tVar 4) tNil)))) [4])) (gName 1)))
      (fun i => [some (shD m w), some (.lst ((bf i).map triD)), none, none, none]) (di_range (n := m) (da_cons (dv_op (dv_var rfl) dv_int (rd_ixT (by rfl))) da_nil) (by omega) (by omega)) ?_
    · rw [rangeD_len] at outer
      exact outer
    · intro i x hx
      obtain ⟨hi, rfl⟩ := rangeD_get hx
      refine ⟨_, bl_name, sv_nx (ρ1 := [some (shD m w), some (.lst ((bf (i + 1)).map triD)), some (.int i), none, none]) ?_ (le_keep (le_keep (le_drop (le_keep (le_keep le_nil)))))⟩
      have inner := sv_for (F0 := noH) (B := noH) (xs := rangeD 2) (g := gName 3) (wi := iRng1 (tCons (tC (.int 2)) tNil))
        (tb := tAsg (tOp rCat (tVar 1) (tLc (iRng1 (tCons (tOp (rIxT K) (tVar 0) (tC (.int 1))) tNil)) (gName 4) tYes (tTup (tCons (tVar 2) (tCons (tVar 3) (tCons (tVar 4) tNil)))) [4])) (gName 1))
        (fun j => [some (shD m w), some (.lst ((bf i ++ sd i j).map triD)), some (.int i), none, none]) (di_range (n := 2) (da_cons dv_int da_nil) (by omega) (by omega)) ?_
      · rw [rangeD_len] at inner
        have e0 : bf i ++ sd i 0 = bf i := by simp [sd]
        have e2 : bf i ++ sd i 2 = bf (i + 1) := by
          show bf i ++ sd i 2 = (List.range (i + 1)).flatMap fun l => sd l 2
          rw [List.range_succ, List.flatMap_append]
          simp [bf]
        rw [e2] at inner
        simp only [e0] at inner
        exact inner
      · intro j x hx
        obtain ⟨hj, rfl⟩ := rangeD_get hx
        refine ⟨_, bl_name, sv_nx (sv_set (dv_op (dv_var rfl) (dv_lcM (List.range w) (fun (c : Nat) => .int c) (fun (c : Nat) => .tup [.int i, .int j, .int c]) (di_range (n := w) (da_cons (dv_op (dv_var rfl) dv_int (rd_ixT (by rfl))) da_nil) (by omega) (by omega)) (by rw [List.length_range, sizeLine_eq]; omega) fun c hc =>
          ⟨_, bd_name, dv_tup (da_cons (dv_var rfl) (da_cons (dv_var rfl) (da_cons (dv_var rfl) da_nil))) (small_ rfl)⟩) (rd_catL (fit i j hi hj)))) ?_⟩
        have e : (bf i ++ sd i j).map triD ++ (List.range w).map (fun (c : Nat) => Da.tup [.int i, .int j, .int c]) = (bf i ++ sd i (j + 1)).map triD := by
          rw [cells, ← List.map_append]
          show List.map triD (bf i ++ sd i j ++ _) = List.map triD (bf i ++ (List.range (j + 1)).flatMap _)
          rw [List.range_succ, List.flatMap_append, List.append_assoc]
          simp [sd]
        rw [e]
        exact le_keep (le_keep (le_keep (le_drop (le_keep le_nil))))
end
end Bb
/-! Bb6 -/
namespace Bb
open PySem PySem.Spec PyProof.Rows L2

theorem letters_eq (s : Str) (hz : s.length ≤ 1000000) (hv : s.cps.all (· < 0x110000) = true) : ∀ l : List Nat, (∀ c ∈ l, c < 0x110000) → l.length ≤ 1000000 →
    SeqAt.shaped (Da.lst (l.map fun c => Da.str ⟨#[c]⟩)).py = true ∧ (Da.lst (l.map fun c => Da.str ⟨#[c]⟩)).plain = true := by
  intro l hl hn
  have h1 : ∀ l : List Nat, (∀ c ∈ l, c < 0x110000) → PyData.canLayAll0 ((l.map fun c => Da.str ⟨#[c]⟩).map Da.py) = true := fun l => by
    induction l with
    | nil => intro _; rfl
    | cons a l ih =>
      intro h
      have q := ih fun c hc => h c (List.mem_cons_of_mem _ hc)
      have a1 : a < 0x110000 := h a List.mem_cons_self
      show (PyData.canLay0 (.str ⟨#[a]⟩) && PyData.canLayAll0 ((l.map fun c => Da.str ⟨#[c]⟩).map Da.py)) = true
      rw [q, Bool.and_true]
      simp [PyData.canLay0, PyData.strOk, a1]
  have h2 : ∀ l : List Nat, PyData.depthAll ((l.map fun c => Da.str ⟨#[c]⟩).map Da.py) = 0 := fun l => by
    induction l with
    | nil => rfl
    | cons a l ih =>
      show max 0 (PyData.depthAll ((l.map fun c => Da.str ⟨#[c]⟩).map Da.py)) = 0
      rw [ih]
      rfl
  have h3 : ∀ l : List Nat, Da.plain.plainAll (l.map fun c => Da.str ⟨#[c]⟩) = true := fun l => by
    induction l with
    | nil => rfl
    | cons a l ih => exact ih
  refine ⟨?_, by rw [Da.plain]; exact h3 l⟩
  rw [py_list]
  unfold SeqAt.shaped
  rw [PyData.canLay0, h1 l hl, PyData.depth, h2]
  rfl
/-- a drop's parts, the first reason to refuse it -/
def dropB (m w : Nat) (a b c : Da) : Da := if spotB m w a = true then (if nameB b = true then (if withinB 1 400 c = true then .non else .str "wet") else .str "colour") else .str "spot"
/-- data that can be compared and asked -/
structure Good (t : Da) : Prop where
  plain : t.plain = true
  fin : Fin t
  shaped : SeqAt.shaped t.py = true
def R_w_no_drop (ds : List Da) (r : Da) : Prop := ∃ (m w : Nat) (x a b c : Da), ds = [shD m w, .tup [x, a, b, c]] ∧ m ≤ 100 ∧ w ≤ 100 ∧ Good a ∧ Good b ∧ c.isOb = false ∧ (∀ xs, a = .tup xs → xs.length ≤ 1000000) ∧ r = dropB m w a b c
section
variable {P : Program} {w : World} {K : PySem.W.Frag} {mg : Str → Option Value} {base : Heap}
abbrev N_w_is_name : List Str := ["_law_item", "_law_mark"]
abbrev P_w_is_name : List Str := ["_law_item"]
theorem sc_w_is_name : FnScope N_w_is_name P_w_is_name (defScope s_w_is_name) := ⟨rfl, rfl, rfl, by decide +kernel, rfl, by decide +kernel, by decide +kernel⟩
theorem b_w_is_name : BindsD d_w_is_name P_w_is_name := fun _ _ _ _ _ _ us hl => match us, hl with | [_], _ => rfl
theorem ok_w_is_name (T : Txt K mg)  : Ok P w K mg base CX0 1 d_w_is_name P_w_is_name (spD R_is_name) := by
  refine okD T.f_w_is_name sc_w_is_name b_w_is_name (fun ds r h => ?_) fun cdv A outer s H E hr => ⟨_, (pss_cons (ps_if (PW.pt (pw_or (pt_not (pt_val (pe_callB (kcall_isi (K := K)) (by rfl) T.n_isinstance (by decide +kernel) (pa_cons (pv 0) (pa_cons (pe_bltn (v := .ty "str") (u := .type "str") rfl T.n_str (by decide +kernel) rfl) pa_nil))))) (pw_or1 (pt_not (pt_chain op_lt op_lt pe_int (pe_callB call_len_str (by rfl) T.n_len (by decide +kernel) (pa_cons (pv 0) pa_nil)) pe_int))))) (pss_one (ps_ret pe_bl)) pss_nil)
  (pss_one (ps_ret (pe_cmpR (kop_eqD (K := K) hr.units) (pe_lc (own := [("_law_mark", 1)]) rfl sc_w_is_name.nd (pi_str (pv 0)) (blkOk_by (N := N_w_is_name) (sc := defScope s_w_is_name) (by decide +kernel)) (fun _ _ _ _ _ => (pg_name (i := 1) sc_w_is_name.nd rfl (.inl rfl))) (fun _ _ _ _ _ => (pts_one (pt_cmpR op_notIn_sign (pv 1) pe_str rfl))) (fun _ _ _ _ _ => (pv 1))) (pe_lst pa_nil) (nomark _))))), fun ds r h => ?_⟩
  · obtain ⟨t, rfl, _⟩ := h
    rfl
  · obtain ⟨t, rfl, ⟨ho, hl⟩, rfl⟩ := h
    refine sv_rho (ρ := [some t, none]) rfl ?_
    cases t with
    | str s =>
      obtain ⟨hs, hv⟩ := hl s rfl
      have hz : s.length < sizeLine := by rw [sizeLine_eq]; omega
      have all : Dv noH noH (tOp (rEqD K) (tLc (iStr (tVar 0)) (gName 1) (tTest (tOp (fun x y H Q => ∃ (c : Nat) (z : Str), x = .str ⟨#[c]⟩ ∧ y = .str z ∧ Q (.bl (!decide (c ∈ z.cps.toList))) H) (tVar 1) (tC (.str letters)))) (tVar 1) [1]) (tLst tNil)) [some (Da.str s), none] (.bl (s.cps.toList.all fun c => decide (c ∈ letters.cps.toList))) := by
        have h1 := dv_lc (F0 := noH) (B := noH) (ρ := [some (Da.str s), none]) (wi := iStr (tVar 0)) (g := gName 1) (vs := [1]) (te := tVar 1) (tt := tTest (tOp (fun x y H Q => ∃ (c : Nat) (z : Str), x = .str ⟨#[c]⟩ ∧ y = .str z ∧ Q (.bl (!decide (c ∈ z.cps.toList))) H) (tVar 1) (tC (.str letters))))
          s.cps.toList (fun c => Da.str ⟨#[c]⟩) (fun c => !decide (c ∈ letters.cps.toList)) (fun c => Da.str ⟨#[c]⟩) (di_str s (dv_var rfl)) hz fun c hc => ⟨_, bd_name, dt_test (dv_op (dv_var rfl) dv_str rd_notInC), fun _ => dv_var rfl⟩
        have hq : ∀ c ∈ s.cps.toList.filter (fun c => !decide (c ∈ letters.cps.toList)), c < 0x110000 := fun c hc => by
          have := (List.mem_filter.mp hc).1
          have q := Array.all_eq_true_iff_forall_mem.mp hv c (by simpa using this)
          simpa using q
        obtain ⟨q1, q2⟩ := letters_eq s hs hv _ hq (Nat.le_trans (List.length_filter_le _ _) hs)
        refine dv_to (dv_op h1 (dv_lst da_nil (Nat.zero_le _)) (rd_eqD q2 rfl q1 (by decide))) ?_
        rw [py_list]
        cases e : s.cps.toList.filter (fun c => !decide (c ∈ letters.cps.toList)) with
        | nil =>
          have : (s.cps.toList.all fun c => decide (c ∈ letters.cps.toList)) = true := List.all_eq_true.mpr fun c hc => by
            have := List.filter_eq_nil_iff.mp e c hc
            simpa using this
          rw [this]
          rfl
        | cons a l =>
          have : (s.cps.toList.all fun c => decide (c ∈ letters.cps.toList)) = false := by
            have ha : a ∈ s.cps.toList.filter (fun c => !decide (c ∈ letters.cps.toList)) := by rw [e]; exact List.mem_cons_self
            obtain ⟨m1, m2⟩ := List.mem_filter.mp ha
            refine Bool.eq_false_iff.mpr fun z => ?_
            have := List.all_eq_true.mp z a m1
            rw [this] at m2
            cases m2
          rw [this]
          rfl
      have e1 : decide ((0 : Int) < s.length) = decide (1 ≤ s.length) := by simp; omega
      have e2 : decide ((s.length : Int) < 9) = decide (s.length ≤ 8) := by simp; omega
      refine sv_ifS (dt_or (dt_not (dt_val (dv_cb (da_cons (dv_var rfl) (da_cons dv_ty da_nil)) (rc_isi (n := ho))))) fun _ => dt_not (dt_test (dv_chain dv_int (dv_cb (da_cons (dv_var rfl) da_nil) (rc_lenS (Nat.le_of_lt hz))) rd_B0 (fun _ => dv_int) (fun _ => rd_B0)))) (fun b => sv_seqR (sv_ret (dv_to dv_bl ?_))) fun b => sv_nextS (sv_ret (dv_to all ?_))
      · have b' : (decide ((0 : Int) < s.length) && decide ((s.length : Int) < 9)) = false := by
          have q : (!(Da.str s).isT "str") = false := by simp [Da.isT]
          rw [q, Bool.false_or] at b
          rw [Bool.not_eq_true'] at b
          exact b
        rw [e1, e2] at b'
        rw [nameB, b', Bool.false_and]
      · have b' : (decide ((0 : Int) < s.length) && decide ((s.length : Int) < 9)) = true := by
          have q : (!(Da.str s).isT "str") = false := by simp [Da.isT]
          rw [q, Bool.false_or] at b
          rw [Bool.not_eq_false'] at b
          exact b
        rw [e1, e2] at b'
        rw [nameB, b', Bool.true_and]
    | _ => exact sv_ifS (dt_or (c := false) (dt_not (dt_val (dv_cb (da_cons (dv_var rfl) (da_cons dv_ty da_nil)) (rc_isi (n := ho))))) fun b => by simp [Da.isT] at b) (fun b => sv_seqR (sv_ret (dv_to dv_bl rfl))) fun b => by simp [Da.isT] at b
end
end Bb
/-! Bb7 -/
namespace Bb
open PySem PySem.Spec PyProof.Rows L2

theorem mem_spotsL {m w : Nat} {s : Tri} : s ∈ spotsL m w ↔ (0 ≤ s.1 ∧ s.1 < m) ∧ (0 ≤ s.2.1 ∧ s.2.1 ≤ 1) ∧ (0 ≤ s.2.2 ∧ s.2.2 < w) := by
  unfold spotsL
  simp only [List.mem_flatMap, List.mem_map, List.mem_range]
  constructor
  · rintro ⟨l, hl, j, hj, c, hc, rfl⟩
    exact ⟨⟨by show (0 : Int) ≤ (l : Int); omega, by show (l : Int) < (m : Int); omega⟩, ⟨by show (0 : Int) ≤ (j : Int); omega, by show (j : Int) ≤ 1; omega⟩, by show (0 : Int) ≤ (c : Int); omega, by show (c : Int) < (w : Int); omega⟩
  · obtain ⟨a, b, c⟩ := s
    rintro ⟨⟨h1, h2⟩, ⟨h3, h4⟩, h5, h6⟩
    have h1 : 0 ≤ a := h1
    have h2 : a < m := h2
    have h3 : 0 ≤ b := h3
    have h4 : b ≤ 1 := h4
    have h5 : 0 ≤ c := h5
    have h6 : c < w := h6
    refine ⟨a.toNat, by omega, b.toNat, by omega, c.toNat, by omega, ?_⟩
    rw [Int.toNat_of_nonneg h1, Int.toNat_of_nonneg h3, Int.toNat_of_nonneg h5]
theorem eqvAll_ints : ∀ l k : List Int, PyData.eqvAll ((l.map Da.int).map Da.py) ((k.map Da.int).map Da.py) = decide (l = k)
  | [], [] => rfl
  | [], _ :: _ => rfl
  | _ :: _, [] => rfl
  | a :: l, b :: k => by
    show (PyData.eqv (.int a) (.int b) && PyData.eqvAll ((l.map Da.int).map Da.py) ((k.map Da.int).map Da.py)) = _
    rw [eqvAll_ints l k]
    show ((a == b) && decide (l = k)) = _
    by_cases h : a = b
    · subst h; simp
    · have : (a == b) = false := beq_eq_false_iff_ne.mpr h
      simp [this, h]
theorem tri_ints (s : Tri) : triD s = .tup (([s.1, s.2.1, s.2.2] : List Int).map Da.int) := rfl
theorem any_spots (m w : Nat) (l : List Int) : (((spotsL m w).map triD).any fun z => PyData.eqv z.py (Da.tup (l.map Da.int)).py) = spotB m w (.tup (l.map Da.int)) := by
  have e : ∀ s : Tri, PyData.eqv (triD s).py (Da.tup (l.map Da.int)).py = decide ([s.1, s.2.1, s.2.2] = l) := fun s => by
    rw [tri_ints, py_tup, py_tup]
    exact eqvAll_ints _ _
  rw [List.any_map]
  have e2 : ((fun z => PyData.eqv (Da.py z) (Da.tup (l.map Da.int)).py) ∘ triD) = fun s : Tri => decide ([s.1, s.2.1, s.2.2] = l) := funext e
  rw [e2]
  rw [Bool.eq_iff_iff, List.any_eq_true]
  constructor
  · rintro ⟨s, hs, h⟩
    have h' := of_decide_eq_true h
    subst h'
    obtain ⟨⟨h1, h2⟩, ⟨h3, h4⟩, h5, h6⟩ := mem_spotsL.mp hs
    show (withinB 0 (m - 1) (.int s.1) && (withinB 0 1 (.int s.2.1) && withinB 0 (w - 1) (.int s.2.2))) = true
    simp [withinB]
    omega
  · intro h
    obtain ⟨s, e, h1, h2, h3, h4, h5, h6⟩ := spotB_tri h
    refine ⟨s, mem_spotsL.mpr ⟨⟨h1, h2⟩, ⟨h3, h4⟩, h5, h6⟩, decide_eq_true ?_⟩
    rw [tri_ints] at e
    have e' : l.map Da.int = ([s.1, s.2.1, s.2.2] : List Int).map Da.int := Da.tup.inj e
    have inj : ∀ a b : List Int, a.map Da.int = b.map Da.int → a = b := fun a => by
      induction a with
      | nil => intro b h; cases b with
        | nil => rfl
        | cons x y => cases h
      | cons a l ih => intro b h; cases b with
        | nil => cases h
        | cons x y =>
          rw [List.map_cons, List.map_cons] at h
          injection h with h1 h2
          injection h1 with h1
          rw [h1, ih y h2]
    exact (inj _ _ e').symm
theorem shaped_tris (l : List Tri) : SeqAt.shaped (Da.lst (l.map triD)).py = true := by
  have h1 : ∀ l : List Tri, PyData.canLayAll0 ((l.map triD).map Da.py) = true := fun l => by
    induction l with
    | nil => rfl
    | cons a l ih => exact ih
  have h2 : ∀ l : List Tri, PyData.depthAll ((l.map triD).map Da.py) ≤ 1 := fun l => by
    induction l with
    | nil => exact Nat.zero_le _
    | cons a l ih =>
      show max 1 (PyData.depthAll ((l.map triD).map Da.py)) ≤ 1
      omega
  rw [py_list]
  unfold SeqAt.shaped
  rw [PyData.canLay0, h1 l, PyData.depth]
  have := h2 l
  exact Bool.and_eq_true_iff.mpr ⟨rfl, decide_eq_true (by omega)⟩
theorem plain_tris (l : List Tri) : (Da.lst (l.map triD)).plain = true := by
  have h1 : ∀ l : List Tri, Da.plain.plainAll (l.map triD) = true := fun l => by
    induction l with
    | nil => rfl
    | cons a l ih => exact ih
  rw [Da.plain]
  exact h1 l
theorem wholes : ∀ xs : List Da, xs.filter (fun x => !wholeB x) = [] → ∃ l : List Int, xs = l.map .int
  | [], _ => ⟨[], rfl⟩
  | x :: xs, h => by
    rw [List.filter_cons] at h
    cases x with
    | int i =>
      obtain ⟨l, e⟩ := wholes xs (by simpa [wholeB] using h)
      exact ⟨i :: l, by rw [e]; rfl⟩
    | _ => simp [wholeB] at h
theorem unwhole {m w : Nat} {xs : List Da} (h : xs.filter (fun x => !wholeB x) ≠ []) : spotB m w (.tup xs) = false := by
  cases e : spotB m w (.tup xs) with
  | false => rfl
  | true =>
    obtain ⟨s, e2, _⟩ := spotB_tri e
    have e3 : xs = [.int s.1, .int s.2.1, .int s.2.2] := Da.tup.inj e2
    subst e3
    exact absurd rfl h
section
variable {P : Program} {w : World} {K : PySem.W.Frag} {mg : Str → Option Value} {base : Heap}
abbrev N_w_no_drop : List Str := ["_law_shape_here", "_law_deed", "_law_word_here", "_law_spot_here", "_law_colour", "_law_wet", "_law_one"]
abbrev P_w_no_drop : List Str := ["_law_shape_here", "_law_deed"]
theorem sc_w_no_drop : FnScope N_w_no_drop P_w_no_drop (defScope s_w_no_drop) := ⟨rfl, rfl, rfl, by decide +kernel, rfl, by decide +kernel, by decide +kernel⟩
theorem b_w_no_drop : BindsD d_w_no_drop P_w_no_drop := fun _ _ _ _ _ _ us hl => match us, hl with | [_, _], _ => rfl
theorem ok_w_no_drop (T : Txt K mg) (G_w_spots : Ok P w K mg base CX0 1 d_w_spots P_w_spots (spD R_spots)) (G_w_whole : Ok P w K mg base CX0 1 d_w_whole P_w_whole (spD R_whole)) (G_w_is_name : Ok P w K mg base CX0 1 d_w_is_name P_w_is_name (spD R_is_name)) (G_w_within : Ok P w K mg base CX0 2 d_w_within P_w_within (spD R_is_within)) : Ok P w K mg base CX0 3 d_w_no_drop P_w_no_drop (spD R_w_no_drop) := by
  refine okD T.f_w_no_drop sc_w_no_drop b_w_no_drop (fun ds r h => ?_) fun cdv A outer s H E hr => ⟨_, (pss_cons (ps_asg (pv 1) (kpg_tup (K := K) (n := 4) rfl (pgs_cons (pg_name (i := 2) sc_w_no_drop.nd rfl (.inl rfl)) (pgs_cons (pg_name (i := 3) sc_w_no_drop.nd rfl (.inl rfl)) (pgs_cons (pg_name (i := 4) sc_w_no_drop.nd rfl (.inl rfl)) (pgs_cons (pg_name (i := 5) sc_w_no_drop.nd rfl (.inl rfl)) pgs_nil))))))
  (pss_cons (ps_if (PW.pt (pw_or (pt_not (pt_val (pe_callB (kcall_isi (K := K)) (by rfl) T.n_isinstance (by decide +kernel) (pa_cons (pv 3) (pa_cons (pe_bltn (v := .ty "tuple") (u := .type "tuple") rfl T.n_tuple (by decide +kernel) rfl) pa_nil))))) (pw_or (pt_cmpR (kop_neD (K := K) hr.units) (pe_lc (own := [("_law_one", 6)]) rfl sc_w_no_drop.nd (kpi_tup (K := K) (pv 3)) (blkOk_by (N := N_w_no_drop) (sc := defScope s_w_no_drop) (by decide +kernel)) (fun _ _ _ _ _ => (pg_name (i := 6) sc_w_no_drop.nd rfl (.inl rfl))) (fun _ _ _ _ _ => (pts_one (pt_not (pt_val (pe_callO G_w_whole (hr.mono (by decide)) rfl T.g_w_whole pass0 (pa_cons (pv 6) pa_nil)))))) (fun _ _ _ _ _ => pe_int)) (pe_lst pa_nil) (nomark _)) (pw_or1 (pt_cmpR (kop_notInD (K := K) hr.units65) (pv 3) (pe_callO G_w_spots (hr.mono (by decide)) rfl T.g_w_spots pass0 (pa_cons (pv 0) pa_nil)) rfl))))) (pss_one (ps_ret pe_str)) pss_nil)
  (pss_cons (ps_if (pt_not (pt_val (pe_callO G_w_is_name (hr.mono (by decide)) rfl T.g_w_is_name pass0 (pa_cons (pv 4) pa_nil)))) (pss_one (ps_ret pe_str)) pss_nil)
  (pss_one (ps_ret (pe_ifExp (pt_val (pe_callO G_w_within (hr.mono (by decide)) rfl T.g_w_within pass0 (pa_cons (pv 5) (pa_cons pe_int (pa_cons pe_int pa_nil))))) pe_non pe_str)))))), fun ds r h => ?_⟩
  · obtain ⟨m, w, x, a, b, c, rfl, _⟩ := h
    rfl
  · obtain ⟨m, w, x, a, b, c, rfl, hm, hw, Ga, Gb, hc, hn, rfl⟩ := h
    have ho := plain_ob Ga.plain
    refine sv_rho (ρ := [some (shD m w), some (.tup [x, a, b, c]), none, none, none, none, none]) rfl ?_
    refine sv_seq (sv_un4 (dv_var rfl)) ?_
    cases a with
    | tup xs =>
      have lc := dv_lc (F0 := noH) (B := noH) (ρ := [some (shD m w), some (.tup [x, .tup xs, b, c]), some x, some (.tup xs), some b, some c, none]) (wi := iTup K (tVar 3)) (g := gName 6) (vs := [6]) (te := tC (.int 1)) (tt := tNot (tB (tCall (spD R_whole) [] E0 (tCons (tVar 6) tNil))))
        xs id (fun x => !wholeB x) (fun _ => Da.int 1) (by rw [List.map_id]; exact di_tup (dv_var rfl)) (by rw [sizeLine_eq]; have := hn xs rfl; omega) fun y hy => ⟨_, bd_name, dt_not (dt_val (dv_call (da_cons (dv_var rfl) da_nil) ⟨_, rfl, plain_ob (plain_tup Ga.plain y hy), rfl⟩)), fun _ => dv_int⟩
      have e1 : (xs.filter (fun x => !wholeB x)).map (fun _ => Da.int 1) = ((xs.filter (fun x => !wholeB x)).map (fun _ => (1 : Int))).map Da.int := by rw [List.map_map]; rfl
      rw [e1] at lc
      have e2 : decide ((xs.filter (fun x => !wholeB x)).map (fun _ => (1 : Int)) = []) = decide (xs.filter (fun x => !wholeB x) = []) := by simp
      by_cases hk : xs.filter (fun x => !wholeB x) = []
      · obtain ⟨l, rfl⟩ := wholes xs hk
        have nin := dv_op (F0 := noH) (B := noH) (ρ := [some (shD m w), some (.tup [x, .tup (l.map .int), b, c]), some x, some (.tup (l.map .int)), some b, some c, none]) (ta := tVar 3) (tb := tCall (spD R_spots) [] E0 (tCons (tVar 0) tNil)) (r := rNotInD K) (dv_var rfl) (dv_call (da_cons (dv_var rfl) da_nil) ⟨m, w, rfl, hm, hw, rfl⟩) (rd_notInD Ga.plain (plain_tris _) Ga.shaped (shaped_tris _))
        rw [any_spots] at nin
        refine sv_ifS (dt_or (dt_not (dt_val (dv_cb (da_cons (dv_var rfl) (da_cons dv_ty da_nil)) (rc_isi (n := ho))))) fun _ => dt_or (dt_test (dv_op lc (dv_lst da_nil (Nat.zero_le _)) rd_neNil)) fun _ => dt_test nin) (fun q => sv_seqR (sv_ret (dv_to dv_str ?_))) fun q => sv_nextS ?_
        · rw [e2, hk] at q
          have q' : spotB m w (.tup (l.map .int)) = false := by simpa [Da.isT] using q
          rw [dropB, if_neg (by rw [q']; decide)]
        · have hs : spotB m w (.tup (l.map .int)) = true := by
            rw [e2, hk] at q
            simpa [Da.isT] using q
          refine sv_ifS (dt_not (dt_val (dv_call (da_cons (dv_var rfl) da_nil) ⟨_, rfl, Gb.fin, rfl⟩))) (fun q => sv_seqR (sv_ret (dv_to dv_str ?_))) fun q => sv_nextS (sv_ret (dv_if (dt_val (dv_call (da_cons (dv_var rfl) (da_cons dv_int (da_cons dv_int da_nil))) ⟨_, _, _, rfl, hc, rfl⟩)) (fun z => dv_to dv_non ?_) fun z => dv_to dv_str ?_))
          · have q' : nameB b = false := by simpa using q
            rw [dropB, if_pos hs, if_neg (by rw [q']; decide)]
          · have q' : nameB b = true := by simpa using q
            rw [dropB, if_pos hs, if_pos q', if_pos z]
          · have q' : nameB b = true := by simpa using q
            rw [dropB, if_pos hs, if_pos q', if_neg (by rw [z]; decide)]
      · refine sv_ifS (dt_or (dt_not (dt_val (dv_cb (da_cons (dv_var rfl) (da_cons dv_ty da_nil)) (rc_isi (n := ho))))) fun _ => dt_or (c := true) (dt_test (dv_op lc (dv_lst da_nil (Nat.zero_le _)) rd_neNil)) fun q => ?_) (fun q => sv_seqR (sv_ret (dv_to dv_str ?_))) fun q => ?_
        · rw [e2, decide_eq_false hk] at q
          cases q
        · rw [dropB, if_neg (by rw [unwhole hk]; decide)]
        · rw [e2, decide_eq_false hk] at q
          simp at q
    | _ => exact sv_ifS (dt_or (c := false) (dt_not (dt_val (dv_cb (da_cons (dv_var rfl) (da_cons dv_ty da_nil)) (rc_isi (n := ho))))) fun b => by simp [Da.isT] at b) (fun b => sv_seqR (sv_ret (dv_to dv_str rfl))) fun b => by simp [Da.isT] at b
end
end Bb
/-! Bb8 -/
namespace Bb
open PySem PySem.Spec PyProof.Rows L2

/-- nesting below n, sizes within bounds -/
def Da.fits : Nat → Da → Prop
  | _, .non => True
  | _, .bl _ => True
  | _, .int _ => True
  | _, .str _ => True
  | _, .ob _ => False
  | 0, .lst _ => False
  | 0, .tup _ => False
  | n + 1, .lst xs => xs.length ≤ 1000000 ∧ ∀ x ∈ xs, x.fits n
  | n + 1, .tup xs => xs.length ≤ 1000000 ∧ ∀ x ∈ xs, x.fits n
def Da.isSeq : Da → Bool
  | .lst _ => true
  | .tup _ => true
  | _ => false
def Da.isBl : Da → Bool
  | .bl _ => true
  | _ => false
/-- equal, and of the same kinds throughout -/
def likeB : Nat → Da → Da → Bool
  | n + 1, .lst xs, .lst ys => decide (xs.length = ys.length) && (List.range xs.length).all fun k => likeB n (xs.getD k .non) (ys.getD k .non)
  | n + 1, .tup xs, .tup ys => decide (xs.length = ys.length) && (List.range xs.length).all fun k => likeB n (xs.getD k .non) (ys.getD k .non)
  | _, x, y => if x.isSeq || y.isSeq then false else decide (x.isBl = y.isBl) && x.eqS y
def R_like (n : Nat) (ds : List Da) (r : Da) : Prop := ∃ a b, ds = [a, b] ∧ a.fits n ∧ b.fits n ∧ r = .bl (likeB n a b)
theorem fits_ob {n : Nat} {d : Da} (h : d.fits n) : d.isOb = false := by
  cases d with
  | ob v => cases n <;> exact h.elim
  | _ => rfl
theorem filter_all {n : Nat} (p : Nat → Bool) : decide ((List.range n).filter (fun k => !p k) = []) = (List.range n).all p := by
  rw [Bool.eq_iff_iff, decide_eq_true_iff, List.filter_eq_nil_iff, List.all_eq_true]
  constructor
  · intro h k hk
    have := h k hk
    simpa using this
  · intro h k hk
    rw [h k hk]
    decide
abbrev N_w_like : List Str := ["_law_one", "_law_two", "_law_k"]
abbrev P_w_like : List Str := ["_law_one", "_law_two"]
theorem sc_w_like : FnScope N_w_like P_w_like (defScope s_w_like) := ⟨rfl, rfl, rfl, by decide +kernel, rfl, by decide +kernel, by decide +kernel⟩
theorem b_w_like : BindsD d_w_like P_w_like := fun _ _ _ _ _ _ us hl => match us, hl with | [_, _], _ => rfl
section
variable {P : Program} {w : World} {K : PySem.W.Frag} {mg : Str → Option Value} {base : Heap}
theorem ok_w_like (T : Txt K mg) : ∀ n : Nat, Ok P w K mg base CX0 (n + 1) d_w_like P_w_like (spD (R_like n)) := by
  intro n
  induction n with
  | zero =>
    have G_w_like : Ok P w K mg base CX0 0 d_w_like P_w_like (fun _ _ _ _ => False) := by
      obtain ⟨fd, F⟩ := T.f_w_like
      exact ⟨fd, ⟨fun _ _ _ _ h => h.elim, fun _ _ _ _ _ _ _ _ _ _ _ _ _ h => h.elim⟩, F.bindsN b_w_like, F.kp⟩
    refine okD T.f_w_like sc_w_like b_w_like (fun ds r h => ?_) fun cdv A outer s H E hr => ⟨_, (pss_cons (ps_if (pt_val (pe_callB (kcall_isiT (K := K)) (by rfl) T.n_isinstance (by decide +kernel) (pa_cons (pv 0) (pa_cons (pe_tup (pa_cons (pe_bltn (v := .ty "list") (u := .type "list") rfl T.n_list (by decide +kernel) rfl) (pa_cons (pe_bltn (v := .ty "tuple") (u := .type "tuple") rfl T.n_tuple (by decide +kernel) rfl) pa_nil))) pa_nil)))) (pss_cons (ps_if (PW.pt (pw_or (pt_cmpR op_ne (pe_callB (kcall_isi (K := K)) (by rfl) T.n_isinstance (by decide +kernel) (pa_cons (pv 0) (pa_cons (pe_bltn (v := .ty "list") (u := .type "list") rfl T.n_list (by decide +kernel) rfl) pa_nil))) (pe_callB (kcall_isi (K := K)) (by rfl) T.n_isinstance (by decide +kernel) (pa_cons (pv 1) (pa_cons (pe_bltn (v := .ty "list") (u := .type "list") rfl T.n_list (by decide +kernel) rfl) pa_nil))) (nomark _)) (pw_or1 (pt_cmpR op_ne (pe_callB (kcall_isi (K := K)) (by rfl) T.n_isinstance (by decide +kernel) (pa_cons (pv 0) (pa_cons (pe_bltn (v := .ty "tuple") (u := .type "tuple") rfl T.n_tuple (by decide +kernel) rfl) pa_nil))) (pe_callB (kcall_isi (K := K)) (by rfl) T.n_isinstance (by decide +kernel) (pa_cons (pv 1) (pa_cons (pe_bltn (v := .ty "tuple") (u := .type "tuple") rfl T.n_tuple (by decide +kernel) rfl) pa_nil))) (nomark _))))) (pss_one (ps_ret pe_bl)) pss_nil)
  (pss_cons (ps_if (pt_cmpR op_ne (pe_callB (kcall_len (K := K)) (by rfl) T.n_len (by decide +kernel) (pa_cons (pv 0) pa_nil)) (pe_callB (kcall_len (K := K)) (by rfl) T.n_len (by decide +kernel) (pa_cons (pv 1) pa_nil)) (nomark _)) (pss_one (ps_ret pe_bl)) pss_nil)
  (pss_one (ps_ret (pe_cmpR (kop_eqD (K := K) hr.units) (pe_lc (own := [("_law_k", 2)]) rfl sc_w_like.nd (pi_range1 (by rfl) T.n_range (pa_cons (pe_callB (kcall_len (K := K)) (by rfl) T.n_len (by decide +kernel) (pa_cons (pv 0) pa_nil)) pa_nil)) (blkOk_by (N := N_w_like) (sc := defScope s_w_like) (by decide +kernel)) (fun _ _ _ _ _ => (pg_name (i := 2) sc_w_like.nd rfl (.inl rfl))) (fun _ _ _ _ _ => (pts_one (pt_not (pt_val (pe_callO G_w_like (hr.mono (Nat.le_refl _)) rfl T.g_w_like pass0 (pa_cons (pe_ix (kix_seq (K := K)) (pv 0) (pv 2) (fun _ _ => rfl)) (pa_cons (pe_ix (kix_seq (K := K)) (pv 1) (pv 2) (fun _ _ => rfl)) pa_nil))))))) (fun _ _ _ _ _ => (pv 2))) (pe_lst pa_nil) (nomark _)))))) pss_nil)
  (pss_cons (ps_if (pt_val (pe_callB (kcall_isiT (K := K)) (by rfl) T.n_isinstance (by decide +kernel) (pa_cons (pv 1) (pa_cons (pe_tup (pa_cons (pe_bltn (v := .ty "list") (u := .type "list") rfl T.n_list (by decide +kernel) rfl) (pa_cons (pe_bltn (v := .ty "tuple") (u := .type "tuple") rfl T.n_tuple (by decide +kernel) rfl) pa_nil))) pa_nil)))) (pss_one (ps_ret pe_bl)) pss_nil)
  (pss_one (ps_ret (pe_and (pe_cmpR op_eq (pe_callB (kcall_isi (K := K)) (by rfl) T.n_isinstance (by decide +kernel) (pa_cons (pv 0) (pa_cons (pe_bltn (v := .ty "bool") (u := .type "bool") rfl T.n_bool (by decide +kernel) rfl) pa_nil))) (pe_callB (kcall_isi (K := K)) (by rfl) T.n_isinstance (by decide +kernel) (pa_cons (pv 1) (pa_cons (pe_bltn (v := .ty "bool") (u := .type "bool") rfl T.n_bool (by decide +kernel) rfl) pa_nil))) (nomark _)) (pe_one (pe_cmpR op_eq (pv 0) (pv 1) (nomark _)))))))), fun ds r h => ?_⟩
    · obtain ⟨a, b, rfl, _⟩ := h
      rfl
    · obtain ⟨a, b, rfl, ha, hb, rfl⟩ := h
      have h1 := fits_ob ha
      have h2 := fits_ob hb
      refine sv_rho (ρ := [some a, some b, none]) rfl ?_
      have n1 : a.isSeq = false := by cases a <;> first | rfl | exact ha.elim
      have n2 : b.isSeq = false := by cases b <;> first | rfl | exact hb.elim
      have e1 : (a.isT "list" || a.isT "tuple") = false := by cases a <;> first | (simp [Da.isT]; done) | (cases n1)
      have e2 : (b.isT "list" || b.isT "tuple") = false := by cases b <;> first | (simp [Da.isT]; done) | (cases n2)
      refine sv_ifS (dt_val (dv_cb (da_cons (dv_var rfl) (da_cons (dv_tup (da_cons dv_ty (da_cons dv_ty da_nil)) (small_ rfl)) da_nil)) (rc_isi2 (n := h1)))) (fun q => by rw [e1] at q; cases q) fun _ => sv_nextS (sv_ifS (dt_val (dv_cb (da_cons (dv_var rfl) (da_cons (dv_tup (da_cons dv_ty (da_cons dv_ty da_nil)) (small_ rfl)) da_nil)) (rc_isi2 (n := h2)))) (fun q => by rw [e2] at q; cases q) fun _ => sv_nextS (sv_ret ?_))
      have el : likeB 0 a b = (decide (a.isBl = b.isBl) && a.eqS b) := by
        cases a <;> cases b <;> first | (cases n1; done) | (cases n2; done) | (simp [likeB, Da.isSeq])
      rw [el]
      refine dv_and (dv_to (dv_op (dv_cb (da_cons (dv_var rfl) (da_cons dv_ty da_nil)) (rc_isi (n := h1))) (dv_cb (da_cons (dv_var rfl) (da_cons dv_ty da_nil)) (rc_isi (n := h2))) rd_eqB) ?_) fun q => dv_op (dv_var rfl) (dv_var rfl) (rd_eqSc ?_)
      · cases a <;> cases b <;> first | (cases n1; done) | (cases n2; done) | (cases h1; done) | (cases h2; done) | (simp [Da.isT, Da.isBl])
      · have q' := of_decide_eq_true q
        cases a <;> cases b <;> first | rfl | (cases n1; done) | (cases n2; done) | (cases h1; done) | (cases h2; done) | (simp [Da.isBl] at q')
  | succ n ih =>
    have G_w_like := ih
    refine okD T.f_w_like sc_w_like b_w_like (fun ds r h => ?_) fun cdv A outer s H E hr => ⟨_, (pss_cons (ps_if (pt_val (pe_callB (kcall_isiT (K := K)) (by rfl) T.n_isinstance (by decide +kernel) (pa_cons (pv 0) (pa_cons (pe_tup (pa_cons (pe_bltn (v := .ty "list") (u := .type "list") rfl T.n_list (by decide +kernel) rfl) (pa_cons (pe_bltn (v := .ty "tuple") (u := .type "tuple") rfl T.n_tuple (by decide +kernel) rfl) pa_nil))) pa_nil)))) (pss_cons (ps_if (PW.pt (pw_or (pt_cmpR op_ne (pe_callB (kcall_isi (K := K)) (by rfl) T.n_isinstance (by decide +kernel) (pa_cons (pv 0) (pa_cons (pe_bltn (v := .ty "list") (u := .type "list") rfl T.n_list (by decide +kernel) rfl) pa_nil))) (pe_callB (kcall_isi (K := K)) (by rfl) T.n_isinstance (by decide +kernel) (pa_cons (pv 1) (pa_cons (pe_bltn (v := .ty "list") (u := .type "list") rfl T.n_list (by decide +kernel) rfl) pa_nil))) (nomark _)) (pw_or1 (pt_cmpR op_ne (pe_callB (kcall_isi (K := K)) (by rfl) T.n_isinstance (by decide +kernel) (pa_cons (pv 0) (pa_cons (pe_bltn (v := .ty "tuple") (u := .type "tuple") rfl T.n_tuple (by decide +kernel) rfl) pa_nil))) (pe_callB (kcall_isi (K := K)) (by rfl) T.n_isinstance (by decide +kernel) (pa_cons (pv 1) (pa_cons (pe_bltn (v := .ty "tuple") (u := .type "tuple") rfl T.n_tuple (by decide +kernel) rfl) pa_nil))) (nomark _))))) (pss_one (ps_ret pe_bl)) pss_nil)
  (pss_cons (ps_if (pt_cmpR op_ne (pe_callB (kcall_len (K := K)) (by rfl) T.n_len (by decide +kernel) (pa_cons (pv 0) pa_nil)) (pe_callB (kcall_len (K := K)) (by rfl) T.n_len (by decide +kernel) (pa_cons (pv 1) pa_nil)) (nomark _)) (pss_one (ps_ret pe_bl)) pss_nil)
  (pss_one (ps_ret (pe_cmpR (kop_eqD (K := K) hr.units) (pe_lc (own := [("_law_k", 2)]) rfl sc_w_like.nd (pi_range1 (by rfl) T.n_range (pa_cons (pe_callB (kcall_len (K := K)) (by rfl) T.n_len (by decide +kernel) (pa_cons (pv 0) pa_nil)) pa_nil)) (blkOk_by (N := N_w_like) (sc := defScope s_w_like) (by decide +kernel)) (fun _ _ _ _ _ => (pg_name (i := 2) sc_w_like.nd rfl (.inl rfl))) (fun _ _ _ _ _ => (pts_one (pt_not (pt_val (pe_callO G_w_like (hr.mono (Nat.le_refl _)) rfl T.g_w_like pass0 (pa_cons (pe_ix (kix_seq (K := K)) (pv 0) (pv 2) (fun _ _ => rfl)) (pa_cons (pe_ix (kix_seq (K := K)) (pv 1) (pv 2) (fun _ _ => rfl)) pa_nil))))))) (fun _ _ _ _ _ => (pv 2))) (pe_lst pa_nil) (nomark _)))))) pss_nil)
  (pss_cons (ps_if (pt_val (pe_callB (kcall_isiT (K := K)) (by rfl) T.n_isinstance (by decide +kernel) (pa_cons (pv 1) (pa_cons (pe_tup (pa_cons (pe_bltn (v := .ty "list") (u := .type "list") rfl T.n_list (by decide +kernel) rfl) (pa_cons (pe_bltn (v := .ty "tuple") (u := .type "tuple") rfl T.n_tuple (by decide +kernel) rfl) pa_nil))) pa_nil)))) (pss_one (ps_ret pe_bl)) pss_nil)
  (pss_one (ps_ret (pe_and (pe_cmpR op_eq (pe_callB (kcall_isi (K := K)) (by rfl) T.n_isinstance (by decide +kernel) (pa_cons (pv 0) (pa_cons (pe_bltn (v := .ty "bool") (u := .type "bool") rfl T.n_bool (by decide +kernel) rfl) pa_nil))) (pe_callB (kcall_isi (K := K)) (by rfl) T.n_isinstance (by decide +kernel) (pa_cons (pv 1) (pa_cons (pe_bltn (v := .ty "bool") (u := .type "bool") rfl T.n_bool (by decide +kernel) rfl) pa_nil))) (nomark _)) (pe_one (pe_cmpR op_eq (pv 0) (pv 1) (nomark _)))))))), fun ds r h => ?_⟩
    · obtain ⟨a, b, rfl, _⟩ := h
      rfl
    · obtain ⟨a, b, rfl, ha, hb, rfl⟩ := h
      have h1 := fits_ob ha
      have h2 := fits_ob hb
      refine sv_rho (ρ := [some a, some b, none]) rfl ?_
      by_cases s1 : a.isSeq = true
      · by_cases s2 : ∃ xs ys, a = .lst xs ∧ b = .lst ys
        · obtain ⟨xs, ys, rfl, rfl⟩ := s2
          refine sv_ifS (dt_val (dv_cb (da_cons (dv_var rfl) (da_cons (dv_tup (da_cons dv_ty (da_cons dv_ty da_nil)) (small_ rfl)) da_nil)) (rc_isi2 (n := h1)))) (fun _ => sv_ifS (dt_or (dt_test (dv_op (dv_cb (da_cons (dv_var rfl) (da_cons dv_ty da_nil)) (rc_isi (n := h1))) (dv_cb (da_cons (dv_var rfl) (da_cons dv_ty da_nil)) (rc_isi (n := h2))) rd_neB)) fun _ => dt_test (dv_op (dv_cb (da_cons (dv_var rfl) (da_cons dv_ty da_nil)) (rc_isi (n := h1))) (dv_cb (da_cons (dv_var rfl) (da_cons dv_ty da_nil)) (rc_isi (n := h2))) rd_neB)) (fun q => by simp [Da.isT] at q) fun _ => sv_nextS ?_) fun q => by simp [Da.isT] at q
          by_cases hl : xs.length = ys.length
          · refine sv_ifS (dt_test (dv_op (dv_cb (da_cons (dv_var rfl) da_nil) rc_lenL) (dv_cb (da_cons (dv_var rfl) da_nil) rc_lenL) rd_neI)) (fun q => by simp [hl] at q) fun _ => sv_nextS (sv_seqR (sv_ret ?_))
            have ha : xs.length ≤ 1000000 ∧ ∀ x ∈ xs, x.fits n := ha
            have hb : ys.length ≤ 1000000 ∧ ∀ x ∈ ys, x.fits n := hb
            have lc := dv_lc (F0 := noH) (B := noH) (ρ := [some (Da.lst xs), some (Da.lst ys), none]) (wi := iRng1 (tCons (tCB (rLenQ K) (tCons (tVar 0) tNil)) tNil)) (g := gName 2) (vs := [2]) (te := tVar 2) (tt := tNot (tB (tCall (spD (R_like n)) [] E0 (tCons (tOp (rIx K) (tVar 0) (tVar 2)) (tCons (tOp (rIx K) (tVar 1) (tVar 2)) tNil)))))
              (List.range xs.length) (fun (k : Nat) => Da.int k) (fun k => !likeB n (xs.getD k .non) (ys.getD k .non)) (fun (k : Nat) => Da.int k) (di_range (n := xs.length) (da_cons (dv_cb (da_cons (dv_var rfl) da_nil) rc_lenL) da_nil) (by omega) (by omega)) (by rw [List.length_range, sizeLine_eq]; omega) fun k hk => by
                have hk1 : k < xs.length := List.mem_range.mp hk
                have x1 := getD_at (d := Da.non) hk1
                have y1 := getD_at (d := Da.non) (show k < ys.length by omega)
                exact ⟨_, bd_name, dt_not (dt_val (dv_call (da_cons (dv_op (dv_var rfl) (dv_var rfl) (rd_ixSeqL (atI_nat x1))) (da_cons (dv_op (dv_var rfl) (dv_var rfl) (rd_ixSeqL (atI_nat y1))) da_nil)) ⟨_, _, rfl, ha.2 _ (List.mem_of_getElem? x1), hb.2 _ (List.mem_of_getElem? y1), rfl⟩)), fun _ => dv_var rfl⟩
            have e1 : ((List.range xs.length).filter (fun k => !likeB n (xs.getD k .non) (ys.getD k .non))).map (fun (k : Nat) => Da.int k) = (((List.range xs.length).filter (fun k => !likeB n (xs.getD k .non) (ys.getD k .non))).map (fun (k : Nat) => (k : Int))).map Da.int := by rw [List.map_map]; rfl
            rw [e1] at lc
            have fin := dv_op (r := rEqD K) (tb := tLst tNil) lc (dv_lst da_nil (Nat.zero_le _)) rd_eqNil
            have e2 : decide (((List.range xs.length).filter (fun k => !likeB n (xs.getD k .non) (ys.getD k .non))).map (fun (k : Nat) => (k : Int)) = []) = (List.range xs.length).all fun k => likeB n (xs.getD k .non) (ys.getD k .non) := by
              rw [← filter_all]
              simp
            rw [e2] at fin
            refine dv_to fin ?_
            simp [likeB, hl]
          · refine sv_ifS (dt_test (dv_op (dv_cb (da_cons (dv_var rfl) da_nil) rc_lenL) (dv_cb (da_cons (dv_var rfl) da_nil) rc_lenL) rd_neI)) (fun _ => sv_seqR (sv_seqR (sv_ret (dv_to dv_bl ?_)))) fun q => ?_
            · simp [likeB, hl]
            · have hl' : ¬ ((xs.length : Int) = ys.length) := by omega
              simp [hl'] at q
        · by_cases s3 : ∃ xs ys, a = .tup xs ∧ b = .tup ys
          · obtain ⟨xs, ys, rfl, rfl⟩ := s3
            refine sv_ifS (dt_val (dv_cb (da_cons (dv_var rfl) (da_cons (dv_tup (da_cons dv_ty (da_cons dv_ty da_nil)) (small_ rfl)) da_nil)) (rc_isi2 (n := h1)))) (fun _ => sv_ifS (dt_or (dt_test (dv_op (dv_cb (da_cons (dv_var rfl) (da_cons dv_ty da_nil)) (rc_isi (n := h1))) (dv_cb (da_cons (dv_var rfl) (da_cons dv_ty da_nil)) (rc_isi (n := h2))) rd_neB)) fun _ => dt_test (dv_op (dv_cb (da_cons (dv_var rfl) (da_cons dv_ty da_nil)) (rc_isi (n := h1))) (dv_cb (da_cons (dv_var rfl) (da_cons dv_ty da_nil)) (rc_isi (n := h2))) rd_neB)) (fun q => by simp [Da.isT] at q) fun _ => sv_nextS ?_) fun q => by simp [Da.isT] at q
            by_cases hl : xs.length = ys.length
            · refine sv_ifS (dt_test (dv_op (dv_cb (da_cons (dv_var rfl) da_nil) rc_lenT) (dv_cb (da_cons (dv_var rfl) da_nil) rc_lenT) rd_neI)) (fun q => by simp [hl] at q) fun _ => sv_nextS (sv_seqR (sv_ret ?_))
              have ha : xs.length ≤ 1000000 ∧ ∀ x ∈ xs, x.fits n := ha
              have hb : ys.length ≤ 1000000 ∧ ∀ x ∈ ys, x.fits n := hb
              have lc := dv_lc (F0 := noH) (B := noH) (ρ := [some (Da.tup xs), some (Da.tup ys), none]) (wi := iRng1 (tCons (tCB (rLenQ K) (tCons (tVar 0) tNil)) tNil)) (g := gName 2) (vs := [2]) (te := tVar 2) (tt := tNot (tB (tCall (spD (R_like n)) [] E0 (tCons (tOp (rIx K) (tVar 0) (tVar 2)) (tCons (tOp (rIx K) (tVar 1) (tVar 2)) tNil)))))
                (List.range xs.length) (fun (k : Nat) => Da.int k) (fun k => !likeB n (xs.getD k .non) (ys.getD k .non)) (fun (k : Nat) => Da.int k) (di_range (n := xs.length) (da_cons (dv_cb (da_cons (dv_var rfl) da_nil) rc_lenT) da_nil) (by omega) (by omega)) (by rw [List.length_range, sizeLine_eq]; omega) fun k hk => by
                  have hk1 : k < xs.length := List.mem_range.mp hk
                  have x1 := getD_at (d := Da.non) hk1
                  have y1 := getD_at (d := Da.non) (show k < ys.length by omega)
                  exact ⟨_, bd_name, dt_not (dt_val (dv_call (da_cons (dv_op (dv_var rfl) (dv_var rfl) (rd_ixSeqT (atI_nat x1))) (da_cons (dv_op (dv_var rfl) (dv_var rfl) (rd_ixSeqT (atI_nat y1))) da_nil)) ⟨_, _, rfl, ha.2 _ (List.mem_of_getElem? x1), hb.2 _ (List.mem_of_getElem? y1), rfl⟩)), fun _ => dv_var rfl⟩
              have e1 : ((List.range xs.length).filter (fun k => !likeB n (xs.getD k .non) (ys.getD k .non))).map (fun (k : Nat) => Da.int k) = (((List.range xs.length).filter (fun k => !likeB n (xs.getD k .non) (ys.getD k .non))).map (fun (k : Nat) => (k : Int))).map Da.int := by rw [List.map_map]; rfl
              rw [e1] at lc
              have fin := dv_op (r := rEqD K) (tb := tLst tNil) lc (dv_lst da_nil (Nat.zero_le _)) rd_eqNil
              have e2 : decide (((List.range xs.length).filter (fun k => !likeB n (xs.getD k .non) (ys.getD k .non))).map (fun (k : Nat) => (k : Int)) = []) = (List.range xs.length).all fun k => likeB n (xs.getD k .non) (ys.getD k .non) := by
                rw [← filter_all]
                simp
              rw [e2] at fin
              refine dv_to fin ?_
              simp [likeB, hl]
            · refine sv_ifS (dt_test (dv_op (dv_cb (da_cons (dv_var rfl) da_nil) rc_lenT) (dv_cb (da_cons (dv_var rfl) da_nil) rc_lenT) rd_neI)) (fun _ => sv_seqR (sv_seqR (sv_ret (dv_to dv_bl ?_)))) fun q => ?_
              · simp [likeB, hl]
              · have hl' : ¬ ((xs.length : Int) = ys.length) := by omega
                simp [hl'] at q
          · have e0 : likeB (n + 1) a b = false := by
              cases a <;> cases b <;> first | rfl | (cases s1; done) | (exact absurd ⟨_, _, rfl, rfl⟩ s2) | (exact absurd ⟨_, _, rfl, rfl⟩ s3) | (simp [likeB, Da.isSeq])
            rw [e0]
            refine sv_ifS (dt_val (dv_cb (da_cons (dv_var rfl) (da_cons (dv_tup (da_cons dv_ty (da_cons dv_ty da_nil)) (small_ rfl)) da_nil)) (rc_isi2 (n := h1)))) (fun _ => sv_ifS (dt_or (dt_test (dv_op (dv_cb (da_cons (dv_var rfl) (da_cons dv_ty da_nil)) (rc_isi (n := h1))) (dv_cb (da_cons (dv_var rfl) (da_cons dv_ty da_nil)) (rc_isi (n := h2))) rd_neB)) fun _ => dt_test (dv_op (dv_cb (da_cons (dv_var rfl) (da_cons dv_ty da_nil)) (rc_isi (n := h1))) (dv_cb (da_cons (dv_var rfl) (da_cons dv_ty da_nil)) (rc_isi (n := h2))) rd_neB)) (fun _ => sv_seqR (sv_ret dv_bl)) fun q => ?_) fun q => ?_
            · exfalso
              cases a <;> cases b <;> first | (cases s1; done) | (exact s2 ⟨_, _, rfl, rfl⟩) | (exact s3 ⟨_, _, rfl, rfl⟩) | (simp [Da.isT] at q)
            · cases a <;> first | (cases s1; done) | (simp [Da.isT] at q)
      · have n1 : a.isSeq = false := by simpa using s1
        have e1 : (a.isT "list" || a.isT "tuple") = false := by cases a <;> first | (simp [Da.isT]; done) | (cases n1)
        refine sv_ifS (dt_val (dv_cb (da_cons (dv_var rfl) (da_cons (dv_tup (da_cons dv_ty (da_cons dv_ty da_nil)) (small_ rfl)) da_nil)) (rc_isi2 (n := h1)))) (fun q => by rw [e1] at q; cases q) fun _ => sv_nextS ?_
        by_cases s2 : b.isSeq = true
        · have e0 : likeB (n + 1) a b = false := by
            cases a <;> cases b <;> first | (cases s2; done) | (cases n1; done) | (simp [likeB, Da.isSeq])
          rw [e0]
          exact sv_ifS (dt_val (dv_cb (da_cons (dv_var rfl) (da_cons (dv_tup (da_cons dv_ty (da_cons dv_ty da_nil)) (small_ rfl)) da_nil)) (rc_isi2 (n := h2)))) (fun _ => sv_seqR (sv_ret dv_bl)) fun q => by cases b <;> first | (cases s2; done) | (simp [Da.isT] at q)
        · have n2 : b.isSeq = false := by simpa using s2
          have e2 : (b.isT "list" || b.isT "tuple") = false := by cases b <;> first | (simp [Da.isT]; done) | (cases n2)
          refine sv_ifS (dt_val (dv_cb (da_cons (dv_var rfl) (da_cons (dv_tup (da_cons dv_ty (da_cons dv_ty da_nil)) (small_ rfl)) da_nil)) (rc_isi2 (n := h2)))) (fun q => by rw [e2] at q; cases q) fun _ => sv_nextS (sv_ret ?_)
          have el : likeB (n + 1) a b = (decide (a.isBl = b.isBl) && a.eqS b) := by
            cases a <;> cases b <;> first | (cases n1; done) | (cases n2; done) | (simp [likeB, Da.isSeq])
          rw [el]
          refine dv_and (dv_to (dv_op (dv_cb (da_cons (dv_var rfl) (da_cons dv_ty da_nil)) (rc_isi (n := h1))) (dv_cb (da_cons (dv_var rfl) (da_cons dv_ty da_nil)) (rc_isi (n := h2))) rd_eqB) ?_) fun q => dv_op (dv_var rfl) (dv_var rfl) (rd_eqSc ?_)
          · cases a <;> cases b <;> first | (cases n1; done) | (cases n2; done) | (cases h1; done) | (cases h2; done) | (simp [Da.isT, Da.isBl])
          · have q' := of_decide_eq_true q
            cases a <;> cases b <;> first | rfl | (cases n1; done) | (cases n2; done) | (cases h1; done) | (cases h2; done) | (simp [Da.isBl] at q')
end
end Bb
/-! BbX -/
namespace Bb
open PySem PySem.Spec PyProof.Rows L2
section
variable {X : Cx} {C : Addr} {bmB : List Value} {B newId initId : String}
/-- X() -/
theorem pmk_own0 {x : Str} {p pos : Pos} (F : ExcBaseFacts B newId initId bmB) (q : PySem.W.excIn X.K C bmB newId = true) (gC : X.mg x = some (.ref C)) (kC : PySem.W.keepIn X.K (.ref C) = true) (r : Raises X (.ref C)) (hg : Gl X x)
    (hdb : (x == ("__debug__" : Str)) = false := by decide) : PMk X (.Call (.Name x p) [] [] pos) (fun _ H Q => Q (.ref C) none H) := by
  intro pins s σ H Q I h
  refine wpAny_Call_Name_kw (ld_glob I hg gC ?_ hdb)
  refine PySem.W.callWith_K0 I.kIn kC ?_
  show wpAny _ _ (call (.ref C) []) _ _ _
  obtain ⟨bm, N, nm, qn, bs, hdct, sn, sub, ab, col, dd, k0, k1, k2, k3, k5, mN, hC, hN, hni, T⟩ := exc_obj I.kIn q
  refine wpAny_call_exc_subT F T hC hN hni (fun h' e hm => ?_) (by show 0 ≤ sizeLine; rw [sizeLine_eq]; omega)
  exact mk_of I hm r h (I.hok.gone hm.new)
end
section
variable {X : Cx} {CX : CXT} {k : Nat} {d : He.DefD} {f C : Addr} {fd : FuncData} {ps : List Str} {sp : Sp} {E : XK}
/-- a def called from within a built-in -/
theorem run_in {A : Around} {pins : List (Addr × Obj)} {σ : L2.St} {H : Hp} {s : Shared} {Q : VK} {us : List Value} {vs : List V} (F : FnOk X.prog X.w X.K X.mg X.base CX k f fd ps sp) (hr : Room k A) (hA : A.frames = X.A.frames) (hb : Binds X.K fd ps []) (hx : Passes CX X E)
    (I : Inv X pins σ H s) (r : Vals vs us) (h : sp vs H Q E) : wpAny (model X.prog X.w) A (call (.ref f) us) (EP X pins σ Q) X.xe s := by
  have hl : us.length = ps.length := by rw [← r.length]; exact F.len _ _ _ _ h
  have e0 : Env0 X.prog X.w X.K X.mg X.base A X.stack s H := by
    have e := I.env0
    exact ⟨by rw [hA]; exact e.frames, e.mod, e.bs, e.bsz, e.funs, e.frf, e.hok, e.bare⟩
  have b := hb s us I.kIn (by rw [List.append_nil]; exact hl)
  rw [List.append_nil] at b
  refine wpAny_call (codeAny_mono (F.run A X.stack s H ⟨us, []⟩ us vs Q E hr e0 b r h) fun r s' hq => ?_)
  cases r with
  | error e => exact hx pins σ H s e s' I hq
  | ok fl =>
    cases fl with
    | ret u => exact I.after hq
    | next => exact False.elim hq
    | brk => exact False.elim hq
    | cont => exact False.elim hq
/-- len(o), by an own __len__ -/
def rLenO (C : Addr) (sp : Sp) (E : XK) : List V → Hp → VK → Prop := fun xs H Q => ∃ (a dx : Addr) (fs : List (Str × V)), xs = [.ref a] ∧ H a = some (.ins C dx fs) ∧
  sp [.ref a] H (fun v H' => ∃ n : Nat, v = .int n ∧ n < 2 ^ 62 ∧ Q (.int n) H') E
theorem call_lenO (G : Ok X.prog X.w X.K X.mg X.base CX k d ps sp) (hs : PySem.W.findIn X.K (.ref C) "__len__" = some (some (.ref (He.fAd X.K d.at_)))) (hf : PySem.W.isFn X.K (.ref (He.fAd X.K d.at_)) = true) (hr : Room (k + 1) X.A) (hx : Passes CX X E) :
    CallR X (.builtin "len") (rLenO C sp E) := by
  obtain ⟨fd, F, hb, _⟩ := G
  intro pins s σ H xs us Q I r h
  obtain ⟨a, dx, fs, rfl, ha, hsp⟩ := h
  obtain ⟨u, rfl, ru⟩ := vals1 r
  obtain rfl : u = Value.ref a := ru
  obtain ⟨mA, J, _⟩ := ins_get I.hok ha
  obtain ⟨od, J, _⟩ := J.look
  refine Calls.call_function_entry kind_len plain_len entry_len (args_len1 _) ?_
  unfold Builtin.«len»
  refine wpAny_bind (m := oneArg "len" _) (wpAny_pure ?_)
  refine wpAny_bind (m := callSpecial? (.ref a) (PySem.Str.ofString "__len__")) (PySem.W.special_fn I.kIn J hs (beq_iff_eq.mp hf) ?_)
  refine wpAny_mono (run_in F hr.in1 rfl hb hx I r hsp) (fun v s' hv => ?_) fun _ _ e => e
  obtain ⟨x, H', I', rx, n, rfl, hn, q⟩ := hv
  obtain ⟨t, rfl⟩ := (show ∃ t, v = Value.int n t from rx)
  refine wpAny_bind (wpAny_holding (wpAny_pure ?_))
  refine wpAny_bind (wpAny_letGo ?_)
  show wpAny _ _ (if ((n : Nat) : Int) < 0 then _ else _) _ _ _
  rw [if_neg (by omega)]
  show wpAny _ _ (if ((n : Nat) : Int) ≥ 2 ^ 63 then _ else _) _ _ _
  rw [if_neg (by omega)]
  exact wpAny_bind (wpAny_mkInt (wpAny_pure ⟨_, rfl, ⟨.int n, H', I'.tok _, ⟨_, rfl⟩, q⟩⟩))
/-- str(o), by an own __str__ -/
def rStrO (C : Addr) (sp : Sp) (E : XK) : List V → Hp → VK → Prop := fun xs H Q => ∃ (a dx : Addr) (fs : List (Str × V)), xs = [.ref a] ∧ H a = some (.ins C dx fs) ∧
  sp [.ref a] H (fun v H' => ∃ x, v = .str x ∧ Q (.str x) H') E
theorem call_strO (G : Ok X.prog X.w X.K X.mg X.base CX k d ps sp) (hs : PySem.W.findIn X.K (.ref C) "__str__" = some (some (.ref (He.fAd X.K d.at_)))) (hf : PySem.W.isFn X.K (.ref (He.fAd X.K d.at_)) = true) (hr : Room (k + 2) X.A) (hx : Passes CX X E) :
    CallR X (.type "str") (rStrO C sp E) := by
  obtain ⟨fd, F, hb, _⟩ := G
  intro pins s σ H xs us Q I r h
  obtain ⟨a, dx, fs, rfl, ha, hsp⟩ := h
  obtain ⟨u, rfl, ru⟩ := vals1 r
  obtain rfl : u = Value.ref a := ru
  obtain ⟨mA, J, _⟩ := ins_get I.hok ha
  obtain ⟨od, J, _⟩ := J.look
  have hr2 : Room k X.A.in1.in1 := (show Room (k + 1) X.A.in1 from Room.in1 hr).in1
  refine PySem.W.kso_call hr2.units0 I.kIn J hs hf (wpAny_mono (run_in F hr2 rfl hb hx I r hsp) (fun v s' hv => ?_) fun _ _ e => e)
  obtain ⟨x, H', I', rx, y, rfl, q⟩ := hv
  obtain ⟨t, rfl⟩ := (show ∃ t, v = Value.str y t from rx)
  exact ⟨.str y, H', I', ⟨t, rfl⟩, q⟩
end
section
variable {prog : Program} {w : World} {K : Type} [DecidableEq K] {knd : HeapKind prog w K} {A : Around} {E : Value → Shared → Prop} {s : Shared}
/-- dict(d), keys that are tuples -/
theorem kt_call_dictH {o : Addr} {more : List (K × Addr × Value)} {Q : Value → Shared → Prop} (hu : knd.room A.in1.in1) (hoS : (o == sysModules) = false) (hlt : o < s.heap.objs.size) (hsz : more.length ≤ sizeLine) (hap : (∀ x ∈ more, s.TypeIs (.ref x.2.1) "tuple") ∧ (more.map fun x => knd.hash x.1).Nodup)
    (hp : (s.heap.push { cls := .type "dict", data := .dict #[] }).DictOfH knd o more)
    (h : ∀ h', h'.DictOfH knd s.heap.objs.size more → Heap.SameBut s.heap.objs.size (s.heap.push { cls := .type "dict", data := .dict #[] }) h' → Q (.ref s.heap.objs.size) { s with heap := h' }) :
    wpAny (model prog w) A (call (.type "dict") [.ref o]) Q E s := by
  refine callType_codes (Q₁ := fun obj s₁ => obj = .ref s.heap.objs.size ∧ s₁ = { s with heap := s.heap.push { cls := .type "dict", data := .dict #[] } }) F.kt_called_dict (F.kt_typeCall_dict_1 _) F.entry_dict_init (kt_code_dict_new _ ⟨rfl, rfl⟩) ?_
  rintro obj s₁ ⟨rfl, rfl⟩
  have hnew : (s.heap.push { cls := .type "dict", data := .dict #[] }).DictOfH knd s.heap.objs.size [] := Heap.DictOfH.new s.heap
  have hn : (more.map (·.1)).Nodup := let ⟨_, _, _, _, _, _, _, _, hn⟩ := hp; hn
  have hdo : s.heap.objs.size ≠ o := fun e => absurd hlt (by rw [e]; exact Nat.lt_irrefl _)
  refine ⟨hnew.typeIs, F.args_dict_init_2 _ _, ?_⟩
  unfold Builtin.«dict.__init__»
  refine wpAny_bind ?_
  unfold Builtin.Dict.selfAndRest
  refine wpAny_bind (wpAny_notOrdered_dict hnew.typeIs ?_)
  show wpAny _ _ (pure (s.heap.objs.size, [Value.ref o])) _ _ _
  refine wpAny_pure ?_
  refine updateFrom_dictH (A := A.in1) (kvs := []) .none hu hdo hoS hnew hp (.inr ⟨fun x hx => ?_, hap.2⟩) (by simpa using hsz) fun h' hd' _ hs' => ?_
  · obtain ⟨ob, e, c⟩ := hap.1 x hx
    exact ⟨ob, Heap.get?_push_of_some _ e, c⟩
  · rw [storedAllH_nil_of_nodup more hn] at hd'
    exact ⟨rfl, h h' hd' hs'⟩
end
section
variable {X : Cx}
/-- the keys hash apart -/
def Apart (P : Program) (w : World) (ks : List (List Key)) : Prop := (ks.map fun k => (tupleKind (mixKind P w)).hash k).Nodup
def rCopyT (P : Program) (w : World) : List V → Hp → VK → Prop := fun xs H Q => ∃ (a : Addr) (kvs : List (List Key × V)), xs = [.ref a] ∧ H a = some (.dT kvs) ∧ Apart P w (kvs.map (·.1)) ∧ ∀ p, H p = none → Q (.ref p) (upd H p (.dT kvs))
theorem call_dictT (hu : X.A.units + 3 < cLine) : CallR X (.type "dict") (rCopyT X.prog X.w) := by
  intro pins s σ H xs us Q I r h
  obtain ⟨a, kvs, rfl, ha, hap, q⟩ := h
  obtain ⟨u, rfl, ru⟩ := vals1 r
  obtain rfl : u = Value.ref a := ru
  have hn := I.hok.fresh (Nat.le_refl s.heap.objs.size)
  have I1 := I.laid (a := s.heap.objs.size) (o := .dT []) (h' := s.heap.push { cls := .type "dict", data := .dict #[] }) (t' := s.toks) (fun _ _ q => Heap.get?_push_of_some _ q) (Nat.le_refl _) (dt_empty s.heap I.big)
  have hlt : a < s.heap.objs.size := I.hok.lt ha
  have ha1 : upd H s.heap.objs.size (.dT []) a = some (.dT kvs) := by rw [upd_ne (ne_of_none ha hn)]; exact ha
  obtain ⟨z, hd, ys, rel, dd⟩ := dt_of I1.hok ha1
  have hl : kvs.length = ys.length := Paired.length rel
  have hk : ys.map (·.1) = kvs.map (·.1) := by
    clear dd hl z ha hap q ha1
    induction rel with
    | nil => rfl
    | cons h t ih => rw [List.map_cons, List.map_cons, ih, h.1]
  have relH : KT H kvs ys := Paired.mapP rel fun p q z => ⟨z.1, by
    have e := z.2.1
    rw [upd_ne (fun e' => by rw [e', upd_same] at e; cases e)] at e
    exact e, z.2.2⟩
  have hty : ∀ x ∈ ys, s.TypeIs (.ref x.2.1) "tuple" := by
    clear dd hl z ha hap q hk ha1 rel
    induction relH with
    | nil => intro x hx; exact nomatch hx
    | cons h t ih =>
      intro x hx
      rcases List.mem_cons.mp hx with rfl | hx
      · obtain ⟨_, its, r, ob, e, c, _⟩ := (show ObjOk X.prog X.w H s.heap _ (.tup _) from I.hok _ _ h.2.1)
        exact ⟨ob, e, c⟩
      · exact ih x hx
  have hnd : (ys.map fun x => (tupleKind (mixKind X.prog X.w)).hash x.1).Nodup := by
    have e : ys.map (fun x => (tupleKind (mixKind X.prog X.w)).hash x.1) = (ys.map (·.1)).map (fun k => (tupleKind (mixKind X.prog X.w)).hash k) := by rw [List.map_map]; rfl
    rw [e, hk]
    exact hap
  refine kt_call_dictH (by show X.A.in1.in1.units < cLine; show X.A.units + 1 + 1 < cLine; omega) hd hlt (by rw [← hl]; exact z) ⟨hty, hnd⟩ dd fun h' dd' hs => ?_
  have keep : ∀ b o, s.heap.get? b = some o → h'.get? b = some o := fun b o e => (hs.2 b (Nat.ne_of_lt (Heap.lt_size e))).trans (Heap.get?_push_of_some _ e)
  refine ⟨.ref s.heap.objs.size, _, I.laid (t' := s.toks) (o := .dT kvs) keep (Nat.le_refl _) ?_, rfl, q _ hn⟩
  obtain ⟨o, es, ep, h1, h2, h3, h4, h5, h6⟩ := dd'
  exact ⟨z, beq_eq_false_iff_ne.mpr (Ne.symm (Nat.ne_of_lt I.big)), ys, relH.keeps fun b xs e => by rw [upd_ne (ne_of_none e hn)]; exact e, o, es, ep, h1, h2, h3, h4, h6⟩
def rCopyK : List V → Hp → VK → Prop := fun xs H Q => ∃ (a : Addr) (kvs : List (Key × V)), xs = [.ref a] ∧ H a = some (.dK kvs) ∧ ∀ p, H p = none → Q (.ref p) (upd H p (.dK kvs))
theorem call_dictK : CallR X (.type "dict") rCopyK := by
  intro pins s σ H xs us Q I r h
  obtain ⟨a, kvs, rfl, ha, q⟩ := h
  obtain ⟨u, rfl, ru⟩ := vals1 r
  obtain rfl : u = Value.ref a := ru
  exact d_copyOf I (.inl ha) fun p s' hp I' => ⟨.ref p, _, I', rfl, q p hp⟩
end
end Bb
/-! BbY -/
namespace Bb
open PySem PySem.Spec PyProof.Rows L2
def keyT (s : Tri) : List Key := [.inl s.1, .inl s.2.1, .inl s.2.2]
def hashT (s : Tri) : Int := reduceHash (Builtin.Tuple.tupleHashOf [hashInt s.1, hashInt s.2.1, hashInt s.2.2])
theorem hashT_nd : ((spotsL 4 3).map hashT).Nodup := by decide +kernel
theorem hashT_eq (P : Program) (w : World) (s : Tri) : (tupleKind (mixKind P w)).hash (keyT s) = hashT s := rfl
theorem hash_map (P : Program) (w : World) : ∀ L : List Tri, (L.map keyT).map (fun k => (tupleKind (mixKind P w)).hash k) = L.map hashT
  | [] => by rw [List.map_nil, List.map_nil, List.map_nil]
  | s :: L => by rw [List.map_cons, List.map_cons, List.map_cons, hash_map P w L, hashT_eq]
theorem apart_of (P : Program) (w : World) (L : List Tri) (h : (L.map hashT).Nodup) : Apart P w (L.map keyT) := by
  unfold Apart
  rw [hash_map]
  exact h
theorem apart43 (P : Program) (w : World) : Apart P w ((spotsL 4 3).map keyT) := apart_of P w _ hashT_nd
end Bb
/-! BbX2 -/
namespace Bb
open PySem PySem.Spec PyProof.Rows L2
theorem perm_map_inv {α β : Type} (f : α → β) {l m : List β} (p : l.Perm m) : ∀ L : List α, m = L.map f → ∃ L' : List α, L'.Perm L ∧ l = L'.map f := by
  induction p with
  | nil => intro L e; exact ⟨L, .refl _, e⟩
  | cons x p ih =>
    intro L e
    cases L with
    | nil => cases e
    | cons y L =>
      rw [List.map_cons] at e
      injection e with e1 e2
      obtain ⟨L', p', e'⟩ := ih L e2
      exact ⟨y :: L', p'.cons y, by rw [List.map_cons, e1, e']⟩
  | swap x y l =>
    intro L e
    match L, e with
    | a :: b :: L, e =>
      rw [List.map_cons, List.map_cons] at e
      injection e with e1 e2
      injection e2 with e2 e3
      exact ⟨b :: a :: L, .swap a b L, by rw [List.map_cons, List.map_cons, e1, e2, e3]⟩
  | trans p q ihp ihq =>
    intro L e
    obtain ⟨L1, p1, e1⟩ := ihq L e
    obtain ⟨L2, p2, e2⟩ := ihp L1 e1
    exact ⟨L2, p2.trans p1, e2⟩
section
variable {X : Cx}
/-- sorted(d), its keys tuples of d whole numbers -/
def rSortDT (d : Nat) (B : Int) : List V → Hp → VK → Prop := fun xs H Q => ∃ (a : Addr) (kvs : List (List Key × V)) (ks : List (List Int)), xs = [.ref a] ∧ H a = some (.dT kvs) ∧ kvs.map (·.1) = ks.map (fun k => k.map Sum.inl) ∧ ks.length < 64 ∧
  (∀ k ∈ ks, k.length = d ∧ TS.Bd B k) ∧
  ∀ (L : List (Addr × List Int)) (p : Addr), (L.map (·.2)).Perm ks → L.Pairwise (fun q r => TS.code B q.2 ≤ TS.code B r.2) → (∀ q ∈ L, H q.1 = some (.tup (q.2.map V.int))) → H p = none → Q (.ref p) (upd H p (.lst (L.map fun q => V.ref q.1)))
theorem rows_of {H : Hp} : ∀ {kvs : List (List Key × V)} {ys : List (List Key × Addr × Value)}, KT H kvs ys → ∀ ks : List (List Int), kvs.map (·.1) = ks.map (fun k => k.map Sum.inl) →
    ∃ L : List (Addr × List Int), L.map (·.2) = ks ∧ ys.map (fun y => y.2.1) = L.map (·.1) ∧ ∀ q ∈ L, H q.1 = some (.tup (q.2.map V.int))
  | _, _, .nil, ks, e => by
    cases ks with
    | nil => exact ⟨[], rfl, rfl, fun q hq => nomatch hq⟩
    | cons k ks => cases e
  | _, _, .cons (a := p) (b := y) h t, ks, e => by
    cases ks with
    | nil => cases e
    | cons k ks =>
      rw [List.map_cons, List.map_cons] at e
      injection e with e1 e2
      obtain ⟨L, l1, l2, l3⟩ := rows_of t ks e2
      refine ⟨(y.2.1, k) :: L, by rw [List.map_cons, l1], by rw [List.map_cons, List.map_cons, l2], fun q hq => ?_⟩
      rcases List.mem_cons.mp hq with rfl | hq
      · have z := h.2.1
        rw [e1, List.map_map] at z
        exact z
      · exact l3 q hq
theorem call_sortedDT (hcalm : X.calm = true) {d : Nat} {B : Int} (hd1 : 1 ≤ d) : CallR X (.builtin "sorted") (rSortDT d B) := by
  intro pins s σ H xs us Q I r q
  obtain ⟨a, kvs, ks, rfl, ha, hks, h64, hB, q⟩ := q
  obtain ⟨u, rfl, rx⟩ := vals1 r
  obtain rfl : u = Value.ref a := rx
  obtain ⟨z, lo, ys, rel, dd⟩ := dt_of I.hok ha
  obtain ⟨o, es, ep, h1, h2, h3, h4, h5, h6⟩ := dd
  obtain ⟨L0, l1, l2, l3⟩ := rows_of rel ks hks
  have hl : ys.length = ks.length := by
    have e1 := congrArg List.length l2
    have e2 := congrArg List.length l1
    simp only [List.length_map] at e1 e2
    omega
  have hes : es.size = ys.length := by
    rw [← Array.length_toList, h4, List.length_map]
  refine Calls.call_function_entry PyProof.Rows.kind_sorted PyProof.Rows.plain_sorted PyProof.Rows.entry_sorted (PyProof.Rows.args_sorted1 _) ?_
  unfold Builtin.«sorted»
  refine wpAny_bind (m := checkCount "sorted" 1 1 _) (wpAny_pure ?_)
  refine wpAny_bind (PySem.W.kdu_collect (A := X.A.in1) (KdlSrc.rawDict (es := es) (ep := ep) lo) (I.ok.hd hcalm) ⟨o, h1, h2, h3⟩ (by rw [hes, hl, sizeLine_eq]; omega) fun h' tk acc hk hacc => ?_)
  have hacc' : acc.toList = L0.map fun p => Value.ref p.1 := by
    have e1 : acc.toList = es.toList.map (·.key) := by
      refine List.ext_getElem? fun j => ?_
      by_cases hj : j < acc.size
      · obtain ⟨hi, e⟩ := hacc.2 j _ (Array.getElem?_eq_getElem hj)
        rw [Array.getElem?_toList, Array.getElem?_eq_getElem hj, e, List.getElem?_map, Array.getElem?_toList, Array.getElem?_eq_getElem hi]
        rfl
      · have hj2 : ¬ j < es.size := by rw [← hacc.1]; exact hj
        rw [Array.getElem?_toList, List.getElem?_map, Array.getElem?_toList, Array.getElem?_eq_none (by omega), Array.getElem?_eq_none (by omega)]
        rfl
    rw [e1, h4, List.map_map]
    have e2 : ys.map ((fun x : DictEntry => x.key) ∘ entryOfKey (tupleKind (mixKind X.prog X.w))) = (ys.map fun y => y.2.1).map Value.ref := by rw [List.map_map]; rfl
    rw [e2, l2, List.map_map]
    rfl
  have hal : acc.toList.length = ks.length := by rw [hacc', List.length_map, ← l1, List.length_map]
  have I1 : Inv X pins σ H { s with heap := h', toks := tk } := I.kept hk
  refine wpAny_bind (wpAny_newList ?_ (by rw [hal, sizeLine_eq]; omega))
  have hoL : (h'.push (seqObj "list" acc.toList.toArray 0)).get? h'.objs.size = some (seqObj "list" acc.toList.toArray 0) := Heap.get?_push_size _ rfl
  have tk : ∀ q ∈ L0, TS.TupInts (h'.push (seqObj "list" acc.toList.toArray 0)) (.ref q.1) q.2 := fun q hq => by
    obtain ⟨its, rv, ob, hob, hc, n, hdat⟩ := (show ObjOk X.prog X.w H h' q.1 (.tup (q.2.map V.int)) from I1.hok _ _ (l3 q hq)).2
    exact ⟨q.1, its.toArray, rfl, ⟨ob, Heap.get?_push_of_some _ hob, hc, n, hdat⟩, by simpa using ints_of_items (P := X.prog) (w := X.w) (items_of_vals rv)⟩
  have hB0 : ∀ q ∈ L0, q.2.length = d ∧ TS.Bd B q.2 := fun q hq => hB _ (by rw [← l1]; exact List.mem_map.mpr ⟨q, hq, rfl⟩)
  have x : TS.TupsOk (h'.push (seqObj "list" acc.toList.toArray 0)) d B acc.toList := fun v hv => by
    rw [hacc'] at hv
    obtain ⟨q, hq, e⟩ := List.mem_map.mp hv
    rw [← e]
    exact ⟨q.2, tk q hq, (hB0 q hq).1, (hB0 q hq).2⟩
  show wpAny _ _ _ _ _ { s with heap := h'.push (seqObj "list" acc.toList.toArray 0), toks := _ }
  refine wpAny_bind (wpAny_holding (TS.call_sort_tups (s := { s with heap := h'.push (seqObj "list" acc.toList.toArray 0), toks := _ }) hoL (by rw [hal]; exact h64) hd1 x fun out a1 a2 => ?_))
  obtain ⟨c, hc⟩ := sortedHeap_at (vs := acc.toList) (out := out) hoL
  obtain ⟨L', pL, e'⟩ := perm_map_inv (fun p : Addr × List Int => Value.ref p.1) a1 L0 hacc'
  have hs' : ∀ q ∈ L', q ∈ L0 := fun q hq => pL.mem_iff.mp hq
  have pw : L'.Pairwise (fun q r => TS.code B q.2 ≤ TS.code B r.2) := by
    rw [e'] at a2
    refine List.Pairwise.imp_of_mem (fun {q r} hq hr hle => ?_) (List.pairwise_map.mp a2)
    have f1 : TS.intsOf (h'.push (seqObj "list" acc.toList.toArray 0)) (.ref q.1) = q.2 := (tk q (hs' q hq)).ints
    have f2 : TS.intsOf (h'.push (seqObj "list" acc.toList.toArray 0)) (.ref r.1) = r.2 := (tk r (hs' r hr)).ints
    rw [← f1, ← f2]
    exact hle
  have hlen : (L'.map fun q => V.ref q.1).length ≤ sizeLine := by
    have e1 := pL.length_eq
    have e2 : L0.length = ks.length := by rw [← l1, List.length_map]
    rw [List.length_map, e1, e2, sizeLine_eq]
    omega
  have hv : Vals (L'.map fun q => V.ref q.1) out.toList := by rw [e']; exact vals_of_refs L'
  refine wpAny_pure ⟨_, rfl, .ref h'.objs.size, upd H h'.objs.size (.lst (L'.map fun q => V.ref q.1)), I1.laid (t' := _) (fun b u e => ?_) (Nat.le_refl _)
    (show ObjOk X.prog X.w _ _ _ (.lst (L'.map fun q => V.ref q.1)) from ⟨hlen, out.toList, c, hv, hc⟩), rfl, q L' _ (by rw [← l1]; exact pL.map _) pw (fun q hq => l3 q (hs' q hq)) (I1.hok.fresh (Nat.le_refl _))⟩
  have hb : b < h'.objs.size := Heap.lt_size e
  rw [PyProof.Rows.sortedHeap_old (Nat.ne_of_lt hb) (by rw [size_push']; exact Nat.lt_succ_of_lt hb)]
  exact Heap.get?_push_of_some _ e
end
end Bb
/-! BbX3 -/
namespace Bb
open PySem PySem.Spec PyProof.Rows L2
abbrev LSt := L2.St
section
variable {X : Cx} {K : PySem.W.Frag} {o e value tg it : Expr} {ta tv : TE} {f : Str} {pos pos' : Pos}
/-- o.f as a target -/
def gFld (K : PySem.W.Frag) (ta : TE) (f : Str) : TG := fun v σ H Q => ta σ H fun x H2 => ∃ a C dx fs, x = .ref a ∧ H2 a = some (.ins C dx fs) ∧ Cls K C ∧ NoAttr K C f ∧ fs.length < 1000 ∧ Q σ (upd H2 a (.ins C dx (putF f v fs)))
theorem pg_fld (ha : PE X o ta) : PG X (.Attribute o f pos) (gFld X.K ta f) := by
  refine ⟨fun pins s σ H v u Q I r h => ?_⟩
  rw [assign_Attribute]
  refine wpAny_bind (wpAny_holding (thn (ha.run pins s σ H _ I h) fun ov s2 ⟨x, H2, I2, rx, a, C, dx, fs, ex, ea, c, n, l, q2⟩ => ?_))
  subst ex
  obtain rfl : ov = Value.ref a := rx
  refine wpAny_bind (wpAny_standAt (wpAny_bind (wpAny_holding (setattr_ok I2 ea c n l r fun s3 I3 => ?_))))
  exact wpAny_release ⟨σ, _, I3, q2⟩
theorem kpg_fld (ha : PE X o ta) (h : X.K = K := by rfl) : PG X (.Attribute o f pos) (gFld K ta f) := by subst h; exact pg_fld ha
end
/-! ### == of two empty dicts -/
def DNil : Eqv := fun x y H => ∃ a b, x = .ref a ∧ y = .ref b ∧ H a = some (.dK []) ∧ H b = some (.dK [])
theorem mon_nil : Mon DNil := fun x y H H' e d => by
  obtain ⟨a, b, hx, hy, h1, h2⟩ := d
  exact ⟨a, b, hx, hy, e _ _ h1, e _ _ h2⟩
theorem rcG_nil {X : Cx} {n : Nat} : RcG X n DNil := by
  intro A pins s σ H x y u v sb I rx ry d
  obtain ⟨a, b, rfl, rfl, ea, eb⟩ := d
  obtain rfl : u = Value.ref a := rx
  obtain rfl : v = Value.ref b := ry
  obtain ⟨_, ya, va, ra, da⟩ := (show ObjOk X.prog X.w H s.heap a (.dK []) from I.hok a _ ea)
  obtain ⟨_, yb, vb, rb, db⟩ := (show ObjOk X.prog X.w H s.heap b (.dK []) from I.hok b _ eb)
  cases ra
  cases rb
  exact PySem.W.keq_eq (knd := mixKind X.prog X.w) (r := true) ya yb da db sb.room.units0 (fun _ => hits_all (kvs := []) (ks := []) .nil .nil (fun p hp => nomatch hp)) ⟨rfl, H, I, Ext.rfl'⟩
theorem eqG_nil {X : Cx} {n : Nat} : EqG X n DNil := rcG_nil.eqG fun _ _ _ d => let ⟨a, b, hx, hy, _⟩ := d; ⟨a, b, hx, hy⟩
/-! ### an exception that is kept -/
/-- the object at a is an exception of the class at D, without a dict -/
def excO (a D : Addr) : HO := .ext fun h => ∃ oe, PySem.W.InstAt h a oe D none
theorem excO_ok {P : Program} {w : World} {H : Hp} {h : Heap} {a D : Addr} {oe : Obj} (J : PySem.W.InstAt h a oe D none) : ObjOk P w H h a (excO a D) := by
  refine ⟨⟨oe, J⟩, ⟨oe, J.at_⟩, fun h1 h2 ⟨o1, J1⟩ k => ⟨o1, ?_⟩⟩
  obtain ⟨h1', h2', h3', h4'⟩ := J1
  exact ⟨k _ h1', h2', h3', by revert h4'; cases o1.dict <;> exact id⟩
def rIsX (K : PySem.W.Frag) : List V → Hp → VK → Prop := fun xs H Q => ∃ (a D : Addr) (c : V) (cv : Value) (b : Bool), xs = [.ref a, c] ∧ H a = some (excO a D) ∧ ExcC K D ∧ (∀ u, RelV c u → u = cv) ∧ PySem.W.kitOne K (.ref D) cv = some b ∧ Q (.bl b) H
theorem call_isX {X : Cx} : CallR X (.builtin "isinstance") (rIsX X.K) := by
  intro pins s σ H xs us Q I r h
  obtain ⟨a, D, c, cv, b, rfl, ha, C, hcv, e, q⟩ := h
  cases r with
  | cons rx rr =>
    cases rr with
    | cons rt rr =>
      cases rr
      cases rx
      have ec := hcv _ rt
      subst ec
      obtain ⟨⟨oe, J⟩, _⟩ := (show ObjOk X.prog X.w H s.heap a (excO a D) from I.hok a _ ha)
      exact PySem.W.kia_one (PySem.W.handS_kitx_exc C.hg C.hk C.hs C.hd C.ha C.hn C.ht C.hm) I.kIn J e (fun z => nomatch z) fun tk => ⟨.bl b, H, I.kept (t' := tk) fun _ _ z => z, rfl, q⟩
/-- one more thing is tracked: it came up since the def began -/
theorem Inv.more {X : Cx} {pins : List (Addr × Obj)} {σ : LSt} {H : Hp} {s : Shared} {a : Addr} {o : HO} (I : Inv X pins σ H s) (na : H a = none) (n0 : X.s_0.heap.get? a = none) (nL : a ≠ X.env.locals) (nC : ∀ x c, X.env.cells.lookup x = some c → c ≠ a) (nP : ∀ p ∈ X.pn ++ pins, p.1 ≠ a)
    (new : ObjOk X.prog X.w (upd H a o) s.heap a o) : Inv X pins σ (upd H a o) s := by
  refine ⟨I.ok, I.os, I.bare, ⟨I.base.keep, I.base.slot, fun b ob e n hx => ?_, I.base.there, fun b xs e => ?_, fun b ob x e => ?_, fun b ps e => ?_⟩, I.loc, I.cell, ?_, fun x c e => ?_, fun p hp => ?_, fun b ob e => ?_, I.len⟩
  · rw [upd_ne (fun z => by rw [z, n0] at e; cases e)]
    exact I.base.free b ob e n hx
  · have q := I.base.tups b xs e
    rw [upd_ne (ne_of_none q na)]
    exact q
  · have q := I.base.frzs b ob x e
    rw [upd_ne (ne_of_none q na)]
    exact q
  · obtain ⟨m, q⟩ := I.base.tbls b ps e
    exact ⟨m, by rw [upd_ne (ne_of_none q na)]; exact q⟩
  · rw [upd_ne (Ne.symm nL)]
    exact I.free
  · rw [upd_ne (nC x c e)]
    exact I.freeC x c e
  · obtain ⟨h1, h2, h3⟩ := I.pin p hp
    exact ⟨h1, by rw [upd_ne (nP p hp)]; exact h2, h3⟩
  · by_cases hb : b = a
    · subst hb
      rw [upd_same] at e
      cases e
      exact new
    · rw [upd_ne hb] at e
      exact (I.hok b ob e).stay (fun _ _ _ q => q) (fun c q => by rw [upd_ne (ne_of_none q na)]; exact q) fun c xs q => by rw [upd_ne (ne_of_none q na)]; exact q

/-- the wish of 'except x as n': the exception is tracked from then on -/
def wAsT (K : PySem.W.Frag) (c : Value) (i : Nat) (ts : Addr → Value → Option Addr → TS) (Wout : WX) (D : Ends) : WX := fun cls d σ H =>
  ∃ C, cls = .ref C ∧ d = none ∧ PySem.W.exmOne K cls c = some true ∧ (∀ a, H a = none → ts a cls d { nx := fun σ' H' => D.nx (σ'.set i none) H', rt := D.rt, bk := fun σ' H' => D.bk (σ'.set i none) H', ct := fun σ' H' => D.ct (σ'.set i none) H' } (σ.set i (some (.ref a))) (upd H a (excO a C)))
section
variable {X : Cx} {x n : Str} {c : Value} {i : Nat} {body suite : List Stmt} {b₀ : Stmt} {np pos pos' : Pos} {tb : WX → TS} {ts : Addr → Value → Option Addr → TS} {Wout : WX}
theorem Inv.suite0 {pins : List (Addr × Obj)} {σ : LSt} {H : Hp} {s : Shared} (I : Inv X pins σ H s) (a : Addr) : Inv (X.suite a (X.pn ++ pins)) [] σ H s :=
  ⟨I.ok.suite _ _, I.os, I.bare, I.base, I.loc, I.cell, I.free, I.freeC, fun p hp => I.pin p (by rw [List.append_nil] at hp; exact hp), I.hok, I.len⟩
theorem Inv.unsuite0 {pins pn' : List (Addr × Obj)} {σ : LSt} {H : Hp} {s : Shared} {a : Addr} (I : Inv (X.suite a (X.pn ++ pins)) pn' σ H s) (ok : X.Ok) : Inv X pins σ H s :=
  ⟨ok, I.os, I.bare, I.base, I.loc, I.cell, I.free, I.freeC, fun p hp => I.pin p (List.mem_append_left _ hp), I.hok, I.len⟩
theorem ps_try_asT (hs : X.stack = X.env :: X.outer) (hf : X.env.frame = some X.env.locals) (hN : X.N.Nodup) (hi : X.N[i]? = some n) (hln : X.env.kindOf n = some .local) (hc : Names X x c) (hcl : X.env.cells = []) (hex : X.ex = []) (hpn : X.pn = [])
    (hb : ∀ (W : WX) (pn : List (Addr × Obj)) (xe : Value → Shared → Prop), Takes (X.tr pn xe) W → PassesOwn (model X.prog X.w) X.A X.env xe → PSs (X.tr pn xe) body (tb W))
    (hsu : ∀ (a : Addr) (cls : Value) (d : Option Addr) (pn : List (Addr × Obj)), PSs (X.suite a pn) (b₀ :: suite) (ts a cls d)) :
    PS X (.Try body [.ExceptHandler (some (.Name x np)) (some n) (b₀ :: suite) pos'] [] [] pos) (fun D σ H => tb (wAsT X.K c i ts Wout D) D σ H) := by
  refine ⟨fun pins s σ H D I h => ?_⟩
  have ok := I.ok
  have hfr : X.A.frames = some (X.env :: X.outer) := by rw [ok.frames, hs]
  have hloc : Loc X.env.scope n := .inl hln
  refine wpAny_Try_except ?_
  refine wpAny_mono ((hb (wAsT X.K c i ts Wout D) (X.pn ++ pins) (fun e s₁ => wpAny (model X.prog X.w) X.A (noteFrame e X.env) (fun _ s₂ => wpAny (model X.prog X.w) X.A (setFlight e none) (fun _ s₃ =>
    wpAny (model X.prog X.w) X.A (handleBy e X.env [.ExceptHandler (some (.Name x np)) (some n) (b₀ :: suite) pos']) (SP X pins D) X.xe s₃) X.xe s₂) X.xe s₁) (fun u s' xx => ?_) PassesOwn.looking).run [] s σ H D (I.toTry _) h) (fun f s1 hsp => ?_) (fun e s1 he => he)
  · obtain ⟨a, B, sI, pins', σ', H', cls, d, rfl, J', nb, up, sky, na, os, ag, C, rfl, rfl, hb1, hyes⟩ := xx
    have J : Inv X pins σ' H' sI := J'.ofTry ok
    have sky' : Sky B (X.env :: X.outer) a (Zc (.ref C) none) X.env.locals s'.heap := by rw [← hs]; exact sky
    show wpAny (model X.prog X.w) X.A (noteFrame (.ref a) X.env) _ _ _
    refine Sky.land Zc.steady hfr hf sky' fun h3 fl3 up3 => ?_
    have J3 : Inv X pins σ' H' { s' with heap := h3 } := J.landed nb fl3.1 (up.trans up3) os ag
    obtain ⟨oe3, vs3, he3, hz3, hd3⟩ := fl3.there
    have notFr : ∀ {h : Heap} {o : Obj} {vs : Array Value}, h.FunFrames B (X.env :: X.outer) → h.get? a = some o → o.data = .fields vs → a ∉ frs (X.env :: X.outer) := fun {h o vs} ff e dd hm => by
      obtain ⟨_, o', e', hnf⟩ := ff.mem hm
      rw [e] at e'; cases e'
      exact hnf _ dd
    have nfr := notFr fl3.2.2.1 he3 hd3
    have nL : a ≠ X.env.locals := fun z => nfr (List.mem_filterMap.mpr ⟨X.env, List.mem_cons_self, by rw [hf, z]⟩)
    have nF : a ∉ X.fs := fun hm => by
      obtain ⟨e, he, q⟩ := List.mem_filterMap.mp hm
      exact nfr (List.mem_filterMap.mpr ⟨e, List.mem_cons_of_mem _ he, q⟩)
    have S3 := J3.suite he3 hd3 na nL nF
    refine wpAny_handleBy_cons (codeAny_handlers_test ?_) (by intro q; cases q)
    have LT : PySem.W.Looks (model X.prog X.w) h3 (typeOf (.ref a)) (.ref C) := fun A Q E s k q => wpAny_typeOf_ref (k _ _ he3) (by rw [hz3.1]; exact q)
    have LM := PySem.W.exm_one (M := model X.prog X.w) (J3.kIn) LT hb1
    have test : ∀ {Q : Value → Shared → Prop} {E : Value → Shared → Prop}, Q c { s' with heap := h3 } → wpAny (model X.prog X.w) (X.A.mark (some (.ref a))) (eval (.Name x np) X.env) Q E { s' with heap := h3 } := fun {Q E} q => by
      obtain ⟨hg, hdbg, hm | ⟨hm, hv, hnn⟩⟩ := hc
      · exact ld_glob (X := X.suite a ((a, oe3) :: (X.pn ++ pins))) S3 hg hm q hdbg
      · exact ld_blt (X := X.suite a ((a, oe3) :: (X.pn ++ pins))) S3 hg hm hv q hnn hdbg
    refine test (LM.here ?_)
    show codeAny _ _ _ _ _
    refine codeAny_handlers_suite_as ?_
    refine HandSPX.lands_againZ fl3 fun h4 fl4 up4 => ?_
    have J4 : Inv X pins σ' H' { s' with heap := h4 } := J.landed nb fl4.1 ((up.trans up3).trans up4) os ag
    obtain ⟨oe4, vs4, he4, hz4, hd4⟩ := fl4.there
    have J4i : PySem.W.InstAt h4 a oe4 C none := by
      obtain ⟨oc, od, oda, osl⟩ := oe4
      obtain ⟨h1, h2⟩ := hz4
      dsimp only at h1 h2 hd4
      subst h1 h2 hd4
      exact ⟨he4, rfl, rfl, trivial⟩
    -- nothing stood there when the def began, and at the try's start
    have nI : sI.heap.get? a = none := by
      cases q : sI.heap.get? a with
      | none => rfl
      | some o =>
        have z := nb a o q (by rw [hs]; exact nfr)
        rw [fl4.2.1] at z
        cases z
    have n0 : X.s_0.heap.get? a = none := by
      cases q : X.s_0.heap.get? a with
      | none => rfl
      | some o =>
        obtain ⟨o', e⟩ := J.base.there a o q (by rw [hex]; simp)
        rw [nI] at e
        cases e
    have J5 : Inv X pins σ' (upd H' a (excO a C)) { s' with heap := h4 } := Inv.more J4 na n0 nL (fun x c e => by rw [hcl] at e; cases e) (fun p hp => fun z => by
      have e := (J.pin p hp).1
      rw [z, nI] at e
      cases e) (excO_ok J4i)
    refine store_ok (X := X.suite a (X.pn ++ pins)) (v := .ref a) (Inv.suite0 J5 a) hN hi hloc rfl (fun s5 S5 => ?_) (.inr hln)
    refine wpAny_mono ((hsu a (.ref C) none (X.pn ++ pins)).run [] s5 _ _ _ S5 (hyes a na)) (fun f s6 hsp => ?_) (fun _ _ z => False.elim z)
    have end_ : ∀ {σ6 : LSt} {H6 : Hp} {Q : Shared → Prop}, Inv (X.suite a (X.pn ++ pins)) [] σ6 H6 s6 → (∀ s7, Inv X pins (σ6.set i none) H6 s7 → Q s7) →
        wpAny (model X.prog X.w) X.A (do bindName X.env n .none; unbindBehindTheSuite X.env n pos') (fun _ s7 => Q s7) X.xe s6 := fun {σ6 H6 Q} S6 hq => gone_ok (Inv.unsuite0 S6 ok) hN hi hln hq
    cases f with
    | next =>
      obtain ⟨σ6, H6, S6, q6⟩ := hsp
      exact end_ S6 fun s7 J7 => ⟨_, _, J7, q6⟩
    | brk =>
      obtain ⟨σ6, H6, S6, q6⟩ := hsp
      exact end_ S6 fun s7 J7 => ⟨_, _, J7, q6⟩
    | cont =>
      obtain ⟨σ6, H6, S6, q6⟩ := hsp
      exact end_ S6 fun s7 J7 => ⟨_, _, J7, q6⟩
    | ret u =>
      obtain ⟨v6, σ6, H6, S6, r6, q6⟩ := hsp
      exact end_ S6 fun s7 J7 => ⟨_, _, _, J7, r6, q6⟩
  · cases f with
    | next =>
      obtain ⟨σ', H', J', q⟩ := hsp
      exact wpAny_execs_nil ⟨σ', H', J'.ofTry ok, q⟩
    | brk =>
      obtain ⟨σ', H', J', q⟩ := hsp
      exact ⟨σ', H', J'.ofTry ok, q⟩
    | cont =>
      obtain ⟨σ', H', J', q⟩ := hsp
      exact ⟨σ', H', J'.ofTry ok, q⟩
    | ret u =>
      obtain ⟨v, σ', H', J', r, q⟩ := hsp
      exact ⟨v, σ', H', J'.ofTry ok, r, q⟩
end
end Bb
/-! BbX4 -/
/-! {key: value for a in xs for b in ys}, the keys tuples. -/
namespace Bb
open PySem PySem.Spec PyProof.Rows L2
section
variable {prog : Program} {w : World} {A : Around} {R : Result → Shared → Prop} {s : Shared} {kx vx t0 i0 t1 i1 : Expr} {scope : Scope} {pos : Pos} {it : Value} {D : Addr} {env : PySem.Env}
abbrev dc2E (kx vx t0 i0 t1 i1 : Expr) (scope : Scope) (pos : Pos) : Expr := .DictComp kx vx [⟨t0, i0, [], 0⟩, ⟨t1, i1, [], 0⟩] scope pos
theorem dc2_turn0 : compTurn (dc2E kx vx t0 i0 t1 i1 scope pos) 0 it (.ref D) env = (do
      standAt i0.pos
      match ← pyNext it with
      | none => pure (.done .next)
      | some v =>
        letOwnedTupleGo t0 it v
        assign t0 env v
        let x ← eval i1 env
        standAt i1.pos
        let x ← foldedSetIterable i1 env x
        let _ ← runOwn (.compStart (dc2E kx vx t0 i0 t1 i1 scope pos) 1 (← holding [x] (pyIter x)) (.ref D) env) env
        again (.compLoop (dc2E kx vx t0 i0 t1 i1 scope pos) 0 it (.ref D) env)) := by rfl
theorem dc2_turn1 : compTurn (dc2E kx vx t0 i0 t1 i1 scope pos) 1 it (.ref D) env = (do
      standAt i1.pos
      match ← pyNext it with
      | none => pure (.done .next)
      | some v =>
        letOwnedTupleGo t1 it v
        assign t1 env v
        (do
          let kv ← eval kx env
          let vv ← holding [kv] (eval vx env)
          standAt { kx.pos with endLine := vx.pos.endLine, endCol := vx.pos.endCol }
          holding [kv, vv] (dictSet D kv vv))
        again (.compLoop (dc2E kx vx t0 i0 t1 i1 scope pos) 1 it (.ref D) env)) := by rfl
theorem dc2_loop0 (hs : ∀ x, foldedSetIterable i1 env x = pure x) (I : Nat → Shared → Prop)
    (turn : ∀ n s, I n s → wpAny (model prog w) A (pyNext it) (fun r s₁ => match r with
      | none => R (.ok .next) s₁
      | some v => wpAny (model prog w) A (letOwnedTupleGo t0 it v) (fun _ s₁' => wpAny (model prog w) A (assign t0 env v) (fun _ s₃ =>
          wpAny (model prog w) A (eval i1 env) (fun x s₄ => wpAny (model prog w) A (pyIter x) (fun it1 s₅ =>
              codeAny (model prog w) A (.compStart (dc2E kx vx t0 i0 t1 i1 scope pos) 1 it1 (.ref D) env) (fun r s' => match r with
                | .ok _ => ∃ m, m < n ∧ I m s'
                | .error _ => False) s₅) (notedBy (model prog w) A env fun e s' => R (.error e) s') s₄) (notedBy (model prog w) A env fun e s' => R (.error e) s') s₃) (notedBy (model prog w) A env fun e s' => R (.error e) s') s₁') (notedBy (model prog w) A env fun e s' => R (.error e) s') s₁) (notedBy (model prog w) A env fun e s' => R (.error e) s') s)
    (n : Nat) (h : I n s) :
    codeAny (model prog w) A (.compLoop (dc2E kx vx t0 i0 t1 i1 scope pos) 0 it (.ref D) env) R s := by
  refine codeAny_loop rfl I (fun n s hI => ?_) n h
  show wpAny _ A ((compTurn (dc2E kx vx t0 i0 t1 i1 scope pos) 0 it (.ref D) env).onRaise (fun x => do noteFrame x env; theTreesLotGoes x)) _ _ s
  refine wpAny_noted ?_
  rw [dc2_turn0]
  refine wpAny_bind (wpAny_standAt (wpAny_bind (wpAny_mono (turn n s hI) (fun r s₁ h₁ => ?_) fun _ _ h' => h')))
  cases r with
  | none => exact wpAny_pure h₁
  | some v =>
    refine wpAny_bind (wpAny_mono h₁ (fun _ s₁' h₁' => ?_) fun _ _ h' => h')
    refine wpAny_bind (wpAny_mono h₁' (fun _ s₃ h₃ => ?_) fun _ _ h' => h')
    refine wpAny_bind (wpAny_mono h₃ (fun x s₄ h₄ => ?_) fun _ _ h' => h')
    refine wpAny_bind (wpAny_standAt (wpAny_bind (wpAny_of_eq (hs x) (wpAny_bind (wpAny_holding (wpAny_mono h₄ (fun it1 s₅ h₅ => ?_) fun _ _ h' => h'))))))
    refine wpAny_bind (wpAny_runOwn ?_)
    rw [Around.mark_none]
    refine codeAny_mono h₅ fun r s' hr => ?_
    cases r with
    | ok f =>
      first
        | exact wpAny_pure ⟨rfl, hr⟩
        | exact wpAny_bind (wpAny_pure (wpAny_pure ⟨rfl, hr⟩))
    | error e => exact hr.elim
theorem dc2_loop1 (I : Nat → Shared → Prop)
    (turn : ∀ n s, I n s → wpAny (model prog w) A (pyNext it) (fun r s₁ => match r with
      | none => R (.ok .next) s₁
      | some v => wpAny (model prog w) A (letOwnedTupleGo t1 it v) (fun _ s₁' => wpAny (model prog w) A (assign t1 env v) (fun _ s₃ =>
          wpAny (model prog w) A (eval kx env) (fun kv s₄ => wpAny (model prog w) A (eval vx env) (fun vv s₅ =>
              wpAny (model prog w) A (dictSet D kv vv) (fun _ s₆ => ∃ m, m < n ∧ I m s₆) (notedBy (model prog w) A env fun e s' => R (.error e) s') s₅) (notedBy (model prog w) A env fun e s' => R (.error e) s') s₄) (notedBy (model prog w) A env fun e s' => R (.error e) s') s₃) (notedBy (model prog w) A env fun e s' => R (.error e) s') s₁') (notedBy (model prog w) A env fun e s' => R (.error e) s') s₁) (notedBy (model prog w) A env fun e s' => R (.error e) s') s)
    (n : Nat) (h : I n s) :
    codeAny (model prog w) A (.compLoop (dc2E kx vx t0 i0 t1 i1 scope pos) 1 it (.ref D) env) R s := by
  refine codeAny_loop rfl I (fun n s hI => ?_) n h
  show wpAny _ A ((compTurn (dc2E kx vx t0 i0 t1 i1 scope pos) 1 it (.ref D) env).onRaise (fun x => do noteFrame x env; theTreesLotGoes x)) _ _ s
  refine wpAny_noted ?_
  rw [dc2_turn1]
  refine wpAny_bind (wpAny_standAt (wpAny_bind (wpAny_mono (turn n s hI) (fun r s₁ h₁ => ?_) fun _ _ h' => h')))
  cases r with
  | none => exact wpAny_pure h₁
  | some v =>
    refine wpAny_bind (wpAny_mono h₁ (fun _ s₁' h₁' => ?_) fun _ _ h' => h')
    refine wpAny_bind (wpAny_mono h₁' (fun _ s₃ h₃ => ?_) fun _ _ h' => h')
    exact wpAny_bind (wpAny_bind (wpAny_mono h₃ (fun kv s₄ h₄ => wpAny_bind (wpAny_holding (wpAny_mono h₄ (fun vv s₅ h₅ => wpAny_bind (wpAny_standAt (wpAny_holding (wpAny_mono h₅ (fun _ s₆ h₆ => wpAny_pure ⟨rfl, h₆⟩) fun _ _ h' => h')))) fun _ _ h' => h'))) fun _ _ h' => h'))
theorem dc2_start1 {acc : Value} (h0 : codeAny (model prog w) A (.compLoop (dc2E kx vx t0 i0 t1 i1 scope pos) 1 it acc env) R s)
    (h : wpAny (model prog w) A (pyIter it) (fun it' s' => codeAny (model prog w) A (.compLoop (dc2E kx vx t0 i0 t1 i1 scope pos) 1 it' acc env) R s')
      (notedBy (model prog w) A env fun x s' => R (.error x) s') s) :
    codeAny (model prog w) A (.compStart (dc2E kx vx t0 i0 t1 i1 scope pos) 1 it acc env) R s := by
  refine codeAny_of_tree ?_
  show wpAny _ _ ((compStart (dc2E kx vx t0 i0 t1 i1 scope pos) 1 it acc env).onRaise (fun x => do noteFrame x env; standAt theWindowsPlace)) _ _ s
  refine wpAny_notedAt ?_
  unfold compStart
  show wpAny _ _ (ask >>= _) _ _ s
  refine wpAny_bind (wpAny_askSetting (wpAny_ite ?_))
  split
  · first
      | exact wpAny_bind (wpAny_pure (wpAny_pure (And.intro rfl h0)))
      | exact wpAny_pure (And.intro rfl h0)
  · first
      | exact wpAny_bind (wpAny_rule (wpAny_bind (wpAny_standAt (wpAny_bind (wpAny_mono h (fun it' s' h' => wpAny_pure (And.intro rfl h')) fun _ _ x => x)))))
      | (refine wpAny_bind (wpAny_rule ?_); show wpAny _ _ (standAt i1.pos >>= _) _ _ s; exact wpAny_bind (wpAny_standAt (wpAny_bind (wpAny_mono h (fun it' s' h' => wpAny_pure (And.intro rfl h')) fun _ _ x => x))))
end
/-- d[t] = v by a comprehension, t a tuple -/
theorem d_dictSetT {X : Cx} {pins : List (Addr × Obj)} {σ : LSt} {H : Hp} {s : Shared} {E : Value → Shared → Prop} {D b : Addr} {kvs : List (List Key × V)} {k : List Key} {v : V} {r : Value} {Q : Unit → Shared → Prop} (hu : X.A.units < cLine) (I : Inv X pins σ H s) (hD : H D = some (.dT kvs)) (hz : kvs.length < sizeLine)
    (eb : H b = some (.tup (k.map kV))) (rv : RelV v r) (h : ∀ s', Inv X pins σ (upd H D (.dT (putK kvs k v))) s' → Q () s') : wpAny (model X.prog X.w) X.A (dictSet D (.ref b) r) Q E s := by
  obtain ⟨z, hd, xs, rel, dd⟩ := dt_of I.hok hD
  have hzv : xs.length ≤ sizeLine := by rw [← Paired.length rel]; exact z
  have hl : (putK kvs k v).length ≤ sizeLine := by have := length_putK kvs k v; omega
  refine wpAny_dictSet_heap (hsz := hzv) hu (key_of I.hok eb) dd (fun h' dd' hs => h _ ?_)
  obtain ⟨q, es, ep, hq, h2, h3, h4, _, h5⟩ := dd'
  refine d_write (t' := _) I (by rw [hD]; exact True.intro) hs ⟨q, hq⟩ ⟨hl, hd, _, (rel.put k eb rv).keeps fun c ys ec => ?_, q, es, ep, hq, h2, h3, h4, h5⟩
  rw [upd_ne (ne_of ec hD (fun z => nomatch z))]
  exact ec
section
variable {X : Cx}
def tDc2 (wi : TI) (g : TG) (wi1 : TI) (g1 : TG) (tk tv : TE) (vs vs1 : List Nat) : TE := fun σ H Q => wi σ H fun J H1 => ∀ D, H1 D = none → ∃ W : Nat → Nat → Hp → Prop, (∃ m, W 0 m (upd H1 D (.dT []))) ∧ ∀ i m H, W i m H →
  (J.stop i H ∧ Q (.ref D) H) ∨ (J.go i H ∧ ∃ Nx : Hp → Prop, (∀ H', Nx H' → ∃ m', m' < m ∧ W (i + 1) m' H') ∧ ∀ x H', J.yld i H x H' → g x (wipe σ vs) H' fun σ2 H2 => wipe σ2 vs = wipe σ vs ∧
    wi1 σ2 H2 fun J1 H4 => ∃ W1 : Nat → Nat → Hp → Prop, (∃ m, W1 0 m H4) ∧ ∀ j k H, W1 j k H →
      (J1.stop j H ∧ Nx H) ∨ (J1.go j H ∧ ∃ Nx1 : Hp → Prop, (∀ H', Nx1 H' → ∃ k', k' < k ∧ W1 (j + 1) k' H') ∧ ∀ x H', J1.yld j H x H' → g1 x (wipe σ2 vs1) H' fun σ3 H5 => wipe σ3 vs1 = wipe σ2 vs1 ∧
        tk σ3 H5 fun y H6 => tv σ3 H6 fun z H7 => ∃ kvs k b, y = .ref b ∧ H7 b = some (.tup (k.map kV)) ∧ H7 D = some (.dT kvs) ∧ kvs.length < sizeLine ∧ Nx1 (upd H7 D (.dT (putK kvs k z)))))
theorem dc2_core {pins : List (Addr × Obj)} {s : Shared} {σ : LSt} {H : Hp} {Q : VK} {kx vx tg iter tg1 iter1 : Expr} {scope : Scope} {own : List (Str × Nat)} {vs1 : List Nat} {pos pos' : Pos} {wi wi1 : TI} {g g1 : TG} {tk tv : TE} {use : Option (Value → Sem Unit)} {Qf : Value → Shared → Prop}
    (hu : X.A.units < cLine) (hc : X.calm = true) (hN : X.N.Nodup) (I : Inv X pins σ H s) (hi : PI X tg iter wi) (ok : BlkOk X.N X.env.scope scope own) (hv : ∀ i ∈ vs1, i ∈ own.map (·.2))
    (hg : ∀ (s : Shared) (H : Hp) (C : Addr) (cl : List (Str × Addr)) (fp : List Addr), PG (X.blk s H scope (compEnvC scope cl C X.env) fp) tg g)
    (hk : ∀ (s : Shared) (H : Hp) (C : Addr) (cl : List (Str × Addr)) (fp : List Addr), PE (X.blk s H scope (compEnvC scope cl C X.env) fp) kx tk)
    (he : ∀ (s : Shared) (H : Hp) (C : Addr) (cl : List (Str × Addr)) (fp : List Addr), PE (X.blk s H scope (compEnvC scope cl C X.env) fp) vx tv) (hs : ∀ x, foldedSetIterable iter X.env x = pure x)
    (hi1 : ∀ (s : Shared) (H : Hp) (C : Addr) (cl : List (Str × Addr)) (fp : List Addr), PI (X.blk s H scope (compEnvC scope cl C X.env) fp) tg1 iter1 wi1)
    (hg1 : ∀ (s : Shared) (H : Hp) (C : Addr) (cl : List (Str × Addr)) (fp : List Addr), PG (X.blk s H scope (compEnvC scope cl C X.env) fp) tg1 g1)
    (hs1 : ∀ env x, foldedSetIterable iter1 env x = pure x)
    (h : tDc2 wi g wi1 g1 tk tv (own.map (·.2)) vs1 σ H Q)
    (hRR : ∀ D C s' m H', Inv X pins σ H' s' → Q (.ref D) H' → s'.heap.Ns C m → FpOk X pins H' C → compPost (model X.prog X.w) X.A X.xe use Qf (.ref D) C (.ok .next) s') :
    wpAny (model X.prog X.w) X.A (comprehension (dc2E kx vx tg iter tg1 iter1 scope pos) scope X.env pos' newDict false (eval iter X.env) use) Qf X.xe s := by
  have hfree : ∀ y ∈ scope.names, y.2 = .free → ∃ c, X.env.cells.lookup y.1 = some c := fun y hy e => by
    rcases ok.free y hy e with k | k
    · exact I.ok.has _ (.inl k)
    · exact I.ok.has _ (.inr k)
  refine wpAny_comprehension_free (use := use) rfl hs (closure_ok hfree) ok.kind (fun y hy e => by rw [ok.uniq y hy, e])
    (thn (hi.run pins s σ H _ I h) fun xv s1 hx => thn hx fun itv s2 h2 => ?_)
  obtain ⟨it, fp, tn, J, H2, e, I2, T, st2, f2, q⟩ := h2
  subst e
  refine wpAny_newObj_type (newEnv_comp ?_)
  generalize hD : s2.heap.objs.size = D
  have hDn : H2 D = none := I2.hok.fresh (Nat.le_of_eq hD)
  obtain ⟨W, ⟨m0, w0⟩, turn⟩ := q D hDn
  generalize hs3 : ({ s2 with heap := s2.heap.push { cls := .type "dict", data := .dict #[] } } : Shared) = s3
  have I3 : Inv X pins σ (upd H2 D (.dT [])) s3 := by
    rw [← hs3]
    refine I2.laid (t' := s2.toks) (fun b o e => Heap.get?_push_of_some _ e) (Nat.le_of_eq hD) ?_
    rw [← hD]
    exact dt_empty s2.heap I2.big
  have h3 : s3.heap = s2.heap.push { cls := .type "dict", data := .dict #[] } := by rw [← hs3]
  have sz : ∀ b ∈ fp, b < s2.heap.objs.size := fun b hb => by
    obtain ⟨o, e, _⟩ := T.obj _ _ st2 b hb
    exact Heap.lt_size e
  have f3 : ∀ b ∈ fp, FpOk X pins (upd H2 D (.dT [])) b ∧ b < s3.heap.objs.size := fun b hb => by
    have hlt := sz b hb
    refine ⟨⟨?_, (f2 b hb).2⟩, by rw [h3, Heap.size_push]; exact Nat.lt_succ_of_lt hlt⟩
    rw [upd_ne (by rw [← hD]; exact Nat.ne_of_lt hlt)]
    exact (f2 b hb).1
  have st3 : tn 0 s3.heap := T.keep _ _ _ st2 fun b _ o e => by rw [h3]; exact Heap.get?_push_of_some _ e
  have I4 := block_start I3 ok hN f3
  have pg := hg s3 (upd H2 D (.dT [])) s3.heap.objs.size (cellsFrom (s3.heap.objs.size + 1) scope.names (cloFrom X.env.cells scope.names [])) fp
  have pk := hk s3 (upd H2 D (.dT [])) s3.heap.objs.size (cellsFrom (s3.heap.objs.size + 1) scope.names (cloFrom X.env.cells scope.names [])) fp
  have pe := he s3 (upd H2 D (.dT [])) s3.heap.objs.size (cellsFrom (s3.heap.objs.size + 1) scope.names (cloFrom X.env.cells scope.names [])) fp
  have pi1 := hi1 s3 (upd H2 D (.dT [])) s3.heap.objs.size (cellsFrom (s3.heap.objs.size + 1) scope.names (cloFrom X.env.cells scope.names [])) fp
  have pg1 := hg1 s3 (upd H2 D (.dT [])) s3.heap.objs.size (cellsFrom (s3.heap.objs.size + 1) scope.names (cloFrom X.env.cells scope.names [])) fp
  show codeAny _ _ (.compStart (dc2E kx vx tg iter tg1 iter1 scope pos) 0 (.ref it) (.ref D) (compEnvC scope (cellsFrom (s3.heap.objs.size + 1) scope.names (cloFrom X.env.cells scope.names [])) s3.heap.objs.size X.env)) (compPost (model X.prog X.w) X.A X.xe use Qf (.ref D) s3.heap.objs.size) { s3 with heap := pushCells (s3.heap.push { cls := .type "dict", data := .dict #[] }) scope.names }
  have nfp : ∀ b ∈ fp, (upd H2 D (.dT [])) b = none := fun b hb => (f3 b hb).1.1
  generalize hce : compEnvC scope (cellsFrom (s3.heap.objs.size + 1) scope.names (cloFrom X.env.cells scope.names [])) s3.heap.objs.size X.env = ce at I4 pg pk pe pi1 pg1 ⊢
  have cL : ce.locals = s3.heap.objs.size := by subst hce; rfl
  generalize hH3 : upd H2 D (.dT []) = H3 at I3 I4 pg pk pe pi1 pg1 w0 nfp f3
  generalize hs4 : ({ s3 with heap := pushCells (s3.heap.push { cls := .type "dict", data := .dict #[] }) scope.names } : Shared) = s4 at I4 ⊢
  have st4 : tn 0 s4.heap := T.keep _ _ _ st3 fun b _ o e => by rw [← hs4]; exact pushCells_keeps _ _ _ _ (Heap.get?_push_of_some _ e)
  have stat : ∀ {σ' : LSt} {H' : Hp} {s' : Shared}, Inv (X.blk s3 H3 scope ce fp) [] σ' H' s' → (∀ b ∈ fp, H' b = none) → ∀ b ∈ fp, FpOk (X.blk s3 H3 scope ce fp) [] H' b := fun {σ' H' s'} I' hn b hb =>
    ⟨hn b hb, (I'.ok.exf b hb).1, I'.ok.exfs b hb, .inl hb, fun x c e => (I'.ok.exf b hb).2 x c e, fun p hp => absurd (show p ∈ ([] : List (Addr × Obj)) ++ [] from hp) (by simp)⟩
  have loop : codeAny (model X.prog X.w) X.A (.compLoop (dc2E kx vx tg iter tg1 iter1 scope pos) 0 (.ref it) (.ref D) ce) (compPost (model X.prog X.w) X.A X.xe use Qf (.ref D) s3.heap.objs.size) s4 := by
    refine dc2_loop0 (hs1 ce) (fun n s' => ∃ i H', Inv (X.blk s3 H3 scope ce fp) [] (wipe σ (own.map (·.2))) H' s' ∧ tn i s'.heap ∧ (∀ b ∈ fp, H' b = none) ∧ W i n H') ?_ m0 ⟨0, H3, I4, st4, nfp, w0⟩
    rintro n s5 ⟨i, H5, I5, st5, n5, w5⟩
    rcases turn i n H5 w5 with ⟨stop, qq⟩ | ⟨go, Nx, hNx, step⟩
    · have td := T.done (X.blk s3 H3 scope ce fp) rfl rfl rfl hc i [] s5 _ H5 (fun _ _ => False) I5 (stat I5 n5) st5 stop
      refine thnF td fun r s6 ⟨hr, I6⟩ => ?_
      subst hr
      have I7 : Inv X pins σ H5 s6 := I3.call' (ch := fp) I6.os I6.base I6.hok I6.bare fun b hb => ⟨(f3 b hb).1.2.2.2.1, (f3 b hb).1.2.1, (f3 b hb).1.2.2.2.2.1, (f3 b hb).1.2.2.2.2.2⟩
      have nC : H5 s3.heap.objs.size = none := by
        have z : H5 ce.locals = none := I6.free
        rw [cL] at z
        exact z
      obtain ⟨m, hn, _⟩ := I6.loc
      have hn : s6.heap.Ns ce.locals m := hn
      rw [cL] at hn
      exact hRR D s3.heap.objs.size s6 m H5 I7 qq hn (I3.fpOk (Nat.le_refl _) nC)
    · have ti := T.item (X.blk s3 H3 scope ce fp) rfl rfl rfl hc i [] s5 _ H5 (fun _ _ => False) I5 (stat I5 n5) st5 go
      refine thnF ti fun r s6 ⟨u, hr, h6⟩ => ?_
      subst hr
      refine thnF h6 fun _ s7 ⟨x, H7, I7, r7, y7, st7, n7⟩ => ?_
      have I7' := I7.pinned (stat I7 n7) (T.obj _ _ st7)
      refine thnF (pg.run _ s7 _ H7 x u _ I7' r7 (step x H7 y7)) fun _ s8 ⟨σ8, H8, I8, hw8, q8⟩ => ?_
      have fin : ∀ {σ9 : LSt} {s' : Shared} {H' : Hp}, Inv (X.blk s3 H3 scope ce fp) ([] ++ pinsAt fp s7.heap) σ9 H' s' → (wipe σ (own.map (·.2))).length = σ9.length → (∀ (j : Nat) v, (wipe σ (own.map (·.2)))[j]? = some (some v) → σ9[j]? = some (some v)) → Nx H' →
          ∃ m, m < n ∧ ∃ i H', Inv (X.blk s3 H3 scope ce fp) [] (wipe σ (own.map (·.2))) H' s' ∧ tn i s'.heap ∧ (∀ b ∈ fp, H' b = none) ∧ W i m H' := fun {σ9 s' H'} I' hl hk nx => by
        obtain ⟨m', hm, w'⟩ := hNx H' nx
        have pin' : ∀ b ∈ fp, ∀ o, s7.heap.get? b = some o → s'.heap.get? b = some o ∧ H' b = none := fun b hb o e =>
          let z := I'.pin (b, o) (List.mem_append_right _ (List.mem_append_right _ (mem_pinsAt hb e)))
          ⟨z.1, z.2.1⟩
        refine ⟨m', hm, i + 1, H', (I'.unpinned (pins := [])).weak hl hk, T.keep _ _ _ st7 fun b hb o e => (pin' b hb o e).1, fun b hb => ?_, w'⟩
        obtain ⟨o, e, _⟩ := T.obj _ _ st7 b hb
        exact (pin' b hb o e).2
      have hl8 : (wipe σ (own.map (·.2))).length = σ8.length := by rw [← hw8, wipe_length]
      have hk9 : ∀ (j : Nat) v, (wipe σ (own.map (·.2)))[j]? = some (some v) → (wipe σ8 vs1)[j]? = some (some v) := fun j v e => by
        rw [← hw8] at e
        obtain ⟨e1, e2⟩ := wipe_some e
        rw [wipe_out fun z => e2 (hv j z)]
        exact e1
      refine thnF (pi1.run _ s8 σ8 H8 _ I8 q8) fun xv s10 hx => thnF hx fun itv s11 h11 => ?_
      obtain ⟨it1, fp1, tn1, J1, H11, e1, I11, T1, st11, f11, W1, ⟨m1, w1⟩, turn1⟩ := h11
      subst e1
      have stat1 : ∀ {H' : Hp}, (∀ b ∈ fp1, H' b = none) → ∀ b ∈ fp1, FpOk (X.blk s3 H3 scope ce fp) ([] ++ pinsAt fp s7.heap) H' b := fun hn b hb => ⟨hn b hb, (f11 b hb).2⟩
      have loop1 : codeAny (model X.prog X.w) X.A (.compLoop (dc2E kx vx tg iter tg1 iter1 scope pos) 1 (.ref it1) (.ref D) ce)
          (fun r s' => match r with
            | .ok _ => ∃ m, m < n ∧ ∃ i H', Inv (X.blk s3 H3 scope ce fp) [] (wipe σ (own.map (·.2))) H' s' ∧ tn i s'.heap ∧ (∀ b ∈ fp, H' b = none) ∧ W i m H'
            | .error _ => False) s11 := by
        refine dc2_loop1 (fun k s' => ∃ j H', Inv (X.blk s3 H3 scope ce fp) ([] ++ pinsAt fp s7.heap) (wipe σ8 vs1) H' s' ∧ tn1 j s'.heap ∧ (∀ b ∈ fp1, H' b = none) ∧ W1 j k H') ?_ m1 ⟨0, H11, I11.weak (wipe_length _ _) (fun j v e => (wipe_some e).1), st11, fun b hb => (f11 b hb).1, w1⟩
        rintro k s12 ⟨j, H12, I12, st12, n12, w12⟩
        rcases turn1 j k H12 w12 with ⟨stop1, nx1⟩ | ⟨go1, Nx1, hNx1, step1⟩
        · refine thnF (T1.done (X.blk s3 H3 scope ce fp) rfl rfl rfl hc j _ s12 (wipe σ8 vs1) H12 (fun _ _ => False) I12 (stat1 n12) st12 stop1) fun r s13 ⟨hr, I13⟩ => ?_
          subst hr
          exact fin I13 (hl8.trans (wipe_length σ8 vs1).symm) hk9 nx1
        · refine thnF (T1.item (X.blk s3 H3 scope ce fp) rfl rfl rfl hc j _ s12 (wipe σ8 vs1) H12 (fun _ _ => False) I12 (stat1 n12) st12 go1) fun r s13 ⟨u1, hr, h13⟩ => ?_
          subst hr
          refine thnF h13 fun _ s14 ⟨x1, H14, I14, r14, y14, st14, n14⟩ => ?_
          have I14' := I14.pinned (stat1 n14) (T1.obj _ _ st14)
          refine thnF (pg1.run _ s14 (wipe σ8 vs1) H14 x1 u1 _ I14' r14 (step1 x1 H14 y14)) fun _ s15 ⟨σ15, H15, I15, hw15, q15⟩ => ?_
          have fin1 : ∀ {s' : Shared} {H' : Hp}, Inv (X.blk s3 H3 scope ce fp) (([] ++ pinsAt fp s7.heap) ++ pinsAt fp1 s14.heap) σ15 H' s' → Nx1 H' → ∃ m, m < k ∧ ∃ j H', Inv (X.blk s3 H3 scope ce fp) ([] ++ pinsAt fp s7.heap) (wipe σ8 vs1) H' s' ∧ tn1 j s'.heap ∧ (∀ b ∈ fp1, H' b = none) ∧ W1 j m H' := fun {s' H'} I' nx => by
            obtain ⟨m', hm, w'⟩ := hNx1 H' nx
            have pin' : ∀ b ∈ fp1, ∀ o, s14.heap.get? b = some o → s'.heap.get? b = some o ∧ H' b = none := fun b hb o e =>
              let z := I'.pin (b, o) (List.mem_append_right _ (List.mem_append_right _ (mem_pinsAt hb e)))
              ⟨z.1, z.2.1⟩
            refine ⟨m', hm, j + 1, H', I'.unpinned.weak (by rw [← hw15, wipe_length]) (fun j v e => by rw [← hw15] at e; exact (wipe_some e).1), T1.keep _ _ _ st14 fun b hb o e => (pin' b hb o e).1, fun b hb => ?_, w'⟩
            obtain ⟨o, e, _⟩ := T1.obj _ _ st14 b hb
            exact (pin' b hb o e).2
          refine thnF (pk.run _ s15 σ15 H15 _ I15 q15) fun z s16 ⟨yk, H16, I16, r16, q16⟩ => ?_
          refine thnF (pe.run _ s16 σ15 H16 _ I16 q16) fun z2 s17 ⟨yv, H17, I17, r17, kvs, kk, b, ek, hb17, hD17, hz17, nx⟩ => ?_
          subst ek
          obtain rfl : z = Value.ref b := r16
          exact d_dictSetT (X := X.blk s3 H3 scope ce fp) hu I17 hD17 hz17 hb17 r17 fun s18 I18 => fin1 I18 nx
      exact dc2_start1 loop1 (T1.self X.A 0 _ _ _ st11 loop1)
  exact codeAny_compStart_dict loop (T.self X.A 0 _ _ _ st4 loop)
/-- as a value -/
theorem pe_dc2 {kx vx tg iter tg1 iter1 : Expr} {scope : Scope} {own : List (Str × Nat)} {vs1 : List Nat} {pos : Pos} {wi wi1 : TI} {g g1 : TG} {tk tv : TE} (hu : X.A.units < cLine) (hc : X.calm = true) (hN : X.N.Nodup) (hi : PI X tg iter wi) (ok : BlkOk X.N X.env.scope scope own) (hv : ∀ i ∈ vs1, i ∈ own.map (·.2))
    (hg : ∀ (s : Shared) (H : Hp) (C : Addr) (cl : List (Str × Addr)) (fp : List Addr), PG (X.blk s H scope (compEnvC scope cl C X.env) fp) tg g)
    (hi1 : ∀ (s : Shared) (H : Hp) (C : Addr) (cl : List (Str × Addr)) (fp : List Addr), PI (X.blk s H scope (compEnvC scope cl C X.env) fp) tg1 iter1 wi1)
    (hg1 : ∀ (s : Shared) (H : Hp) (C : Addr) (cl : List (Str × Addr)) (fp : List Addr), PG (X.blk s H scope (compEnvC scope cl C X.env) fp) tg1 g1)
    (hk : ∀ (s : Shared) (H : Hp) (C : Addr) (cl : List (Str × Addr)) (fp : List Addr), PE (X.blk s H scope (compEnvC scope cl C X.env) fp) kx tk)
    (he : ∀ (s : Shared) (H : Hp) (C : Addr) (cl : List (Str × Addr)) (fp : List Addr), PE (X.blk s H scope (compEnvC scope cl C X.env) fp) vx tv) (hs : ∀ x, foldedSetIterable iter X.env x = pure x := by intro _; rfl) (hs1 : ∀ env x, foldedSetIterable iter1 env x = pure x := by intro _ _; rfl) :
    PE X (dc2E kx vx tg iter tg1 iter1 scope pos) (tDc2 wi g wi1 g1 tk tv (own.map (·.2)) vs1) := by
  refine ⟨fun pins s σ H Q I h => ?_⟩
  rw [arm_eval_DictComp]
  refine dc2_core hu hc hN I hi ok hv hg hk he hs hi1 hg1 hs1 h fun D C s' m H' I' q hn f => ⟨m, hn, fun h'' sb => ?_⟩
  obtain ⟨f0, f1, f2, f3, f4, f5⟩ := f
  exact ⟨.ref D, H', I'.turned (t' := s'.toks) (fun b o hb e => (sb.2 b hb).trans e) f0 f1 f3 f4 f5, rfl, q⟩
end
end Bb
/-! BbH -/
/-! Marks: dicts by spots, dicts by colours; what stands locked. -/
namespace Bb
open PySem PySem.Spec PyProof.Rows L2
/-! ### running a piece of pure code where we stand -/
section
variable {F H : Hp} {σ : LSt} {ρ ρ' : Rho} {te : TE} {tt : TT} {ta : TA} {t : TS} {d : Da} {ds : List Da} {b : Bool}
theorem atC (s : Same F H) : At F H F H := ⟨Same.refl F, s, Same.refl H⟩
theorem Dv.run (h : Dv F H te ρ d) (s : Same F H) (E : Env F σ ρ) {Q : VK} (k : ∀ v F' H', Gr [] F H F' H' → Dt F' v d → Q v H') : te σ H Q := h σ F H (atC s) E Q k
theorem DvT.run (h : DvT F H tt ρ b) (s : Same F H) (E : Env F σ ρ) {Q : Bool → Hp → Prop} (k : ∀ F' H', Gr [] F H F' H' → Q b H') : tt σ H Q := h σ F H (atC s) E Q k
theorem DvA.run (h : DvA F H ta ρ ds) (s : Same F H) (E : Env F σ ρ) {Q : List V → Hp → Prop} (k : ∀ vs F' H', Gr [] F H F' H' → DtA F' vs ds → Q vs H') : ta σ H Q := h σ F H (atC s) E Q k
theorem Sv.run (h : Sv F H t ρ (.nx ρ')) (s : Same F H) (E : Env F σ ρ) {D : Ends} (k : ∀ σ' F' H', Gr [] F H F' H' → Env F' σ' ρ' → D.nx σ' H') : t D σ H := h σ F H (atC s) E D k
theorem Sv.runR (h : Sv F H t ρ (.rt d)) (s : Same F H) (E : Env F σ ρ) {D : Ends} (k : ∀ v F' H', Gr [] F H F' H' → Dt F' v d → D.rt v H') : t D σ H := h σ F H (atC s) E D k
end
/-! ### marks of one colour -/
def keyT' (s : Tri) : List Key := keyT s
theorem keyT_inj {a b : Tri} (h : keyT a = keyT b) : a = b := by
  obtain ⟨a1, a2, a3⟩ := a
  obtain ⟨b1, b2, b3⟩ := b
  unfold keyT at h
  injection h with h1 h
  injection h with h2 h
  injection h with h3 h
  injection h1 with h1
  injection h2 with h2
  injection h3 with h3
  simp at h1 h2 h3
  rw [h1, h2, h3]
theorem keyT_kV (s : Tri) : (keyT s).map kV = ([s.1, s.2.1, s.2.2] : List Int).map V.int := rfl
abbrev Mk2 := Int × Int
def mkD (m : Mk2) : Da := .tup [.int m.1, .int m.2]
abbrev Mp := Tri → Option Mk2
def mpPut (mp : Mp) (s : Tri) (m : Mk2) : Mp := fun t => if t = s then some m else mp t
def RelM (F : Hp) : Option V → Option Mk2 → Prop
  | none, none => True
  | some v, some m => Dt F v (mkD m)
  | _, _ => False
theorem RelM.mono {F F' : Hp} (s : Same F F') : ∀ {a : Option V} {b : Option Mk2}, RelM F a b → RelM F' a b
  | none, none, _ => trivial
  | some _, some _, h => Dt.mono s h
  | none, some _, h => h.elim
  | some _, none, h => h.elim
structure RepT (F : Hp) (kvs : List (List Key × V)) (mp : Mp) : Prop where
  val : ∀ s, RelM F (valV kvs (keyT s)) (mp s)
  key : ∀ kv ∈ kvs, ∃ s, kv.1 = keyT s
  nd : (kvs.map (·.1)).Nodup
theorem RepT.mono {F F' : Hp} {kvs : List (List Key × V)} {mp : Mp} (r : RepT F kvs mp) (s : Same F F') : RepT F' kvs mp := ⟨fun t => (r.val t).mono s, r.key, r.nd⟩
theorem RepT.nil {F : Hp} : RepT F [] (fun _ => none) := ⟨fun _ => trivial, fun _ h => (nomatch h), List.nodup_nil⟩
theorem putK_keys {κ : Type} [DecidableEq κ] (kvs : List (κ × V)) (k : κ) (v : V) : (putK kvs k v).map (·.1) = if k ∈ kvs.map (·.1) then kvs.map (·.1) else kvs.map (·.1) ++ [k] := by
  have e : (kvs.any fun kv => decide (kv.1 = k)) = decide (k ∈ kvs.map (·.1)) := by
    rw [Bool.eq_iff_iff, List.any_eq_true, decide_eq_true_iff, List.mem_map]
    constructor
    · rintro ⟨kv, h1, h2⟩; exact ⟨kv, h1, of_decide_eq_true h2⟩
    · rintro ⟨kv, h1, h2⟩; exact ⟨kv, h1, decide_eq_true h2⟩
  unfold putK
  rw [e]
  by_cases h : k ∈ kvs.map (·.1)
  · rw [if_pos (decide_eq_true h), if_pos h, List.map_map]
    refine List.map_congr_left fun kv _ => ?_
    show (if kv.1 = k then (kv.1, v) else kv).1 = kv.1
    split <;> rfl
  · rw [if_neg (by rw [decide_eq_false h]; decide), if_neg h, List.map_append]
    rfl
theorem valV_mem {κ : Type} [DecidableEq κ] {kvs : List (κ × V)} {k : κ} : valV kvs k = none ↔ k ∉ kvs.map (·.1) := by
  have e := valV_any k kvs
  constructor
  · intro h hm
    rw [h] at e
    obtain ⟨kv, h1, h2⟩ := List.mem_map.mp hm
    have this : (kvs.any fun kv => decide (kv.1 = k)) = true := List.any_eq_true.mpr ⟨kv, h1, decide_eq_true h2⟩
    rw [e] at this
    cases this
  · intro h
    cases q : valV kvs k with
    | none => rfl
    | some v =>
      rw [q] at e
      obtain ⟨kv, h1, h2⟩ := List.any_eq_true.mp e
      exact (h (List.mem_map.mpr ⟨kv, h1, of_decide_eq_true h2⟩)).elim
theorem RepT.mem {F : Hp} {kvs : List (List Key × V)} {mp : Mp} (r : RepT F kvs mp) (s : Tri) : keyT s ∈ kvs.map (·.1) ↔ mp s ≠ none := by
  have h := r.val s
  constructor
  · intro hm e
    rw [e] at h
    cases q : valV kvs (keyT s) with
    | none => exact (valV_mem.mp q) hm
    | some v => rw [q] at h; exact h
  · intro hne
    refine Classical.byContradiction fun hm => ?_
    rw [valV_mem.mpr hm] at h
    cases q : mp s with
    | none => exact hne q
    | some m => rw [q] at h; exact h
theorem RepT.has {F : Hp} {kvs : List (List Key × V)} {mp : Mp} (r : RepT F kvs mp) {s : Tri} {m : Mk2} (h : mp s = some m) : ∃ v, valV kvs (keyT s) = some v ∧ Dt F v (mkD m) := by
  have q := r.val s
  rw [h] at q
  cases e : valV kvs (keyT s) with
  | none => rw [e] at q; exact q.elim
  | some v => rw [e] at q; exact ⟨v, rfl, q⟩
theorem RepT.not {F : Hp} {kvs : List (List Key × V)} {mp : Mp} (r : RepT F kvs mp) {s : Tri} (h : mp s = none) : valV kvs (keyT s) = none := by
  have q := r.val s
  rw [h] at q
  cases e : valV kvs (keyT s) with
  | none => rfl
  | some v => rw [e] at q; exact q.elim
theorem RepT.isSome {F : Hp} {kvs : List (List Key × V)} {mp : Mp} (r : RepT F kvs mp) (s : Tri) : (valV kvs (keyT s)).isSome = (mp s).isSome := by
  cases h : mp s with
  | none => rw [r.not h]; rfl
  | some m =>
    obtain ⟨v, e, _⟩ := r.has h
    rw [e]
    rfl
theorem RepT.put {F : Hp} {kvs : List (List Key × V)} {mp : Mp} (r : RepT F kvs mp) {s : Tri} {m : Mk2} {v : V} (h : Dt F v (mkD m)) : RepT F (putK kvs (keyT s) v) (mpPut mp s m) := by
  refine ⟨fun t => ?_, fun kv hk => ?_, ?_⟩
  · rw [valV_put]
    unfold mpPut
    by_cases e : t = s
    · rw [if_pos e, if_pos (by rw [e])]; exact h
    · rw [if_neg e, if_neg (fun z => e (keyT_inj z))]; exact r.val t
  · have hm : kv.1 ∈ (putK kvs (keyT s) v).map (·.1) := List.mem_map.mpr ⟨kv, hk, rfl⟩
    rw [putK_keys] at hm
    have old : kv.1 ∈ kvs.map (·.1) → ∃ s, kv.1 = keyT s := fun h => by
      obtain ⟨kv', h1, h2⟩ := List.mem_map.mp h
      obtain ⟨t, e⟩ := r.key kv' h1
      exact ⟨t, by rw [← h2, e]⟩
    split at hm
    · exact old hm
    · rcases List.mem_append.mp hm with h | h
      · exact old h
      · exact ⟨s, by simpa using h⟩
  · rw [putK_keys]
    split
    · exact r.nd
    · rename_i hn
      refine List.nodup_append.mpr ⟨r.nd, by simp, fun a ha b hb => ?_⟩
      have : b = keyT s := by simpa using hb
      rw [this]
      exact fun z => hn (z ▸ ha)
theorem RepT.put_len {F : Hp} {kvs : List (List Key × V)} {mp : Mp} (r : RepT F kvs mp) (s : Tri) (v : V) : (putK kvs (keyT s) v).length = kvs.length + (if mp s = Option.none then 1 else 0) := by
  have e : (putK kvs (keyT s) v).length = ((putK kvs (keyT s) v).map (·.1)).length := by rw [List.length_map]
  rw [e, putK_keys]
  by_cases h : mp s = Option.none
  · rw [if_pos h, if_neg (fun z => (r.mem s).mp z h), List.length_append, List.length_map]; rfl
  · rw [if_neg h, if_pos ((r.mem s).mpr h), List.length_map]; rfl
/-- as many as there are spots with a mark -/
theorem RepT.length {F : Hp} {kvs : List (List Key × V)} {mp : Mp} (r : RepT F kvs mp) (L : List Tri) (nd : L.Nodup) (hs : ∀ s, mp s ≠ Option.none → s ∈ L) : kvs.length = (L.filter fun s => (mp s).isSome).length := by
  have e : kvs.length = (kvs.map (·.1)).length := by rw [List.length_map]
  have p : (kvs.map (·.1)).Perm ((L.filter fun s => (mp s).isSome).map keyT) := by
    refine (List.perm_ext_iff_of_nodup r.nd ?_).mpr fun k => ?_
    · exact List.pairwise_map.mpr ((nd.filter _).imp fun h z => h (keyT_inj z))
    · constructor
      · intro hk
        obtain ⟨kv, h1, h2⟩ := List.mem_map.mp hk
        obtain ⟨s, e⟩ := r.key kv h1
        have hm : mp s ≠ Option.none := (r.mem s).mp (by rw [← e, h2]; exact hk)
        refine List.mem_map.mpr ⟨s, List.mem_filter.mpr ⟨hs s hm, ?_⟩, by rw [← e, h2]⟩
        cases q : mp s with
        | none => exact (hm q).elim
        | some m => rfl
      · intro hk
        obtain ⟨s, h1, h2⟩ := List.mem_map.mp hk
        have hm := (List.mem_filter.mp h1).2
        rw [← h2]
        refine (r.mem s).mpr fun z => ?_
        rw [z] at hm
        cases hm
  rw [e, p.length_eq, List.length_map]
def orM (o : Option Mk2) (z : Da) : Da := match o with
  | some m => mkD m
  | none => z
theorem orM_mk (o : Option Mk2) (m : Mk2) : orM o (mkD m) = mkD (o.getD m) := by cases o <;> rfl
/-- growth ahead of, behind, a change -/
theorem Gr.after {M : List Addr} {F H F1 H1 F2 H2 : Hp} (a : Gr [] F H F1 H1) (b : Gr M F1 H1 F2 H2) : Gr M F H F2 H2 where
  ff := a.ff.trans b.ff
  fh := b.fh
  hh := fun c o n e => b.hh c o n (a.same c o e)
  nw := fun c o e t => by rw [b.nw c o (a.same c o e) t, a.nw c o e t]
theorem Gr.then1 {p : Addr} {o : HO} {F H F1 H1 F2 H2 : Hp} (a : Gr [p] F H F1 H1) (b : Gr [p] F1 H1 F2 H2) (h : H1 p = some o) (t : HO.isTup o = false) : Gr [p] F H F2 H2 :=
  a.trans b fun m hm => by
    have e : m = p := by simpa using hm
    subst e
    exact ⟨o, h, t⟩
/-! ### reading a dict by spots -/
section
variable {F0 B : Hp} {ρ ρ' ρ1 : Rho} {K : PySem.W.Frag} {d e x y z : Da} {td ty tx : TE} {p : Addr} {kvs : List (List Key × V)} {mp : Mp} {s : Tri}
theorem Rd.same {H H' : Hp} {u : HO} (h : Rd H p u) (s : Same H H') : Rd H' p u := h.elim (fun e => .inl (s _ _ e)) fun ⟨o, e⟩ => .inr ⟨o, s _ _ e⟩
theorem dt_tri {F H : Hp} {v : V} (h : Dt F v (triD s)) (sm : Same F H) : ∃ b, v = .ref b ∧ H b = some (.tup ((keyT s).map kV)) := by
  rw [show triD s = .tup (([s.1, s.2.1, s.2.2] : List Int).map Da.int) from rfl] at h
  obtain ⟨b, e, hb⟩ := h.tupI
  exact ⟨b, e, by rw [keyT_kV]; exact sm _ _ hb⟩
theorem dget_tri {F H : Hp} {v : V} (hr : Rd H p (.dT kvs)) (h : Dt F v (triD s)) (sm : Same F H) : DGet H p v (valV kvs (keyT s)) := by
  obtain ⟨b, rfl, hb⟩ := dt_tri h sm
  exact .inr ⟨kvs, keyT s, b, hr, rfl, hb, rfl⟩
theorem dv_getT2 (h : Dv F0 B td ρ (.ob (.ref p))) (hB : Rd B p (.dT kvs)) (hR : RepT F0 kvs mp) (hy : Dv F0 B ty ρ (triD s)) (hx : Dv F0 B tx ρ z) : Dv F0 B (tDGet2 td ty tx) ρ (orM (mp s) z) := fun σ F H a E Q k => h σ F H a E _ fun v F1 H1 g1 d1 => by
  have h1 : Rd H1 p (.dT kvs) := Rd.same (Rd.same hB a.b) g1.same
  refine ⟨p, d1.of_ob, .inr ⟨kvs, h1⟩, hy σ F1 H1 (a.go g1) (E.mono g1.ff) _ fun u F2 H2 g2 d2 => hx σ F2 H2 ((a.go g1).go g2) ((E.mono g1.ff).mono g2.ff) _ fun w F3 H3 g3 d3 => ?_⟩
  have h3 : Rd H3 p (.dT kvs) := Rd.same (Rd.same h1 g2.same) g3.same
  refine ⟨_, dget_tri h3 (d2.mono g3.ff) g3.fh, k _ F3 H3 ((g1.trans0 g2).trans0 g3) ?_⟩
  have f3 : Same F0 F3 := a.f.trans ((g1.trans0 g2).trans0 g3).ff
  cases q : mp s with
  | none => rw [hR.not q]; exact d3
  | some m =>
    obtain ⟨u, e, hu⟩ := hR.has q
    rw [e]
    exact hu.mono f3
theorem dv_getT {m : Mk2} (h : Dv F0 B td ρ (.ob (.ref p))) (hB : Rd B p (.dT kvs)) (hR : RepT F0 kvs mp) (hy : Dv F0 B ty ρ (triD s)) (hm : mp s = some m) : Dv F0 B (tDGet td ty) ρ (mkD m) := fun σ F H a E Q k => h σ F H a E _ fun v F1 H1 g1 d1 => by
  have h1 : Rd H1 p (.dT kvs) := Rd.same (Rd.same hB a.b) g1.same
  refine hy σ F1 H1 (a.go g1) (E.mono g1.ff) _ fun u F2 H2 g2 d2 => ?_
  obtain ⟨r, e, hu⟩ := hR.has hm
  refine ⟨p, r, d1.of_ob, by rw [← e]; exact dget_tri (Rd.same h1 g2.same) d2 g2.fh, k _ F2 H2 (g1.trans0 g2) (hu.mono (a.f.trans (g1.trans0 g2).ff))⟩
theorem dv_inT (h : Dv F0 B td ρ (.ob (.ref p))) (hB : Rd B p (.dT kvs)) (hR : RepT F0 kvs mp) (hy : Dv F0 B ty ρ (triD s)) : Dv F0 B (tDIn ty td) ρ (.bl (mp s).isSome) := fun σ F H a E Q k => hy σ F H a E _ fun u F1 H1 g1 d1 => h σ F1 H1 (a.go g1) (E.mono g1.ff) _ fun v F2 H2 g2 d2 => by
  have h1 : Rd H2 p (.dT kvs) := Rd.same (Rd.same (Rd.same hB a.b) g1.same) g2.same
  refine ⟨p, _, d2.of_ob, dget_tri h1 (d1.mono g2.ff) g2.fh, k _ F2 H2 (g1.trans0 g2) ?_⟩
  rw [hR.isSome]
  exact .bl _
theorem dv_notInT (h : Dv F0 B td ρ (.ob (.ref p))) (hB : Rd B p (.dT kvs)) (hR : RepT F0 kvs mp) (hy : Dv F0 B ty ρ (triD s)) : Dv F0 B (tDNotIn ty td) ρ (.bl (!(mp s).isSome)) := fun σ F H a E Q k => hy σ F H a E _ fun u F1 H1 g1 d1 => h σ F1 H1 (a.go g1) (E.mono g1.ff) _ fun v F2 H2 g2 d2 => by
  have h1 : Rd H2 p (.dT kvs) := Rd.same (Rd.same (Rd.same hB a.b) g1.same) g2.same
  refine ⟨p, _, d2.of_ob, dget_tri h1 (d1.mono g2.ff) g2.fh, k _ F2 H2 (g1.trans0 g2) ?_⟩
  rw [hR.isSome]
  exact .bl _
/-- reading a dict by texts -/
theorem dv_getK {kvs : List (Key × V)} {c : Str} {v : V} (h : Dv F0 B td ρ (.ob (.ref p))) (hB : Rd B p (.dK kvs)) (hy : Dv F0 B ty ρ (.str c)) (hv : valV kvs (.inr c) = some v) (hd : Dt F0 v d) : Dv F0 B (tDGet td ty) ρ d := fun σ F H a E Q k => h σ F H a E _ fun u F1 H1 g1 d1 => by
  have h1 : Rd H1 p (.dK kvs) := Rd.same (Rd.same hB a.b) g1.same
  refine hy σ F1 H1 (a.go g1) (E.mono g1.ff) _ fun w F2 H2 g2 d2 => ?_
  refine ⟨p, v, d1.of_ob, .inl ⟨kvs, .inr c, Rd.same h1 g2.same, d2.of_str, hv.symm⟩, k _ F2 H2 (g1.trans0 g2) (hd.mono (a.f.trans (g1.trans0 g2).ff))⟩
/-- a field of an own object that stands -/
theorem dv_fld {ta : TE} {C dx : Addr} {fs : List (Str × V)} {f : Str} {v : V} (h : Dv F0 B ta ρ (.ob (.ref p))) (hB : B p = some (.ins C dx fs)) (c : Cls K C) (n : NoAttr K C f) (hv : fs.lookup f = some v) (hd : Dt F0 v d) : Dv F0 B (tFld K ta f) ρ d := fun σ F H a E Q k => h σ F H a E _ fun u F1 H1 g1 d1 =>
  ⟨p, C, dx, fs, v, d1.of_ob, g1.same _ _ (a.b _ _ hB), c, n, hv, k _ F1 H1 g1 (hd.mono (a.f.trans g1.ff))⟩
end
/-! ### locks -/
def unl (F : Hp) (d : Addr) : Hp := fun b => if b = d then none else F b
def rel (F' F : Hp) (d : Addr) : Hp := fun b => if b = d then F d else F' b
def HO.isDict : HO → Bool
  | .dK _ => true
  | .dT _ => true
  | _ => false
section
variable {F H F' H' : Hp} {d : Addr} {o u : HO} {v : V} {x : Da}
theorem unl_ne {b : Addr} (h : b ≠ d) : unl F d b = F b := if_neg h
theorem unl_at : unl F d d = none := if_pos rfl
theorem unl_same (s : Same F H) : Same (unl F d) (upd H d o) := fun b z e => by
  by_cases h : b = d
  · rw [h, unl_at] at e; cases e
  · rw [unl_ne h] at e
    rw [upd_ne h]
    exact s _ _ e
mutual
theorem Dt.unl (hk : ∀ o, F d = some o → HO.isDict o = true) : ∀ {v : V} {x : Da}, Dt F v x → Dt (unl F d) v x
  | _, _, .non => .non
  | _, _, .bl b => .bl b
  | _, _, .int i => .int i
  | _, _, .str x => .str x
  | _, _, .ob v => .ob v
  | _, _, .lst h r => .lst (by rw [unl_ne (fun z => by rw [z] at h; cases hk _ h)]; exact h) (DtA.unl hk r)
  | _, _, .tup h r => .tup (by rw [unl_ne (fun z => by rw [z] at h; cases hk _ h)]; exact h) (DtA.unl hk r)
theorem DtA.unl (hk : ∀ o, F d = some o → HO.isDict o = true) : ∀ {vs : List V} {ds : List Da}, DtA F vs ds → DtA (unl F d) vs ds
  | _, _, .nil => .nil
  | _, _, .cons h r => .cons (Dt.unl hk h) (DtA.unl hk r)
end
theorem RepT.unl {kvs : List (List Key × V)} {mp : Mp} (r : RepT F kvs mp) (hk : ∀ o, F d = some o → HO.isDict o = true) : RepT (unl F d) kvs mp := by
  refine ⟨fun s => ?_, r.key, r.nd⟩
  have h := r.val s
  revert h
  cases valV kvs (keyT s) <;> cases mp s <;> first | exact id | exact fun h => Dt.unl hk h
theorem Env.unl {σ : LSt} {ρ : Rho} (e : Env F σ ρ) (hk : ∀ o, F d = some o → HO.isDict o = true) : Env (unl F d) σ ρ := ⟨e.len, fun i x h => by
  obtain ⟨v, a, b⟩ := e.at_ i x h
  exact ⟨v, a, b.unl hk⟩⟩
/-- from within a lock, without -/
theorem Gr.unlock {M : List Addr} {od : Obj} (s : Same F H) (hd : H d = some u) (hM : d ∉ M) (ht : HO.isTup u = false) (g : Gr M (unl F d) (upd H d (.frz od u)) F' H') : H' d = some (.frz od u) ∧ F' d = none ∧ Gr M F H (rel F' F d) (upd H' d u) ∧ Same F' (rel F' F d) := by
  have h1 : H' d = some (.frz od u) := g.hh d _ hM upd_same
  have h2 : F' d = none := by rw [g.nw d _ upd_same rfl]; exact unl_at
  refine ⟨h1, h2, ⟨fun b o e => ?_, fun b o e => ?_, fun b o hb e => ?_, fun b o e t => ?_⟩, fun b o e => ?_⟩
  · unfold rel
    by_cases h : b = d
    · rw [if_pos h, ← h]; exact e
    · rw [if_neg h]; exact g.ff _ _ (by rw [unl_ne h]; exact e)
  · unfold rel at e
    by_cases h : b = d
    · rw [if_pos h] at e
      have := s _ _ e
      rw [hd] at this
      cases this
      rw [h, upd_same]
    · rw [if_neg h] at e
      rw [upd_ne h]
      exact g.fh _ _ e
  · by_cases h : b = d
    · rw [h, upd_same]; rw [h, hd] at e; exact e
    · rw [upd_ne h]; exact g.hh b o hb (by rw [upd_ne h]; exact e)
  · unfold rel
    by_cases h : b = d
    · rw [if_pos h, ← h]
    · rw [if_neg h]
      have := g.nw b o (by rw [upd_ne h]; exact e) t
      rw [this, unl_ne h]
  · unfold rel
    rw [if_neg (fun z => by rw [z, h2] at e; cases e)]
    exact e
/-- a dict is locked while an expression runs -/
theorem lockE {te : TE} {σ : LSt} {Q : VK} (s : Same F H) (hd : H d = some u) (hu : HO.isDict u = true)
    (h : ∀ od, te σ (upd H d (.frz od u)) fun v H' => H' d = some (.frz od u) ∧ Q v (upd H' d u)) : tLockE te σ H Q :=
  ⟨d, u, hd, by cases u <;> first | trivial | cases hu, h⟩
end
end Bb
/-! Bb9 -/
namespace Bb
open PySem PySem.Spec PyProof.Rows L2

section
variable {F H : Hp} {σ : LSt} {ρ ρ' : Rho} {te td ty tv : TE} {tt : TT} {ta : TA} {t u : TS} {d : Da} {ds : List Da} {b : Bool} {D : Ends} {p : Addr} {kvs : List (List Key × V)} {mp : Mp} {s : Tri} {m : Mk2}
theorem Sv.seq (h : Sv F H t ρ (.nx ρ')) (s : Same F H) (E : Env F σ ρ) (k : ∀ σ' F' H', Gr [] F H F' H' → Env F' σ' ρ' → u D σ' H') : tSeq t u D σ H := h σ F H (atC s) E _ k
/-- d[spot] = mark -/
theorem sDPut_run (hd : ∀ F H, Dv F H td ρ (.ob (.ref p))) (hy : ∀ F H, Dv F H ty ρ (triD s)) (hv : Dv F H tv ρ (mkD m)) (hp : H p = some (.dT kvs)) (hR : RepT F kvs mp) (nF : F p = none) (hl : kvs.length < sizeLine) (sm : Same F H) (E : Env F σ ρ)
    (k : ∀ F' H' kvs', Gr [p] F H F' H' → H' p = some (.dT kvs') → RepT F' kvs' (mpPut mp s m) → kvs'.length = kvs.length + (if mp s = none then 1 else 0) → F' p = none → Env F' σ ρ → D.nx σ H') : sDPut td ty tv D σ H := by
  refine hv.run sm E fun v F1 H1 g1 d1 => ?_
  refine (hd F1 H1).run g1.fh (E.mono g1.ff) fun w F2 H2 g2 d2 => ?_
  refine (hy F2 H2).run g2.fh ((E.mono g1.ff).mono g2.ff) fun y F3 H3 g3 d3 => ?_
  have g := (g1.trans0 g2).trans0 g3
  have h3 : H3 p = some (.dT kvs) := g.same _ _ hp
  have n3 : F3 p = none := by rw [g.nw p _ hp rfl]; exact nF
  obtain ⟨b, rfl, hb⟩ := dt_tri d3 g3.fh
  refine ⟨p, _, (d2.mono g3.ff).of_ob, DPut.t h3 hb hl, ?_⟩
  have gp : Gr [p] F3 H3 F3 (upd H3 p (.dT (putK kvs (keyT s) v))) := Gr.put g3.fh n3
  refine k F3 _ _ (g.after gp) upd_same ?_ ?_ n3 (E.mono g.ff)
  · exact (hR.mono g.ff).put ((d1.mono g2.ff).mono g3.ff)
  · exact hR.put_len s v
end
/-! ### put_on -/
def putV (mp : Mp) (s : Tri) (since dry : Int) : Mk2 := match mp s with
  | some m => (if since < m.1 then since else m.1, if dry > m.2 then dry else m.2)
  | none => (since, dry)
def spPut : Sp := fun vs H Q _ => ∃ (F : Hp) (p : Addr) (kvs : List (List Key × V)) (mp : Mp) (s : Tri) (since dry : Int) (v : V), vs = [.ref p, v, .int since, .int dry] ∧ Same F H ∧ F p = none ∧ H p = some (.dT kvs) ∧ RepT F kvs mp ∧ Dt F v (triD s) ∧ kvs.length < sizeLine ∧
  ∀ F' H' kvs', Gr [p] F H F' H' → H' p = some (.dT kvs') → RepT F' kvs' (mpPut mp s (putV mp s since dry)) → kvs'.length = kvs.length + (if mp s = none then 1 else 0) → F' p = none → Q .non H'
abbrev N_put_on : List Str := ["found", "spot", "since", "dry", "old"]
abbrev P_put_on : List Str := ["found", "spot", "since", "dry"]
theorem sc_put_on : FnScope N_put_on P_put_on (defScope s_put_on) := ⟨rfl, rfl, rfl, by decide +kernel, rfl, by decide +kernel, by decide +kernel⟩
theorem b_put_on : BindsD d_put_on P_put_on := fun _ _ _ _ _ _ us hl => match us, hl with | [_, _, _, _], _ => rfl

section
variable {P : Program} {w : World} {K : PySem.W.Frag} {mg : Str → Option Value} {base : Heap}
theorem ok_put_on (T : Txt K mg) : Ok P w K mg base CX0 1 d_put_on P_put_on spPut := by
  refine okG T.f_put_on sc_put_on b_put_on (fun vs H Q E h => ?_) fun cdv A outer s H vs Q E hr h => ?_
  · obtain ⟨_, _, _, _, _, _, _, _, rfl, _⟩ := h
    rfl
  · obtain ⟨F, p, kvs, mp, sp, since, dry, v, rfl, sm, nF, hp, hR, hv, hl, q⟩ := h
    refine ⟨_, (pss_cons (ps_set (i := 4) sc_put_on.nd rfl (.inl rfl) (pe_dget2 (hu_of hr) (pv 0) (pv 1) (pe_tup (pa_cons (pv 2) (pa_cons (pv 3) pa_nil))) ⟨by rfl, by rfl, by rfl, by rfl⟩))
  (pss_one (ps_dput (hu_of hr) (pv 0) (pv 1) (pe_tup (pa_cons (pe_callB (call_min2 rfl) (by rfl) T.n_min (by decide +kernel) (pa_cons (pe_ix (kix_tup (K := K)) (pv 4) pe_int (fun _ _ => rfl)) (pa_cons (pv 2) pa_nil))) (pa_cons (pe_callB (call_max2 rfl) (by rfl) T.n_max (by decide +kernel) (pa_cons (pe_ix (kix_tup (K := K)) (pv 4) pe_int (fun _ _ => rfl)) (pa_cons (pv 3) pa_nil))) pa_nil))) rfl))), ?_⟩
    have E0 : Env F (L2.start N_put_on [.ref p, v, .int since, .int dry]) [some (.ob (.ref p)), some (triD sp), some (.int since), some (.int dry), none] := env_start (.cons (.ob _) (.cons hv (.cons (.int _) (.cons (.int _) .nil))))
    refine Sv.seq (sv_set (dv_getT2 (s := sp) (z := mkD (since, dry)) (dv_var rfl) (.inl hp) hR (dv_var rfl) (dv_tup (da_cons (dv_var rfl) (da_cons (dv_var rfl) da_nil)) (small_ rfl)))) sm E0 fun σ1 F1 H1 g1 E1 => ?_
    have n1 : F1 p = none := by rw [g1.nw p _ hp rfl]; exact nF
    have h1 := g1.same _ _ hp
    rw [orM_mk] at E1
    refine sDPut_run (s := sp) (m := putV mp sp since dry) (fun _ _ => dv_var rfl) (fun _ _ => dv_var rfl) (dv_to (dv_tup (da_cons (dv_cb (da_cons (dv_op (dv_var rfl) dv_int (rd_ixT (by rfl))) (da_cons (dv_var rfl) da_nil)) rc_min2) (da_cons (dv_cb (da_cons (dv_op (dv_var rfl) dv_int (rd_ixT (by rfl))) (da_cons (dv_var rfl) da_nil)) rc_max2) da_nil)) (small_ rfl)) ?_) h1 (hR.mono g1.ff) n1 hl g1.fh E1 fun F' H' kvs' g hp' hR' hl' nF' _ => ?_
    · unfold putV
      cases mp sp with
      | none => simp [mkD]
      | some m => rfl
    · exact q F' H' kvs' (g1.after g) hp' hR' hl' nF'
end
end Bb
/-! BbF -/
/-! Loops and comprehensions whose turns change things. -/
namespace Bb
open PySem PySem.Spec PyProof.Rows L2
section
variable {F H : Hp} {σ : LSt} {ρ ρ' : Rho} {te td ty tv : TE} {tt : TT} {ta : TA} {t u tb : TS} {d : Da} {ds xs : List Da} {b : Bool} {D : Ends} {wi : TI} {g : TG}
/-- a loop -/
theorem forS (Iv : Nat → LSt → Hp → Hp → Prop) (hi : DvI F H wi ρ xs) (sm : Same F H) (E : Env F σ ρ)
    (h0 : ∀ F1 H1, Gr [] F H F1 H1 → Iv 0 σ F1 H1)
    (turn : ∀ (i : Nat) (x : Da), xs[i]? = some x → ∀ σ1 F1 H1, Same F F1 → Same F1 H1 → Iv i σ1 F1 H1 → ∀ v F2 H2, Gr [] F1 H1 F2 H2 → Dt F2 v x → ∀ Nx : LSt → Hp → Prop, (∀ σ' F' H', Same F2 F' → Same F' H' → Iv (i + 1) σ' F' H' → Nx σ' H') → g v σ1 H2 fun σ2 H3 => tb { D with nx := Nx, ct := Nx, bk := D.nx } σ2 H3)
    (done : ∀ σ1 F1 H1, Same F F1 → Same F1 H1 → Iv xs.length σ1 F1 H1 → D.nx σ1 H1) : tFor wi g tb D σ H := hi σ F H (atC sm) E _ fun J F1 H1 g1 Y => by
  refine ⟨fun i m σ' H' => m = xs.length - i ∧ i ≤ xs.length ∧ ∃ F', Same F1 F' ∧ Same F' H' ∧ Iv i σ' F' H', ⟨xs.length, by simp, Nat.zero_le _, F1, Same.refl _, g1.fh, h0 F1 H1 g1⟩, ?_⟩
  rintro i m σ' H' ⟨rfl, hle, F', s1, s2, hI⟩
  by_cases hlt : i < xs.length
  · have hx : xs[i]? = some xs[i] := List.getElem?_eq_getElem hlt
    refine .inr ⟨Y.go F' H' ⟨s1, s2⟩ i _ hx, fun σ2 H2 => i + 1 ≤ xs.length ∧ ∃ F2, Same F1 F2 ∧ Same F2 H2 ∧ Iv (i + 1) σ2 F2 H2, fun σ2 H2 ⟨h1, h2⟩ => ⟨xs.length - (i + 1), by omega, rfl, h1, h2⟩, fun v H2 hy => ?_⟩
    obtain ⟨F2, g2, hv⟩ := Y.yld F' H' ⟨s1, s2⟩ i _ hx v H2 hy
    exact turn i _ hx σ' F' H' (g1.ff.trans s1) s2 hI v F2 H2 g2 hv _ fun σ3 F3 H3 s3 s4 h3 => ⟨hlt, F3, (s1.trans g2.ff).trans s3, s4, h3⟩
  · have e : i = xs.length := by omega
    subst e
    exact .inl ⟨Y.stop F' H' ⟨s1, s2⟩, done _ F' H' (g1.ff.trans s1) s2 hI⟩
/-- a comprehension (no test) -/
theorem lcS {vs : List Nat} {Q : VK} (f : Nat → Da) (Iv : Nat → Hp → Hp → Prop) (hi : DvI F H wi ρ xs) (sm : Same F H) (E : Env F σ ρ) (hl : xs.length < sizeLine)
    (h0 : ∀ F1 H1 D, Gr [] F H F1 H1 → H D = none → H1 D = some (.lst []) → F1 D = none → Iv 0 F1 H1)
    (keep : ∀ (i : Nat) F1 H1 D o, H D = none → F1 D = none → Iv i F1 H1 → Iv i F1 (upd H1 D o))
    (turn : ∀ (i : Nat) (x : Da), xs[i]? = some x → ∀ F1 H1 D, Same F F1 → Same F1 H1 → Iv i F1 H1 → H D = none → (∃ acc, H1 D = some (.lst acc)) → F1 D = none → ∀ v F2 H2, Gr [] F1 H1 F2 H2 → Dt F2 v x → Env F2 (wipe σ vs) (wipeR ρ vs) →
      ∀ Nx : VK, (∀ y F' H', Same F2 F' → Same F' H' → F' D = none → H' D = H2 D → Iv (i + 1) F' H' → Dt F' y (f i) → Nx y H') → g v (wipe σ vs) H2 fun σ2 H3 => wipe σ2 vs = wipe σ vs ∧ te σ2 H3 Nx)
    (done : ∀ F1 H1 v, Same F F1 → Same F1 H1 → Iv xs.length F1 H1 → Dt F1 v (.lst ((List.range xs.length).map f)) → Q v H1)
    (keepF : ∀ (i : Nat) F1 H1 D o, H D = none → F1 D = none → H1 D = some o → Iv i F1 H1 → Iv i (upd F1 D o) H1) : tLc wi g tYes te vs σ H Q := hi σ F H (atC sm) E _ fun J F1 H1 g1 Y D hD => by
  have nF1 : F1 D = none := by
    cases e : F1 D with
    | none => rfl
    | some o => rw [g1.fh _ _ e] at hD; cases hD
  have nH : H D = none := by
    cases e : H D with
    | none => rfl
    | some o => rw [g1.same _ _ e] at hD; cases hD
  have g01 : Gr [] F H F1 (upd H1 D (.lst [])) := g1.trans0 (Gr.newM g1.fh hD)
  refine ⟨fun i m H' => m = xs.length - i ∧ i ≤ xs.length ∧ ∃ F', Same F1 F' ∧ Same F' H' ∧ F' D = none ∧ (∃ acc, H' D = some (.lst acc) ∧ DtA F' acc ((List.range i).map f)) ∧ Iv i F' H',
    ⟨xs.length, by simp, Nat.zero_le _, F1, Same.refl _, g01.fh, nF1, ⟨[], upd_same, .nil⟩, h0 F1 _ D g01 nH upd_same nF1⟩, ?_⟩
  rintro i m H' ⟨rfl, hle, F', s1, s2, nD, ⟨acc, hacc, hd⟩, hI⟩
  by_cases hlt : i < xs.length
  · have hx : xs[i]? = some xs[i] := List.getElem?_eq_getElem hlt
    refine .inr ⟨Y.go F' H' ⟨s1, s2⟩ i _ hx, fun H2 => i + 1 ≤ xs.length ∧ ∃ F2, Same F1 F2 ∧ Same F2 H2 ∧ F2 D = none ∧ (∃ acc, H2 D = some (.lst acc) ∧ DtA F2 acc ((List.range (i + 1)).map f)) ∧ Iv (i + 1) F2 H2, fun H2 ⟨h1, h2⟩ => ⟨xs.length - (i + 1), by omega, rfl, h1, h2⟩, fun v H2 hy => ?_⟩
    obtain ⟨F2, g2, hv⟩ := Y.yld F' H' ⟨s1, s2⟩ i _ hx v H2 hy
    have e2 : H2 D = some (.lst acc) := g2.same _ _ hacc
    have E2 : Env F2 (wipe σ vs) (wipeR ρ vs) := (((E.mono g1.ff).mono s1).mono g2.ff).wipe vs
    have tr := turn i _ hx F' H' D (g1.ff.trans s1) s2 hI nH ⟨acc, hacc⟩ nD v F2 H2 g2 hv E2 (fun y H4 => ∃ acc, H4 D = some (.lst acc) ∧ acc.length < sizeLine ∧ (i + 1 ≤ xs.length ∧ ∃ F2, Same F1 F2 ∧ Same F2 (upd H4 D (.lst (acc ++ [y]))) ∧ F2 D = none ∧ (∃ acc', upd H4 D (.lst (acc ++ [y])) D = some (.lst acc') ∧ DtA F2 acc' ((List.range (i + 1)).map f)) ∧ Iv (i + 1) F2 (upd H4 D (.lst (acc ++ [y]))))) fun y F3 H3 s3 s4 n3 e3 hI3 hy3 => by
      rw [e2] at e3
      refine ⟨acc, e3, by rw [hd.length, List.length_map, List.length_range]; omega, hlt, F3, (s1.trans g2.ff).trans s3, ?_, n3, ⟨_, upd_same, ?_⟩, keep _ _ _ D _ nH n3 hI3⟩
      · exact fun b o e => by rw [upd_ne (ne_of_none e n3)]; exact s4 _ _ e
      · rw [List.range_succ, List.map_append]
        exact ((hd.mono g2.ff).mono s3).append (.cons hy3 .nil)
    revert tr
    generalize (fun (y : V) (H4 : Hp) => ∃ acc, H4 D = some (.lst acc) ∧ acc.length < sizeLine ∧ (i + 1 ≤ xs.length ∧ ∃ F2, Same F1 F2 ∧ Same F2 (upd H4 D (.lst (acc ++ [y]))) ∧ F2 D = none ∧ (∃ acc', upd H4 D (.lst (acc ++ [y])) D = some (.lst acc') ∧ DtA F2 acc' ((List.range (i + 1)).map f)) ∧ Iv (i + 1) F2 (upd H4 D (.lst (acc ++ [y]))))) = NX
    exact fun tr => tr
  · have e : i = xs.length := by omega
    subst e
    refine .inl ⟨Y.stop F' H' ⟨s1, s2⟩, ?_⟩
    have nu : ∀ b o, F' b = some o → b ≠ D := fun b o e => ne_of_none e nD
    refine done (upd F' D (.lst acc)) H' (.ref D) (fun b o e => by rw [upd_ne (nu b o (s1 _ _ (g1.ff _ _ e)))]; exact s1 _ _ (g1.ff _ _ e)) (fun b o e => ?_) (keepF _ _ _ D _ nH nD hacc hI) (.lst upd_same (hd.mono fun b o e => by rw [upd_ne (nu b o e)]; exact e))
    by_cases hb : b = D
    · subst hb
      rw [upd_same] at e
      cases e
      exact hacc
    · rw [upd_ne hb] at e
      exact s2 _ _ e
end
section
variable {P : Program} {w : World} {K : PySem.W.Frag} {mg : Str → Option Value} {base : Heap} {k : Nat} {d : He.DefD} {N ps : List Str}
/-- a def that lets no exception out, by its body -/
theorem okN {sp : Sp} (F : ∃ fd, FunD K d.name d.qual d.params d.body d.scope [] [] (He.fAd K d.at_) fd) (S : FnScope N ps d.scope) (hb : BindsD d ps) (len : ∀ vs H Q E, sp vs H Q E → vs.length = ps.length)
    (hbody : ∀ (cdv : Value) (A : Around) (outer : List PySem.Env) (s : Shared) (H : Hp) (vs : List V) (Q : VK) (E : XK), Room k (A.deeper (envOfC d.qual d.scope s.heap.objs.size (He.fAd K d.at_) cdv)) → sp vs H Q E →
      ∃ t, PSs (cxOf CX0 P w K mg base N d.qual d.scope (He.fAd K d.at_) cdv A outer s H E).nox d.body t ∧ t { nx := fun _ H' => Q .non H', rt := Q } (L2.start N vs) H) : Ok P w K mg base CX0 (k + 1) d ps sp :=
  okG F S hb len fun cdv A outer s H vs Q E hr h => by
    obtain ⟨t, h1, h2⟩ := hbody cdv A outer s H vs Q E hr h
    exact ⟨t, h1.nox, h2⟩
end
theorem iteT' {A B : Prop} {b : Bool} (e : b = true) (h : A) : if b = true then A else B := by subst e; exact iteT h
theorem iteF' {A B : Prop} {b : Bool} (e : b = false) (h : B) : if b = true then A else B := by subst e; exact iteF h
end Bb
/-! BbP -/
/-! Pressing, in plain. -/
namespace Bb
open PySem PySem.Spec PyProof.Rows L2
def dryOf (mp : Mp) (s : Tri) : Int := match mp s with
  | some m => m.2
  | none => 0
def sinceOf (t : Int) (mp : Mp) (s : Tri) : Int := match mp s with
  | some m => m.1
  | none => t
def topOf (mp : Mp) (pr : Tri × Tri) : Int := if dryOf mp pr.2 > dryOf mp pr.1 then dryOf mp pr.2 else dryOf mp pr.1
def stepM (t : Int) (mp : Mp) (pr : Tri × Tri) : Mp := if t < topOf mp pr then mpPut (mpPut mp pr.1 (sinceOf t mp pr.1, topOf mp pr)) pr.2 (sinceOf t mp pr.2, topOf mp pr) else mp
def stepN (t : Int) (mp : Mp) (pr : Tri × Tri) : Nat := if t < topOf mp pr then (if mp pr.1 = none then 1 else 0) + (if mp pr.2 = none then 1 else 0) else 0
def stepS (t : Int) (z : Mp × Nat) (pr : Tri × Tri) : Mp × Nat := (stepM t z.1 pr, z.2 + stepN t z.1 pr)
def foldS (t : Int) (prs : List (Tri × Tri)) (mp : Mp) : Mp × Nat := prs.foldl (stepS t) (mp, 0)
theorem foldS_snoc (t : Int) {prs : List (Tri × Tri)} (mp : Mp) {i : Nat} {pr : Tri × Tri} (h : prs[i]? = some pr) : foldS t (prs.take (i + 1)) mp = stepS t (foldS t (prs.take i) mp) pr := by
  unfold foldS
  rw [List.take_succ_eq_append_getElem (List.getElem?_eq_some_iff.mp h).1, (List.getElem?_eq_some_iff.mp h).2, List.foldl_append]
  rfl
/-- the marks as they are at a tick -/
structure Gm (t : Int) (mp : Mp) : Prop where
  since : ∀ s m, mp s = some m → m.1 ≤ t
  dry : ∀ s m, mp s = some m → 0 ≤ m.2
theorem mpPut_same {mp : Mp} {s : Tri} {m : Mk2} : mpPut mp s m s = some m := if_pos rfl
theorem mpPut_ne {mp : Mp} {s r : Tri} {m : Mk2} (h : r ≠ s) : mpPut mp s m r = mp r := if_neg h
theorem Gm.put {t : Int} {mp : Mp} (g : Gm t mp) {s : Tri} {m : Mk2} (h1 : m.1 ≤ t) (h2 : 0 ≤ m.2) : Gm t (mpPut mp s m) := by
  refine ⟨fun r k e => ?_, fun r k e => ?_⟩
  · by_cases h : r = s
    · rw [h, mpPut_same] at e; cases e; exact h1
    · rw [mpPut_ne h] at e; exact g.since r k e
  · by_cases h : r = s
    · rw [h, mpPut_same] at e; cases e; exact h2
    · rw [mpPut_ne h] at e; exact g.dry r k e
theorem Gm.later {t t' : Int} {mp : Mp} (g : Gm t mp) (h : t ≤ t') : Gm t' mp := ⟨fun s m e => Int.le_trans (g.since s m e) h, g.dry⟩
theorem Gm.empty {t : Int} : Gm t (fun _ => none) := ⟨fun _ _ e => (nomatch e), fun _ _ e => (nomatch e)⟩
theorem sinceOf_le {t : Int} {mp : Mp} (g : Gm t mp) (s : Tri) : sinceOf t mp s ≤ t := by
  unfold sinceOf
  cases e : mp s with
  | none => exact Int.le_refl _
  | some m => exact g.since s m e
theorem dryOf_nn {t : Int} {mp : Mp} (g : Gm t mp) (s : Tri) : 0 ≤ dryOf mp s := by
  unfold dryOf
  cases e : mp s with
  | none => exact Int.le_refl _
  | some m => exact g.dry s m e
theorem topOf_nn {t : Int} {mp : Mp} (g : Gm t mp) (pr : Tri × Tri) : 0 ≤ topOf mp pr := by
  unfold topOf
  split <;> exact dryOf_nn g _
theorem stepM_gm {t : Int} {mp : Mp} (g : Gm t mp) (pr : Tri × Tri) : Gm t (stepM t mp pr) := by
  unfold stepM
  split
  · exact (g.put (sinceOf_le g _) (topOf_nn g pr)).put (sinceOf_le g _) (topOf_nn g pr)
  · exact g
theorem foldS_gm {t : Int} : ∀ (prs : List (Tri × Tri)) (z : Mp × Nat), Gm t z.1 → Gm t (prs.foldl (stepS t) z).1
  | [], z, g => g
  | pr :: prs, z, g => foldS_gm prs _ (stepM_gm g pr)
/-- where the marks may be -/
def Sup (L : List Tri) (mp : Mp) : Prop := ∀ s, mp s ≠ none → s ∈ L
theorem Sup.put {L : List Tri} {mp : Mp} (h : Sup L mp) {s : Tri} {m : Mk2} (hs : s ∈ L) : Sup L (mpPut mp s m) := fun r e => by
  by_cases q : r = s
  · rw [q]; exact hs
  · rw [mpPut_ne q] at e; exact h r e
theorem stepM_sup {L : List Tri} {t : Int} {mp : Mp} {pr : Tri × Tri} (h : Sup L mp) (h1 : pr.1 ∈ L) (h2 : pr.2 ∈ L) : Sup L (stepM t mp pr) := by
  unfold stepM
  split
  · exact (h.put h1).put h2
  · exact h
theorem foldS_sup {L : List Tri} {t : Int} : ∀ (prs : List (Tri × Tri)) (z : Mp × Nat), Sup L z.1 → (∀ pr ∈ prs, pr.1 ∈ L ∧ pr.2 ∈ L) → Sup L (prs.foldl (stepS t) z).1
  | [], z, g, _ => g
  | pr :: prs, z, g, h => foldS_sup prs _ (stepM_sup g (h pr (.head _)).1 (h pr (.head _)).2) fun q hq => h q (.tail _ hq)
/-! ### pairs apart, in any order -/
def Apt (a b : Tri × Tri) : Prop := a.1 ≠ b.1 ∧ a.1 ≠ b.2 ∧ a.2 ≠ b.1 ∧ a.2 ≠ b.2
theorem stepM_at {t : Int} {mp : Mp} {pr : Tri × Tri} {s : Tri} (h1 : s ≠ pr.1) (h2 : s ≠ pr.2) : stepM t mp pr s = mp s := by
  unfold stepM
  split
  · rw [mpPut_ne h2, mpPut_ne h1]
  · rfl
theorem step_cong {t : Int} {mp mp' : Mp} {pr : Tri × Tri} (h1 : mp pr.1 = mp' pr.1) (h2 : mp pr.2 = mp' pr.2) : topOf mp pr = topOf mp' pr ∧ sinceOf t mp pr.1 = sinceOf t mp' pr.1 ∧ sinceOf t mp pr.2 = sinceOf t mp' pr.2 ∧ stepN t mp pr = stepN t mp' pr := by
  have a : dryOf mp pr.1 = dryOf mp' pr.1 := by unfold dryOf; rw [h1]
  have b : dryOf mp pr.2 = dryOf mp' pr.2 := by unfold dryOf; rw [h2]
  have c : topOf mp pr = topOf mp' pr := by unfold topOf; rw [a, b]
  refine ⟨c, by unfold sinceOf; rw [h1], by unfold sinceOf; rw [h2], ?_⟩
  unfold stepN
  rw [c, h1, h2]
theorem stepM_cong {t : Int} {mp mp' : Mp} {pr : Tri × Tri} (h1 : mp pr.1 = mp' pr.1) (h2 : mp pr.2 = mp' pr.2) {s : Tri} (hs : mp s = mp' s) : stepM t mp pr s = stepM t mp' pr s := by
  obtain ⟨c, d, e, _⟩ := step_cong (t := t) h1 h2
  unfold stepM
  rw [c, d, e]
  split
  · unfold mpPut
    rw [hs]
  · exact hs
theorem step_comm {t : Int} {a b : Tri × Tri} (h : Apt a b) (z : Mp × Nat) : stepS t (stepS t z a) b = stepS t (stepS t z b) a := by
  obtain ⟨h1, h2, h3, h4⟩ := h
  have ea1 : stepM t z.1 b a.1 = z.1 a.1 := stepM_at h1 h2
  have ea2 : stepM t z.1 b a.2 = z.1 a.2 := stepM_at h3 h4
  have eb1 : stepM t z.1 a b.1 = z.1 b.1 := stepM_at (Ne.symm h1) (Ne.symm h3)
  have eb2 : stepM t z.1 a b.2 = z.1 b.2 := stepM_at (Ne.symm h2) (Ne.symm h4)
  have n1 : stepN t (stepM t z.1 a) b = stepN t z.1 b := (step_cong eb1 eb2).2.2.2
  have n2 : stepN t (stepM t z.1 b) a = stepN t z.1 a := (step_cong ea1 ea2).2.2.2
  unfold stepS
  refine Prod.ext (funext fun s => ?_) ?_
  · show stepM t (stepM t z.1 a) b s = stepM t (stepM t z.1 b) a s
    by_cases hb : s = b.1 ∨ s = b.2
    · have hn : s ≠ a.1 ∧ s ≠ a.2 := by rcases hb with rfl | rfl <;> exact ⟨Ne.symm (by assumption), Ne.symm (by assumption)⟩
      rw [stepM_at hn.1 hn.2]
      exact stepM_cong eb1 eb2 (stepM_at hn.1 hn.2)
    · have hn : s ≠ b.1 ∧ s ≠ b.2 := ⟨fun z => hb (.inl z), fun z => hb (.inr z)⟩
      rw [stepM_at hn.1 hn.2]
      exact (stepM_cong ea1 ea2 (stepM_at hn.1 hn.2)).symm
  · show z.2 + stepN t z.1 a + stepN t (stepM t z.1 a) b = z.2 + stepN t z.1 b + stepN t (stepM t z.1 b) a
    rw [n1, n2]
    omega
theorem fold_move {t : Int} {a : Tri × Tri} : ∀ (l : List (Tri × Tri)) (z : Mp × Nat), (∀ b ∈ l, Apt a b) → stepS t (l.foldl (stepS t) z) a = l.foldl (stepS t) (stepS t z a)
  | [], z, _ => rfl
  | b :: l, z, h => by
    rw [List.foldl_cons, List.foldl_cons, fold_move l _ fun c hc => h c (.tail _ hc), step_comm (h b (.head _))]
theorem foldS_rev {t : Int} : ∀ (l : List (Tri × Tri)) (z : Mp × Nat), l.Pairwise Apt → l.reverse.foldl (stepS t) z = l.foldl (stepS t) z
  | [], _, _ => rfl
  | a :: l, z, h => by
    cases h with
    | cons h1 h2 =>
      rw [List.reverse_cons, List.foldl_append, foldS_rev l z h2, List.foldl_cons]
      exact fold_move l z h1
/-- the pairs at a gap are apart -/
theorem pairsP_apt {w : Nat} {p q : Tri} (h : p.1 ≠ q.1) : (pairsP w p q).Pairwise Apt := by
  unfold pairsP
  refine List.pairwise_map.mpr ?_
  refine List.Pairwise.imp (fun {a b} (hab : a < b) => ?_) List.pairwise_lt_range
  refine ⟨fun e => ?_, fun e => h (congrArg (·.1) e), fun e => h (congrArg (·.1) e).symm, fun e => ?_⟩
  · have := congrArg (·.2.2) e
    have : (a : Int) = b := this
    omega
  · have e2 : farI w q.2.2 (farI w p.2.2 a) = farI w q.2.2 (farI w p.2.2 b) := congrArg (·.2.2) e
    unfold farI at e2
    split at e2 <;> split at e2 <;> omega
theorem cellsL_get {w : Nat} {a : Int} {i : Nat} (h : i < w) : (cellsL w a)[i]? = some (if a = 1 then (w : Int) - 1 - i else i) := by
  unfold cellsL
  split
  · rw [List.getElem?_reverse (by simpa using h), List.length_map, List.length_range, List.getElem?_map, List.getElem?_range (by omega)]
    show some ((w - 1 - i : Nat) : Int) = _
    congr 1
    omega
  · rw [List.getElem?_map, List.getElem?_range h]
    rfl
theorem cellsL_len {w : Nat} {a : Int} : (cellsL w a).length = w := by
  unfold cellsL
  split <;> simp
theorem pairsL_eq {w : Nat} {p q : Tri} : pairsL w p q = if p.2.2 = 1 then (pairsP w p q).reverse else pairsP w p q := by
  have hl : (pairsL w p q).length = w := by
    unfold pairsL
    rw [List.length_map, List.length_zip, cellsL_len, cellsL_len]
    omega
  have hp : (pairsP w p q).length = w := by unfold pairsP; simp
  have at_ : ∀ i, i < w → (pairsL w p q)[i]? = some ((p.1, 1 - p.2.1, if p.2.2 = 1 then (w : Int) - 1 - i else i), (q.1, q.2.1, if q.2.2 = 1 then (w : Int) - 1 - i else i)) := fun i hi => by
    unfold pairsL
    rw [List.getElem?_map]
    have : ((cellsL w p.2.2).zip (cellsL w q.2.2))[i]? = some ((if p.2.2 = 1 then (w : Int) - 1 - i else i), (if q.2.2 = 1 then (w : Int) - 1 - i else i)) := List.getElem?_zip_eq_some.mpr ⟨cellsL_get hi, cellsL_get hi⟩
    rw [this]
    rfl
  have atP : ∀ i, i < w → (pairsP w p q)[i]? = some ((p.1, 1 - p.2.1, (i : Int)), (q.1, q.2.1, farI w q.2.2 (farI w p.2.2 i))) := fun i hi => by
    unfold pairsP
    rw [List.getElem?_map, List.getElem?_range hi]
    rfl
  refine List.ext_getElem? fun i => ?_
  by_cases hi : i < w
  · rw [at_ i hi]
    by_cases h1 : p.2.2 = 1
    · rw [if_pos h1, if_pos h1, List.getElem?_reverse (by rw [hp]; exact hi), hp, atP _ (by omega)]
      have e1 : ((w - 1 - i : Nat) : Int) = (w : Int) - 1 - i := by omega
      rw [e1]
      unfold farI
      rw [if_pos h1]
      congr 3
      split <;> simp <;> omega
    · rw [if_neg h1, if_neg h1, atP i hi]
      unfold farI
      rw [if_neg h1]
  · rw [List.getElem?_eq_none (by omega), List.getElem?_eq_none]
    split
    · rw [List.length_reverse]; omega
    · omega
/-- both ways of listing the pairs do the same -/
theorem fold_both {t : Int} {w : Nat} {p q : Tri} (h : p.1 ≠ q.1) (mp : Mp) : foldS t (pairsL w p q) mp = foldS t (pairsP w p q) mp := by
  unfold foldS
  rw [pairsL_eq]
  split
  · exact foldS_rev _ _ (pairsP_apt h)
  · rfl
end Bb
/-! Bb10 -/
namespace Bb
open PySem PySem.Spec PyProof.Rows L2

section
variable {F0 B F H : Hp} {σ : LSt} {ρ ρ' : Rho} {K : PySem.W.Frag} {te td ty tv : TE} {tt : TT} {ta : TA} {t u tb : TS} {d x y z : Da} {ds xs : List Da} {b : Bool} {D : Ends} {wi : TI} {g : TG}
theorem forSeq (Iv : Nat → LSt → Hp → Hp → Prop) (hi : DvI F H wi ρ xs) (sm : Same F H) (E : Env F σ ρ)
    (h0 : ∀ F1 H1, Gr [] F H F1 H1 → Iv 0 σ F1 H1)
    (turn : ∀ (i : Nat) (x : Da), xs[i]? = some x → ∀ σ1 F1 H1, Same F F1 → Same F1 H1 → Iv i σ1 F1 H1 → ∀ v F2 H2, Gr [] F1 H1 F2 H2 → Dt F2 v x → ∀ Nx : LSt → Hp → Prop, (∀ σ' F' H', Same F2 F' → Same F' H' → Iv (i + 1) σ' F' H' → Nx σ' H') → g v σ1 H2 fun σ2 H3 => tb { D with nx := Nx, ct := Nx, bk := u D } σ2 H3)
    (done : ∀ σ1 F1 H1, Same F F1 → Same F1 H1 → Iv xs.length σ1 F1 H1 → u D σ1 H1) : tSeq (tFor wi g tb) u D σ H := forS (D := { D with nx := u D }) Iv hi sm E h0 turn done
theorem rc_max {ns : List Int} {m : Int} (h0 : 0 < ns.length) (hm : ∀ k, k ∈ ns → (∀ y, y ∈ ns → y ≤ k) → k = m) : RC F0 B (rMax K) [.lst (ns.map Da.int)] (.int m) := rc_val fun F H vs a hd Q q => by
  obtain ⟨v, rfl, h1⟩ := hd.sole
  obtain ⟨p, xs, rfl, hp, hx⟩ := h1.of_lst
  have e := hx.ints
  subst e
  exact ⟨p, ns, rfl, SqL.of (a.h _ _ hp), h0, fun k h1 h2 => by rw [hm k h1 h2]; exact q _ (.int _)⟩
/-- growth behind a change at two places -/
theorem Gr.then2 {p q : Addr} {o u : HO} {F H F1 H1 F2 H2 : Hp} {M : List Addr} (a : Gr [p, q] F H F1 H1) (b : Gr M F1 H1 F2 H2) (hM : ∀ m ∈ M, m ∈ [p, q]) (h : H1 p = some o) (t : HO.isTup o = false) (h' : H1 q = some u) (t' : HO.isTup u = false) : Gr [p, q] F H F2 H2 :=
  a.trans (b.mono hM) fun m hm => by
    rcases List.mem_cons.mp hm with e | hm
    · exact ⟨o, by rw [e]; exact h, t⟩
    · have e : m = q := by simpa using hm
      exact ⟨u, by rw [e]; exact h', t'⟩
end
theorem putCall {p : Addr} {kvs : List (List Key × V)} {mp : Mp} {s : Tri} {since dry : Int} {E : XK} (hA : DvA F H ta ρ [.ob (.ref p), triD s, .int since, .int dry]) (sm : Same F H) (En : Env F σ ρ) (hp : H p = some (.dT kvs)) (hR : RepT F kvs mp) (nF : F p = none) (hl : kvs.length < sizeLine)
    (k : ∀ F' H' kvs', Gr [p] F H F' H' → H' p = some (.dT kvs') → RepT F' kvs' (mpPut mp s (putV mp s since dry)) → kvs'.length = kvs.length + (if mp s = none then 1 else 0) → F' p = none → D.nx σ H') : tDrop (tCall spPut [] E ta) D σ H := by
  refine hA.run sm En fun vs F1 H1 g1 d1 => ?_
  cases d1 with
  | cons a1 r1 =>
    cases r1 with
    | cons a2 r2 =>
      cases r2 with
      | cons a3 r3 =>
        cases r3 with
        | cons a4 r4 =>
          cases r4
          rw [a1.of_ob, a3.of_int, a4.of_int]
          exact ⟨F1, p, kvs, mp, s, since, dry, _, rfl, g1.fh, by rw [g1.nw p _ hp rfl]; exact nF, g1.same _ _ hp, hR.mono g1.ff, a2, hl, fun F' H' kvs' g h1 h2 h3 h4 => k F' H' kvs' (g1.after g) h1 h2 h3 h4⟩
/-! ### what the program's turn does, and what the law's -/
def wetL (t : Int) (mp : Mp) (pr : Tri × Tri) : List Int := (([pr.1, pr.2].filter fun s => (mp s).isSome).filter fun s => decide (t < dryOf mp s)).map (dryOf mp)
theorem wetL_mem {t : Int} {mp : Mp} {pr : Tri × Tri} (ht : 0 ≤ t) (y : Int) : y ∈ wetL t mp pr ↔ t < y ∧ (y = dryOf mp pr.1 ∨ y = dryOf mp pr.2) := by
  have some_ : ∀ s, t < dryOf mp s → (mp s).isSome = true := fun s h => by
    unfold dryOf at h
    cases e : mp s with
    | none => rw [e] at h; simp at h; omega
    | some m => rfl
  unfold wetL
  simp only [List.mem_map, List.mem_filter, List.mem_cons, List.not_mem_nil, or_false, decide_eq_true_eq]
  constructor
  · rintro ⟨s, ⟨⟨h1, h2⟩, h3⟩, rfl⟩
    refine ⟨h3, ?_⟩
    rcases h1 with rfl | rfl
    · exact .inl rfl
    · exact .inr rfl
  · rintro ⟨h1, rfl | rfl⟩
    · exact ⟨pr.1, ⟨⟨.inl rfl, some_ _ h1⟩, h1⟩, rfl⟩
    · exact ⟨pr.2, ⟨⟨.inr rfl, some_ _ h1⟩, h1⟩, rfl⟩
theorem wetL_nil {t : Int} {mp : Mp} {pr : Tri × Tri} (ht : 0 ≤ t) : wetL t mp pr = [] ↔ ¬ t < topOf mp pr := by
  constructor
  · intro h hlt
    have : topOf mp pr ∈ wetL t mp pr := (wetL_mem ht _).mpr ⟨hlt, by unfold topOf; split <;> simp⟩
    rw [h] at this
    cases this
  · intro h
    refine List.eq_nil_iff_forall_not_mem.mpr fun y hy => h ?_
    obtain ⟨h1, h2⟩ := (wetL_mem ht y).mp hy
    unfold topOf
    rcases h2 with rfl | rfl <;> split <;> omega
theorem wetL_max {t : Int} {mp : Mp} {pr : Tri × Tri} (ht : 0 ≤ t) (k : Int) (hk : k ∈ wetL t mp pr) (hm : ∀ y, y ∈ wetL t mp pr → y ≤ k) : k = topOf mp pr := by
  obtain ⟨h1, h2⟩ := (wetL_mem ht k).mp hk
  have hlt : t < topOf mp pr := by
    unfold topOf
    rcases h2 with rfl | rfl <;> split <;> omega
  have h3 : topOf mp pr ≤ k := hm _ ((wetL_mem ht _).mpr ⟨hlt, by unfold topOf; split <;> simp⟩)
  have h4 : k ≤ topOf mp pr := by
    unfold topOf
    rcases h2 with rfl | rfl <;> split <;> omega
  omega
theorem putV_eq {t M : Int} {mp : Mp} (g : Gm t mp) {s : Tri} (h : dryOf mp s ≤ M) : putV mp s t M = (sinceOf t mp s, M) := by
  unfold putV sinceOf
  unfold dryOf at h
  cases e : mp s with
  | none => rfl
  | some m =>
    rw [e] at h
    have h1 := g.since s m e
    have h : m.2 ≤ M := h
    show ((if t < m.1 then t else m.1), (if M > m.2 then M else m.2)) = (m.1, M)
    refine Prod.ext ?_ ?_
    · show (if t < m.1 then t else m.1) = m.1
      split <;> omega
    · show (if M > m.2 then M else m.2) = M
      split <;> omega
theorem since_cong {t : Int} {mp mp' : Mp} {s : Tri} (h : mp s = mp' s) : sinceOf t mp s = sinceOf t mp' s := by
  unfold sinceOf
  rw [h]
theorem dry_cong {mp mp' : Mp} {s : Tri} (h : mp s = mp' s) : dryOf mp s = dryOf mp' s := by
  unfold dryOf
  rw [h]
theorem dry_top {mp : Mp} {pr : Tri × Tri} : dryOf mp pr.1 ≤ topOf mp pr ∧ dryOf mp pr.2 ≤ topOf mp pr := by
  unfold topOf
  split <;> omega
def spPressed : Sp := fun vs H Q _ => ∃ (F : Hp) (p : Addr) (kvs : List (List Key × V)) (mp : Mp) (t : Int) (prs : List (Tri × Tri)) (v : V), vs = [.ref p, .int t, v] ∧ Same F H ∧ F p = none ∧ H p = some (.dT kvs) ∧ RepT F kvs mp ∧ Dt F v (.lst (prs.map prD)) ∧
  prs.length ≤ 100 ∧ kvs.length + 2 * prs.length ≤ 1000 ∧ Gm t mp ∧ 0 ≤ t ∧ (∀ pr ∈ prs, pr.1 ≠ pr.2) ∧
  ∀ v F' H' kvs' ds, Gr [p] F H F' H' → H' p = some (.dT kvs') → RepT F' kvs' (foldS t prs mp).1 → kvs'.length = kvs.length + (foldS t prs mp).2 → F' p = none → Dt F' v (.lst ds) → ds.length = (foldS t prs mp).2 → Q v H'
theorem foldS_le {t : Int} (prs : List (Tri × Tri)) (mp : Mp) : (foldS t prs mp).2 ≤ 2 * prs.length := by
  have h : ∀ (prs : List (Tri × Tri)) (z : Mp × Nat), (prs.foldl (stepS t) z).2 ≤ z.2 + 2 * prs.length := fun prs => by
    induction prs with
    | nil => intro z; exact Nat.le_refl _
    | cons a l ih =>
      intro z
      have h1 := ih (stepS t z a)
      have h2 : (stepS t z a).2 ≤ z.2 + 2 := by
        show z.2 + stepN t z.1 a ≤ z.2 + 2
        unfold stepN
        repeat' split
        all_goals omega
      rw [List.foldl_cons, List.length_cons]
      omega
  have := h prs (mp, 0)
  unfold foldS
  simpa using this
abbrev N_pressed : List Str := ["found", "tick", "pairs", "fresh", "one", "other", "had", "wet", "spot", "mark"]
abbrev P_pressed : List Str := ["found", "tick", "pairs"]
theorem sc_pressed : FnScope N_pressed P_pressed (defScope s_pressed) := ⟨rfl, rfl, rfl, by decide +kernel, rfl, by decide +kernel, by decide +kernel⟩
theorem b_pressed : BindsD d_pressed P_pressed := fun _ _ _ _ _ _ us hl => match us, hl with | [_, _, _], _ => rfl

section
variable {P : Program} {w : World} {K : PySem.W.Frag} {mg : Str → Option Value} {base : Heap}
theorem ok_pressed (T : Txt K mg) (G_put_on : Ok P w K mg base CX0 1 d_put_on P_put_on spPut) : Ok P w K mg base CX0 2 d_pressed P_pressed spPressed := by
  refine okN T.f_pressed sc_pressed b_pressed (fun vs H Q E h => ?_) fun cdv A outer s H vs Q E hr h => ?_
  · obtain ⟨_, _, _, _, _, _, _, rfl, _⟩ := h
    rfl
  · obtain ⟨F, p, kvs, mp, t, prs, v, rfl, sm, nF, hp, hR, hv, hl, hk, hG, ht, hne, q⟩ := h
    refine ⟨_, (pss_cons (ps_set (i := 3) sc_pressed.nd rfl (.inl rfl) (pe_lst pa_nil))
  (pss_cons (ps_for PassesOwn.never rfl (kpi_list (K := K) (pv 2)) (kpg_tup (K := K) (n := 2) rfl (pgs_cons (pg_name (i := 4) sc_pressed.nd rfl (.inl rfl)) (pgs_cons (pg_name (i := 5) sc_pressed.nd rfl (.inl rfl)) pgs_nil))) (pss_cons (ps_setLc (i := 6) (own := [("spot", 8)]) rfl sc_pressed.nd rfl rfl (sw_true rfl rfl rfl (by decide +kernel)) (kpi_tup (K := K) (pe_tup (pa_cons (pv 4) (pa_cons (pv 5) pa_nil)))) (blkOk_by (N := N_pressed) (sc := defScope s_pressed) (by decide +kernel)) (fun _ _ _ _ _ => (pg_name (i := 8) sc_pressed.nd rfl (.inl rfl))) (fun _ _ _ _ _ => (pts_one (pt_cmp (pc_din (hu_of hr) (pv 8) (pv 0)) rfl))) (fun _ _ _ _ _ => (pe_tup (pa_cons (pv 8) (pa_cons (pe_dget (hu_of hr) (pv 0) (pv 8) (fun _ _ => rfl)) pa_nil)))))
  (pss_cons (ps_setLc (i := 7) (own := [("spot", 8), ("mark", 9)]) rfl sc_pressed.nd rfl rfl (sw_true rfl rfl rfl (by decide +kernel)) (kpi_list (K := K) (pv 6)) (blkOk_by (N := N_pressed) (sc := defScope s_pressed) (by decide +kernel)) (fun _ _ _ _ _ => (kpg_tup (K := K) (n := 2) rfl (pgs_cons (pg_name (i := 8) sc_pressed.nd rfl (.inl rfl)) (pgs_cons (pg_name (i := 9) sc_pressed.nd rfl (.inl rfl)) pgs_nil)))) (fun _ _ _ _ _ => (pts_one (pt_cmpR op_lt (pv 1) (pe_ix (kix_tup (K := K)) (pv 9) pe_int (fun _ _ => rfl)) (nomark _)))) (fun _ _ _ _ _ => (pe_ix (kix_tup (K := K)) (pv 9) pe_int (fun _ _ => rfl))))
  (pss_one (ps_if (pt_cmpR (kop_neD (K := K) hr.units) (pv 7) (pe_lst pa_nil) (nomark _)) (pss_cons (ps_expr (kpe_bm (K := K) PySem.F.plainAttrs_list PySem.F.slot_list_extend PySem.F.type_list_extend mt_extend (pv 3) (pa_cons (pe_lc (own := [("spot", 8)]) rfl sc_pressed.nd (kpi_tup (K := K) (pe_tup (pa_cons (pv 4) (pa_cons (pv 5) pa_nil)))) (blkOk_by (N := N_pressed) (sc := defScope s_pressed) (by decide +kernel)) (fun _ _ _ _ _ => (pg_name (i := 8) sc_pressed.nd rfl (.inl rfl))) (fun _ _ _ _ _ => (pts_one (pt_cmp (pc_dnotin (hu_of hr) (pv 8) (pv 0)) rfl))) (fun _ _ _ _ _ => (pv 8))) pa_nil)))
  (pss_one (ps_for PassesOwn.never rfl (kpi_tup (K := K) (pe_tup (pa_cons (pv 4) (pa_cons (pv 5) pa_nil)))) (pg_name (i := 8) sc_pressed.nd rfl (.inl rfl)) (pss_one (ps_expr (pe_callO G_put_on (hr.mono (by decide)) rfl T.g_put_on pass0 (pa_cons (pv 0) (pa_cons (pv 8) (pa_cons (pv 1) (pa_cons (pe_callB (kcr_max (K := K)) (by rfl) T.n_max (by decide +kernel) (pa_cons (pv 7) pa_nil)) pa_nil)))))))))) pss_nil)))))
  (pss_one (ps_ret (pv 3))))), ?_⟩
    have E0 : Env F (L2.start N_pressed [.ref p, .int t, v]) [some (.ob (.ref p)), some (.int t), some (.lst (prs.map prD)), none, none, none, none, none, none, none] := env_start (.cons (.ob _) (.cons (.int _) (.cons hv .nil)))
    refine ⟨Nat.zero_le _, fun a ha => ?_⟩
    have nFa : F a = none := by
      cases e : F a with
      | none => rfl
      | some o => rw [sm _ _ e] at ha; cases ha
    have hpa : p ≠ a := ne_of_none hp ha
    have g0 : Gr [] F H F (upd H a (.lst [])) := Gr.newM sm ha
    have E1 : Env F ((L2.start N_pressed [.ref p, .int t, v]).set 3 (some (.ref a))) [some (.ob (.ref p)), some (.int t), some (.lst (prs.map prD)), some (.ob (.ref a)), none, none, none, none, none, none] := E0.set (.ob (.ref a))
    refine forSeq (xs := prs.map prD) (fun i σ1 F1 H1 => Gr [p, a] F (upd H a (.lst [])) F1 H1 ∧ Env F1 σ1 [some (.ob (.ref p)), some (.int t), some (.lst (prs.map prD)), some (.ob (.ref a)), none, none, none, none, none, none] ∧ F1 p = none ∧ F1 a = none ∧
      ∃ kvs1 acc ds, H1 p = some (.dT kvs1) ∧ RepT F1 kvs1 (foldS t (prs.take i) mp).1 ∧ kvs1.length = kvs.length + (foldS t (prs.take i) mp).2 ∧ H1 a = some (.lst acc) ∧ DtA F1 acc ds ∧ ds.length = (foldS t (prs.take i) mp).2) (di_list (dv_var rfl)) g0.fh E1 (fun F1 H1 g1 => ?_) (fun i x hx σ1 F1 H1 s1 s2 hI v1 F2 H2 g2 d2 Nx hNx => ?_) fun σ1 F1 H1 s1 s2 hI => ?_
    · refine ⟨g1.wide, E1.mono g1.ff, by rw [g1.nw p _ (g0.same _ _ hp) rfl]; exact nF, by rw [g1.nw a _ upd_same rfl]; exact nFa, kvs, [], [], g1.same _ _ (g0.same _ _ hp), hR.mono g1.ff, rfl, g1.same _ _ upd_same, .nil, rfl⟩
    · obtain ⟨gI, EI, nI, nIa, kvs1, acc, ds, hp1, hR1, hk1, ha1, hd1, hdl⟩ := hI
      obtain ⟨pr, hpr, rfl⟩ : ∃ pr, prs[i]? = some pr ∧ x = prD pr := by
        rw [List.getElem?_map] at hx
        cases e : prs[i]? with
        | none => rw [e] at hx; cases hx
        | some pr => rw [e] at hx; cases hx; exact ⟨pr, rfl, rfl⟩
      have hi : i < prs.length := (List.getElem?_eq_some_iff.mp hpr).1
      have hsn := foldS_snoc t mp hpr
      have hGi : Gm t (foldS t (prs.take i) mp).1 := foldS_gm _ _ hG
      have hle := foldS_le (t := t) (prs.take i) mp
      rw [List.length_take, Nat.min_eq_left (Nat.le_of_lt hi)] at hle
      have hne1 := hne pr (List.mem_of_getElem? hpr)
      generalize hmi : (foldS t (prs.take i) mp).1 = mi at hR1 hGi hsn
      generalize hni : (foldS t (prs.take i) mp).2 = ni at hk1 hdl hle hsn
      have hz : foldS t (prs.take i) mp = (mi, ni) := by rw [← hmi, ← hni]
      rw [hz] at hsn
      -- the pair
      refine (bl_two (x := triD pr.1) (y := triD pr.2) (ρ := [some (.ob (.ref p)), some (.int t), some (.lst (prs.map prD)), some (.ob (.ref a)), none, none, none, none, none, none])) _ F2 H2 v1 (atC g2.fh) (EI.mono g2.ff) d2 _ fun σ3 E3 => ?_
      have hp2 := g2.same _ _ hp1
      have n2 : F2 p = none := by rw [g2.nw p _ hp1 rfl]; exact nI
      have ha2 := g2.same _ _ ha1
      have n2a : F2 a = none := by rw [g2.nw a _ ha1 rfl]; exact nIa
      have two : ∀ s ∈ [pr.1, pr.2], s = pr.1 ∨ s = pr.2 := fun s hs => by simpa using hs
      -- had
      refine Sv.seq (sv_set (dv_lc [pr.1, pr.2] triD (fun s => (mi s).isSome) (fun s => .tup [triD s, orM (mi s) .non]) (di_tup (dv_tup (da_cons (dv_var rfl) (da_cons (dv_var rfl) da_nil)) (small_ rfl))) (Nat.le_of_ble_eq_true rfl) fun s hs => ⟨_, bd_name, dt_val (dv_inT (mp := mi) (dv_var rfl) (.inl hp2) (hR1.mono g2.ff) (dv_var rfl)), fun hk => ?_⟩)) g2.fh E3 fun σ4 F4 H4 g4 E4 => ?_
      · cases e : mi s with
        | none => rw [e] at hk; cases hk
        | some m => exact dv_tup (da_cons (dv_var rfl) (da_cons (dv_getT (dv_var rfl) (.inl hp2) (hR1.mono g2.ff) (dv_var rfl) e) da_nil)) (small_ rfl)
      -- wet
      refine Sv.seq (sv_set (d := .lst ((wetL t mi pr).map Da.int)) (dv_to (dv_lc ([pr.1, pr.2].filter fun s => (mi s).isSome) (fun s => .tup [triD s, orM (mi s) .non]) (fun s => decide (t < dryOf mi s)) (fun s => .int (dryOf mi s)) (di_list (dv_var rfl)) (Nat.lt_of_le_of_lt (List.length_filter_le _ _) (Nat.le_of_ble_eq_true rfl)) fun s hs => ?_) (by unfold wetL; rw [List.map_map]; rfl))) g4.fh E4 fun σ5 F5 H5 g5 E5 => ?_
      · have hsm := (List.mem_filter.mp hs).2
        cases e : mi s with
        | none => rw [e] at hsm; cases hsm
        | some m =>
          have ed : dryOf mi s = m.2 := by unfold dryOf; rw [e]
          refine ⟨_, bd_two, ?_, fun _ => ?_⟩
          · rw [ed]
            exact dt_test (dv_op (dv_var rfl) (dv_op (dv_var rfl) dv_int (rd_ixT (by rfl))) rd_B0)
          · rw [ed]
            exact dv_op (dv_var rfl) dv_int (rd_ixT (by rfl))
      have g25 := g4.trans0 g5
      have hp5 := g25.same _ _ hp2
      have n5 : F5 p = none := by rw [g25.nw p _ hp2 rfl]; exact n2
      have ha5 := g25.same _ _ ha2
      have n5a : F5 a = none := by rw [g25.nw a _ ha2 rfl]; exact n2a
      have hR5 := (hR1.mono g2.ff).mono g25.ff
      have hd5 := (hd1.mono g2.ff).mono g25.ff
      have gI5 : Gr [p, a] F (upd H a (.lst [])) F5 H5 := gI.then2 ((g2.trans0 g25).wide (M := [p, a])) (fun m hm => hm) hp1 rfl ha1 rfl
      have wk : Le [some (.ob (.ref p)), some (.int t), some (.lst (prs.map prD)), some (.ob (.ref a)), none, none, none, none, none, none] [some (.ob (.ref p)), some (.int t), some (.lst (prs.map prD)), some (.ob (.ref a)), some (triD pr.1), some (triD pr.2), some (.lst (([pr.1, pr.2].filter fun s => (mi s).isSome).map fun s => .tup [triD s, orM (mi s) .non])), some (.lst ((wetL t mi pr).map Da.int)), none, none] := le_keep (le_keep (le_keep (le_keep (le_drop (le_drop (le_drop (le_drop (le_keep (le_keep le_nil)))))))))
      -- if
      refine (dt_test (dv_op (dv_var rfl) (dv_lst da_nil (Nat.zero_le _)) rd_neNil)).run g5.fh E5 fun F6 H6 g6 => ?_
      have E6 := E5.mono g6.ff
      have hp6 := g6.same _ _ hp5
      have n6 : F6 p = none := by rw [g6.nw p _ hp5 rfl]; exact n5
      have ha6 := g6.same _ _ ha5
      have n6a : F6 a = none := by rw [g6.nw a _ ha5 rfl]; exact n5a
      have hR6 := hR5.mono g6.ff
      have hd6 := hd5.mono g6.ff
      have gI6 : Gr [p, a] F (upd H a (.lst [])) F6 H6 := gI5.then2 (g6.wide (M := [p, a])) (fun m hm => hm) hp5 rfl ha5 rfl
      by_cases hw : t < topOf mi pr
      · have hwn : wetL t mi pr ≠ [] := fun e => (wetL_nil ht).mp e hw
        refine iteT' (by simp [hwn]) ?_
        obtain ⟨v6, e6, h6⟩ := E6.at_ 3 _ rfl
        rw [h6.of_ob] at e6
        refine ⟨_, e6, .inl ⟨rfl, acc, SqL.of ha6⟩, ?_⟩
        refine (da_cons (dv_lc [pr.1, pr.2] triD (fun s => !(mi s).isSome) triD (di_tup (dv_tup (da_cons (dv_var rfl) (da_cons (dv_var rfl) da_nil)) (small_ rfl))) (Nat.le_of_ble_eq_true rfl) fun s hs => ⟨_, bd_name, dt_val (dv_notInT (mp := mi) (dv_var rfl) (.inl hp6) hR6 (dv_var rfl)), fun _ => dv_var rfl⟩) da_nil).run g6.fh E6 fun vs7 F7 H7 g7 d7 => ?_
        obtain ⟨v7, rfl, h7⟩ := d7.sole
        obtain ⟨b7, xs7, rfl, hb7, hd7⟩ := h7.of_lst
        have hp7 := g7.same _ _ hp6
        have n7 : F7 p = none := by rw [g7.nw p _ hp6 rfl]; exact n6
        have ha7 := g7.same _ _ ha6
        have n7a : F7 a = none := by rw [g7.nw a _ ha6 rfl]; exact n6a
        have hR7 := hR6.mono g7.ff
        have E7 := E6.mono g7.ff
        have l7 : xs7.length = (if mi pr.1 = none then 1 else 0) + (if mi pr.2 = none then 1 else 0) := by
          rw [hd7.length, List.length_map]
          cases e1 : mi pr.1 <;> cases e2 : mi pr.2 <;> simp [e1, e2]
        have l7' : xs7.length ≤ 2 := by
          rw [l7]
          split <;> split <;> omega
        have lacc : acc.length = ni := by rw [hd1.length]; exact hdl
        refine ⟨a, b7, acc, xs7, rfl, rfl, ha7, g7.fh _ _ hb7, by rw [lacc, sizeLine_eq]; omega, ?_⟩
        have g8 : Gr [a] F7 H7 F7 (upd H7 a (.lst (acc ++ xs7))) := Gr.put g7.fh n7a
        have hp8 : upd H7 a (.lst (acc ++ xs7)) p = some (.dT kvs1) := by rw [upd_ne hpa]; exact hp7
        have gI8 : Gr [p, a] F (upd H a (.lst [])) F7 (upd H7 a (.lst (acc ++ xs7))) := gI6.then2 (g7.after g8) (fun m hm => .tail _ hm) hp6 rfl ha6 rfl
        have wk8 : Le [some (.ob (.ref p)), some (.int t), some (.lst (prs.map prD)), some (.ob (.ref a)), some (triD pr.1), some (triD pr.2), none, some (.lst ((wetL t mi pr).map Da.int)), none, none] [some (.ob (.ref p)), some (.int t), some (.lst (prs.map prD)), some (.ob (.ref a)), some (triD pr.1), some (triD pr.2), some (.lst (([pr.1, pr.2].filter fun s => (mi s).isSome).map fun s => .tup [triD s, orM (mi s) .non])), some (.lst ((wetL t mi pr).map Da.int)), none, none] := le_keep (le_keep (le_keep (le_keep (le_keep (le_keep (le_drop (le_keep (le_keep (le_keep le_nil)))))))))
        have wk9 : Le [some (.ob (.ref p)), some (.int t), some (.lst (prs.map prD)), some (.ob (.ref a)), none, none, none, none, none, none] [some (.ob (.ref p)), some (.int t), some (.lst (prs.map prD)), some (.ob (.ref a)), some (triD pr.1), some (triD pr.2), none, some (.lst ((wetL t mi pr).map Da.int)), none, none] := le_keep (le_keep (le_keep (le_keep (le_drop (le_drop (le_keep (le_drop (le_keep (le_keep le_nil)))))))))
        obtain ⟨dt1, dt2⟩ := dry_top (mp := mi) (pr := pr)
        have top0 : 0 < (wetL t mi pr).length := List.length_pos_iff.mpr hwn
        -- for spot in (one, other)
        refine forS (xs := [triD pr.1, triD pr.2]) (fun j σ8 F8 H8 => Gr [p] F7 (upd H7 a (.lst (acc ++ xs7))) F8 H8 ∧ Env F8 σ8 [some (.ob (.ref p)), some (.int t), some (.lst (prs.map prD)), some (.ob (.ref a)), some (triD pr.1), some (triD pr.2), none, some (.lst ((wetL t mi pr).map Da.int)), none, none] ∧ F8 p = none ∧
          ∃ kvs8, H8 p = some (.dT kvs8) ∧ RepT F8 kvs8 ([mi, mpPut mi pr.1 (sinceOf t mi pr.1, topOf mi pr)].getD j (mpPut (mpPut mi pr.1 (sinceOf t mi pr.1, topOf mi pr)) pr.2 (sinceOf t mi pr.2, topOf mi pr))) ∧
            kvs8.length = kvs1.length + [0, if mi pr.1 = none then 1 else 0].getD j ((if mi pr.1 = none then 1 else 0) + (if mi pr.2 = none then 1 else 0)))
          (di_tup (dv_tup (da_cons (dv_var rfl) (da_cons (dv_var rfl) da_nil)) (small_ rfl))) g8.fh (E7.weak wk8) (fun F8 H8 h8 => ?_) (fun j x hx σ8 F8 H8 s8 s8' hJ v8 F9 H9 g9 d9 Ny hNy => ?_) fun σ8 F8 H8 s8 s8' hJ => ?_
        · exact ⟨h8.wide, (E7.weak wk8).mono h8.ff, by rw [h8.nw p _ hp8 rfl]; exact n7, kvs1, h8.same _ _ hp8, hR7.mono h8.ff, rfl⟩
        · obtain ⟨gJ, EJ, nJ, kvs8, hpJ, hRJ, hkJ⟩ := hJ
          have hp9 := g9.same _ _ hpJ
          have n9 : F9 p = none := by rw [g9.nw p _ hpJ rfl]; exact nJ
          have hl9 : kvs8.length < sizeLine := by
            have : [0, if mi pr.1 = none then 1 else 0].getD j ((if mi pr.1 = none then 1 else 0) + (if mi pr.2 = none then 1 else 0)) ≤ 2 := by
              match j with
              | 0 => exact Nat.zero_le _
              | 1 => show (if mi pr.1 = none then 1 else 0) ≤ 2; split <;> omega
              | j + 2 => show (if mi pr.1 = none then 1 else 0) + (if mi pr.2 = none then 1 else 0) ≤ 2; split <;> split <;> omega
            rw [hkJ, hk1, sizeLine_eq]
            omega
          match j, hx, hRJ, hkJ with
          | 0, hx, hRJ, hkJ =>
            cases hx
            have E9 := (EJ.mono g9.ff).set (i := 8) d9
            have hRJ : RepT F8 kvs8 mi := hRJ
            refine putCall (mp := mi) (s := pr.1) (since := t) (dry := topOf mi pr) (da_cons (dv_var rfl) (da_cons (dv_var rfl) (da_cons (dv_var rfl) (da_cons (dv_cb (da_cons (dv_var rfl) da_nil) (rc_max top0 fun k hk hm => wetL_max ht k hk hm)) da_nil)))) g9.fh E9 hp9 (hRJ.mono g9.ff) n9 hl9 fun F' H' kvs' g hp' hR' hl' nF' => ?_
            rw [putV_eq hGi dt1] at hR'
            exact hNy _ F' H' g.ff g.fh ⟨gJ.then1 (g9.after g) hpJ rfl, (E9.mono g.ff).weak (le_keep (le_keep (le_keep (le_keep (le_keep (le_keep (le_keep (le_keep (le_drop (le_keep le_nil)))))))))), nF', kvs', hp', hR', by rw [hl', hkJ]; rfl⟩
          | 1, hx, hRJ, hkJ =>
            cases hx
            have E9 := (EJ.mono g9.ff).set (i := 8) d9
            have hRJ : RepT F8 kvs8 (mpPut mi pr.1 (sinceOf t mi pr.1, topOf mi pr)) := hRJ
            have e2 : mpPut mi pr.1 (sinceOf t mi pr.1, topOf mi pr) pr.2 = mi pr.2 := mpPut_ne (Ne.symm hne1)
            have hd2 : dryOf (mpPut mi pr.1 (sinceOf t mi pr.1, topOf mi pr)) pr.2 ≤ topOf mi pr := by
              rw [dry_cong e2]
              exact dt2
            have hs2 : sinceOf t (mpPut mi pr.1 (sinceOf t mi pr.1, topOf mi pr)) pr.2 = sinceOf t mi pr.2 := since_cong e2
            refine putCall (mp := mpPut mi pr.1 (sinceOf t mi pr.1, topOf mi pr)) (s := pr.2) (since := t) (dry := topOf mi pr) (da_cons (dv_var rfl) (da_cons (dv_var rfl) (da_cons (dv_var rfl) (da_cons (dv_cb (da_cons (dv_var rfl) da_nil) (rc_max top0 fun k hk hm => wetL_max ht k hk hm)) da_nil)))) g9.fh E9 hp9 (hRJ.mono g9.ff) n9 hl9 fun F' H' kvs' g hp' hR' hl' nF' => ?_
            rw [putV_eq (hGi.put (sinceOf_le hGi _) (topOf_nn hGi pr)) hd2, hs2] at hR'
            rw [e2] at hl'
            refine hNy _ F' H' g.ff g.fh ⟨gJ.then1 (g9.after g) hpJ rfl, (E9.mono g.ff).weak (le_keep (le_keep (le_keep (le_keep (le_keep (le_keep (le_keep (le_keep (le_drop (le_keep le_nil)))))))))), nF', kvs', hp', hR', ?_⟩
            have hkJ : kvs8.length = kvs1.length + (if mi pr.1 = none then 1 else 0) := hkJ
            rw [hl', hkJ]
            exact Nat.add_assoc _ _ _
          | j + 2, hx, _, _ => cases hx
        · obtain ⟨gJ, EJ, nJ, kvs8, hpJ, hRJ, hkJ⟩ := hJ
          have hpa' : a ∉ [p] := by simpa using Ne.symm hpa
          have ha8 : H8 a = some (.lst (acc ++ xs7)) := gJ.hh a _ hpa' upd_same
          have n8a : F8 a = none := by rw [gJ.nw a _ upd_same rfl]; exact n7a
          have hRJ : RepT F8 kvs8 (mpPut (mpPut mi pr.1 (sinceOf t mi pr.1, topOf mi pr)) pr.2 (sinceOf t mi pr.2, topOf mi pr)) := hRJ
          have hkJ : kvs8.length = kvs1.length + ((if mi pr.1 = none then 1 else 0) + (if mi pr.2 = none then 1 else 0)) := hkJ
          have sF : Same F2 F8 := (((g4.trans0 g5).trans0 g6).ff.trans g7.ff).trans gJ.ff
          refine hNx _ F8 H8 sF gJ.fh ⟨gI8.then2 gJ (fun m hm => by simp at hm; simp [hm]) hp8 rfl upd_same rfl, EJ.weak wk9, nJ, n8a, kvs8, _, _, hpJ, ?_, ?_, ha8, ((hd6.mono g7.ff).append hd7).mono gJ.ff, ?_⟩
          · rw [hsn]
            show RepT F8 kvs8 (stepM t mi pr)
            unfold stepM
            rw [if_pos hw]
            exact hRJ
          · rw [hsn]
            show kvs8.length = kvs.length + (ni + stepN t mi pr)
            unfold stepN
            rw [if_pos hw, hkJ, hk1]
            omega
          · rw [hsn, List.length_append, ← hd7.length, l7, hdl]
            show _ = ni + stepN t mi pr
            unfold stepN
            rw [if_pos hw]
      · have hwn : wetL t mi pr = [] := (wetL_nil ht).mpr hw
        refine iteF' (by simp [hwn]) ?_
        refine hNx _ F6 H6 (((g4.trans0 g5).trans0 g6).ff) g6.fh ⟨gI6, E6.weak wk, n6, n6a, kvs1, acc, ds, hp6, ?_, ?_, ha6, hd6, ?_⟩
        · rw [hsn]
          show RepT F6 kvs1 (stepM t mi pr)
          unfold stepM
          rw [if_neg hw]
          exact hR6
        · rw [hsn]
          show kvs1.length = kvs.length + (ni + stepN t mi pr)
          unfold stepN
          rw [if_neg hw]
          exact hk1
        · rw [hsn]
          show ds.length = ni + stepN t mi pr
          unfold stepN
          rw [if_neg hw]
          exact hdl
    · obtain ⟨gI, EI, nI, nIa, kvs1, acc, ds, hp1, hR1, hk1, ha1, hd1, hdl⟩ := hI
      rw [List.length_map, List.take_length] at hR1 hk1 hdl
      obtain ⟨v4, e4, h4⟩ := EI.at_ 3 _ rfl
      rw [h4.of_ob] at e4
      have gA : Gr [p] F H F1 H1 := ⟨gI.ff, gI.fh, fun b o hb e => gI.hh b o (fun z => by
        rcases List.mem_cons.mp z with rfl | z
        · exact hb (by simp)
        · have : b = a := by simpa using z
          subst this
          rw [ha] at e
          cases e) (g0.same _ _ e), fun b o e ht' => gI.nw b o (g0.same _ _ e) ht'⟩
      have nu : ∀ b o, F1 b = some o → b ≠ a := fun b o e => ne_of_none e nIa
      have gf : Gr [p] F H (upd F1 a (.lst acc)) H1 := by
        refine ⟨fun b o e => by rw [upd_ne (nu b o (gA.ff _ _ e))]; exact gA.ff _ _ e, fun b o e => ?_, gA.hh, fun b o e ht' => ?_⟩
        · by_cases hb : b = a
          · subst hb; rw [upd_same] at e; cases e; exact ha1
          · rw [upd_ne hb] at e; exact gA.fh _ _ e
        · rw [upd_ne (ne_of_none e ha)]; exact gA.nw b o e ht'
      have sA : Same F1 (upd F1 a (.lst acc)) := fun b o e => by rw [upd_ne (nu b o e)]; exact e
      exact ⟨_, e4, q _ _ _ kvs1 ds gf hp1 (hR1.mono sA) hk1 (by rw [upd_ne hpa]; exact nI) (.lst upd_same (hd1.mono sA)) hdl⟩
end
end Bb
/-! Bb11 -/
namespace Bb
open PySem PySem.Spec PyProof.Rows L2

/-! ### the law's own record -/
def ownK (vsh vst : V) (t : Int) (q b : Addr) : List (Key × V) := [(.inr "shape", vsh), (.inr "stand", vst), (.inr "tick", .int t), (.inr "marks", .ref q), (.inr "book", .ref b)]
theorem neS {a b : Str} {v : V} (h : decide (a = b) = false) : ¬ ((Sum.inr a : Key), v).1 = Sum.inr b := fun e => of_decide_eq_false h (Sum.inr.inj e)
section
variable {vsh vst : V} {t : Int} {q b : Addr}
theorem own_shape : valV (ownK vsh vst t q b) (.inr "shape") = some vsh := valV_pos rfl
theorem own_stand : valV (ownK vsh vst t q b) (.inr "stand") = some vst := (valV_neg (neS (by decide +kernel))).trans (valV_pos rfl)
theorem own_tick : valV (ownK vsh vst t q b) (.inr "tick") = some (.int t) := (valV_neg (neS (by decide +kernel))).trans ((valV_neg (neS (by decide +kernel))).trans (valV_pos rfl))
theorem own_marks : valV (ownK vsh vst t q b) (.inr "marks") = some (.ref q) := (valV_neg (neS (by decide +kernel))).trans ((valV_neg (neS (by decide +kernel))).trans ((valV_neg (neS (by decide +kernel))).trans (valV_pos rfl)))
theorem own_book : valV (ownK vsh vst t q b) (.inr "book") = some (.ref b) := (valV_neg (neS (by decide +kernel))).trans ((valV_neg (neS (by decide +kernel))).trans ((valV_neg (neS (by decide +kernel))).trans ((valV_neg (neS (by decide +kernel))).trans (valV_pos rfl))))
end
section
variable {F0 B F H : Hp} {σ : LSt} {ρ ρ' : Rho} {K : PySem.W.Frag} {te td ty tv : TE} {p : Addr}
theorem rc_lenDT {kvs : List (List Key × V)} (h : B p = some (.dT kvs)) : RC F0 B rLenT [.ob (.ref p)] (.int ((kvs.length : Nat) : Int)) := rc_val fun F H vs a hd Q q => by
  obtain ⟨v, rfl, h1⟩ := hd.sole
  rw [h1.of_ob]
  exact ⟨p, kvs, rfl, a.b _ _ h, q _ (.int _)⟩
/-- a field of the law's record -/
theorem dv_own {vsh vst v : V} {t : Int} {q b ow : Addr} {c : Str} {d : Da} {i : Nat} (hi : ρ[i]? = some (some (.ob (.ref ow)))) (hB : B ow = some (.dK (ownK vsh vst t q b))) (hv : valV (ownK vsh vst t q b) (.inr c) = some v) (hd : Dt F0 v d) : Dv F0 B (tDGet (tVar i) (tC (.str c))) ρ d :=
  dv_getK (dv_var hi) (.inl hB) dv_str hv hd
end
def dries (mp : Mp) (pr : Tri × Tri) : List Int := 0 :: (([pr.1, pr.2].filter fun s => (mp s).isSome).map (dryOf mp))
theorem dries_max {t : Int} {mp : Mp} {pr : Tri × Tri} (g : Gm t mp) (k : Int) (hk : k ∈ dries mp pr) (hm : ∀ y, y ∈ dries mp pr → y ≤ k) : k = topOf mp pr := by
  have mem : ∀ y, y ∈ dries mp pr ↔ y = 0 ∨ (mp pr.1).isSome = true ∧ y = dryOf mp pr.1 ∨ (mp pr.2).isSome = true ∧ y = dryOf mp pr.2 := fun y => by
    unfold dries
    simp only [List.mem_cons, List.mem_map, List.mem_filter, List.not_mem_nil, or_false]
    constructor
    · rintro (h | ⟨s, ⟨rfl | rfl, h2⟩, rfl⟩)
      · exact .inl h
      · exact .inr (.inl ⟨h2, rfl⟩)
      · exact .inr (.inr ⟨h2, rfl⟩)
    · rintro (h | ⟨h, rfl⟩ | ⟨h, rfl⟩)
      · exact .inl h
      · exact .inr ⟨pr.1, ⟨.inl rfl, h⟩, rfl⟩
      · exact .inr ⟨pr.2, ⟨.inr rfl, h⟩, rfl⟩
  have d1 : dryOf mp pr.1 ∈ dries mp pr := by
    cases e : mp pr.1 with
    | none => exact (mem _).mpr (.inl (by unfold dryOf; rw [e]))
    | some m => exact (mem _).mpr (.inr (.inl ⟨by rw [e]; rfl, rfl⟩))
  have d2 : dryOf mp pr.2 ∈ dries mp pr := by
    cases e : mp pr.2 with
    | none => exact (mem _).mpr (.inl (by unfold dryOf; rw [e]))
    | some m => exact (mem _).mpr (.inr (.inr ⟨by rw [e]; rfl, rfl⟩))
  have h1 := hm _ d1
  have h2 := hm _ d2
  have g1 := dryOf_nn g pr.1
  have g2 := dryOf_nn g pr.2
  have hk' := (mem k).mp hk
  unfold topOf
  rcases hk' with h | ⟨_, h⟩ | ⟨_, h⟩ <;> split <;> omega
def spWP : Sp := fun vs H Q _ => ∃ (F : Hp) (ow p q b : Addr) (vsh vst : V) (m w : Nat) (st : List Tri) (kvs : List (List Key × V)) (mp : Mp) (t : Int) (g : Nat) (lp lq : Tri), vs = [.ref ow, .ref p, .int g] ∧ Same F H ∧ F p = none ∧ H ow = some (.dK (ownK vsh vst t q b)) ∧ Dt F vsh (shD m w) ∧ Dt F vst (stD st) ∧
  H p = some (.dT kvs) ∧ RepT F kvs mp ∧ st[g]? = some lp ∧ st[g + 1]? = some lq ∧ w ≤ 100 ∧ kvs.length + 2 * w ≤ 1000 ∧ Gm t mp ∧ 0 ≤ t ∧ lp.1 ≠ lq.1 ∧
  ∀ F' H' kvs', Gr [p] F H F' H' → H' p = some (.dT kvs') → RepT F' kvs' (foldS t (pairsL w lp lq) mp).1 → kvs'.length = kvs.length + (foldS t (pairsL w lp lq) mp).2 → F' p = none → Q (.int (foldS t (pairsL w lp lq) mp).2) H'
theorem pairsL_len {w : Nat} {p q : Tri} : (pairsL w p q).length = w := by
  unfold pairsL
  rw [List.length_map, List.length_zip, cellsL_len, cellsL_len]
  omega
theorem pairsL_ne {w : Nat} {p q : Tri} (h : p.1 ≠ q.1) : ∀ pr ∈ pairsL w p q, pr.1 ≠ pr.2 := fun pr hp => by
  unfold pairsL at hp
  obtain ⟨z, _, rfl⟩ := List.mem_map.mp hp
  exact fun e => h (congrArg (·.1) e)
abbrev N_w_pressed : List Str := ["_law_own", "_law_some", "_law_gap", "_law_had", "_law_one", "_law_other", "_law_dry", "_law_spot_here"]
abbrev P_w_pressed : List Str := ["_law_own", "_law_some", "_law_gap"]
theorem sc_w_pressed : FnScope N_w_pressed P_w_pressed (defScope s_w_pressed) := ⟨rfl, rfl, rfl, by decide +kernel, rfl, by decide +kernel, by decide +kernel⟩
theorem b_w_pressed : BindsD d_w_pressed P_w_pressed := fun _ _ _ _ _ _ us hl => match us, hl with | [_, _, _], _ => rfl

section
variable {P : Program} {w : World} {K : PySem.W.Frag} {mg : Str → Option Value} {base : Heap}
theorem ok_w_pressed (T : Txt K mg) (G_w_pairs : Ok P w K mg base CX0 2 d_w_pairs P_w_pairs (spD R_pairs)) : Ok P w K mg base CX0 3 d_w_pressed P_w_pressed spWP := by
  refine okN T.f_w_pressed sc_w_pressed b_w_pressed (fun vs H Q E h => ?_) fun cdv A outer s H vs Q E hr h => ?_
  · obtain ⟨_, _, _, _, _, _, _, _, _, _, _, _, _, _, _, _, rfl, _⟩ := h
    rfl
  · obtain ⟨F, ow, p, q, b, vsh, vst, m, w, st, kvs, mp, t, g, lp, lq, rfl, sm, nF, ho, hsh, hst, hp, hR, hlp, hlq, hw, hk, hG, ht, hne, qq⟩ := h
    refine ⟨_, (pss_cons (ps_set (i := 3) sc_w_pressed.nd rfl (.inl rfl) (pe_callB call_len_dT (by rfl) T.n_len (by decide +kernel) (pa_cons (pv 1) pa_nil)))
  (pss_cons (ps_for PassesOwn.never rfl (kpi_list (K := K) (pe_callO G_w_pairs (hr.mono (by decide)) rfl T.g_w_pairs pass0 (pa_cons (pe_dget (hu_of hr) (pv 0) pe_str (fun _ _ => rfl)) (pa_cons (pe_dget (hu_of hr) (pv 0) pe_str (fun _ _ => rfl)) (pa_cons (pv 2) pa_nil))))) (kpg_tup (K := K) (n := 2) rfl (pgs_cons (pg_name (i := 4) sc_w_pressed.nd rfl (.inl rfl)) (pgs_cons (pg_name (i := 5) sc_w_pressed.nd rfl (.inl rfl)) pgs_nil))) (pss_cons (ps_set (i := 6) sc_w_pressed.nd rfl (.inl rfl) (pe_callB (kcr_max (K := K)) (by rfl) T.n_max (by decide +kernel) (pa_cons (pe_op op_cat (pe_lst (pa_cons pe_int pa_nil)) (pe_lc (own := [("_law_spot_here", 7)]) rfl sc_w_pressed.nd (kpi_tup (K := K) (pe_tup (pa_cons (pv 4) (pa_cons (pv 5) pa_nil)))) (blkOk_by (N := N_w_pressed) (sc := defScope s_w_pressed) (by decide +kernel)) (fun _ _ _ _ _ => (pg_name (i := 7) sc_w_pressed.nd rfl (.inl rfl))) (fun _ _ _ _ _ => (pts_one (pt_cmp (pc_din (hu_of hr) (pv 7) (pv 1)) rfl))) (fun _ _ _ _ _ => (pe_ix (kix_tup (K := K)) (pe_dget (hu_of hr) (pv 1) (pv 7) (fun _ _ => rfl)) pe_int (fun _ _ => rfl))))) pa_nil)))
  (pss_one (ps_if (pt_cmpR op_gt (pv 6) (pe_dget (hu_of hr) (pv 0) pe_str (fun _ _ => rfl)) (nomark _)) (pss_one (ps_for PassesOwn.never rfl (kpi_tup (K := K) (pe_tup (pa_cons (pv 4) (pa_cons (pv 5) pa_nil)))) (pg_name (i := 7) sc_w_pressed.nd rfl (.inl rfl)) (pss_one (ps_dput (hu_of hr) (pv 1) (pv 7) (pe_tup (pa_cons (pe_ix (kix_tup (K := K)) (pe_dget2 (hu_of hr) (pv 1) (pv 7) (pe_tup (pa_cons (pe_dget (hu_of hr) (pv 0) pe_str (fun _ _ => rfl)) (pa_cons pe_int pa_nil))) ⟨by rfl, by rfl, by rfl, by rfl⟩) pe_int (fun _ _ => rfl)) (pa_cons (pv 6) pa_nil))) rfl)))) pss_nil))))
  (pss_one (ps_ret (pe_op op_sub (pe_callB call_len_dT (by rfl) T.n_len (by decide +kernel) (pa_cons (pv 1) pa_nil)) (pv 3)))))), ?_⟩
    have E0 : Env F (L2.start N_w_pressed [.ref ow, .ref p, .int g]) [some (.ob (.ref ow)), some (.ob (.ref p)), some (.int g), none, none, none, none, none] := env_start (.cons (.ob _) (.cons (.ob _) (.cons (.int _) .nil)))
    have hop : ow ≠ p := ne_of ho hp (fun z => nomatch z)
    refine Sv.seq (sv_set (dv_cb (da_cons (dv_var rfl) da_nil) (rc_lenDT hp))) sm E0 fun σ1 F1 H1 g1 E1 => ?_
    have hp1 := g1.same _ _ hp
    have ho1 := g1.same _ _ ho
    have n1 : F1 p = none := by rw [g1.nw p _ hp rfl]; exact nF
    have hsh1 := hsh.mono g1.ff
    have hst1 := hst.mono g1.ff
    refine forSeq (xs := (pairsL w lp lq).map prD) (fun i σ2 F2 H2 => Gr [p] F H F2 H2 ∧ Env F2 σ2 [some (.ob (.ref ow)), some (.ob (.ref p)), some (.int g), some (.int ((kvs.length : Nat) : Int)), none, none, none, none] ∧ F2 p = none ∧
      ∃ kvs2, H2 p = some (.dT kvs2) ∧ RepT F2 kvs2 (foldS t ((pairsL w lp lq).take i) mp).1 ∧ kvs2.length = kvs.length + (foldS t ((pairsL w lp lq).take i) mp).2)
      (di_list (dv_call (da_cons (dv_own rfl ho1 own_shape hsh1) (da_cons (dv_own rfl ho1 own_stand hst1) (da_cons (dv_var rfl) da_nil))) ⟨m, w, st, g, lp, lq, rfl, hlp, hlq, hw, rfl⟩)) g1.fh E1 (fun F2 H2 g2 => ?_) (fun i x hx σ2 F2 H2 s1 s2 hI v3 F3 H3 g3 d3 Nx hNx => ?_) fun σ2 F2 H2 s1 s2 hI => ?_
    · exact ⟨(g1.trans0 g2).wide, E1.mono g2.ff, by rw [g2.nw p _ hp1 rfl]; exact n1, kvs, g2.same _ _ hp1, (hR.mono g1.ff).mono g2.ff, rfl⟩
    · obtain ⟨gI, EI, nI, kvs2, hp2, hR2, hk2⟩ := hI
      obtain ⟨pr, hpr, rfl⟩ : ∃ pr, (pairsL w lp lq)[i]? = some pr ∧ x = prD pr := by
        rw [List.getElem?_map] at hx
        cases e : (pairsL w lp lq)[i]? with
        | none => rw [e] at hx; cases hx
        | some pr => rw [e] at hx; cases hx; exact ⟨pr, rfl, rfl⟩
      have hi : i < w := Nat.lt_of_lt_of_eq (List.getElem?_eq_some_iff.mp hpr).1 pairsL_len
      have hsn := foldS_snoc t mp hpr
      have hGi : Gm t (foldS t ((pairsL w lp lq).take i) mp).1 := foldS_gm _ _ hG
      have hle := foldS_le (t := t) ((pairsL w lp lq).take i) mp
      rw [List.length_take, pairsL_len, Nat.min_eq_left (Nat.le_of_lt hi)] at hle
      have hne1 := pairsL_ne hne pr (List.mem_of_getElem? hpr)
      generalize hmi : (foldS t ((pairsL w lp lq).take i) mp).1 = mi at hR2 hGi hsn
      generalize hni : (foldS t ((pairsL w lp lq).take i) mp).2 = ni at hk2 hle hsn
      have hz : foldS t ((pairsL w lp lq).take i) mp = (mi, ni) := by rw [← hmi, ← hni]
      rw [hz] at hsn
      refine (bl_two (x := triD pr.1) (y := triD pr.2) (ρ := [some (.ob (.ref ow)), some (.ob (.ref p)), some (.int g), some (.int ((kvs.length : Nat) : Int)), none, none, none, none])) _ F3 H3 v3 (atC g3.fh) (EI.mono g3.ff) d3 _ fun σ4 E4 => ?_
      have hp3 := g3.same _ _ hp2
      have n3 : F3 p = none := by rw [g3.nw p _ hp2 rfl]; exact nI
      have gI3 : Gr [p] F H F3 H3 := gI.then1 (g3.wide (M := [p])) hp2 rfl
      have ho3 : H3 ow = some (.dK (ownK vsh vst t q b)) := gI3.hh ow _ (by simpa using hop) ho
      -- dry
      refine Sv.seq (sv_set (d := .int (topOf mi pr)) (dv_cb (da_cons (dv_to (dv_op (dv_lst (da_cons dv_int da_nil) (small_ rfl)) (dv_lc [pr.1, pr.2] triD (fun s => (mi s).isSome) (fun s => .int (dryOf mi s)) (di_tup (dv_tup (da_cons (dv_var rfl) (da_cons (dv_var rfl) da_nil)) (small_ rfl))) (Nat.le_of_ble_eq_true rfl) fun s hs => ⟨_, bd_name, dt_val (dv_inT (mp := mi) (dv_var rfl) (.inl hp3) (hR2.mono g3.ff) (dv_var rfl)), fun hk => ?_⟩) (rd_catL ?_)) (by rw [show ((([pr.1, pr.2].filter fun s => (mi s).isSome).map fun s => Da.int (dryOf mi s))) = ((([pr.1, pr.2].filter fun s => (mi s).isSome).map (dryOf mi)).map Da.int) by rw [List.map_map]; rfl]; rfl : _ = Da.lst ((dries mi pr).map Da.int))) da_nil) (rc_max (Nat.zero_lt_succ _) fun k hk hm => dries_max hGi k hk hm))) g3.fh E4 fun σ5 F5 H5 g5 E5 => ?_
      · cases e : mi s with
        | none => rw [e] at hk; cases hk
        | some mk =>
          have ed : dryOf mi s = mk.2 := by unfold dryOf; rw [e]
          rw [ed]
          exact dv_op (dv_getT (dv_var rfl) (.inl hp3) (hR2.mono g3.ff) (dv_var rfl) e) dv_int (rd_ixT (by rfl))
      · rw [List.length_map]
        have := List.length_filter_le (fun s => (mi s).isSome) [pr.1, pr.2]
        rw [sizeLine_eq]
        simp at this ⊢
        omega
      have hp5 := g5.same _ _ hp3
      have ho5 := g5.same _ _ ho3
      have n5 : F5 p = none := by rw [g5.nw p _ hp3 rfl]; exact n3
      have hR5 := (hR2.mono g3.ff).mono g5.ff
      have gI5 : Gr [p] F H F5 H5 := gI3.then1 (g5.wide (M := [p])) hp3 rfl
      refine (dt_test (dv_op (dv_var rfl) (dv_own rfl ho5 own_tick (.int t)) rd_B0)).run g5.fh E5 fun F6 H6 g6 => ?_
      have E6 := E5.mono g6.ff
      have hp6 := g6.same _ _ hp5
      have n6 : F6 p = none := by rw [g6.nw p _ hp5 rfl]; exact n5
      have hR6 := hR5.mono g6.ff
      have gI6 : Gr [p] F H F6 H6 := gI5.then1 (g6.wide (M := [p])) hp5 rfl
      have s36 : Same F3 F6 := (g5.trans0 g6).ff
      have wk : Le [some (.ob (.ref ow)), some (.ob (.ref p)), some (.int g), some (.int ((kvs.length : Nat) : Int)), none, none, none, none] [some (.ob (.ref ow)), some (.ob (.ref p)), some (.int g), some (.int ((kvs.length : Nat) : Int)), some (triD pr.1), some (triD pr.2), some (.int (topOf mi pr)), none] := le_keep (le_keep (le_keep (le_keep (le_drop (le_drop (le_drop (le_keep le_nil)))))))
      by_cases hw' : t < topOf mi pr
      · refine iteT' (decide_eq_true hw') ?_
        have lk : kvs2.length + 2 ≤ 1000 := by omega
        refine forS (xs := [triD pr.1, triD pr.2]) (fun j σ8 F8 H8 => Gr [p] F6 H6 F8 H8 ∧ Env F8 σ8 [some (.ob (.ref ow)), some (.ob (.ref p)), some (.int g), some (.int ((kvs.length : Nat) : Int)), some (triD pr.1), some (triD pr.2), some (.int (topOf mi pr)), none] ∧ F8 p = none ∧
          ∃ kvs8, H8 p = some (.dT kvs8) ∧ RepT F8 kvs8 ([mi, mpPut mi pr.1 (sinceOf t mi pr.1, topOf mi pr)].getD j (mpPut (mpPut mi pr.1 (sinceOf t mi pr.1, topOf mi pr)) pr.2 (sinceOf t mi pr.2, topOf mi pr))) ∧
            kvs8.length = kvs2.length + [0, if mi pr.1 = none then 1 else 0].getD j ((if mi pr.1 = none then 1 else 0) + (if mi pr.2 = none then 1 else 0)))
          (di_tup (dv_tup (da_cons (dv_var rfl) (da_cons (dv_var rfl) da_nil)) (small_ rfl))) g6.fh E6 (fun F8 H8 h8 => ?_) (fun j x hx σ8 F8 H8 s8 s8' hJ v8 F9 H9 g9 d9 Ny hNy => ?_) fun σ8 F8 H8 s8 s8' hJ => ?_
        · exact ⟨h8.wide, E6.mono h8.ff, by rw [h8.nw p _ hp6 rfl]; exact n6, kvs2, h8.same _ _ hp6, hR6.mono h8.ff, rfl⟩
        · obtain ⟨gJ, EJ, nJ, kvs8, hpJ, hRJ, hkJ⟩ := hJ
          have hp9 := g9.same _ _ hpJ
          have n9 : F9 p = none := by rw [g9.nw p _ hpJ rfl]; exact nJ
          have gJ9 : Gr [p] F6 H6 F9 H9 := gJ.then1 (g9.wide (M := [p])) hpJ rfl
          have ho9 : H9 ow = some (.dK (ownK vsh vst t q b)) := gJ9.hh ow _ (by simpa using hop) (g6.same _ _ ho5)
          have hl9 : kvs8.length < sizeLine := by
            have : [0, if mi pr.1 = none then 1 else 0].getD j ((if mi pr.1 = none then 1 else 0) + (if mi pr.2 = none then 1 else 0)) ≤ 2 := by
              match j with
              | 0 => exact Nat.zero_le _
              | 1 => show (if mi pr.1 = none then 1 else 0) ≤ 2; split <;> omega
              | j + 2 => show (if mi pr.1 = none then 1 else 0) + (if mi pr.2 = none then 1 else 0) ≤ 2; split <;> split <;> omega
            rw [hkJ, sizeLine_eq]
            omega
          have get0 : ∀ (mj : Mp) (s : Tri), (orM (mj s) (mkD (t, 0))) = mkD (sinceOf t mj s, dryOf mj s) := fun mj s => by
            unfold sinceOf dryOf
            cases mj s <;> rfl
          have E9 := (EJ.mono g9.ff).set (i := 7) d9
          match j, hx, hRJ, hkJ with
          | 0, hx, hRJ, hkJ =>
            cases hx
            have hRJ : RepT F8 kvs8 mi := hRJ
            refine sDPut_run (s := pr.1) (m := (sinceOf t mi pr.1, topOf mi pr)) (fun _ _ => dv_var rfl) (fun _ _ => dv_var rfl) (dv_tup (da_cons (dv_op (dv_to (dv_getT2 (z := mkD (t, 0)) (dv_var rfl) (.inl hp9) (hRJ.mono g9.ff) (dv_var rfl) (dv_tup (da_cons (dv_own rfl ho9 own_tick (.int t)) (da_cons dv_int da_nil)) (small_ rfl))) (get0 mi pr.1)) dv_int (rd_ixT (by rfl))) (da_cons (dv_var rfl) da_nil)) (small_ rfl)) hp9 (hRJ.mono g9.ff) n9 hl9 g9.fh E9 fun F' H' kvs' gg hp' hR' hl' nF' E' => ?_
            exact hNy _ F' H' gg.ff gg.fh ⟨gJ9.then1 gg hp9 rfl, E'.weak (le_keep (le_keep (le_keep (le_keep (le_keep (le_keep (le_keep (le_drop le_nil)))))))), nF', kvs', hp', hR', by rw [hl', hkJ]; rfl⟩
          | 1, hx, hRJ, hkJ =>
            cases hx
            have hRJ : RepT F8 kvs8 (mpPut mi pr.1 (sinceOf t mi pr.1, topOf mi pr)) := hRJ
            have e2 : mpPut mi pr.1 (sinceOf t mi pr.1, topOf mi pr) pr.2 = mi pr.2 := mpPut_ne (Ne.symm hne1)
            have hs2 : sinceOf t (mpPut mi pr.1 (sinceOf t mi pr.1, topOf mi pr)) pr.2 = sinceOf t mi pr.2 := since_cong e2
            refine sDPut_run (s := pr.2) (m := (sinceOf t mi pr.2, topOf mi pr)) (fun _ _ => dv_var rfl) (fun _ _ => dv_var rfl) (dv_tup (da_cons (dv_to (dv_op (dv_to (dv_getT2 (z := mkD (t, 0)) (dv_var rfl) (.inl hp9) (hRJ.mono g9.ff) (dv_var rfl) (dv_tup (da_cons (dv_own rfl ho9 own_tick (.int t)) (da_cons dv_int da_nil)) (small_ rfl))) (get0 _ pr.2)) dv_int (rd_ixT (by rfl))) (by rw [hs2])) (da_cons (dv_var rfl) da_nil)) (small_ rfl)) hp9 (hRJ.mono g9.ff) n9 hl9 g9.fh E9 fun F' H' kvs' gg hp' hR' hl' nF' E' => ?_
            rw [e2] at hl'
            refine hNy _ F' H' gg.ff gg.fh ⟨gJ9.then1 gg hp9 rfl, E'.weak (le_keep (le_keep (le_keep (le_keep (le_keep (le_keep (le_keep (le_drop le_nil)))))))), nF', kvs', hp', hR', ?_⟩
            have hkJ : kvs8.length = kvs2.length + (if mi pr.1 = none then 1 else 0) := hkJ
            rw [hl', hkJ]
            exact Nat.add_assoc _ _ _
          | j + 2, hx, _, _ => cases hx
        · obtain ⟨gJ, EJ, nJ, kvs8, hpJ, hRJ, hkJ⟩ := hJ
          have hRJ : RepT F8 kvs8 (mpPut (mpPut mi pr.1 (sinceOf t mi pr.1, topOf mi pr)) pr.2 (sinceOf t mi pr.2, topOf mi pr)) := hRJ
          have hkJ : kvs8.length = kvs2.length + ((if mi pr.1 = none then 1 else 0) + (if mi pr.2 = none then 1 else 0)) := hkJ
          refine hNx _ F8 H8 (s36.trans gJ.ff) gJ.fh ⟨gI6.then1 gJ hp6 rfl, EJ.weak wk, nJ, kvs8, hpJ, ?_, ?_⟩
          · rw [hsn]
            show RepT F8 kvs8 (stepM t mi pr)
            unfold stepM
            rw [if_pos hw']
            exact hRJ
          · rw [hsn]
            show kvs8.length = kvs.length + (ni + stepN t mi pr)
            unfold stepN
            rw [if_pos hw', hkJ, hk2]
            omega
      · refine iteF' (decide_eq_false hw') ?_
        refine hNx _ F6 H6 s36 g6.fh ⟨gI6, E6.weak wk, n6, kvs2, hp6, ?_, ?_⟩
        · rw [hsn]
          show RepT F6 kvs2 (stepM t mi pr)
          unfold stepM
          rw [if_neg hw']
          exact hR6
        · rw [hsn]
          show kvs2.length = kvs.length + (ni + stepN t mi pr)
          unfold stepN
          rw [if_neg hw']
          exact hk2
    · obtain ⟨gI, EI, nI, kvs2, hp2, hR2, hk2⟩ := hI
      rw [List.length_map, List.take_length] at hR2 hk2
      refine (dv_op (dv_cb (da_cons (dv_var rfl) da_nil) (rc_lenDT hp2)) (dv_var rfl) rd_I0).run s2 EI fun v3 F3 H3 g3 d3 => ?_
      have e : v3 = .int (foldS t (pairsL w lp lq) mp).2 := by
        rw [d3.of_int]
        congr 1
        omega
      rw [e]
      exact qq F3 H3 kvs2 (gI.then1 (g3.wide (M := [p])) hp2 rfl) (g3.same _ _ hp2) (hR2.mono g3.ff) hk2 (by rw [g3.nw p _ hp2 rfl]; exact nI)
end
end Bb
/-! Bb12 -/
namespace Bb
open PySem PySem.Spec PyProof.Rows L2

section
variable {F0 B F H : Hp} {σ : LSt} {ρ ρ' : Rho} {K : PySem.W.Frag} {te td ty tv : TE} {t u : TS} {o : Out} {p : Addr}
theorem mergeK_new : ∀ (more acc : List (Key × V)), (acc.map (·.1) ++ more.map (·.1)).Nodup → mergeK acc more = acc ++ more
  | [], acc, _ => (List.append_nil acc).symm
  | x :: more, acc, h => by
    have hx : valV acc x.1 = none := valV_mem.mpr fun hm => by
      obtain ⟨_, _, h3⟩ := List.nodup_append.mp h
      exact h3 _ hm x.1 (by simp) rfl
    show mergeK (putK acc x.1 x.2) more = _
    rw [putK_new _ hx, mergeK_new more (acc ++ [(x.1, x.2)]) (by simpa using h), List.append_assoc]
    rfl
def kInt (x : Str × Int) : Key × V := (.inr x.1, .int x.2)
inductive DPs (F0 B : Hp) (ρ : Rho) : List (TE × TE) → List (Str × Int) → Prop
  | nil : DPs F0 B ρ [] []
  | cons {tk tv : TE} {trs : List (TE × TE)} {k : Str} {i : Int} {ks : List (Str × Int)} : Dv F0 B tk ρ (.str k) → Dv F0 B tv ρ (.int i) → DPs F0 B ρ trs ks → DPs F0 B ρ ((tk, tv) :: trs) ((k, i) :: ks)
theorem pairs_run : ∀ {trs : List (TE × TE)} {ks : List (Str × Int)}, DPs F0 B ρ trs ks → ∀ {σ : LSt} {F H : Hp}, At F0 B F H → Env F σ ρ → ∀ Q : List (V × V) → Hp → Prop, (∀ F' H', Gr [] F H F' H' → Q (ks.map fun x => (V.str x.1, V.int x.2)) H') → tPairs trs σ H Q
  | _, _, .nil, σ, F, H, a, E, Q, k => k F H (.refl a.h)
  | _, _, .cons h1 h2 r, σ, F, H, a, E, Q, k => by
    refine h1 σ F H a E _ fun v F1 H1 g1 d1 => h2 σ F1 H1 (a.go g1) (E.mono g1.ff) _ fun w F2 H2 g2 d2 => ?_
    refine pairs_run r ((a.go g1).go g2) ((E.mono g1.ff).mono g2.ff) _ fun F3 H3 g3 => ?_
    rw [d1.of_str, d2.of_int]
    exact k F3 H3 ((g1.trans0 g2).trans0 g3)
theorem Dv.sub {d : Da} {B' : Hp} (h : Dv F0 B te ρ d) (s : Same B B') : Dv F0 B' te ρ d := fun σ F H a E Q k => h σ F H ⟨a.f, a.h, s.trans a.b⟩ E Q k
/-- x = {text: whole number, ..} -/
theorem sv_disp {trs : List (TE × TE)} {ks : List (Str × Int)} {j : Nat} (hp : DPs F0 B ρ trs ks) (hl : ks.length ≤ 15) (nd : (ks.map (·.1)).Nodup) (rest : ∀ p, Sv F0 (upd B p (.dK (ks.map kInt))) u (ρ.set j (some (.ob (.ref p)))) o) : Sv F0 B (tSeq (tAsg (tDisp trs) (gName j)) u) ρ o := by
  have step : ∀ σ F H, At F0 B F H → Env F σ ρ → ∀ D : Ends, (∀ p F' H', Gr [] F H F' H' → At F0 (upd B p (.dK (ks.map kInt))) F' H' → Env F' (σ.set j (some (.ref p))) (ρ.set j (some (.ob (.ref p)))) → u D (σ.set j (some (.ref p))) H') → tSeq (tAsg (tDisp trs) (gName j)) u D σ H := fun σ F H a E D k p hpn => by
    have g0 : Gr [] F H F (upd H p (.dK [])) := Gr.newM a.h hpn
    refine pairs_run hp (a.go g0) E _ fun F' H' g => ?_
    have e : H' p = some (.dK []) := g.same _ _ upd_same
    have nF : F' p = none := by
      rw [g.nw p _ upd_same rfl]
      cases q : F p with
      | none => rfl
      | some o => rw [a.h _ _ q] at hpn; cases hpn
    refine ⟨e, ks.map kInt, by rw [List.map_map]; rfl, by rw [List.length_map]; exact hl, ?_⟩
    have em : mergeK [] (ks.map kInt) = ks.map kInt := mergeK_new _ _ (by
      rw [List.map_nil, List.nil_append, List.map_map]
      have : ks.map ((fun x : Key × V => x.1) ∘ kInt) = (ks.map (·.1)).map Sum.inr := by rw [List.map_map]; rfl
      rw [this]
      exact List.pairwise_map.mpr (nd.imp fun h z => h (Sum.inr.inj z)))
    rw [em]
    have gg : Gr [] F H F' (upd H' p (.dK (ks.map kInt))) := (g0.trans0 g).mine hpn nF
    refine k p F' _ gg ⟨a.f.trans gg.ff, gg.fh, fun b x q => ?_⟩ ((E.mono gg.ff).set (.ob _))
    by_cases hb : b = p
    · rw [hb, upd_same] at q ⊢; exact q
    · rw [upd_ne hb] at q
      exact gg.same _ _ (a.b _ _ q)
  cases o with
  | nx ρ' => exact fun σ F H a E D k => step σ F H a E D fun p F' H' g a' E' => rest p _ F' H' a' E' D fun σ2 F2 H2 g2 E2 => k σ2 F2 H2 (g.trans0 g2) E2
  | rt d => exact fun σ F H a E D k => step σ F H a E D fun p F' H' g a' E' => rest p _ F' H' a' E' D fun v F2 H2 g2 E2 => k v F2 H2 (g.trans0 g2) E2
/-- an item of a list that is being changed -/
theorem rd_ixLm {a : Addr} {vs : List V} {ds : List Da} {i : Int} {z : Da} (hB : B a = some (.lst vs)) (hd : DtA F0 vs ds) (h : atI ds i = some z) : RD F0 B (rIxL K) (.ob (.ref a)) (.int i) z := rd_val fun F H v u at_ dx dy Q q => by
  obtain ⟨j, e1, e2, hj, _⟩ := atI_get h
  obtain ⟨w, e3, hw⟩ := hd.get e2
  refine ⟨a, vs, i, w, dx.of_ob, dy.of_int, SqL.of (at_.b _ _ hB), ?_, q w (hw.mono at_.f)⟩
  unfold atI at h ⊢
  rw [hd.length]
  cases q2 : ixN ds.length i with
  | none => rw [q2] at h; cases h
  | some k =>
    have := ixN_seq q2
    rw [this.1] at e1
    cases e1
    exact e3
theorem ixN_nat {n i : Nat} (h : i < n) : ixN n (i : Int) = some i := by
  unfold ixN
  rw [if_pos (by omega), if_pos (by omega)]
  simp
/-- xs = list(tuple), to be changed -/
theorem newL_seq {D : Ends} {u : TS} {j : Nat} {ds : List Da} (h : Dv F H te ρ (.tup ds)) (sm : Same F H) (E : Env F σ ρ) (k : ∀ a F' H' ys, H a = none → F' a = none → Gr [] F H F' H' → H' a = some (.lst ys) → DtA F' ys ds → Env F' (σ.set j (some (.ref a))) (ρ.set j (some (.ob (.ref a)))) → u D (σ.set j (some (.ref a))) H') : tSeq (tAsg (tCB (rListOf K) (tCons te tNil)) (gName j)) u D σ H := by
  refine h.run sm E fun v F1 H1 g1 d1 => ?_
  obtain ⟨a0, ys, rfl, ha0, hys⟩ := d1.of_tup
  refine ⟨a0, ys, rfl, .inr (SqT.of (g1.fh _ _ ha0)), fun a ha => ?_⟩
  have nF : F1 a = none := by
    cases e : F1 a with
    | none => rfl
    | some o => rw [g1.fh _ _ e] at ha; cases ha
  have nH : H a = none := by
    cases e : H a with
    | none => rfl
    | some o => rw [g1.same _ _ e] at ha; cases ha
  exact k a F1 _ ys nH nF (g1.trans0 (Gr.newM g1.fh ha)) upd_same hys ((E.mono g1.ff).set (.ob _))
/-- xs[i] = x, xs a list that is being changed -/
theorem setL_run {D : Ends} {a : Addr} {vs : List V} {ds : List Da} {i : Nat} {x : Da} (hv : Dv F H tv ρ x) (hl : ∀ F H, Dv F H td ρ (.ob (.ref a))) (hi : ∀ F H, Dv F H ty ρ (.int i)) (ha : H a = some (.lst vs)) (hd : DtA F vs ds) (nF : F a = none) (hlt : i < ds.length) (sm : Same F H) (E : Env F σ ρ)
    (k : ∀ F' H' vs', Gr [a] F H F' H' → H' a = some (.lst vs') → DtA F' vs' (ds.set i x) → F' a = none → Env F' σ ρ → D.nx σ H') : tAsg tv (gSub td ty rSetL) D σ H := by
  refine hv.run sm E fun v F1 H1 g1 d1 => ?_
  refine (hl F1 H1).run g1.fh (E.mono g1.ff) fun w F2 H2 g2 d2 => ?_
  refine (hi F2 H2).run g2.fh ((E.mono g1.ff).mono g2.ff) fun y F3 H3 g3 d3 => ?_
  have g := (g1.trans0 g2).trans0 g3
  have h3 := g.same _ _ ha
  have n3 : F3 a = none := by rw [g.nw a _ ha rfl]; exact nF
  refine ⟨a, vs, i, i, (d2.mono g3.ff).of_ob, d3.of_int, h3, ixN_nat (by rw [hd.length]; exact hlt), ?_⟩
  exact k F3 _ _ (g.after (Gr.put g3.fh n3)) upd_same ((hd.mono g.ff).set ((d1.mono g2.ff).mono g3.ff) i) n3 (E.mono g.ff)
end
theorem set_one {α : Type} {l : List α} {i : Nat} (x : α) (h : i < l.length) : l.set i x = l.take i ++ ([x] ++ l.drop (i + 1)) := by
  rw [List.set_eq_take_append_cons_drop, if_pos h]
  rfl
theorem set_two {α : Type} {l : List α} {i : Nat} (x y : α) (h : i + 1 < l.length) : (l.set i x).set (i + 1) y = l.take i ++ ([x, y] ++ l.drop (i + 2)) := by
  refine List.ext_getElem? fun j => ?_
  rw [List.getElem?_set, List.length_set, List.getElem?_set]
  by_cases h1 : j < i
  · rw [List.getElem?_append_left (by rw [List.length_take]; omega), if_neg (by omega), if_neg (by omega), List.getElem?_take_of_lt h1]
  · rw [List.getElem?_append_right (by rw [List.length_take]; omega), List.length_take, Nat.min_eq_left (by omega)]
    by_cases h2 : j = i
    · subst h2
      rw [if_neg (by omega), if_pos rfl, if_pos (by omega)]
      simp
    · by_cases h3 : j = i + 1
      · subst h3
        rw [if_pos rfl, if_pos (by omega), show i + 1 - i = 1 by omega]
        rfl
      · rw [if_neg (by omega), if_neg (by omega), List.getElem?_append_right (by simp; omega), List.getElem?_drop]
        congr 1
        simp
        omega
abbrev N_w_is_deed : List Str := ["_law_shape_here", "_law_item", "_law_most"]
abbrev P_w_is_deed : List Str := ["_law_shape_here", "_law_item"]
theorem sc_w_is_deed : FnScope N_w_is_deed P_w_is_deed (defScope s_w_is_deed) := ⟨rfl, rfl, rfl, by decide +kernel, rfl, by decide +kernel, by decide +kernel⟩
theorem b_w_is_deed : BindsD d_w_is_deed P_w_is_deed := fun _ _ _ _ _ _ us hl => match us, hl with | [_, _], _ => rfl
abbrev N_w_moved : List Str := ["_law_stand", "_law_deed", "_law_found", "_law_word_here", "_law_at"]
abbrev P_w_moved : List Str := ["_law_stand", "_law_deed"]
theorem sc_w_moved : FnScope N_w_moved P_w_moved (defScope s_w_moved) := ⟨rfl, rfl, rfl, by decide +kernel, rfl, by decide +kernel, by decide +kernel⟩
theorem b_w_moved : BindsD d_w_moved P_w_moved := fun _ _ _ _ _ _ us hl => match us, hl with | [_, _], _ => rfl

section
variable {P : Program} {w : World} {K : PySem.W.Frag} {mg : Str → Option Value} {base : Heap}
theorem ok_w_is_deed (T : Txt K mg) (G_w_within : Ok P w K mg base CX0 2 d_w_within P_w_within (spD R_is_within)) : Ok P w K mg base CX0 3 d_w_is_deed P_w_is_deed (spD R_w_is_deed) := by
  refine okD T.f_w_is_deed sc_w_is_deed b_w_is_deed (fun ds r h => ?_) fun cdv A outer s H E hr => ⟨_, (pss_cons (ps_if (PW.pt (pw_or (pt_not (pt_val (pe_callB (kcall_isi (K := K)) (by rfl) T.n_isinstance (by decide +kernel) (pa_cons (pv 1) (pa_cons (pe_bltn (v := .ty "tuple") (u := .type "tuple") rfl T.n_tuple (by decide +kernel) rfl) pa_nil))))) (pw_or (pt_cmpR op_ne (pe_callB (kcall_len (K := K)) (by rfl) T.n_len (by decide +kernel) (pa_cons (pv 1) pa_nil)) pe_int (nomark _)) (pw_or1 (pt_not (pt_val (pe_callB (kcall_isi (K := K)) (by rfl) T.n_isinstance (by decide +kernel) (pa_cons (pe_ix (kix_tup (K := K)) (pv 1) pe_int (fun _ _ => rfl)) (pa_cons (pe_bltn (v := .ty "str") (u := .type "str") rfl T.n_str (by decide +kernel) rfl) pa_nil))))))))) (pss_one (ps_ret pe_bl)) pss_nil)
  (pss_cons (ps_set (i := 2) sc_w_is_deed.nd rfl (.inl rfl) (pe_disp (pps_cons pe_str (pe_op op_sub (pe_ix (kix_tup (K := K)) (pv 0) pe_int (fun _ _ => rfl)) pe_int) (pps_cons pe_str (pe_op op_sub (pe_ix (kix_tup (K := K)) (pv 0) pe_int (fun _ _ => rfl)) pe_int) (pps_cons pe_str (pe_op op_sub (pe_ix (kix_tup (K := K)) (pv 0) pe_int (fun _ _ => rfl)) pe_int) (pps_cons pe_str (pe_op op_sub (pe_ix (kix_tup (K := K)) (pv 0) pe_int (fun _ _ => rfl)) pe_int) (pps_cons pe_str pe_int pps_nil))))) (by rfl) (by rfl) (fun z => by cases z) (by decide)))
  (pss_one (ps_ret (pe_callO G_w_within (hr.mono (by decide)) rfl T.g_w_within pass0 (pa_cons (pe_ix (kix_tup (K := K)) (pv 1) pe_int (fun _ _ => rfl)) (pa_cons (pe_callTy call_int1 (by rfl) T.n_int (by decide +kernel) (pa_cons (pe_cmpR op_eq (pe_ix (kix_tup (K := K)) (pv 1) pe_int (fun _ _ => rfl)) pe_str (nomark _)) pa_nil)) (pa_cons (pe_dget2 (hu_of hr) (pv 2) (pe_ix (kix_tup (K := K)) (pv 1) pe_int (fun _ _ => rfl)) (pe_un un_neg pe_int) ⟨by rfl, by rfl, by rfl, by rfl⟩) pa_nil)))))))), fun ds r h => ?_⟩
  · obtain ⟨m, w, t, rfl, _⟩ := h
    rfl
  · obtain ⟨m, w, t, rfl, hp, rfl⟩ := h
    have ho := plain_ob hp
    refine sv_rho (ρ := [some (shD m w), some t, none]) rfl ?_
    cases t with
    | tup xs =>
      have nope : (∀ s a, xs ≠ [.str s, a]) → deedB m (.tup xs) = false := fun q => by
        unfold deedB
        split
        · rename_i s a e
          cases e
          exact absurd rfl (q s a)
        · rfl
      match xs, hp with
      | [a, b], hp =>
        have p := plain_tup hp
        have ha := plain_ob (p a (by simp))
        have hb := plain_ob (p b (by simp))
        cases a with
        | str s =>
          refine sv_ifS (dt_or (dt_not (dt_val (dv_cb (da_cons (dv_var rfl) (da_cons dv_ty da_nil)) (rc_isi (n := ho))))) fun _ => dt_or (dt_test (dv_op (dv_cb (da_cons (dv_var rfl) da_nil) rc_lenT) dv_int rd_neI)) fun _ => dt_not (dt_val (dv_cb (da_cons (dv_op (dv_var rfl) dv_int (rd_ixT (by rfl))) (da_cons dv_ty da_nil)) (rc_isi (n := ha))))) (fun b => by simp [Da.isT] at b) fun _ => sv_nextS ?_
          refine sv_disp (ks := [("press", (m : Int) - 2), ("swap", (m : Int) - 2), ("over", (m : Int) - 1), ("about", (m : Int) - 1), ("wait", 9)]) (.cons dv_str (dv_op (dv_op (dv_var rfl) dv_int (rd_ixT (by rfl))) dv_int rd_I0) (.cons dv_str (dv_op (dv_op (dv_var rfl) dv_int (rd_ixT (by rfl))) dv_int rd_I0) (.cons dv_str (dv_op (dv_op (dv_var rfl) dv_int (rd_ixT (by rfl))) dv_int rd_I0) (.cons dv_str (dv_op (dv_op (dv_var rfl) dv_int (rd_ixT (by rfl))) dv_int rd_I0) (.cons dv_str dv_int .nil))))) (Nat.le_of_ble_eq_true rfl) (by decide +kernel : ([("press" : Str), "swap", "over", "about", "wait"] : List Str).Nodup) fun q => ?_
          have hv : valV (([("press", (m : Int) - 2), ("swap", (m : Int) - 2), ("over", (m : Int) - 1), ("about", (m : Int) - 1), ("wait", 9)] : List (Str × Int)).map kInt) (.inr s) = (if s = "press" ∨ s = "swap" then some ((m : Int) - 2) else if s = "over" ∨ s = "about" then some ((m : Int) - 1) else if s = "wait" then some 9 else none).map V.int := by
            have pos : ∀ (a : Str) (i : Int) (r : List (Key × V)), s = a → valV (kInt (a, i) :: r) (.inr s) = some (.int i) := fun a i r e => valV_pos (by rw [e]; rfl)
            have neg : ∀ (a : Str) (i : Int) (r : List (Key × V)), s ≠ a → valV (kInt (a, i) :: r) (.inr s) = valV r (.inr s) := fun a i r e => valV_neg fun z => e (Sum.inr.inj z).symm
            simp only [List.map_cons, List.map_nil]
            by_cases h1 : s = "press"
            · rw [pos _ _ _ h1, if_pos (.inl h1)]; rfl
            · rw [neg _ _ _ h1]
              by_cases h2 : s = "swap"
              · rw [pos _ _ _ h2, if_pos (.inr h2)]; rfl
              · rw [neg _ _ _ h2, if_neg (fun z => z.elim h1 h2)]
                by_cases h3 : s = "over"
                · rw [pos _ _ _ h3, if_pos (.inl h3)]; rfl
                · rw [neg _ _ _ h3]
                  by_cases h4 : s = "about"
                  · rw [pos _ _ _ h4, if_pos (.inr h4)]; rfl
                  · rw [neg _ _ _ h4, if_neg (fun z => z.elim h3 h4)]
                    by_cases h5 : s = "wait"
                    · rw [pos _ _ _ h5, if_pos h5]; rfl
                    · rw [neg _ _ _ h5, if_neg h5]; rfl
          refine sv_ret (dv_to (dv_call (da_cons (dv_op (dv_var rfl) dv_int (rd_ixT (by rfl))) (da_cons (dv_cb (da_cons (dv_op (dv_op (dv_var rfl) dv_int (rd_ixT (by rfl))) dv_str rd_eqS) da_nil) rc_intB) (da_cons (dv_dget2 (dv_var rfl) upd_same (dv_op (dv_var rfl) dv_int (rd_ixT (by rfl))) (dv_un dv_int (fun F H v at_ dx Q k => ⟨1, dx.of_int, k _ F H (.refl at_.h) (.int _)⟩ : RU _ _ _ (.int 1) (.int (-1)))) hv) da_nil))) ⟨_, _, _, rfl, hb, rfl⟩) ?_)
          congr 1
          show withinB _ _ b = (if s = "press" ∨ s = "swap" then withinB 0 (m - 2) b else if s = "over" ∨ s = "about" then withinB 0 (m - 1) b else decide (s = "wait") && withinB 1 9 b)
          by_cases h1 : s = "press" ∨ s = "swap"
          · have hw : ¬ s = "wait" := by rcases h1 with rfl | rfl <;> decide +kernel
            rw [if_pos h1, if_pos h1, decide_eq_false hw]
            rfl
          · rw [if_neg h1, if_neg h1]
            by_cases h2 : s = "over" ∨ s = "about"
            · have hw : ¬ s = "wait" := by rcases h2 with rfl | rfl <;> decide +kernel
              rw [if_pos h2, if_pos h2, decide_eq_false hw]
              rfl
            · rw [if_neg h2, if_neg h2]
              by_cases h3 : s = "wait"
              · rw [if_pos h3, decide_eq_true h3]
                rfl
              · rw [if_neg h3, decide_eq_false h3]
                show withinB 0 (-1) b = false
                cases b with
                | int i => simp [withinB]; omega
                | _ => rfl
        | _ =>
          first
          | (cases ha; done)
          | (refine sv_ifS (dt_or (dt_not (dt_val (dv_cb (da_cons (dv_var rfl) (da_cons dv_ty da_nil)) (rc_isi (n := ho))))) fun _ => dt_or (dt_test (dv_op (dv_cb (da_cons (dv_var rfl) da_nil) rc_lenT) dv_int rd_neI)) fun _ => dt_not (dt_val (dv_cb (da_cons (dv_op (dv_var rfl) dv_int (rd_ixT (by rfl))) (da_cons dv_ty da_nil)) (rc_isi (n := ha))))) (fun b => sv_seqR (sv_ret (dv_to dv_bl ?_))) fun b => by simp [Da.isT] at b
             rw [nope (by intro s a z; cases z)])
      | [], hp | [_], hp | _ :: _ :: _ :: _, hp =>
        refine sv_ifS (dt_or (dt_not (dt_val (dv_cb (da_cons (dv_var rfl) (da_cons dv_ty da_nil)) (rc_isi (n := ho))))) fun _ => dt_or (c := false) (dt_test (dv_op (dv_cb (da_cons (dv_var rfl) da_nil) rc_lenT) dv_int rd_neI)) fun q => by exfalso; revert q; simp <;> omega) (fun b => sv_seqR (sv_ret (dv_to dv_bl ?_))) fun b => by simp [Da.isT] at b <;> omega
        rw [nope (by intro s a z; cases z)]
    | _ =>
      first
      | (cases ho; done)
      | exact sv_ifS (dt_or (c := false) (dt_not (dt_val (dv_cb (da_cons (dv_var rfl) (da_cons dv_ty da_nil)) (rc_isi (n := ho))))) fun b => by simp [Da.isT] at b) (fun b => sv_seqR (sv_ret (dv_to dv_bl rfl))) fun b => by simp [Da.isT] at b
/-- what is left of a run over a list of our own -/
theorem ok_w_moved (T : Txt K mg) : Ok P w K mg base CX0 1 d_w_moved P_w_moved (spD R_moved) := by
  refine okN T.f_w_moved sc_w_moved b_w_moved (fun vs H Q E h => ?_) fun cdv A outer s H vs Q E hr h => ?_
  · obtain ⟨_, ds, r, _, hd, ⟨st, dd, rfl, _⟩, _⟩ := h
    rw [hd.length]
    rfl
  · obtain ⟨F, ds, r, sm, hd, ⟨st, dd, rfl, hok, hle, rfl⟩, q⟩ := h
    refine ⟨_, (pss_cons (ps_set (i := 2) sc_w_moved.nd rfl (.inl rfl) (pe_callTy (kcall_list (K := K)) (by rfl) T.n_list (by decide +kernel) (pa_cons (pv 0) pa_nil)))
  (pss_cons (ps_asg (pv 1) (kpg_tup (K := K) (n := 2) rfl (pgs_cons (pg_name (i := 3) sc_w_moved.nd rfl (.inl rfl)) (pgs_cons (pg_name (i := 4) sc_w_moved.nd rfl (.inl rfl)) pgs_nil))))
  (pss_cons (ps_if (pt_cmpR op_eq (pv 3) pe_str (nomark _)) (pss_one (ps_asg (pe_tup (pa_cons (pe_ix (kix_list (K := K)) (pv 2) (pe_op op_add (pv 4) pe_int) (fun _ _ => rfl)) (pa_cons (pe_ix (kix_list (K := K)) (pv 2) (pv 4) (fun _ _ => rfl)) pa_nil))) (kpg_tup (K := K) (n := 2) rfl (pgs_cons (pg_sub (pv 2) (pv 4) set_list) (pgs_cons (pg_sub (pv 2) (pe_op op_add (pv 4) pe_int) set_list) pgs_nil))))) pss_nil)
  (pss_cons (ps_if (pt_cmpR op_eq (pv 3) pe_str (nomark _)) (pss_one (ps_asg (pe_tup (pa_cons (pe_ix (kix_tup (K := K)) (pe_ix (kix_list (K := K)) (pv 2) (pv 4) (fun _ _ => rfl)) pe_int (fun _ _ => rfl)) (pa_cons (pe_op op_sub pe_int (pe_ix (kix_tup (K := K)) (pe_ix (kix_list (K := K)) (pv 2) (pv 4) (fun _ _ => rfl)) pe_int (fun _ _ => rfl))) (pa_cons (pe_ix (kix_tup (K := K)) (pe_ix (kix_list (K := K)) (pv 2) (pv 4) (fun _ _ => rfl)) pe_int (fun _ _ => rfl)) pa_nil)))) (pg_sub (pv 2) (pv 4) set_list))) pss_nil)
  (pss_cons (ps_if (pt_cmpR op_eq (pv 3) pe_str (nomark _)) (pss_one (ps_asg (pe_tup (pa_cons (pe_ix (kix_tup (K := K)) (pe_ix (kix_list (K := K)) (pv 2) (pv 4) (fun _ _ => rfl)) pe_int (fun _ _ => rfl)) (pa_cons (pe_ix (kix_tup (K := K)) (pe_ix (kix_list (K := K)) (pv 2) (pv 4) (fun _ _ => rfl)) pe_int (fun _ _ => rfl)) (pa_cons (pe_op op_sub pe_int (pe_ix (kix_tup (K := K)) (pe_ix (kix_list (K := K)) (pv 2) (pv 4) (fun _ _ => rfl)) pe_int (fun _ _ => rfl))) pa_nil)))) (pg_sub (pv 2) (pv 4) set_list))) pss_nil)
  (pss_one (ps_ret (pe_callTy (kcall_tuple (K := K)) (by rfl) T.n_tuple (by decide +kernel) (pa_cons (pv 2) pa_nil))))))))), ?_⟩
    have E0 : Env F (L2.start N_w_moved vs) [some (stD st), some (ddD dd), none, none, none] := env_start hd
    refine newL_seq (dv_var rfl) sm E0 fun a F0 H0 ys ha nF g0 ha0 hys E1 => ?_
    -- the end: the list becomes a tuple
    have fin : ∀ (σ : LSt) (F1 H1 : Hp) (ρ : Rho) (vs1 : List V) (ds1 : List Da), ρ[2]? = some (some (.ob (.ref a))) → Env F1 σ ρ → Gr [a] F0 H0 F1 H1 → H1 a = some (.lst vs1) → DtA F1 vs1 ds1 → F1 a = none → ds1 = (dd.move st).map triD → tRet (tCB (rTupOf K) (tCons (tVar 2) tNil)) { nx := fun _ H' => Q .non H', rt := Q } σ H1 := fun σ F1 H1 ρ vs1 ds1 hρ E2 g1 h1 d1 n1 e => by
      obtain ⟨v2, e2, h2⟩ := E2.at_ 2 _ hρ
      rw [h2.of_ob] at e2
      refine ⟨_, e2, a, vs1, rfl, .inl ⟨SqL.of h1, fun l hl => ?_⟩⟩
      have gA : Gr [] F H F1 H1 := ⟨g0.ff.trans g1.ff, g1.fh, fun b o _ e => g1.hh b o (by simpa using ne_of_none e ha) (g0.same _ _ e), fun b o e t => by rw [g1.nw b o (g0.same _ _ e) t, g0.nw b o e t]⟩
      have gN := Gr.new (o := .tup vs1) g1.fh hl
      refine q _ _ _ (gA.trans0 gN) ?_
      rw [show stD (dd.move st) = .tup ds1 by unfold stD; rw [e]]
      exact .tup upd_same (d1.mono gN.ff)
    have lst : (st.map triD).length = st.length := List.length_map _
    have ga : ∀ (n : Nat), n < st.length → atI (st.map triD) (n : Int) = some (triD (st.getD n (0, 0, 0))) := fun n hn => at_map rfl (getD_at hn)
    cases dd with
    | press g =>
      refine Sv.seq (sv_un2 (dv_var rfl)) g0.fh E1 fun σ2 F2 H2 g2 E2 => ?_
      have h2 := g2.same _ _ ha0
      have n2 : F2 a = none := by rw [g2.nw a _ ha0 rfl]; exact nF
      refine (dt_test (dv_op (dv_var rfl) dv_str rd_eqS)).run g2.fh E2 fun F3 H3 g3 => iteF' (by decide +kernel) ?_
      refine (dt_test (dv_op (dv_var rfl) dv_str rd_eqS)).run g3.fh (E2.mono g3.ff) fun F4 H4 g4 => iteF' (by decide +kernel) ?_
      refine (dt_test (dv_op (dv_var rfl) dv_str rd_eqS)).run g4.fh ((E2.mono g3.ff).mono g4.ff) fun F5 H5 g5 => iteF' (by decide +kernel) ?_
      have gg := ((g2.trans0 g3).trans0 g4).trans0 g5
      exact fin _ F5 H5 _ ys _ rfl (((E2.mono g3.ff).mono g4.ff).mono g5.ff) gg.wide (gg.same _ _ ha0) (hys.mono gg.ff) (by rw [gg.nw a _ ha0 rfl]; exact nF) rfl
    | wait g =>
      refine Sv.seq (sv_un2 (dv_var rfl)) g0.fh E1 fun σ2 F2 H2 g2 E2 => ?_
      refine (dt_test (dv_op (dv_var rfl) dv_str rd_eqS)).run g2.fh E2 fun F3 H3 g3 => iteF' (by decide +kernel) ?_
      refine (dt_test (dv_op (dv_var rfl) dv_str rd_eqS)).run g3.fh (E2.mono g3.ff) fun F4 H4 g4 => iteF' (by decide +kernel) ?_
      refine (dt_test (dv_op (dv_var rfl) dv_str rd_eqS)).run g4.fh ((E2.mono g3.ff).mono g4.ff) fun F5 H5 g5 => iteF' (by decide +kernel) ?_
      have gg := ((g2.trans0 g3).trans0 g4).trans0 g5
      exact fin _ F5 H5 _ ys _ rfl (((E2.mono g3.ff).mono g4.ff).mono g5.ff) gg.wide (gg.same _ _ ha0) (hys.mono gg.ff) (by rw [gg.nw a _ ha0 rfl]; exact nF) rfl
    | over g =>
      have hg : g < st.length := hok
      refine Sv.seq (sv_un2 (dv_var rfl)) g0.fh E1 fun σ2 F2 H2 g2 E2 => ?_
      refine (dt_test (dv_op (dv_var rfl) dv_str rd_eqS)).run g2.fh E2 fun F3 H3 g3 => iteF' (by decide +kernel) ?_
      refine (dt_test (dv_op (dv_var rfl) dv_str rd_eqS)).run g3.fh (E2.mono g3.ff) fun F4 H4 g4 => iteT' (by decide +kernel) ?_
      have gg := (g2.trans0 g3).trans0 g4
      have h4 := gg.same _ _ ha0
      have n4 : F4 a = none := by rw [gg.nw a _ ha0 rfl]; exact nF
      have E4 := (E2.mono g3.ff).mono g4.ff
      have d4 := hys.mono gg.ff
      refine setL_run (i := g) (x := triD ((st.getD g (0, 0, 0)).1, 1 - (st.getD g (0, 0, 0)).2.1, (st.getD g (0, 0, 0)).2.2)) (dv_tup (da_cons (dv_op (dv_op (dv_var rfl) (dv_var rfl) (rd_ixLm h4 d4 (ga g hg))) dv_int (rd_ixT (by rfl))) (da_cons (dv_op dv_int (dv_op (dv_op (dv_var rfl) (dv_var rfl) (rd_ixLm h4 d4 (ga g hg))) dv_int (rd_ixT (by rfl))) rd_I0) (da_cons (dv_op (dv_op (dv_var rfl) (dv_var rfl) (rd_ixLm h4 d4 (ga g hg))) dv_int (rd_ixT (by rfl))) da_nil))) (small_ rfl)) (fun _ _ => dv_var rfl) (fun _ _ => dv_var rfl) h4 d4 n4 (by rw [lst]; exact hg) g4.fh E4 fun F5 H5 vs5 g5 h5 d5 n5 E5 => ?_
      refine (dt_test (dv_op (dv_var rfl) dv_str rd_eqS)).run g5.fh E5 fun F6 H6 g6 => iteF' (by decide +kernel) ?_
      refine fin _ F6 H6 _ vs5 _ rfl (E5.mono g6.ff) ((gg.after g5).then1 (g6.wide (M := [a])) h5 rfl) (g6.same _ _ h5) (d5.mono g6.ff) (by rw [g6.nw a _ h5 rfl]; exact n5) ?_
      rw [← List.map_set, set_one _ hg]
      rfl
    | about g =>
      have hg : g < st.length := hok
      refine Sv.seq (sv_un2 (dv_var rfl)) g0.fh E1 fun σ2 F2 H2 g2 E2 => ?_
      refine (dt_test (dv_op (dv_var rfl) dv_str rd_eqS)).run g2.fh E2 fun F3 H3 g3 => iteF' (by decide +kernel) ?_
      refine (dt_test (dv_op (dv_var rfl) dv_str rd_eqS)).run g3.fh (E2.mono g3.ff) fun F4 H4 g4 => iteF' (by decide +kernel) ?_
      refine (dt_test (dv_op (dv_var rfl) dv_str rd_eqS)).run g4.fh ((E2.mono g3.ff).mono g4.ff) fun F5 H5 g5 => iteT' (by decide +kernel) ?_
      have gg := ((g2.trans0 g3).trans0 g4).trans0 g5
      have h4 := gg.same _ _ ha0
      have n4 : F5 a = none := by rw [gg.nw a _ ha0 rfl]; exact nF
      have E4 := ((E2.mono g3.ff).mono g4.ff).mono g5.ff
      have d4 := hys.mono gg.ff
      refine setL_run (i := g) (x := triD ((st.getD g (0, 0, 0)).1, (st.getD g (0, 0, 0)).2.1, 1 - (st.getD g (0, 0, 0)).2.2)) (dv_tup (da_cons (dv_op (dv_op (dv_var rfl) (dv_var rfl) (rd_ixLm h4 d4 (ga g hg))) dv_int (rd_ixT (by rfl))) (da_cons (dv_op (dv_op (dv_var rfl) (dv_var rfl) (rd_ixLm h4 d4 (ga g hg))) dv_int (rd_ixT (by rfl))) (da_cons (dv_op dv_int (dv_op (dv_op (dv_var rfl) (dv_var rfl) (rd_ixLm h4 d4 (ga g hg))) dv_int (rd_ixT (by rfl))) rd_I0) da_nil))) (small_ rfl)) (fun _ _ => dv_var rfl) (fun _ _ => dv_var rfl) h4 d4 n4 (by rw [lst]; exact hg) g5.fh E4 fun F6 H6 vs5 g6 h5 d5 n5 E5 => ?_
      refine fin _ F6 H6 _ vs5 _ rfl E5 (gg.after g6) h5 d5 n5 ?_
      rw [← List.map_set, set_one _ hg]
      rfl
    | swap g =>
      have hg : g + 1 < st.length := hok
      refine Sv.seq (sv_un2 (dv_var rfl)) g0.fh E1 fun σ2 F2 H2 g2 E2 => ?_
      refine (dt_test (dv_op (dv_var rfl) dv_str rd_eqS)).run g2.fh E2 fun F3 H3 g3 => iteT' (by decide +kernel) ?_
      have gg := g2.trans0 g3
      have h4 := gg.same _ _ ha0
      have n4 : F3 a = none := by rw [gg.nw a _ ha0 rfl]; exact nF
      have E4 := E2.mono g3.ff
      have d4 := hys.mono gg.ff
      have hj : atI (st.map triD) ((g : Int) + 1) = some (triD (st.getD (g + 1) (0, 0, 0))) := ga (g + 1) hg
      -- the pair, then both stores
      refine (dv_tup (da_cons (dv_op (dv_var rfl) (dv_op (dv_var rfl) dv_int rd_I0) (rd_ixLm h4 d4 hj)) (da_cons (dv_op (dv_var rfl) (dv_var rfl) (rd_ixLm h4 d4 (ga g (by omega)))) da_nil)) (small_ rfl)).run g3.fh E4 fun v5 F5 H5 g5 d5 => ?_
      obtain ⟨pt, zs, rfl, hpt, hzs⟩ := d5.of_tup
      obtain ⟨z1, z2, rfl, hz1, hz2⟩ := hzs.two
      have E5 := E4.mono g5.ff
      have h5 := g5.same _ _ h4
      have n5 : F5 a = none := by rw [g5.nw a _ h4 rfl]; exact n4
      have dd5 := d4.mono g5.ff
      have l5 := dd5.length
      rw [lst] at l5
      obtain ⟨w1, ew1, hw1⟩ := E5.at_ 2 _ rfl
      rw [hw1.of_ob] at ew1
      obtain ⟨w2, ew2, hw2⟩ := E5.at_ 4 _ rfl
      rw [hw2.of_int] at ew2
      refine ⟨pt, _, rfl, SqT.of (g5.fh _ _ hpt), rfl, z1, [z2], rfl, ⟨_, ew1, _, ew2, a, ys, g, g, rfl, rfl, h5, ixN_nat (by omega), ?_⟩⟩
      refine ⟨z2, [], rfl, ⟨_, ew1, ?_⟩⟩
      refine (dv_op (dv_var rfl) dv_int rd_I0 : Dv F5 (upd H5 a (.lst (ys.set g z1))) _ _ (.int ((g : Int) + 1))).run (fun b o e => by rw [upd_ne (ne_of_none e n5)]; exact g5.fh _ _ e) E5 fun v6 F6 H6 g6 d6 => ?_
      have h6 : H6 a = some (.lst (ys.set g z1)) := g6.same _ _ upd_same
      have n6 : F6 a = none := by rw [g6.nw a _ upd_same rfl]; exact n5
      refine ⟨a, _, ((g + 1 : Nat) : Int), g + 1, rfl, d6.of_int, h6, ixN_nat (by rw [List.length_set]; omega), rfl, ?_⟩
      have E6 := E5.mono g6.ff
      have gP : Gr [a] F5 H5 F5 (upd H5 a (.lst (ys.set g z1))) := Gr.put g5.fh n5
      have gQ : Gr [a] F6 H6 F6 (upd H6 a (.lst ((ys.set g z1).set (g + 1) z2))) := Gr.put g6.fh n6
      have d7 : DtA F6 ((ys.set g z1).set (g + 1) z2) (((st.map triD).set g (triD (st.getD (g + 1) (0, 0, 0)))).set (g + 1) (triD (st.getD g (0, 0, 0)))) := ((dd5.set hz1 g).set hz2 (g + 1)).mono g6.ff
      have gT : Gr [a] F0 H0 F6 (upd H6 a (.lst ((ys.set g z1).set (g + 1) z2))) := ((gg.trans0 g5).after gP).then1 (g6.after gQ) upd_same rfl
      refine (dt_test (dv_op (dv_var rfl) dv_str rd_eqS)).run gT.fh E6 fun F8 H8 g8 => iteF' (by decide +kernel) ?_
      refine (dt_test (dv_op (dv_var rfl) dv_str rd_eqS)).run g8.fh (E6.mono g8.ff) fun F9 H9 g9 => iteF' (by decide +kernel) ?_
      have g89 := g8.trans0 g9
      refine fin _ F9 H9 _ _ _ rfl ((E6.mono g8.ff).mono g9.ff) (gT.then1 (g89.wide (M := [a])) upd_same rfl) (g89.same _ _ upd_same) (d7.mono g89.ff) (by rw [g89.nw a _ upd_same rfl]; exact n6) ?_
      rw [← List.map_set, ← List.map_set, set_two _ _ hg]
      rfl
end
end Bb
/-! BbL -/
/-! A state of the leaves: plain, and by heap. -/
namespace Bb
open PySem PySem.Spec PyProof.Rows L2
structure Stt where
  st : List Tri
  now : Int
  cs : List (Str × Mp)
  bk : List Da
structure StdOk (m : Nat) (st : List Tri) : Prop where
  len : st.length = m
  nd : (st.map (·.1)).Nodup
  inn : ∀ p ∈ st, (0 ≤ p.1 ∧ p.1 < m) ∧ (p.2.1 = 0 ∨ p.2.1 = 1) ∧ (p.2.2 = 0 ∨ p.2.2 = 1)
structure SttOk (m w : Nat) (L : Stt) : Prop where
  std : StdOk m L.st
  now : 0 ≤ L.now
  mks : ∀ c ∈ L.cs, Gm L.now c.2 ∧ Sup (spotsL m w) c.2
  nm : ∀ c ∈ L.cs, nameB (.str c.1) = true
  nd : (L.cs.map (·.1)).Nodup
/-! ### dicts by colours -/
def kvsO (cs : List (Str × Mp)) (ps : List Addr) : List (Key × V) := (cs.zip ps).map fun z => (Sum.inr z.1.1, V.ref z.2)
structure RepO (G F : Hp) (q : Addr) (ps : List Addr) (cs : List (Str × Mp)) : Prop where
  len : ps.length = cs.length
  d : G q = some (.dK (kvsO cs ps))
  nd : ps.Nodup
  names : (cs.map (·.1)).Nodup
  inn : ∀ (i : Nat) (c : Str × Mp) (p : Addr), cs[i]? = some c → ps[i]? = some p → ∃ tks, G p = some (.dT tks) ∧ RepT F tks c.2
theorem kvsO_len {cs : List (Str × Mp)} {ps : List Addr} (h : ps.length = cs.length) : (kvsO cs ps).length = cs.length := by
  unfold kvsO
  rw [List.length_map, List.length_zip, h, Nat.min_self]
theorem kvsO_get {cs : List (Str × Mp)} {ps : List Addr} {i : Nat} {c : Str × Mp} {p : Addr} (h1 : cs[i]? = some c) (h2 : ps[i]? = some p) : (kvsO cs ps)[i]? = some (Sum.inr c.1, V.ref p) := by
  unfold kvsO
  rw [List.getElem?_map, List.getElem?_zip_eq_some (z := (c, p)) |>.mpr ⟨h1, h2⟩, Option.map_some]
theorem kvsO_keys : ∀ {cs : List (Str × Mp)} {ps : List Addr}, ps.length = cs.length → (kvsO cs ps).map (·.1) = (cs.map (·.1)).map Sum.inr
  | [], _, _ => rfl
  | c :: cs, [], h => by cases h
  | c :: cs, p :: ps, h => by
    have ih := kvsO_keys (cs := cs) (ps := ps) (by simpa using h)
    show Sum.inr c.1 :: (kvsO cs ps).map (·.1) = Sum.inr c.1 :: _
    rw [ih]
theorem valV_at {κ : Type} [DecidableEq κ] : ∀ {kvs : List (κ × V)} {i : Nat} {k : κ} {v : V}, (kvs.map (·.1)).Nodup → kvs[i]? = some (k, v) → valV kvs k = some v
  | [], _, _, _, _, h => by simp at h
  | x :: r, 0, k, v, _, h => by
    have e : x = (k, v) := by simpa using h
    rw [e]
    exact valV_pos rfl
  | x :: r, i + 1, k, v, nd, h => by
    have h' : r[i]? = some (k, v) := by simpa using h
    rw [List.map_cons] at nd
    have nx := (List.nodup_cons.mp nd).1
    refine (valV_neg fun e => nx ?_).trans (valV_at (List.nodup_cons.mp nd).2 h')
    rw [e]
    exact List.mem_map.mpr ⟨(k, v), List.mem_of_getElem? h', rfl⟩
theorem inr_nodup {l : List Str} (h : l.Nodup) : (l.map (Sum.inr : Str → Key)).Nodup := List.pairwise_map.mpr (h.imp fun q z => q (Sum.inr.inj z))
section
variable {G G' F F' : Hp} {q : Addr} {ps : List Addr} {cs : List (Str × Mp)}
theorem RepO.keys (r : RepO G F q ps cs) : ((kvsO cs ps).map (·.1)).Nodup := by rw [kvsO_keys r.len]; exact inr_nodup r.names
theorem RepO.get (r : RepO G F q ps cs) {i : Nat} {c : Str × Mp} {p : Addr} (h1 : cs[i]? = some c) (h2 : ps[i]? = some p) : valV (kvsO cs ps) (.inr c.1) = some (.ref p) := valV_at r.keys (kvsO_get h1 h2)
theorem RepO.gone (r : RepO G F q ps cs) {c : Str} (h : c ∉ cs.map (·.1)) : valV (kvsO cs ps) (.inr c) = none := by
  refine valV_mem.mpr fun hm => h ?_
  rw [kvsO_keys r.len] at hm
  obtain ⟨x, h1, h2⟩ := List.mem_map.mp hm
  rw [← Sum.inr.inj h2]
  exact h1
theorem RepO.psAt (r : RepO G F q ps cs) {i : Nat} {c : Str × Mp} (h : cs[i]? = some c) : ∃ p, ps[i]? = some p := by
  have := (List.getElem?_eq_some_iff.mp h).1
  exact ⟨_, List.getElem?_eq_getElem (by rw [r.len]; exact this)⟩
theorem RepO.csAt (r : RepO G F q ps cs) {i : Nat} {p : Addr} (h : ps[i]? = some p) : ∃ c, cs[i]? = some c := by
  have := (List.getElem?_eq_some_iff.mp h).1
  exact ⟨_, List.getElem?_eq_getElem (by rw [← r.len]; exact this)⟩
theorem RepO.mono (r : RepO G F q ps cs) (s : Same F F') : RepO G F' q ps cs := ⟨r.len, r.d, r.nd, r.names, fun i c p h1 h2 => let ⟨t, a, b⟩ := r.inn i c p h1 h2; ⟨t, a, b.mono s⟩⟩
theorem RepO.heap (r : RepO G F q ps cs) (hq : G' q = G q) (hp : ∀ p ∈ ps, G' p = G p) : RepO G' F q ps cs := ⟨r.len, hq.trans r.d, r.nd, r.names, fun i c p h1 h2 => let ⟨t, a, b⟩ := r.inn i c p h1 h2; ⟨t, (hp p (List.mem_of_getElem? h2)).trans a, b⟩⟩
theorem RepO.grow (r : RepO G F q ps cs) (s : Same G G') : RepO G' F q ps cs := ⟨r.len, s _ _ r.d, r.nd, r.names, fun i c p h1 h2 => let ⟨t, a, b⟩ := r.inn i c p h1 h2; ⟨t, s _ _ a, b⟩⟩
theorem RepO.ne (r : RepO G F q ps cs) : q ∉ ps := fun hm => by
  obtain ⟨i, hi⟩ := List.mem_iff_getElem?.mp hm
  obtain ⟨c, hc⟩ := r.csAt hi
  obtain ⟨t, e, _⟩ := r.inn i c q hc hi
  rw [r.d] at e
  cases e
theorem RepO.at_ (r : RepO G F q ps cs) {p : Addr} (h : p ∈ ps) : ∃ tks, G p = some (.dT tks) := by
  obtain ⟨i, hi⟩ := List.mem_iff_getElem?.mp h
  obtain ⟨c, hc⟩ := r.csAt hi
  obtain ⟨t, e, _⟩ := r.inn i c p hc hi
  exact ⟨t, e⟩
theorem RepO.nil (h : G q = some (.dK [])) : RepO G F q [] [] := ⟨rfl, h, List.nodup_nil, List.nodup_nil, fun i c p h => by simp at h⟩
/-- one inner dict is changed -/
theorem RepO.set (r : RepO G F q ps cs) {i : Nat} {c : Str × Mp} {p : Addr} {mp : Mp} {tks : List (List Key × V)} (h1 : cs[i]? = some c) (h2 : ps[i]? = some p) (hq : G' q = G q) (hp : ∀ b ∈ ps, b ≠ p → G' b = G b) (he : G' p = some (.dT tks)) (hR : RepT F tks mp) : RepO G' F q ps (cs.set i (c.1, mp)) := by
  have hi := (List.getElem?_eq_some_iff.mp h1).1
  have en : (cs.set i (c.1, mp)).map (·.1) = cs.map (·.1) := by
    rw [List.map_set]
    refine List.ext_getElem? fun j => ?_
    rw [List.getElem?_set]
    split
    · rename_i e
      subst e
      rw [if_pos (by rw [List.length_map]; exact hi), List.getElem?_map, h1]
      rfl
    · rfl
  refine ⟨by rw [List.length_set]; exact r.len, ?_, r.nd, by rw [en]; exact r.names, fun j c' p' e1 e2 => ?_⟩
  · rw [hq, r.d]
    congr 2
    unfold kvsO
    refine List.ext_getElem? fun j => ?_
    rw [List.getElem?_map, List.getElem?_map]
    by_cases hj : j < cs.length
    · have a1 : cs[j]? = some cs[j] := List.getElem?_eq_getElem hj
      have a2 : ps[j]? = some (ps[j]'(by rw [r.len]; exact hj)) := List.getElem?_eq_getElem _
      rw [List.getElem?_zip_eq_some (z := (cs[j], ps[j]'(by rw [r.len]; exact hj))) |>.mpr ⟨a1, a2⟩]
      by_cases e : i = j
      · subst e
        rw [a1] at h1
        cases h1
        rw [List.getElem?_zip_eq_some (z := ((cs[i].1, mp), ps[i]'(by rw [r.len]; exact hj))) |>.mpr ⟨List.getElem?_set_self hi, a2⟩]
        rfl
      · rw [List.getElem?_zip_eq_some (z := (cs[j], ps[j]'(by rw [r.len]; exact hj))) |>.mpr ⟨by rw [List.getElem?_set_ne e]; exact a1, a2⟩]
    · rw [List.getElem?_eq_none (by rw [List.length_zip]; omega), List.getElem?_eq_none (by rw [List.length_zip, List.length_set]; omega)]
  · by_cases e : i = j
    · subst e
      rw [List.getElem?_set_self hi] at e1
      cases e1
      rw [h2] at e2
      cases e2
      exact ⟨tks, he, hR⟩
    · rw [List.getElem?_set_ne e] at e1
      obtain ⟨t, a, b⟩ := r.inn j c' p' e1 e2
      refine ⟨t, ?_, b⟩
      rw [hp p' (List.mem_of_getElem? e2) fun z => e ?_]
      · exact a
      · subst z
        exact (List.getElem?_inj (List.getElem?_eq_some_iff.mp h2).1 r.nd).mp (h2.trans e2.symm)
/-- one more colour -/
theorem RepO.add (r : RepO G F q ps cs) {c : Str} {p : Addr} {mp : Mp} {tks : List (List Key × V)} (hc : c ∉ cs.map (·.1)) (hp : p ∉ ps) (hq : G' q = some (.dK (kvsO cs ps ++ [(.inr c, .ref p)]))) (ho : ∀ b ∈ ps, G' b = G b) (he : G' p = some (.dT tks)) (hR : RepT F tks mp) : RepO G' F q (ps ++ [p]) (cs ++ [(c, mp)]) := by
  refine ⟨by rw [List.length_append, List.length_append, r.len]; rfl, ?_, ?_, ?_, fun j c' p' e1 e2 => ?_⟩
  · rw [hq]
    congr 2
    unfold kvsO
    rw [List.zip_append r.len.symm, List.map_append]
    rfl
  · exact List.nodup_append.mpr ⟨r.nd, by simp, fun a ha b hb => by
      have : b = p := by simpa using hb
      subst this
      exact fun z => hp (z ▸ ha)⟩
  · rw [List.map_append]
    exact List.nodup_append.mpr ⟨r.names, by simp, fun a ha b hb => by
      have : b = c := by simpa using hb
      subst this
      exact fun z => hc (z ▸ ha)⟩
  · by_cases hj : j < cs.length
    · rw [List.getElem?_append_left hj] at e1
      rw [List.getElem?_append_left (by rw [r.len]; exact hj)] at e2
      obtain ⟨t, a, b⟩ := r.inn j c' p' e1 e2
      exact ⟨t, (ho p' (List.mem_of_getElem? e2)).trans a, b⟩
    · rw [List.getElem?_append_right (by omega)] at e1
      rw [List.getElem?_append_right (by rw [r.len]; omega)] at e2
      rw [r.len] at e2
      have h0 : j - cs.length = 0 := by
        have := (List.getElem?_eq_some_iff.mp e1).1
        simp at this
        omega
      rw [h0] at e1 e2
      cases e1
      cases e2
      exact ⟨tks, he, hR⟩
end
/-! ### Lying -/
def lyF (vsh vst : V) (t : Int) (q : Addr) (vdn : V) : List (Str × V) := [("shape", vsh), ("order", vst), ("now", .int t), ("stained", .ref q), ("done", vdn)]
section
variable {vsh vst vdn v : V} {t t' : Int} {q q' : Addr}
theorem ly_shape : (lyF vsh vst t q vdn).lookup ("shape" : Str) = some vsh := by rfl
theorem ly_order : (lyF vsh vst t q vdn).lookup ("order" : Str) = some vst := by rfl
theorem ly_now : (lyF vsh vst t q vdn).lookup ("now" : Str) = some (.int t) := by rfl
theorem ly_stained : (lyF vsh vst t q vdn).lookup ("stained" : Str) = some (.ref q) := by rfl
theorem ly_done : (lyF vsh vst t q vdn).lookup ("done" : Str) = some vdn := by rfl
theorem ly_putOrder : putF "order" v (lyF vsh vst t q vdn) = lyF vsh v t q vdn := by rfl
theorem ly_putNow : putF "now" (.int t') (lyF vsh vst t q vdn) = lyF vsh vst t' q vdn := by rfl
theorem ly_putStained : putF "stained" (.ref q') (lyF vsh vst t q vdn) = lyF vsh vst t q' vdn := by rfl
theorem ly_putDone : putF "done" v (lyF vsh vst t q vdn) = lyF vsh vst t q v := by rfl
end
structure LyO (K : PySem.W.Frag) (G F : Hp) (a : Addr) (m w : Nat) (L : Stt) (q : Addr) (ps : List Addr) : Prop where
  ins : ∃ dx vsh vst vdn, G a = some (.ins (He.ga K "Lying") dx (lyF vsh vst L.now q vdn)) ∧ Dt F vsh (shD m w) ∧ Dt F vst (stD L.st) ∧ Dt F vdn (.tup L.bk)
  O : RepO G F q ps L.cs
/-- .. frozen -/
def LyF (K : PySem.W.Frag) (F : Hp) (a : Addr) (m w : Nat) (L : Stt) : Prop := ∃ q ps, LyO K F F a m w L q ps
section
variable {K : PySem.W.Frag} {G G' F F' : Hp} {a q : Addr} {ps : List Addr} {m w : Nat} {L : Stt}
theorem LyO.mono (r : LyO K G F a m w L q ps) (s : Same F F') : LyO K G F' a m w L q ps := ⟨let ⟨dx, v1, v2, v3, h, h1, h2, h3⟩ := r.ins; ⟨dx, v1, v2, v3, h, h1.mono s, h2.mono s, h3.mono s⟩, r.O.mono s⟩
theorem LyO.grow (r : LyO K G F a m w L q ps) (s : Same G G') : LyO K G' F a m w L q ps := ⟨let ⟨dx, v1, v2, v3, h, h1, h2, h3⟩ := r.ins; ⟨dx, v1, v2, v3, s _ _ h, h1, h2, h3⟩, r.O.grow s⟩
theorem LyF.mono (r : LyF K F a m w L) (s : Same F F') : LyF K F' a m w L := let ⟨q, ps, h⟩ := r; ⟨q, ps, (h.mono s).grow s⟩
end
end Bb
/-! Bb13 -/
namespace Bb
open PySem PySem.Spec PyProof.Rows L2

theorem _root_.L2.Room.un3 {k : Nat} {A : Around} (r : Room k A) : A.units + 3 < cLine := by
  have := r.un
  omega
theorem kcall_dictT {X : Cx} {P : Program} {w : World} (hu : X.A.units + 3 < cLine) (h : X.prog = P := by rfl) (h' : X.w = w := by rfl) : CallR X (.type "dict") (rCopyT P w) := by
  subst h
  subst h'
  exact call_dictT hu
section
variable {F0 B F H : Hp} {σ : LSt} {ρ ρ' : Rho} {K : PySem.W.Frag} {te td ta ty tv : TE} {u : TS} {D : Ends} {f : Str} {C dx a : Addr} {fs : List (Str × V)} {x : Da}
theorem asg_seq {g : TG} (h : te σ H fun x H1 => g x σ H1 (u D)) : tSeq (tAsg te g) u D σ H := h
theorem sfld_seq (h : tv σ H fun y H1 => ta σ H1 fun x H2 => ∃ a C dx fs, x = .ref a ∧ H2 a = some (.ins C dx fs) ∧ Cls K C ∧ NoAttr K C f ∧ fs.length < 1000 ∧ u D σ (upd H2 a (.ins C dx (putF f y fs)))) : tSeq (sFld K ta tv f) u D σ H := h
theorem none_of {p : Addr} (s : Same F H) (h : H p = none) : F p = none := by
  cases e : F p with
  | none => rfl
  | some o => rw [s _ _ e] at h; cases h
/-- o.f = x, the object not frozen -/
theorem fld_run (hv : Dv F H tv ρ x) (ho : ∀ F H, Dv F H ta ρ (.ob (.ref a))) (ha : H a = some (.ins C dx fs)) (nF : F a = none) (c : Cls K C) (n : NoAttr K C f) (hl : fs.length < 1000) (sm : Same F H) (E : Env F σ ρ)
    (k : ∀ F' H' y, Gr [a] F H F' H' → H' a = some (.ins C dx (putF f y fs)) → Dt F' y x → F' a = none → Env F' σ ρ → D.nx σ H') : sFld K ta tv f D σ H := by
  refine hv.run sm E fun y F1 H1 g1 d1 => ?_
  refine (ho F1 H1).run g1.fh (E.mono g1.ff) fun w F2 H2 g2 d2 => ?_
  have g := g1.trans0 g2
  have h2 := g.same _ _ ha
  have n2 : F2 a = none := by rw [g.nw a _ ha rfl]; exact nF
  exact ⟨a, C, dx, fs, d2.of_ob, h2, c, n, hl, k F2 _ y (g.after (Gr.put g2.fh n2)) upd_same (d1.mono g2.ff) n2 (E.mono g.ff)⟩
theorem fld_seq (hv : Dv F H tv ρ x) (ho : ∀ F H, Dv F H ta ρ (.ob (.ref a))) (ha : H a = some (.ins C dx fs)) (nF : F a = none) (c : Cls K C) (n : NoAttr K C f) (hl : fs.length < 1000) (sm : Same F H) (E : Env F σ ρ)
    (k : ∀ F' H' y, Gr [a] F H F' H' → H' a = some (.ins C dx (putF f y fs)) → Dt F' y x → F' a = none → Env F' σ ρ → u D σ H') : tSeq (sFld K ta tv f) u D σ H := fld_run (D := { D with nx := u D }) hv ho ha nF c n hl sm E k
/-- o.f = {} -/
theorem fldD_seq (ho : ∀ F H, Dv F H ta ρ (.ob (.ref a))) (ha : H a = some (.ins C dx fs)) (nF : F a = none) (c : Cls K C) (n : NoAttr K C f) (hl : fs.length < 1000) (sm : Same F H) (E : Env F σ ρ)
    (k : ∀ F' H' q, Gr [a] F H F' H' → H' a = some (.ins C dx (putF f (.ref q) fs)) → H q = none → H' q = some (.dK []) → F' q = none → F' a = none → Env F' σ ρ → u D σ H') : tSeq (sFld K ta tDNewK f) u D σ H := fun q hq => by
  have hn : F q = none := none_of sm hq
  have g1 : Gr [] F H F (upd H q (.dK [])) := Gr.newM sm hq
  refine (ho F _).run g1.fh E fun w F2 H2 g2 d2 => ?_
  have g := g1.trans0 g2
  have h2 := g.same _ _ ha
  have n2 : F2 a = none := by rw [g.nw a _ ha rfl]; exact nF
  have hq2 : H2 q = some (.dK []) := g2.same _ _ upd_same
  have nq2 : F2 q = none := by rw [g2.nw q _ upd_same rfl]; exact hn
  have hne : q ≠ a := Ne.symm (ne_of_none ha hq)
  exact ⟨a, C, dx, fs, d2.of_ob, h2, c, n, hl, k F2 _ q (g.after (Gr.put g2.fh n2)) upd_same hq (by rw [upd_ne hne]; exact hq2) nq2 n2 (E.mono g.ff)⟩
end
def spLyInit (K : PySem.W.Frag) : Sp := fun vs H Q _ => ∃ (F : Hp) (a dx : Addr) (m w : Nat) (v : V), vs = [.ref a, v] ∧ Same F H ∧ H a = some (.ins (He.ga K "Lying") dx []) ∧ F a = none ∧ Dt F v (shD m w) ∧ m ≤ 100 ∧
  ∀ F' H' q vst vdn, Gr [a] F H F' H' → H' a = some (.ins (He.ga K "Lying") dx (lyF v vst 0 q vdn)) → Dt F' vst (stD (firstSt m)) → Dt F' vdn (.tup []) → H q = none → H' q = some (.dK []) → F' q = none → F' a = none → Q .non H'
/-- Lying(shape) -/
theorem lyMake {F H : Hp} {σ : LSt} {ρ : Rho} {K : PySem.W.Frag} {te : TE} {m w : Nat} {E : XK} {Q : VK} (hv : Dv F H te ρ (shD m w)) (sm : Same F H) (En : Env F σ ρ) (hm : m ≤ 100)
    (k : ∀ F' H' b q dx vsh vst vdn, Gr [] F H F' H' → H b = none → H q = none → H' b = some (.ins (He.ga K "Lying") dx (lyF vsh vst 0 q vdn)) → Dt F' vsh (shD m w) → Dt F' vst (stD (firstSt m)) → Dt F' vdn (.tup []) → H' q = some (.dK []) → F' b = none → F' q = none → Q (.ref b) H') : tMake (He.ga K "Lying") (spLyInit K) [] E (tCons te tNil) σ H Q := by
  refine (da_cons hv da_nil).run sm En fun vs1 F1 H1 g1 d1 => ?_
  obtain ⟨vs', rfl, hs1⟩ := d1.sole
  intro b dx hb hdx hne
  have old : ∀ p, H1 p = none → H p = none := fun p hp => by
    cases e : H p with
    | none => rfl
    | some o => rw [g1.same _ _ e] at hp; cases hp
  have hbn := old b hb
  have n1b := none_of g1.fh hb
  have gd : Gr [] F1 H1 F1 (upd H1 dx (.own b)) := Gr.newM g1.fh hdx
  have gb : Gr [] F1 (upd H1 dx (.own b)) F1 (upd (upd H1 dx (.own b)) b (.ins (He.ga K "Lying") dx [])) := Gr.newM gd.fh (by rw [upd_ne (Ne.symm hne)]; exact hb)
  have gdb := gd.trans0 gb
  refine ⟨F1, b, dx, m, w, vs', rfl, gdb.fh, upd_same, n1b, hs1, hm, fun F2 H2 q2 vst2 vdn2 g2 hb2 hst2 hdn2 hq2 hq2' nq2 nb2 => ⟨rfl, ?_⟩⟩
  have gx := g1.trans0 gdb
  refine k F2 H2 b q2 dx vs' vst2 vdn2 ⟨gx.ff.trans g2.ff, g2.fh, fun c o _ e => g2.hh c o (by simpa using ne_of_none e hbn) (gx.same _ _ e), fun c o e t => by rw [g2.nw c o (gx.same _ _ e) t, gx.nw c o e t]⟩ hbn ?_ hb2 (hs1.mono g2.ff) hst2 hdn2 hq2' nb2 nq2
  cases e : H q2 with
  | none => rfl
  | some o => rw [gx.same _ _ e] at hq2; cases hq2
theorem lyMake_seq {F H : Hp} {σ : LSt} {ρ : Rho} {K : PySem.W.Frag} {te : TE} {m w j : Nat} {E : XK} {u : TS} {D : Ends} (hv : Dv F H te ρ (shD m w)) (sm : Same F H) (En : Env F σ ρ) (hm : m ≤ 100)
    (k : ∀ F' H' b q dx vsh vst vdn, Gr [] F H F' H' → H b = none → H q = none → H' b = some (.ins (He.ga K "Lying") dx (lyF vsh vst 0 q vdn)) → Dt F' vsh (shD m w) → Dt F' vst (stD (firstSt m)) → Dt F' vdn (.tup []) → H' q = some (.dK []) → F' b = none → F' q = none → u D (σ.set j (some (.ref b))) H') : tSeq (tAsg (tMake (He.ga K "Lying") (spLyInit K) [] E (tCons te tNil)) (gName j)) u D σ H :=
  lyMake (Q := fun v H1 => u D (σ.set j (some v)) H1) hv sm En hm k
abbrev N_ly_init : List Str := ["self", "shape"]
abbrev P_ly_init : List Str := ["self", "shape"]
theorem sc_ly_init : FnScope N_ly_init P_ly_init (defScope s_ly_init) := ⟨rfl, rfl, rfl, by decide +kernel, rfl, by decide +kernel, by decide +kernel⟩
theorem b_ly_init : BindsD d_ly_init P_ly_init := fun _ _ _ _ _ _ us hl => match us, hl with | [_, _], _ => rfl
abbrev N_ly_twin : List Str := ["self", "found", "colour", "some"]
abbrev P_ly_twin : List Str := ["self"]
theorem sc_ly_twin : FnScope N_ly_twin P_ly_twin (defScope s_ly_twin) := ⟨rfl, rfl, rfl, by decide +kernel, rfl, by decide +kernel, by decide +kernel⟩
theorem b_ly_twin : BindsD d_ly_twin P_ly_twin := fun _ _ _ _ _ _ us hl => match us, hl with | [_], _ => rfl

section
variable {P : Program} {w : World} {K : PySem.W.Frag} {mg : Str → Option Value} {base : Heap}
theorem ok_ly_init (T : Txt K mg) (G_first_stand : Ok P w K mg base CX0 1 d_first_stand P_first_stand (spD R_first_stand)) : Ok P w K mg base CX0 2 d_ly_init P_ly_init (spLyInit K) := by
  refine okN T.f_ly_init sc_ly_init b_ly_init (fun vs H Q E h => ?_) fun cdv A outer s H vs Q E hr h => ?_
  · obtain ⟨_, _, _, _, _, _, rfl, _⟩ := h
    rfl
  · obtain ⟨F, a, dx, m, w, v, rfl, sm, ha, nF, hv, hm, q⟩ := h
    refine ⟨_, (pss_cons (kps_fld (K := K) (pv 0) (pv 1) rfl)
  (pss_cons (kps_fld (K := K) (pv 0) (pe_callO G_first_stand (hr.mono (by decide)) rfl T.g_first_stand pass0 (pa_cons (pv 1) pa_nil)) rfl)
  (pss_cons (kps_fld (K := K) (pv 0) pe_int rfl)
  (pss_cons (kps_fld (K := K) (pv 0) pe_dnewK rfl)
  (pss_one (kps_fld (K := K) (pv 0) (pe_tup pa_nil) rfl)))))), ?_⟩
    have E0 : Env F (L2.start N_ly_init [.ref a, v]) [some (.ob (.ref a)), some (shD m w)] := env_start (.cons (.ob _) (.cons hv .nil))
    obtain ⟨v1, e1, h1⟩ := E0.at_ 1 _ rfl
    have ev : v1 = v := by
      have : (L2.start N_ly_init [V.ref a, v])[1]? = some (some v) := rfl
      rw [this] at e1
      cases e1
      rfl
    obtain ⟨v0, e0, h0⟩ := E0.at_ 0 _ rfl
    rw [h0.of_ob] at e0
    -- shape
    refine ⟨_, e1, _, e0, a, _, dx, [], rfl, ha, T.c_Lying, T.a_Lying_shape, by decide, ?_⟩
    rw [ev]
    have gA : Gr [a] F H F (upd H a (.ins (He.ga K "Lying") dx [("shape", v)])) := Gr.put sm nF
    refine fld_seq (u := tSeq _ _) (dv_call (da_cons (dv_var rfl) da_nil) ⟨m, w, rfl, hm, rfl⟩) (fun _ _ => dv_var rfl) upd_same nF T.c_Lying T.a_Lying_order (Nat.le_of_ble_eq_true (by rfl)) gA.fh E0 fun F2 H2 y2 g2 h2 d2 n2 E2 => ?_
    refine fld_seq dv_int (fun _ _ => dv_var rfl) h2 n2 T.c_Lying T.a_Lying_now (Nat.le_of_ble_eq_true (by rfl)) g2.fh E2 fun F3 H3 y3 g3 h3 d3 n3 E3 => ?_
    refine fldD_seq (fun _ _ => dv_var rfl) h3 n3 T.c_Lying T.a_Lying_stained (Nat.le_of_ble_eq_true (by rfl)) g3.fh E3 fun F4 H4 qd g4 h4 nq hq nFq n4 E4 => ?_
    refine fld_run (dv_tup da_nil (Nat.zero_le _)) (fun _ _ => dv_var rfl) h4 n4 T.c_Lying T.a_Lying_done (Nat.le_of_ble_eq_true (by rfl)) g4.fh E4 fun F5 H5 y5 g5 h5 d5 n5 E5 => ?_
    have hqa : qd ≠ a := fun e => by rw [e, h3] at nq; cases nq
    have g12 := gA.then1 g2 upd_same rfl
    have g13 := g12.then1 g3 h2 rfl
    have g14 := g13.then1 g4 h3 rfl
    have g15 := g14.then1 g5 h4 rfl
    have hq5 : H5 qd = some (.dK []) := g5.hh qd _ (by simpa using hqa) hq
    have nq5 : F5 qd = none := by rw [g5.nw qd _ hq rfl]; exact nFq
    have nH : H qd = none := by
      cases e : H qd with
      | none => rfl
      | some o => rw [g13.hh qd _ (by simpa using hqa) e] at nq; cases nq
    rw [d3.of_int] at h5
    exact q F5 H5 qd y2 y5 g15 h5 ((((d2.mono g3.ff).mono g4.ff).mono g5.ff)) d5 nH hq5 nq5 n5
theorem inj_of_nodup {α β : Type} {f : α → β} : ∀ {l : List α}, (l.map f).Nodup → ∀ {a b : α}, a ∈ l → b ∈ l → f a = f b → a = b
  | [], _, _, _, h, _, _ => nomatch h
  | x :: l, nd, a, b, ha, hb, e => by
    rw [List.map_cons] at nd
    obtain ⟨n1, n2⟩ := List.nodup_cons.mp nd
    rcases List.mem_cons.mp ha with h1 | h1 <;> rcases List.mem_cons.mp hb with h2 | h2
    · rw [h1, h2]
    · exact (n1 (by rw [← h1, e]; exact List.mem_map.mpr ⟨b, h2, rfl⟩)).elim
    · exact (n1 (by rw [← h2, ← e]; exact List.mem_map.mpr ⟨a, h1, rfl⟩)).elim
    · exact inj_of_nodup n2 h1 h2 e
theorem spots_sub {m w : Nat} (hm : m ≤ 4) (hw : w ≤ 3) {s : Tri} (h : s ∈ spotsL m w) : s ∈ spotsL 4 3 := by
  obtain ⟨⟨h1, h2⟩, ⟨h3, h4⟩, h5, h6⟩ := mem_spotsL.mp h
  exact mem_spotsL.mpr ⟨⟨h1, by omega⟩, ⟨h3, h4⟩, h5, by omega⟩
/-- the keys of marks hash apart -/
theorem RepT.apart {F : Hp} {kvs : List (List Key × V)} {mp : Mp} {m w' : Nat} (r : RepT F kvs mp) (hs : Sup (spotsL m w') mp) (hm : m ≤ 4) (hw : w' ≤ 3) (P : Program) (w : World) : Apart P w (kvs.map (·.1)) := by
  have hk : ∀ k ∈ kvs.map (·.1), ∃ s ∈ spotsL 4 3, k = keyT s := fun k hk => by
    obtain ⟨kv, h1, h2⟩ := List.mem_map.mp hk
    obtain ⟨s, e⟩ := r.key kv h1
    exact ⟨s, spots_sub hm hw (hs s ((r.mem s).mp (by rw [← e, h2]; exact hk))), by rw [← h2, e]⟩
  unfold Apart
  refine List.pairwise_map.mpr (List.Pairwise.imp_of_mem (fun {a b} ha hb hne e => hne ?_) r.nd)
  obtain ⟨s, hs1, rfl⟩ := hk a ha
  obtain ⟨s', hs2, rfl⟩ := hk b hb
  rw [hashT_eq, hashT_eq] at e
  rw [inj_of_nodup hashT_nd hs1 hs2 e]
/-- what twin gives: a copy that is all new -/
def spTwin (K : PySem.W.Frag) : Sp := fun vs H Q _ => ∃ (F : Hp) (a : Addr) (m w : Nat) (L : Stt), vs = [.ref a] ∧ Same F H ∧ LyF K F a m w L ∧ m ≤ 4 ∧ w ≤ 3 ∧ SttOk m w L ∧ L.cs.length ≤ 1000 ∧
  ∀ F' H' b q ps, Gr [] F H F' H' → LyO K H' F' b m w L q ps → H b = none → H q = none → (∀ p ∈ ps, H p = none) → F' b = none → F' q = none → (∀ p ∈ ps, F' p = none) → Q (.ref b) H'
theorem ok_ly_twin (T : Txt K mg) (G_ly_init : Ok P w K mg base CX0 2 d_ly_init P_ly_init (spLyInit K)) : Ok P w K mg base CX0 4 d_ly_twin P_ly_twin (spTwin K) := by
  refine okN T.f_ly_twin sc_ly_twin b_ly_twin (fun vs H Q E h => ?_) fun cdv A outer s H vs Q E hr h => ?_
  · obtain ⟨_, _, _, _, _, rfl, _⟩ := h
    rfl
  · obtain ⟨F, a, m, w', L, rfl, sm, ⟨q0, ps0, hL⟩, hm, hw, hok, hcl, q⟩ := h
    refine ⟨_, (pss_cons (ps_set (i := 1) sc_ly_twin.nd rfl (.inl rfl) (pe_makeO T.k_Lying G_ly_init (hr.mono (by decide)) rfl T.g_Lying pass0 (pa_cons (kpe_fld (K := K) (pv 0) rfl) pa_nil)))
  (pss_cons (ps_asg (pe_tup (pa_cons (kpe_fld (K := K) (pv 0) rfl) (pa_cons (kpe_fld (K := K) (pv 0) rfl) (pa_cons (kpe_fld (K := K) (pv 0) rfl) pa_nil)))) (kpg_tup (K := K) (n := 3) rfl (pgs_cons (kpg_fld (K := K) (pv 1)) (pgs_cons (kpg_fld (K := K) (pv 1)) (pgs_cons (kpg_fld (K := K) (pv 1)) pgs_nil)))))
  (pss_cons (kps_fld (K := K) (pv 1) (pe_lock (pe_dc (own := [("colour", 2), ("some", 3)]) rfl sc_ly_twin.nd (pi_items (kpe_fld (K := K) (pv 0) rfl)) (blkOk_by (N := N_ly_twin) (sc := defScope s_ly_twin) (by decide +kernel)) (fun _ _ _ _ _ => (kpg_tup (K := K) (n := 2) rfl (pgs_cons (pg_name (i := 2) sc_ly_twin.nd rfl (.inl rfl)) (pgs_cons (pg_name (i := 3) sc_ly_twin.nd rfl (.inl rfl)) pgs_nil)))) (fun _ _ _ _ _ => pts_nil) (fun _ _ _ _ _ => (pv 2)) (fun _ _ _ _ _ => (pe_callTy (kcall_dictT (P := P) (w := w) hr.un3) (by rfl) T.n_dict (by decide +kernel) (pa_cons (pv 3) pa_nil))))) rfl)
  (pss_one (ps_ret (pv 1)))))), ?_⟩
    obtain ⟨⟨dx0, vsh, vst, vdn, ha, hsh, hst, hdn⟩, hO⟩ := hL
    have E0 : Env F (L2.start N_ly_twin [.ref a]) [some (.ob (.ref a)), none, none, none] := env_start (.cons (.ob _) .nil)
    have fld : ∀ {f : Str} {v : V} {d : Da} {F1 H1 : Hp} {ρ : Rho}, Same F F1 → Same F1 H1 → ρ[0]? = some (some (.ob (.ref a))) → NoAttr K (He.ga K "Lying") f → (lyF vsh vst L.now q0 vdn).lookup f = some v → Dt F v d → Dv F1 H1 (tFld K (tVar 0) f) ρ d := fun s1 s2 h0 n hl hd => dv_fld (dv_var h0) (s2 _ _ (s1 _ _ ha)) T.c_Lying n hl (hd.mono s1)
    -- found = Lying(self.shape)
    refine lyMake_seq (fld (Same.refl F) sm rfl T.a_Lying_shape ly_shape hsh) sm E0 (by omega) fun F2 H2 b q2 dx vsh2 vst2 vdn2 g2 nb nq hb2 hsh2 hst2 hdn2 hq2 nFb nFq => ?_
    have E2 : Env F2 ((L2.start N_ly_twin [.ref a]).set 1 (some (.ref b))) [some (.ob (.ref a)), some (.ob (.ref b)), none, none] := (E0.mono g2.ff).set (.ob _)
    -- order, now, done
    refine asg_seq ?_
    refine (dv_tup (da_cons (fld g2.ff g2.fh rfl T.a_Lying_order ly_order hst) (da_cons (fld g2.ff g2.fh rfl T.a_Lying_now ly_now (.int _)) (da_cons (fld g2.ff g2.fh rfl T.a_Lying_done ly_done hdn) da_nil))) (small_ rfl)).run g2.fh E2 fun v3 F3 H3 g3 d3 => ?_
    obtain ⟨pt, zs, rfl, hpt, hzs⟩ := d3.of_tup
    have E3 := E2.mono g3.ff
    have hb3 := g3.same _ _ hb2
    have nb3 : F3 b = none := by rw [g3.nw b _ hb2 rfl]; exact nFb
    have hq3 := g3.same _ _ hq2
    have nq3 : F3 q2 = none := by rw [g3.nw q2 _ hq2 rfl]; exact nFq
    cases hzs with
    | @cons z1 _ _ _ hz1 r1 =>
    cases r1 with
    | @cons z2 _ _ _ hz2 r2 =>
    cases r2 with
    | @cons z3 _ _ _ hz3 r3 =>
    cases r3
    rw [hz2.of_int] at hpt
    obtain ⟨v1, e1, h1⟩ := E3.at_ 1 _ rfl
    rw [h1.of_ob] at e1
    obtain ⟨v0, e0, h0⟩ := E3.at_ 0 _ rfl
    rw [h0.of_ob] at e0
    generalize hσ : (L2.start N_ly_twin [V.ref a]).set 1 (some (.ref b)) = σ1 at E3 e0 e1 ⊢
    refine ⟨pt, _, rfl, SqT.of (g3.fh _ _ hpt), rfl, z1, _, rfl, _, e1, b, _, dx, _, rfl, hb3, T.c_Lying, T.a_Lying_order, Nat.le_of_ble_eq_true (by rfl), .int L.now, _, rfl, _, e1, b, _, dx, _, rfl, upd_same, T.c_Lying, T.a_Lying_now, Nat.le_of_ble_eq_true (by rfl), z3, [], rfl, _, e1, b, _, dx, _, rfl, upd_same, T.c_Lying, T.a_Lying_done, Nat.le_of_ble_eq_true (by rfl), rfl, ?_⟩
    rw [upd_upd, upd_upd]
    rw [show putF "done" z3 (putF "now" (.int L.now) (putF "order" z1 (lyF vsh2 vst2 0 q2 vdn2))) = lyF vsh2 z1 L.now q2 z3 from rfl]
    have gP : Gr [b] F3 H3 F3 (upd H3 b (.ins (He.ga K "Lying") dx (lyF vsh2 z1 L.now q2 z3))) := Gr.put g3.fh nb3
    have g4 : Gr [] F H F3 (upd H3 b (.ins (He.ga K "Lying") dx (lyF vsh2 z1 L.now q2 z3))) := by
      have gx := g2.trans0 g3
      exact ⟨gx.ff.trans gP.ff, gP.fh, fun c o _ e => gP.hh c o (by simpa using ne_of_none e nb) (gx.same _ _ e), fun c o e t => by rw [gP.nw c o (gx.same _ _ e) t, gx.nw c o e t]⟩
    generalize hH4 : upd H3 b (.ins (He.ga K "Lying") dx (lyF vsh2 z1 L.now q2 z3)) = H4 at g4
    have hb4 : H4 b = some (.ins (He.ga K "Lying") dx (lyF vsh2 z1 L.now q2 z3)) := by rw [← hH4]; exact upd_same
    have hF3 := g4.ff
    -- the marks
    have hd4 : H4 q0 = some (.dK (kvsO L.cs ps0)) := g4.fh _ _ (hF3 _ _ hO.d)
    have hFq : F3 q0 = some (.dK (kvsO L.cs ps0)) := hF3 _ _ hO.d
    have hk0 : ∀ o, F3 q0 = some o → HO.isDict o = true := fun o e => by rw [hFq] at e; cases e; rfl
    refine sfld_seq ?_
    refine lockE g4.fh hd4 rfl fun od => ?_
    have sl : Same (unl F3 q0) (upd H4 q0 (.frz od (.dK (kvsO L.cs ps0)))) := unl_same g4.fh
    generalize hHl : upd H4 q0 (.frz od (.dK (kvsO L.cs ps0))) = Hl at sl
    have hlq : Hl q0 = some (.frz od (.dK (kvsO L.cs ps0))) := by rw [← hHl]; exact upd_same
    have hla : Hl a = some (.ins (He.ga K "Lying") dx0 (lyF vsh vst L.now q0 vdn)) := by
      rw [← hHl, upd_ne (ne_of ha hO.d (fun z => nomatch z))]
      exact g4.fh _ _ (hF3 _ _ ha)
    refine ⟨_, e0, a, _, dx0, _, _, rfl, hla, T.c_Lying, T.a_Lying_stained, ly_stained, q0, od, _, rfl, hlq, fun D hD => ?_⟩
    have nD : unl F3 q0 D = none := none_of sl hD
    have gD : Gr [] (unl F3 q0) Hl (unl F3 q0) (upd Hl D (.dK [])) := Gr.newM sl hD
    have lenK : (kvsO L.cs ps0).length = L.cs.length := kvsO_len hO.len
    refine ⟨fun i mm H' => mm = L.cs.length - i ∧ i ≤ L.cs.length ∧ ∃ F' psn, Gr [] (unl F3 q0) Hl F' H' ∧ F' D = none ∧ RepO H' F' D psn (L.cs.take i) ∧ (∀ p ∈ psn, Hl p = none ∧ F' p = none),
      ⟨L.cs.length, rfl, Nat.zero_le _, unl F3 q0, [], gD, nD, .nil upd_same, fun p hp => nomatch hp⟩, ?_⟩
    rintro i mm H' ⟨rfl, hle, F', psn, g', nD', hR, hfr⟩
    have hlq' : H' q0 = some (.frz od (.dK (kvsO L.cs ps0))) := g'.same _ _ hlq
    by_cases hlt : i < L.cs.length
    · have hc : L.cs[i]? = some L.cs[i] := List.getElem?_eq_getElem hlt
      generalize L.cs[i] = cc at hc
      obtain ⟨c, mp⟩ := cc
      obtain ⟨p0, hp0⟩ := hO.psAt hc
      obtain ⟨tks, ht, hRt⟩ := hO.inn i _ p0 hc hp0
      have hmem : (c, mp) ∈ L.cs := List.mem_of_getElem? hc
      have htl : Hl p0 = some (.dT tks) := by
        rw [← hHl, upd_ne (ne_of ht hO.d (fun z => nomatch z))]
        exact g4.fh _ _ (hF3 _ _ ht)
      refine .inr ⟨⟨hlq', by rw [lenK]; exact hlt⟩, fun H2 => i + 1 ≤ L.cs.length ∧ ∃ F' psn, Gr [] (unl F3 q0) Hl F' H2 ∧ F' D = none ∧ RepO H2 F' D psn (L.cs.take (i + 1)) ∧ (∀ p ∈ psn, Hl p = none ∧ F' p = none), fun H2 ⟨h1, h2⟩ => ⟨L.cs.length - (i + 1), by omega, rfl, h1, h2⟩, fun x H5 hy => ?_⟩
      obtain ⟨Tt, kk, vv, hkv, rfl, hT, rfl⟩ := hy
      rw [kvsO_get hc hp0] at hkv
      cases hkv
      have gT : Gr [] F' H' F' (upd H' Tt (.tup [kV (.inr c), .ref p0])) := Gr.newM g'.fh hT
      refine ⟨Tt, _, rfl, SqT.of upd_same, rfl, _, _, rfl, _, _, rfl, rfl, ?_⟩
      refine ⟨by rw [wipe_set (by simp), wipe_set (by simp), wipe_wipe], ?_⟩
      have sl2 : ∀ {x y : V}, ((((wipe σ1 [2, 3]).set 2 (some x)).set 3 (some y))[2]? = some (some x)) ∧ ((((wipe σ1 [2, 3]).set 2 (some x)).set 3 (some y))[3]? = some (some y)) := fun {x y} => by
        have hl4 : (wipe σ1 [2, 3]).length = 4 := by rw [wipe_length, ← hσ]; rfl
        exact ⟨by rw [List.getElem?_set_ne (by decide), List.getElem?_set_self (by omega)], List.getElem?_set_self (by rw [List.length_set]; omega)⟩
      refine ⟨_, sl2.1, ⟨_, sl2.2, p0, tks, rfl, gT.same _ _ (g'.same _ _ htl), hRt.apart (hok.mks _ hmem).2 hm hw P w, fun pn hpn => ?_⟩⟩
      have hpn' : H' pn = none := by
        cases e : H' pn with
        | none => rfl
        | some o => rw [gT.same _ _ e] at hpn; cases hpn
      have nFp : F' pn = none := none_of g'.fh hpn'
      have hpl : Hl pn = none := by
        cases e : Hl pn with
        | none => rfl
        | some o => rw [g'.same _ _ e] at hpn'; cases hpn'
      have gN : Gr [] F' (upd H' Tt (.tup [kV (.inr c), .ref p0])) F' (upd (upd H' Tt (.tup [kV (.inr c), .ref p0])) pn (.dT tks)) := Gr.newM gT.fh hpn
      have g'' := (g'.trans0 gT).trans0 gN
      have hD' := hR.d
      have hDpn : D ≠ pn := ne_of_none hD' hpn'
      have hDT : D ≠ Tt := ne_of_none hD' hT
      have keepD : upd (upd H' Tt (.tup [kV (.inr c), .ref p0])) pn (.dT tks) D = some (.dK (kvsO (L.cs.take i) psn)) := by rw [upd_ne hDpn, upd_ne hDT]; exact hD'
      have hcn : c ∉ (L.cs.take i).map (·.1) := fun hm' => by
        have hnd := hok.nd
        rw [List.map_take] at hm'
        obtain ⟨j, hj⟩ := List.mem_iff_getElem?.mp hm'
        have hji : j < i := by
          have := (List.getElem?_eq_some_iff.mp hj).1
          rw [List.length_take] at this
          omega
        rw [List.getElem?_take_of_lt hji] at hj
        have hi' : (L.cs.map (·.1))[i]? = some c := by rw [List.getElem?_map, hc]; rfl
        have := (List.getElem?_inj (List.getElem?_eq_some_iff.mp hj).1 hnd).mp (hj.trans hi'.symm)
        omega
      have hnone : valV (kvsO (L.cs.take i) psn) (.inr c) = none := hR.gone hcn
      have hpsn : pn ∉ psn := fun hm' => by
        obtain ⟨tk', e⟩ := hR.at_ hm'
        rw [hpn'] at e
        cases e
      refine ⟨_, .inr c, rfl, keepD, by rw [kvsO_len hR.len, List.length_take, sizeLine_eq]; omega, hlt, F', psn ++ [pn], ?_, nD', ?_, fun p hp => ?_⟩
      · rw [putK_new _ hnone]
        have hDl : Hl D = none := hD
        exact g''.mine hDl nD'
      · rw [putK_new _ hnone]
        have et : L.cs.take (i + 1) = L.cs.take i ++ [(c, mp)] := by
          rw [List.take_succ_eq_append_getElem hlt]
          rw [List.getElem?_eq_getElem hlt] at hc
          rw [Option.some.inj hc]
        rw [et]
        refine hR.add hcn hpsn upd_same (fun b' hb' => ?_) (by rw [upd_ne (Ne.symm hDpn)]; exact upd_same) ((hRt.mono hF3).unl hk0 |>.mono g'.ff)
        obtain ⟨tk', e⟩ := hR.at_ hb'
        rw [upd_ne (fun z => by rw [z, hD'] at e; cases e), upd_ne (fun z => by rw [z, hpn'] at e; cases e), upd_ne (fun z => by rw [z, hT] at e; cases e)]
      · rcases List.mem_append.mp hp with hp | hp
        · exact hfr p hp
        · have : p = pn := by simpa using hp
          rw [this]
          exact ⟨hpl, nFp⟩
    · have e : i = L.cs.length := by omega
      subst e
      rw [List.take_length] at hR
      refine .inl ⟨⟨hlq', by rw [lenK]; exact Nat.le_refl _⟩, ?_⟩
      subst hHl
      obtain ⟨u1, u2, gU, sU⟩ := Gr.unlock g4.fh hd4 (by simp) rfl g'
      refine ⟨u1, ?_⟩
      have hDq : D ≠ q0 := fun z => by rw [z, upd_same] at hD; cases hD
      have hpq : ∀ p ∈ psn, p ≠ q0 := fun p hp z => by
        have := (hfr p hp).1
        rw [z, upd_same] at this
        cases this
      have hRU : RepO (upd H' q0 (.dK (kvsO L.cs ps0))) (rel F' F3 q0) D psn L.cs := (hR.mono sU).heap (upd_ne hDq) fun p hp => upd_ne (hpq p hp)
      have nDU : rel F' F3 q0 D = none := by unfold rel; rw [if_neg hDq]; exact nD'
      have npU : ∀ p ∈ psn, rel F' F3 q0 p = none := fun p hp => by unfold rel; rw [if_neg (hpq p hp)]; exact (hfr p hp).2
      have gF := g4.trans0 gU
      have hbU : upd H' q0 (.dK (kvsO L.cs ps0)) b = some (.ins (He.ga K "Lying") dx (lyF vsh2 z1 L.now q2 z3)) := gU.same _ _ hb4
      have nbU : rel F' F3 q0 b = none := by rw [gU.nw b _ hb4 rfl]; exact nb3
      refine ⟨_, e1, b, _, dx, _, rfl, hbU, T.c_Lying, T.a_Lying_stained, Nat.le_of_ble_eq_true (by rfl), ?_⟩
      refine ⟨_, e1, ?_⟩
      rw [ly_putStained]
      have hDb : D ≠ b := fun z => by
        rw [z] at hD
        rw [upd_ne (ne_of hb4 hd4 (fun z => nomatch z)), hb4] at hD
        cases hD
      have hpb : ∀ p ∈ psn, p ≠ b := fun p hp z => by
        obtain ⟨tk', e⟩ := hRU.at_ hp
        rw [z, hbU] at e
        cases e
      have gB : Gr [b] (rel F' F3 q0) (upd H' q0 (.dK (kvsO L.cs ps0))) (rel F' F3 q0) (upd (upd H' q0 (.dK (kvsO L.cs ps0))) b (.ins (He.ga K "Lying") dx (lyF vsh2 z1 L.now D z3))) := Gr.put gU.fh nbU
      have gE : Gr [] F H (rel F' F3 q0) (upd (upd H' q0 (.dK (kvsO L.cs ps0))) b (.ins (He.ga K "Lying") dx (lyF vsh2 z1 L.now D z3))) := ⟨gF.ff.trans gB.ff, gB.fh, fun c o _ e => gB.hh c o (by simpa using ne_of_none e nb) (gF.same _ _ e), fun c o e t => by rw [gB.nw c o (gF.same _ _ e) t, gF.nw c o e t]⟩
      have old : ∀ p, upd H4 q0 (.frz od (.dK (kvsO L.cs ps0))) p = none → H p = none := fun p hp => by
        cases e : H p with
        | none => rfl
        | some o =>
          by_cases z : p = q0
          · rw [z, upd_same] at hp; cases hp
          · rw [upd_ne z, g4.same _ _ e] at hp; cases hp
      refine q _ _ b D psn gE ⟨⟨dx, vsh2, z1, z3, upd_same, (hsh2.mono g3.ff).mono gU.ff, hz1.mono gU.ff, hz3.mono gU.ff⟩, hRU.heap (upd_ne hDb) fun p hp => upd_ne (hpb p hp)⟩ nb (old D hD) (fun p hp => old p (hfr p hp).1) nbU nDU npU
end
end Bb
/-! BbD -/
/-! What a deed does to a state, in plain. -/
namespace Bb
open PySem PySem.Spec PyProof.Rows L2
def dropV (t : Int) (mp : Mp) (s : Tri) (wet : Int) : Mk2 := (sinceOf t mp s, if t + wet > dryOf mp s then t + wet else dryOf mp s)
theorem putV_drop {t wet : Int} {mp : Mp} (g : Gm t mp) (ht : 0 ≤ t) (hw : 1 ≤ wet) (s : Tri) : putV mp s t (t + wet) = dropV t mp s wet := by
  unfold putV dropV sinceOf dryOf
  cases e : mp s with
  | none =>
    show (t, t + wet) = (t, if t + wet > 0 then t + wet else 0)
    rw [if_pos (by omega)]
  | some m =>
    have h := g.since s m e
    show ((if t < m.1 then t else m.1), (if t + wet > m.2 then t + wet else m.2)) = (m.1, if t + wet > m.2 then t + wet else m.2)
    rw [if_neg (by omega)]
def noMp : Mp := fun _ => none
/-- a drop of a colour -/
def dropCs (t : Int) (c : Str) (s : Tri) (wet : Int) : List (Str × Mp) → List (Str × Mp)
  | [] => [(c, mpPut noMp s (dropV t noMp s wet))]
  | x :: r => if x.1 = c then (c, mpPut x.2 s (dropV t x.2 s wet)) :: r else x :: dropCs t c s wet r
theorem dropCs_new {t : Int} {c : Str} {s : Tri} {wet : Int} : ∀ {cs : List (Str × Mp)}, c ∉ cs.map (·.1) → dropCs t c s wet cs = cs ++ [(c, mpPut noMp s (dropV t noMp s wet))]
  | [], _ => rfl
  | x :: r, h => by
    have h1 : ¬ x.1 = c := fun e => h (by simp [e])
    show (if x.1 = c then _ else x :: dropCs t c s wet r) = _
    rw [if_neg h1, dropCs_new (cs := r) (fun hm => h (.tail _ hm))]
    rfl
theorem dropCs_at {t : Int} {c : Str} {s : Tri} {wet : Int} : ∀ {cs : List (Str × Mp)} {i : Nat} {mp : Mp}, (cs.map (·.1)).Nodup → cs[i]? = some (c, mp) → dropCs t c s wet cs = cs.set i (c, mpPut mp s (dropV t mp s wet))
  | [], _, _, _, h => by simp at h
  | x :: r, 0, mp, _, h => by
    have e : x = (c, mp) := by simpa using h
    show (if x.1 = c then (c, mpPut x.2 s (dropV t x.2 s wet)) :: r else _) = _
    rw [e, if_pos rfl]
    rfl
  | x :: r, i + 1, mp, nd, h => by
    have h' : r[i]? = some (c, mp) := by simpa using h
    rw [List.map_cons] at nd
    obtain ⟨n1, n2⟩ := List.nodup_cons.mp nd
    have h1 : ¬ x.1 = c := fun e => n1 (by rw [e]; exact List.mem_map.mpr ⟨_, List.mem_of_getElem? h', rfl⟩)
    show (if x.1 = c then _ else x :: dropCs t c s wet r) = _
    rw [if_neg h1, dropCs_at n2 h']
    rfl
theorem dropCs_names {t : Int} {c : Str} {s : Tri} {wet : Int} : ∀ {cs : List (Str × Mp)}, (dropCs t c s wet cs).map (·.1) = if c ∈ cs.map (·.1) then cs.map (·.1) else cs.map (·.1) ++ [c]
  | [] => rfl
  | x :: r => by
    show ((if x.1 = c then (c, mpPut x.2 s (dropV t x.2 s wet)) :: r else x :: dropCs t c s wet r)).map (·.1) = _
    by_cases h : x.1 = c
    · rw [if_pos h, if_pos (by simp [h])]
      show c :: r.map (·.1) = x.1 :: r.map (·.1)
      rw [h]
    · rw [if_neg h, List.map_cons, dropCs_names (cs := r)]
      by_cases h2 : c ∈ r.map (·.1)
      · rw [if_pos h2, if_pos (by rw [List.map_cons]; exact .tail _ h2)]
        rfl
      · rw [if_neg h2, if_neg (by rw [List.map_cons]; intro hm; rcases List.mem_cons.mp hm with e | hm; exact h e.symm; exact h2 hm)]
        rfl
theorem dropCs_mem {t : Int} {c : Str} {s : Tri} {wet : Int} : ∀ {cs : List (Str × Mp)} {x : Str × Mp}, x ∈ dropCs t c s wet cs → x ∈ cs ∨ ∃ mp, (mp = noMp ∨ (c, mp) ∈ cs) ∧ x = (c, mpPut mp s (dropV t mp s wet))
  | [], x, h => .inr ⟨noMp, .inl rfl, by simpa [dropCs] using h⟩
  | y :: r, x, h => by
    have h : x ∈ (if y.1 = c then (c, mpPut y.2 s (dropV t y.2 s wet)) :: r else y :: dropCs t c s wet r) := h
    by_cases e : y.1 = c
    · rw [if_pos e] at h
      rcases List.mem_cons.mp h with h | h
      · exact .inr ⟨y.2, .inr (by rw [← e]; exact .head _), h⟩
      · exact .inl (.tail _ h)
    · rw [if_neg e] at h
      rcases List.mem_cons.mp h with h | h
      · exact .inl (by rw [h]; exact .head _)
      · rcases dropCs_mem h with h | ⟨mp, h1, h2⟩
        · exact .inl (.tail _ h)
        · exact .inr ⟨mp, h1.imp id (fun q => .tail _ q), h2⟩
/-- a press of a gap -/
def prsOf (w : Nat) (st : List Tri) (g : Nat) : List (Tri × Tri) := pairsP w (st.getD g (0, 0, 0)) (st.getD (g + 1) (0, 0, 0))
def pressCs (t : Int) (prs : List (Tri × Tri)) (cs : List (Str × Mp)) : List (Str × Mp) := cs.map fun c => (c.1, (foldS t prs c.2).1)
def pressN (t : Int) (prs : List (Tri × Tri)) (cs : List (Str × Mp)) : Int := (cs.map fun c => ((foldS t prs c.2).2 : Int)).sum
def Dd.cs (w : Nat) (L : Stt) : Dd → List (Str × Mp)
  | .press g => pressCs L.now (prsOf w L.st g) L.cs
  | _ => L.cs
def Dd.found (w : Nat) (L : Stt) : Dd → Da
  | .press g => .int (pressN L.now (prsOf w L.st g) L.cs)
  | _ => .non
/-- a deed is told and taken -/
inductive Tl (m w : Nat) (L : Stt) : Da → Stt → Da → Prop
  | drop (s : Tri) (c : Str) (wet : Int) : spotB m w (triD s) = true → nameB (.str c) = true → 1 ≤ wet → wet ≤ 400 → Tl m w L (.tup [.str "drop", triD s, .str c, .int wet]) ⟨L.st, L.now, dropCs L.now c s wet L.cs, L.bk ++ [.tup [.tup [.str "drop", triD s, .str c, .int wet], .non]]⟩ .non
  | deed (dd : Dd) : dd.ok m → Tl m w L (ddD dd) ⟨dd.move L.st, L.now + dd.takes, dd.cs w L, L.bk ++ [.tup [ddD dd, dd.found w L]]⟩ (dd.found w L)
def isDropD : Da → Bool
  | .tup [.str s, _, _, _] => decide (s = "drop")
  | _ => false
/-- a deed is refused -/
inductive Nope (m w : Nat) : Da → Str → Prop
  | drop (a b c : Da) (word : Str) : dropB m w a b c = .str word → Nope m w (.tup [.str "drop", a, b, c]) word
  | deed (d : Da) : isDropD d = false → deedB m d = false → Nope m w d "deed"
theorem nameB_str {d : Da} (h : nameB d = true) : ∃ c, d = .str c := by
  cases d <;> first | exact ⟨_, rfl⟩ | cases h
theorem tell_or (m w : Nat) (L : Stt) (d : Da) : (∃ L' f, Tl m w L d L' f) ∨ ∃ word, Nope m w d word := by
  by_cases hd : isDropD d = true
  · unfold isDropD at hd
    split at hd
    · rename_i s a b c
      have e : s = "drop" := of_decide_eq_true hd
      subst e
      by_cases h1 : spotB m w a = true
      · by_cases h2 : nameB b = true
        · by_cases h3 : withinB 1 400 c = true
          · obtain ⟨s, rfl, _⟩ := spotB_tri h1
            obtain ⟨cc, rfl⟩ := nameB_str h2
            obtain ⟨i, rfl, h4, h5⟩ := withinB_int h3
            exact .inl ⟨_, _, .drop s cc i h1 h2 h4 h5⟩
          · exact .inr ⟨"wet", .drop a b c _ (by unfold dropB; rw [if_pos h1, if_pos h2, if_neg h3])⟩
        · exact .inr ⟨"colour", .drop a b c _ (by unfold dropB; rw [if_pos h1, if_neg h2])⟩
      · exact .inr ⟨"spot", .drop a b c _ (by unfold dropB; rw [if_neg h1])⟩
    · cases hd
  · have hd : isDropD d = false := Bool.eq_false_iff.mpr hd
    by_cases h : deedB m d = true
    · obtain ⟨dd, rfl, hok⟩ := deedB_dd h
      exact .inl ⟨_, _, .deed dd hok⟩
    · exact .inr ⟨"deed", .deed d hd (Bool.eq_false_iff.mpr h)⟩
/-! ### the states stay in order -/
theorem StdOk.gap {m : Nat} {st : List Tri} (h : StdOk m st) {g : Nat} (hg : g + 1 < m) : Gap st g (st.getD g (0, 0, 0)) (st.getD (g + 1) (0, 0, 0)) ∨ 100 < m := by
  by_cases hm : 100 < m
  · exact .inr hm
  · refine .inl ⟨getD_at (by rw [h.len]; omega), getD_at (by rw [h.len]; omega), fun hmem => ?_, ?_, by rw [h.len]; omega⟩
    · have h1 : (st.map (·.1))[g]? = some (st.getD g (0, 0, 0)).1 := by rw [List.getElem?_map, getD_at (d := (0, 0, 0)) (by rw [h.len]; omega)]; rfl
      obtain ⟨j, hj⟩ := List.mem_iff_getElem?.mp hmem
      have hjg : j < g := by
        have := (List.getElem?_eq_some_iff.mp hj).1
        rw [List.length_take] at this
        omega
      rw [List.getElem?_take_of_lt hjg] at hj
      have := (List.getElem?_inj (List.getElem?_eq_some_iff.mp hj).1 h.nd).mp (hj.trans h1.symm)
      omega
    · have hm2 : st.getD g (0, 0, 0) ∈ st := List.mem_of_getElem? (getD_at (d := (0, 0, 0)) (by rw [h.len]; omega))
      exact (h.inn _ hm2).2.1
theorem StdOk.ne {m : Nat} {st : List Tri} (h : StdOk m st) {g : Nat} (hg : g + 1 < m) : (st.getD g (0, 0, 0)).1 ≠ (st.getD (g + 1) (0, 0, 0)).1 := fun e => by
  have h1 : (st.map (·.1))[g]? = some (st.getD g (0, 0, 0)).1 := by rw [List.getElem?_map, getD_at (d := (0, 0, 0)) (by rw [h.len]; omega)]; rfl
  have h2 : (st.map (·.1))[g + 1]? = some (st.getD (g + 1) (0, 0, 0)).1 := by rw [List.getElem?_map, getD_at (d := (0, 0, 0)) (by rw [h.len]; omega)]; rfl
  have := (List.getElem?_inj (List.getElem?_eq_some_iff.mp h1).1 h.nd).mp (h1.trans ((congrArg some e).trans h2.symm))
  omega
theorem prs_spots {m w : Nat} {st : List Tri} (h : StdOk m st) {g : Nat} (hg : g + 1 < m) : ∀ pr ∈ prsOf w st g, pr.1 ∈ spotsL m w ∧ pr.2 ∈ spotsL m w := fun pr hp => by
  have m1 : st.getD g (0, 0, 0) ∈ st := List.mem_of_getElem? (getD_at (d := (0, 0, 0)) (by rw [h.len]; omega))
  have m2 : st.getD (g + 1) (0, 0, 0) ∈ st := List.mem_of_getElem? (getD_at (d := (0, 0, 0)) (by rw [h.len]; omega))
  unfold prsOf pairsP at hp
  obtain ⟨c, hc, rfl⟩ := List.mem_map.mp hp
  have hc := List.mem_range.mp hc
  generalize st.getD g (0, 0, 0) = p at m1
  generalize st.getD (g + 1) (0, 0, 0) = q at m2
  obtain ⟨p1, p2, p3⟩ := h.inn p m1
  obtain ⟨q1, q2, q3⟩ := h.inn q m2
  refine ⟨mem_spotsL.mpr ⟨p1, ?_, ?_, ?_⟩, mem_spotsL.mpr ⟨q1, ?_, ?_, ?_⟩⟩
  · show 0 ≤ 1 - p.2.1 ∧ 1 - p.2.1 ≤ 1
    omega
  · show (0 : Int) ≤ (c : Int)
    omega
  · show (c : Int) < w
    omega
  · show 0 ≤ q.2.1 ∧ q.2.1 ≤ 1
    omega
  · show 0 ≤ farI w q.2.2 (farI w p.2.2 c)
    unfold farI
    split <;> split <;> omega
  · show farI w q.2.2 (farI w p.2.2 c) < w
    unfold farI
    split <;> split <;> omega
theorem prs_ne {w : Nat} {m : Nat} {st : List Tri} (h : StdOk m st) {g : Nat} (hg : g + 1 < m) : ∀ pr ∈ prsOf w st g, pr.1 ≠ pr.2 := fun pr hp e => by
  unfold prsOf pairsP at hp
  obtain ⟨c, _, rfl⟩ := List.mem_map.mp hp
  exact h.ne hg (congrArg (·.1) e)
theorem getD_mem' {st : List Tri} {p : Nat} (h : p < st.length) : st.getD p (0, 0, 0) ∈ st := List.mem_of_getElem? (getD_at (d := (0, 0, 0)) h)
theorem StdOk.one {m : Nat} {st : List Tri} (h : StdOk m st) {p : Nat} {x : Tri} (hp : p < st.length) (hx : x.1 = (st.getD p (0, 0, 0)).1) (h1 : x.2.1 = 0 ∨ x.2.1 = 1) (h2 : x.2.2 = 0 ∨ x.2.2 = 1) : StdOk m (st.take p ++ ([x] ++ st.drop (p + 1))) := by
  rw [← set_one x hp]
  have en : (st.set p x).map (·.1) = st.map (·.1) := by
    rw [List.map_set]
    refine List.ext_getElem? fun j => ?_
    rw [List.getElem?_set]
    split
    · rename_i e
      subst e
      rw [if_pos (by rw [List.length_map]; exact hp), List.getElem?_map, getD_at (d := (0, 0, 0)) hp, hx]
      rfl
    · rfl
  refine ⟨by rw [List.length_set]; exact h.len, by rw [en]; exact h.nd, fun y hy => ?_⟩
  rcases List.mem_or_eq_of_mem_set hy with hy | rfl
  · exact h.inn y hy
  · exact ⟨by rw [hx]; exact (h.inn _ (getD_mem' hp)).1, h1, h2⟩
theorem StdOk.swap {m : Nat} {st : List Tri} (h : StdOk m st) {g : Nat} (hg : g + 1 < st.length) : StdOk m (st.take g ++ ([st.getD (g + 1) (0, 0, 0), st.getD g (0, 0, 0)] ++ st.drop (g + 2))) := by
  have hp : (st.take g ++ ([st.getD (g + 1) (0, 0, 0), st.getD g (0, 0, 0)] ++ st.drop (g + 2))).Perm st := by
    have e : st = st.take g ++ ([st.getD g (0, 0, 0), st.getD (g + 1) (0, 0, 0)] ++ st.drop (g + 2)) := by
      rw [← set_two _ _ hg]
      refine List.ext_getElem? fun j => ?_
      by_cases h1 : g + 1 = j
      · subst h1
        rw [List.getElem?_set_self (by rw [List.length_set]; exact hg)]
        exact getD_at hg
      · rw [List.getElem?_set_ne h1]
        by_cases h2 : g = j
        · subst h2
          rw [List.getElem?_set_self (by omega)]
          exact getD_at (by omega)
        · rw [List.getElem?_set_ne h2]
    conv => rhs; rw [e]
    exact (List.Perm.swap _ _ _).append_left _
  refine ⟨by rw [hp.length_eq]; exact h.len, (hp.map _).nodup_iff.mpr h.nd, fun y hy => h.inn y (hp.mem_iff.mp hy)⟩
theorem StdOk.move {m : Nat} {st : List Tri} (h : StdOk m st) {dd : Dd} (hd : dd.ok m) : StdOk m (dd.move st) := by
  cases dd with
  | press g => exact h
  | wait t => exact h
  | swap g => exact h.swap (by rw [h.len]; exact hd)
  | over p =>
    have hp : p < st.length := by rw [h.len]; exact hd
    obtain ⟨_, h2, h3⟩ := h.inn _ (getD_mem' hp)
    exact h.one hp rfl (by show 1 - (st.getD p (0, 0, 0)).2.1 = 0 ∨ 1 - (st.getD p (0, 0, 0)).2.1 = 1; omega) h3
  | about p =>
    have hp : p < st.length := by rw [h.len]; exact hd
    obtain ⟨_, h2, h3⟩ := h.inn _ (getD_mem' hp)
    exact h.one hp rfl h2 (by show 1 - (st.getD p (0, 0, 0)).2.2 = 0 ∨ 1 - (st.getD p (0, 0, 0)).2.2 = 1; omega)
theorem Tl.ok {m w : Nat} {L L' : Stt} {d f : Da} (h : Tl m w L d L' f) (hL : SttOk m w L) : SttOk m w L' := by
  cases h with
  | drop s c wet h1 h2 h3 h4 =>
    have hs : s ∈ spotsL m w := by
      obtain ⟨s', e, a1, a2, a3, a4, a5, a6⟩ := spotB_tri h1
      have : s = s' := by
        obtain ⟨x, y, z⟩ := s
        obtain ⟨x', y', z'⟩ := s'
        have e := Da.tup.inj e
        simp at e
        simp [e]
      rw [this]
      exact mem_spotsL.mpr ⟨⟨a1, a2⟩, ⟨a3, a4⟩, a5, a6⟩
    refine ⟨hL.std, hL.now, fun x hx => ?_, fun x hx => ?_, ?_⟩
    · rcases dropCs_mem hx with hx | ⟨mp, hmp, rfl⟩
      · exact hL.mks x hx
      · have hg : Gm L.now mp ∧ Sup (spotsL m w) mp := by
          rcases hmp with rfl | hmp
          · exact ⟨Gm.empty, fun r e => (e rfl).elim⟩
          · exact hL.mks _ hmp
        refine ⟨hg.1.put (sinceOf_le hg.1 _) ?_, hg.2.put hs⟩
        show 0 ≤ (if L.now + wet > dryOf mp s then L.now + wet else dryOf mp s)
        have := dryOf_nn hg.1 s
        split <;> omega
    · rcases dropCs_mem hx with hx | ⟨mp, hmp, rfl⟩
      · exact hL.nm x hx
      · exact h2
    · show ((dropCs L.now c s wet L.cs).map (·.1)).Nodup
      rw [dropCs_names]
      split
      · exact hL.nd
      · rename_i hn
        exact List.nodup_append.mpr ⟨hL.nd, by simp, fun a ha b hb => by
          have : b = c := by simpa using hb
          subst this
          exact fun z => hn (z ▸ ha)⟩
  | deed dd hok =>
    have ht : (0 : Int) ≤ dd.takes := by omega
    have hcs : ∀ x ∈ dd.cs w L, (Gm L.now x.2 ∧ Sup (spotsL m w) x.2) ∧ ∃ y ∈ L.cs, y.1 = x.1 := fun x hx => by
      cases dd with
      | press g =>
        obtain ⟨y, hy, rfl⟩ := List.mem_map.mp hx
        exact ⟨⟨foldS_gm _ _ (hL.mks y hy).1, foldS_sup _ _ (hL.mks y hy).2 (prs_spots hL.std hok)⟩, y, hy, rfl⟩
      | _ => exact ⟨hL.mks x hx, x, hx, rfl⟩
    refine ⟨hL.std.move hok, by show 0 ≤ L.now + dd.takes; have := hL.now; omega, fun x hx => ⟨(hcs x hx).1.1.later (by show L.now ≤ L.now + dd.takes; omega), (hcs x hx).1.2⟩, fun x hx => ?_, ?_⟩
    · obtain ⟨_, y, hy, e⟩ := hcs x hx
      rw [← e]
      exact hL.nm y hy
    · show ((dd.cs w L).map (·.1)).Nodup
      cases dd with
      | press g =>
        show ((L.cs.map fun c => (c.1, (foldS L.now (prsOf w L.st g) c.2).1)).map (·.1)).Nodup
        rw [List.map_map]
        exact hL.nd
      | _ => exact hL.nd
theorem Tl.len {m w : Nat} {L L' : Stt} {d f : Da} (h : Tl m w L d L' f) : L'.cs.length ≤ L.cs.length + 1 := by
  cases h with
  | drop s c wet =>
    show (dropCs L.now c s wet L.cs).length ≤ _
    have e : (dropCs L.now c s wet L.cs).length = ((dropCs L.now c s wet L.cs).map (·.1)).length := by rw [List.length_map]
    rw [e, dropCs_names]
    split
    · rw [List.length_map]; omega
    · rw [List.length_append, List.length_map]; exact Nat.le_refl _
  | deed dd =>
    show (dd.cs w L).length ≤ _
    cases dd with
    | press g =>
      show (L.cs.map _).length ≤ _
      rw [List.length_map]
      omega
    | _ => exact Nat.le_succ _
end Bb
/-! Bb14 -/
namespace Bb
open PySem PySem.Spec PyProof.Rows L2

/-- lists and tuples are kept -/
def SameD (F F' : Hp) : Prop := (∀ b xs, F b = some (.lst xs) → F' b = some (.lst xs)) ∧ ∀ b xs, F b = some (.tup xs) → F' b = some (.tup xs)
theorem Same.d {F F' : Hp} (s : Same F F') : SameD F F' := ⟨fun _ _ e => s _ _ e, fun _ _ e => s _ _ e⟩
mutual
theorem Dt.sd {F F' : Hp} (s : SameD F F') : ∀ {v : V} {d : Da}, Dt F v d → Dt F' v d
  | _, _, .non => .non
  | _, _, .bl b => .bl b
  | _, _, .int i => .int i
  | _, _, .str x => .str x
  | _, _, .ob v => .ob v
  | _, _, .lst h r => .lst (s.1 _ _ h) (DtA.sd s r)
  | _, _, .tup h r => .tup (s.2 _ _ h) (DtA.sd s r)
theorem DtA.sd {F F' : Hp} (s : SameD F F') : ∀ {vs : List V} {ds : List Da}, DtA F vs ds → DtA F' vs ds
  | _, _, .nil => .nil
  | _, _, .cons h r => .cons (Dt.sd s h) (DtA.sd s r)
end
theorem RepT.sd {F F' : Hp} {kvs : List (List Key × V)} {mp : Mp} (r : RepT F kvs mp) (s : SameD F F') : RepT F' kvs mp := by
  refine ⟨fun t => ?_, r.key, r.nd⟩
  have h := r.val t
  revert h
  cases valV kvs (keyT t) <;> cases mp t <;> first | exact id | exact fun h => Dt.sd s h
theorem Env.sd {F F' : Hp} {σ : LSt} {ρ : Rho} (e : Env F σ ρ) (s : SameD F F') : Env F' σ ρ := ⟨e.len, fun i x h => by
  obtain ⟨v, a, b⟩ := e.at_ i x h
  exact ⟨v, a, b.sd s⟩⟩
section
variable {F0 B F H F1 H1 F2 H2 F' H' : Hp} {M N : List Addr} {σ : LSt} {ρ ρ' : Rho} {K : PySem.W.Frag} {te td ta ty tv : TE} {p q d : Addr} {u : HO}
theorem Gr.transL (a : Gr M F H F1 H1) (b : Gr N F1 H1 F2 H2) (hN : ∀ n ∈ N, n ∈ M ∨ H n = none) (hM : ∀ m ∈ M, ∃ o, H1 m = some o ∧ HO.isTup o = false) : Gr M F H F2 H2 where
  ff := a.ff.trans b.ff
  fh := b.fh
  hh := fun c o n e => b.hh c o (fun z => (hN c z).elim n fun z => by rw [z] at e; cases e) (a.hh c o n e)
  nw := fun c o e t => by
    by_cases n : c ∈ M
    · obtain ⟨o', e', t'⟩ := hM c n
      rw [b.nw c o' e' t', a.nw c o e t]
    · rw [b.nw c o (a.hh c o n e) t, a.nw c o e t]
/-! ### locks, the locked thing among the frozen -/
theorem lock_same {o : HO} (s : Same F H) : Same (upd F d o) (upd H d o) := fun b x e => by
  by_cases h : b = d
  · rw [h, upd_same] at e ⊢; exact e
  · rw [upd_ne h] at e ⊢; exact s _ _ e
theorem lock_sd {od : Obj} (hk : ∀ o, F d = some o → HO.isDict o = true) : SameD F (upd F d (.frz od u)) := ⟨fun b xs e => by
  rw [upd_ne (fun z => by rw [z] at e; cases hk _ e)]; exact e, fun b xs e => by
  rw [upd_ne (fun z => by rw [z] at e; cases hk _ e)]; exact e⟩
theorem Gr.unlockZ {od : Obj} (s : Same F H) (hd : H d = some u) (hM : d ∉ M) (g : Gr M (upd F d (.frz od u)) (upd H d (.frz od u)) F' H') : H' d = some (.frz od u) ∧ F' d = some (.frz od u) ∧ Gr M F H (rel F' F d) (upd H' d u) ∧ SameD F' (rel F' F d) := by
  have h1 : H' d = some (.frz od u) := g.hh d _ hM upd_same
  have h2 : F' d = some (.frz od u) := g.ff _ _ upd_same
  refine ⟨h1, h2, ⟨fun b o e => ?_, fun b o e => ?_, fun b o hb e => ?_, fun b o e t => ?_⟩, ⟨fun b xs e => ?_, fun b xs e => ?_⟩⟩
  · unfold rel
    by_cases h : b = d
    · rw [if_pos h, ← h]; exact e
    · rw [if_neg h]; exact g.ff _ _ (by rw [upd_ne h]; exact e)
  · unfold rel at e
    by_cases h : b = d
    · rw [if_pos h] at e
      have := s _ _ e
      rw [hd] at this
      cases this
      rw [h, upd_same]
    · rw [if_neg h] at e
      rw [upd_ne h]
      exact g.fh _ _ e
  · by_cases h : b = d
    · rw [h, upd_same]; rw [h, hd] at e; exact e
    · rw [upd_ne h]; exact g.hh b o hb (by rw [upd_ne h]; exact e)
  · unfold rel
    by_cases h : b = d
    · rw [if_pos h, ← h]
    · rw [if_neg h]
      have := g.nw b o (by rw [upd_ne h]; exact e) t
      rw [this, upd_ne h]
  · unfold rel
    rw [if_neg (fun z => by rw [z, h2] at e; cases e)]
    exact e
  · unfold rel
    rw [if_neg (fun z => by rw [z, h2] at e; cases e)]
    exact e
/-- the values of a locked dict -/
theorem di_vals {o : Obj} {kvs : List (Key × V)} (h : Dv F0 B td ρ (.ob (.ref q))) (hF : F0 q = some (.frz o (.dK kvs))) : DvI F0 B (iVals td) ρ (kvs.map fun kv => .ob kv.2) := fun σ F H a E R k => h σ F H a E _ fun v F1 H1 g1 d1 => by
  have hf1 := g1.ff _ _ (a.f _ _ hF)
  have hx : ∀ (i : Nat) (x : Da), (kvs.map fun kv => Da.ob kv.2)[i]? = some x → ∃ kv, kvs[i]? = some kv ∧ x = .ob kv.2 := fun i x e => by
    rw [List.getElem?_map] at e
    cases z : kvs[i]? with
    | none => rw [z] at e; cases e
    | some kv => rw [z] at e; cases e; exact ⟨kv, rfl, rfl⟩
  refine ⟨q, o, kvs, d1.of_ob, g1.fh _ _ hf1, k _ F1 H1 g1 ⟨fun F2 H2 g2 i x e => ?_, fun F2 H2 g2 i x e v H3 hy => ?_, fun F2 H2 g2 => ?_⟩⟩
  · obtain ⟨kv, e1, _⟩ := hx i x e
    exact ⟨g2.fh _ _ (g2.ff _ _ hf1), (List.getElem?_eq_some_iff.mp e1).1⟩
  · obtain ⟨kv, e1, rfl⟩ := hx i x e
    obtain ⟨rfl, kk, e2⟩ := hy
    rw [e1] at e2
    cases e2
    exact ⟨F2, .refl g2.fh, .ob _⟩
  · rw [List.length_map]
    exact ⟨g2.fh _ _ (g2.ff _ _ hf1), Nat.le_refl _⟩
/-- a text in a dict -/
theorem dv_notInK {kvs : List (Key × V)} {c : Str} (h : Dv F0 B td ρ (.ob (.ref p))) (hB : Rd B p (.dK kvs)) (hy : Dv F0 B ty ρ (.str c)) : Dv F0 B (tDNotIn ty td) ρ (.bl (!(valV kvs (.inr c)).isSome)) := fun σ F H a E Q k => hy σ F H a E _ fun u F1 H1 g1 d1 => h σ F1 H1 (a.go g1) (E.mono g1.ff) _ fun v F2 H2 g2 d2 => by
  have h1 : Rd H2 p (.dK kvs) := Rd.same (Rd.same (Rd.same hB a.b) g1.same) g2.same
  exact ⟨p, _, d2.of_ob, .inl ⟨kvs, .inr c, h1, d1.of_str, rfl⟩, k _ F2 H2 (g1.trans0 g2) (.bl _)⟩
end
theorem cb_call {σ : LSt} {H : Hp} {Q : VK} {E : XK} {sp : Sp} {ta : TA} {q : List V → Hp → VK → Prop} (h : ta σ H fun vs H1 => sp (vs ++ []) H1 (fun v H2 => q [v] H2 Q) E) : tCB q (tCons (tCall sp [] E ta) tNil) σ H Q := h
theorem nd43 : (spotsL 4 3).Nodup := by decide +kernel
theorem len43 : (spotsL 4 3).length = 24 := by decide +kernel
theorem RepT.few {F : Hp} {kvs : List (List Key × V)} {mp : Mp} {m w : Nat} (r : RepT F kvs mp) (h : Sup (spotsL m w) mp) (hm : m ≤ 4) (hw : w ≤ 3) : kvs.length ≤ 24 := by
  rw [r.length (spotsL 4 3) nd43 fun s e => spots_sub hm hw (h s e)]
  exact Nat.le_trans (List.length_filter_le _ _) (Nat.le_of_eq len43)
/-- the inner dicts alone -/
def InR (G F : Hp) (ps : List Addr) (cs : List (Str × Mp)) : Prop := ∀ (i : Nat) (c : Str × Mp) (p : Addr), cs[i]? = some c → ps[i]? = some p → ∃ tks, G p = some (.dT tks) ∧ RepT F tks c.2
theorem RepO.of_in {G F : Hp} {q : Addr} {ps : List Addr} {cs cs' : List (Str × Mp)} (r : RepO G F q ps cs) {G' F' : Hp} (hq : G' q = G q) (hn : cs'.map (·.1) = cs.map (·.1)) (hi : InR G' F' ps cs') : RepO G' F' q ps cs' := by
  have hl : cs'.length = cs.length := by
    have := congrArg List.length hn
    simpa using this
  refine ⟨by rw [hl]; exact r.len, ?_, r.nd, by rw [hn]; exact r.names, hi⟩
  rw [hq, r.d]
  congr 2
  unfold kvsO
  refine List.ext_getElem? fun j => ?_
  rw [List.getElem?_map, List.getElem?_map]
  by_cases hj : j < cs.length
  · have a1 : cs[j]? = some cs[j] := List.getElem?_eq_getElem hj
    have a1' : cs'[j]? = some (cs'[j]'(by rw [hl]; exact hj)) := List.getElem?_eq_getElem _
    have a2 : ps[j]? = some (ps[j]'(by rw [r.len]; exact hj)) := List.getElem?_eq_getElem _
    rw [List.getElem?_zip_eq_some (z := (cs[j], ps[j]'(by rw [r.len]; exact hj))) |>.mpr ⟨a1, a2⟩, List.getElem?_zip_eq_some (z := ((cs'[j]'(by rw [hl]; exact hj)), ps[j]'(by rw [r.len]; exact hj))) |>.mpr ⟨a1', a2⟩]
    have e : (cs'.map (·.1))[j]? = (cs.map (·.1))[j]? := by rw [hn]
    rw [List.getElem?_map, List.getElem?_map, a1, a1'] at e
    have e := Option.some.inj e
    show some (Sum.inr cs[j].1, _) = some (Sum.inr (cs'[j]'(by rw [hl]; exact hj)).1, _)
    rw [show (cs'[j]'(by rw [hl]; exact hj)).1 = cs[j].1 from e]
  · rw [List.getElem?_eq_none (by rw [List.length_zip]; omega), List.getElem?_eq_none (by rw [List.length_zip]; omega)]
def spLyPress (K : PySem.W.Frag) : Sp := fun vs H Q _ => ∃ (F : Hp) (a q : Addr) (ps : List Addr) (m w g : Nat) (L : Stt), vs = [.ref a, .int g] ∧ Same F H ∧ LyO K H F a m w L q ps ∧ F q = none ∧ (∀ p ∈ ps, F p = none) ∧ SttOk m w L ∧ m ≤ 4 ∧ w ≤ 3 ∧ g + 1 < m ∧ L.cs.length ≤ 1000 ∧
  ∀ F' H', Gr ps F H F' H' → InR H' F' ps (pressCs L.now (prsOf w L.st g) L.cs) → Q (.int (pressN L.now (prsOf w L.st g) L.cs)) H'
abbrev N_ly_press : List Str := ["self", "gap", "pairs", "some"]
abbrev P_ly_press : List Str := ["self", "gap"]
theorem sc_ly_press : FnScope N_ly_press P_ly_press (defScope s_ly_press) := ⟨rfl, rfl, rfl, by decide +kernel, rfl, by decide +kernel, by decide +kernel⟩
theorem b_ly_press : BindsD d_ly_press P_ly_press := fun _ _ _ _ _ _ us hl => match us, hl with | [_, _], _ => rfl
abbrev N_ly_drop : List Str := ["self", "spot", "colour", "wet"]
abbrev P_ly_drop : List Str := ["self", "spot", "colour", "wet"]
theorem sc_ly_drop : FnScope N_ly_drop P_ly_drop (defScope s_ly_drop) := ⟨rfl, rfl, rfl, by decide +kernel, rfl, by decide +kernel, by decide +kernel⟩
theorem b_ly_drop : BindsD d_ly_drop P_ly_drop := fun _ _ _ _ _ _ us hl => match us, hl with | [_, _, _, _], _ => rfl

section
variable {P : Program} {w : World} {K : PySem.W.Frag} {mg : Str → Option Value} {base : Heap}
theorem ok_ly_press (T : Txt K mg) (G_pairs_at : Ok P w K mg base CX0 3 d_pairs_at P_pairs_at (spD R_pairs_at)) (G_pressed : Ok P w K mg base CX0 2 d_pressed P_pressed spPressed) : Ok P w K mg base CX0 4 d_ly_press P_ly_press (spLyPress K) := by
  refine okN T.f_ly_press sc_ly_press b_ly_press (fun vs H Q E h => ?_) fun cdv A outer s H vs Q E hr h => ?_
  · obtain ⟨_, _, _, _, _, _, _, _, rfl, _⟩ := h
    rfl
  · obtain ⟨F, a, q, ps, m, w', g, L, rfl, sm, hL, nFq, nFp, hok, hm, hw, hg, hcl, qq⟩ := h
    refine ⟨_, (pss_cons (ps_set (i := 2) sc_ly_press.nd rfl (.inr rfl) (pe_callO G_pairs_at (hr.mono (by decide)) rfl T.g_pairs_at pass0 (pa_cons (kpe_fld (K := K) (pv 0) rfl) (pa_cons (kpe_fld (K := K) (pv 0) rfl) (pa_cons (pv 1) pa_nil)))))
  (pss_one (ps_ret (pe_callB (kcr_sum (K := K)) (by rfl) T.n_sum (by decide +kernel) (pa_cons (pe_lock (pe_lc (own := [("some", 3)]) rfl sc_ly_press.nd (pi_values (kpe_fld (K := K) (pv 0) rfl)) (blkOk_by (N := N_ly_press) (sc := defScope s_ly_press) (by decide +kernel)) (fun _ _ _ _ _ => (pg_name (i := 3) sc_ly_press.nd rfl (.inl rfl))) (fun _ _ _ _ _ => pts_nil) (fun _ _ _ _ _ => (pe_callB (kcall_len (K := K)) (by rfl) T.n_len (by decide +kernel) (pa_cons (pe_callO G_pressed (hr.mono (by decide)) rfl T.g_pressed pass0 (pa_cons (pv 3) (pa_cons (kpe_fld (K := K) (pv 0) rfl) (pa_cons (pv 2) pa_nil)))) pa_nil))))) pa_nil))))), ?_⟩
    obtain ⟨⟨dx, vsh, vst, vdn, ha, hsh, hst, hdn⟩, hO⟩ := hL
    have E0 : Env F (L2.start N_ly_press [.ref a, .int g]) [some (.ob (.ref a)), some (.int g), none, none] := env_start (.cons (.ob _) (.cons (.int _) .nil))
    have hgap : Gap L.st g (L.st.getD g (0, 0, 0)) (L.st.getD (g + 1) (0, 0, 0)) := (hok.std.gap hg).resolve_right (by omega)
    refine Sv.seq (sv_set (dv_call (da_cons (dv_fld (dv_var rfl) ha T.c_Lying T.a_Lying_shape ly_shape hsh) (da_cons (dv_fld (dv_var rfl) ha T.c_Lying T.a_Lying_order ly_order hst) (da_cons (dv_var rfl) da_nil))) ⟨m, w', L.st, g, _, _, rfl, hgap, by omega, rfl⟩)) sm E0 fun σ1 F1 H1 g1 E1 => ?_
    have ha1 := g1.same _ _ ha
    have hq1 := g1.same _ _ hO.d
    have n1q : F1 q = none := by rw [g1.nw q _ hO.d rfl]; exact nFq
    have n1p : ∀ p ∈ ps, F1 p = none := fun p hp => by
      obtain ⟨tks, e⟩ := hO.at_ hp
      rw [g1.nw p _ e rfl]
      exact nFp p hp
    have hO1 := (hO.mono g1.ff).grow g1.same
    -- the sum
    show tLockE _ σ1 H1 _
    refine lockE g1.fh hq1 rfl fun od => ?_
    have sl := lock_same (d := q) (o := .frz od (.dK (kvsO L.cs ps))) g1.fh
    have sd : Same F1 (upd F1 q (.frz od (.dK (kvsO L.cs ps)))) := fun b o e => by rw [upd_ne (ne_of_none e n1q)]; exact e
    generalize hFl : upd F1 q (.frz od (.dK (kvsO L.cs ps))) = Fl at sl sd
    generalize hHl : upd H1 q (.frz od (.dK (kvsO L.cs ps))) = Hl at sl
    have haq : a ≠ q := ne_of ha1 hq1 (fun z => nomatch z)
    have hal : Hl a = some (.ins (He.ga K "Lying") dx (lyF vsh vst L.now q vdn)) := by rw [← hHl, upd_ne haq]; exact ha1
    have hFlq : Fl q = some (.frz od (.dK (kvsO L.cs ps))) := by rw [← hFl]; exact upd_same
    have hql : Hl q = some (.frz od (.dK (kvsO L.cs ps))) := sl _ _ hFlq
    have hpq : ∀ p ∈ ps, p ≠ q := fun p hp z => hO.ne (z ▸ hp)
    have npl : ∀ p ∈ ps, Fl p = none := fun p hp => by rw [← hFl, upd_ne (hpq p hp)]; exact n1p p hp
    have hIl : InR Hl Fl ps L.cs := fun i c p h1 h2 => by
      obtain ⟨tks, e, r⟩ := hO1.inn i c p h1 h2
      exact ⟨tks, by rw [← hHl, upd_ne (hpq p (List.mem_of_getElem? h2))]; exact e, r.mono sd⟩
    have El := E1.mono sd
    have lenK : (kvsO L.cs ps).length = L.cs.length := kvsO_len hO.len
    let prs := prsOf w' L.st g
    have hprs : prs.length = w' := by show (pairsP _ _ _).length = _; unfold pairsP; simp
    have hne : ∀ pr ∈ prs, pr.1 ≠ pr.2 := prs_ne hok.std hg
    -- the marks as they are behind i turns
    let csI : Nat → List (Str × Mp) := fun i => pressCs L.now prs (L.cs.take i) ++ L.cs.drop i
    have csI_at : ∀ (i j : Nat) (c : Str × Mp), L.cs[j]? = some c → (csI i)[j]? = some (if j < i then (c.1, (foldS L.now prs c.2).1) else c) := fun i j c h => by
      have hj := (List.getElem?_eq_some_iff.mp h).1
      show (pressCs L.now prs (L.cs.take i) ++ L.cs.drop i)[j]? = _
      have hlen : (pressCs L.now prs (L.cs.take i)).length = min i L.cs.length := by unfold pressCs; rw [List.length_map, List.length_take]
      by_cases hji : j < i
      · rw [List.getElem?_append_left (by rw [hlen]; omega), if_pos hji]
        unfold pressCs
        rw [List.getElem?_map, List.getElem?_take_of_lt hji, h]
        rfl
      · rw [List.getElem?_append_right (by rw [hlen]; omega), if_neg hji, hlen, List.getElem?_drop, ← h]
        congr 1
        omega
    have csI_len : ∀ i, (csI i).length = L.cs.length := fun i => by
      show (pressCs L.now prs (L.cs.take i) ++ L.cs.drop i).length = _
      unfold pressCs
      rw [List.length_append, List.length_map, List.length_take, List.length_drop]
      omega
    have at_cs : ∀ (i j : Nat) (c : Str × Mp), (csI i)[j]? = some c → ∃ c0, L.cs[j]? = some c0 ∧ c = if j < i then (c0.1, (foldS L.now prs c0.2).1) else c0 := fun i j c h => by
      have hj : j < L.cs.length := by rw [← csI_len i]; exact (List.getElem?_eq_some_iff.mp h).1
      refine ⟨L.cs[j], List.getElem?_eq_getElem hj, ?_⟩
      rw [csI_at i j _ (List.getElem?_eq_getElem hj)] at h
      exact (Option.some.inj h).symm
    let nI : Nat → Da := fun i => .int ((foldS L.now prs (L.cs.getD i ("", noMp)).2).2 : Nat)
    refine lcS nI (fun i F2 H2 => Gr ps Fl Hl F2 H2 ∧ InR H2 F2 ps (csI i) ∧ ∀ p ∈ ps, F2 p = none) (di_vals (dv_fld (dv_var rfl) hal T.c_Lying T.a_Lying_stained ly_stained (.ob _)) hFlq) sl El (by rw [List.length_map, lenK, sizeLine_eq]; omega) (fun F2 H2 D g2 nD hD _ => ?_) (fun i F2 H2 D o nD nFD hI => ?_) (fun i x hx F2 H2 D s1 s2 hI nD hacc nFD v F3 H3 g3 d3 E3 Nx hNx => ?_) (fun F2 H2 v s1 s2 hI hv => ?_) (fun i F2 H2 D o nD nFD hD hI => ?_)
    · exact ⟨g2.wide, fun i c p h1 h2 => by
        have h1' : L.cs[i]? = some c := by
          obtain ⟨c0, e1, e2⟩ := at_cs 0 i c h1
          rw [if_neg (Nat.not_lt_zero _)] at e2
          rw [e2]; exact e1
        obtain ⟨tks, e, r⟩ := hIl i c p h1' h2
        exact ⟨tks, g2.same _ _ e, r.mono g2.ff⟩, fun p hp => by
        obtain ⟨i, hi⟩ := List.mem_iff_getElem?.mp hp
        obtain ⟨c, hc⟩ := hO.csAt hi
        obtain ⟨tks, e, _⟩ := hIl i c p hc hi
        rw [g2.nw p _ e rfl]
        exact npl p hp⟩
    · obtain ⟨gI, hR, hn⟩ := hI
      have hpD : ∀ p ∈ ps, p ≠ D := fun p hp z => by
        obtain ⟨i, hi⟩ := List.mem_iff_getElem?.mp hp
        obtain ⟨c, hc⟩ := hO.csAt hi
        obtain ⟨tks, e, _⟩ := hIl i c p hc hi
        rw [z, nD] at e
        cases e
      exact ⟨⟨gI.ff, fun b o e => by rw [upd_ne (ne_of_none e nFD)]; exact gI.fh _ _ e, fun b o hb e => by rw [upd_ne (ne_of_none e nD)]; exact gI.hh b o hb e, gI.nw⟩, fun j c p h1 h2 => by
        obtain ⟨tks, e, r⟩ := hR j c p h1 h2
        exact ⟨tks, by rw [upd_ne (hpD p (List.mem_of_getElem? h2))]; exact e, r⟩, hn⟩
    · obtain ⟨gI, hR, hn⟩ := hI
      have hi : i < L.cs.length := by
        have := (List.getElem?_eq_some_iff.mp hx).1
        rw [List.length_map, lenK] at this
        exact this
      have hc : L.cs[i]? = some L.cs[i] := List.getElem?_eq_getElem hi
      have hcD : L.cs.getD i ("", noMp) = L.cs[i] := by rw [List.getD_eq_getElem?_getD, hc]; rfl
      generalize L.cs[i] = c at hc hcD
      obtain ⟨p, hp⟩ := hO.psAt hc
      have hpm := List.mem_of_getElem? hp
      have hx' : x = .ob (.ref p) := by
        rw [List.getElem?_map, kvsO_get hc hp] at hx
        exact (Option.some.inj hx).symm
      subst hx'
      obtain ⟨tks, ht, hRt⟩ := hR i c p (by rw [csI_at i i c hc, if_neg (Nat.lt_irrefl _)]) hp
      have hcm := List.mem_of_getElem? hc
      have E3' : Env F3 (wipe σ1 [3]) [some (.ob (.ref a)), some (.int g), some (.lst (prs.map prD)), none] := E3
      have ht3 := g3.same _ _ ht
      have n3p : F3 p = none := by rw [g3.nw p _ ht rfl]; exact hn p hpm
      have ha3 : H3 a = some (.ins (He.ga K "Lying") dx (lyF vsh vst L.now q vdn)) := g3.same _ _ (gI.hh a _ (fun z => by
        obtain ⟨tks', e⟩ := hO.at_ z
        rw [ha] at e
        cases e) hal)
      refine ⟨wipe_set (by simp) |>.trans wipe_wipe, ?_⟩
      have E4 : Env F3 ((wipe σ1 [3]).set 3 (some v)) [some (.ob (.ref a)), some (.int g), some (.lst (prs.map prD)), some (.ob (.ref p))] := E3'.set d3
      refine cb_call ?_
      refine (da_cons (dv_var rfl) (da_cons (dv_fld (dv_var rfl) ha3 T.c_Lying T.a_Lying_now ly_now (.int _)) (da_cons (dv_var rfl) da_nil))).run g3.fh E4 fun vs4 F4 H4 g4 d4 => ?_
      cases d4 with
      | cons a1 r1 =>
      cases r1 with
      | cons a2 r2 =>
      cases r2 with
      | cons a3 r3 =>
      cases r3
      rw [a1.of_ob, a2.of_int]
      have hfew := hRt.few (hok.mks c hcm).2 hm hw
      refine ⟨F4, p, tks, c.2, L.now, prs, _, rfl, g4.fh, by rw [g4.nw p _ ht3 rfl]; exact n3p, g4.same _ _ ht3, (hRt.mono g3.ff).mono g4.ff, a3, by rw [hprs]; omega, by rw [hprs]; omega, (hok.mks c hcm).1, hok.now, hne, fun v5 F5 H5 tks5 ds5 g5 h5 hR5 hl5 n5 hv5 hds => ?_⟩
      obtain ⟨bl, xs, rfl, hbl, hxs⟩ := hv5.of_lst
      refine ⟨bl, xs, rfl, .inl (SqL.of (g5.fh _ _ hbl)), ?_⟩
      have gT : Gr [p] F2 H2 F5 H5 := (g3.trans0 g4).after g5
      have e5 : V.int (xs.length : Nat) = .int ((foldS L.now prs c.2).2 : Nat) := by rw [hxs.length, hds]
      obtain ⟨accl, hacc⟩ := hacc
      have hDp : D ∉ [p] := fun z => by
        have : D = p := by simpa using z
        rw [this, ht] at hacc
        cases hacc
      refine hNx _ F5 H5 (g4.ff.trans g5.ff) g5.fh (by rw [gT.nw D _ hacc rfl]; exact nFD) ?_ ⟨gI.transL gT (fun n hn' => .inl (by rw [show n = p by simpa using hn']; exact hpm)) (fun mm hmm => ?_), fun j c' p' h1 h2 => ?_, fun p' hp' => ?_⟩ ?_
      · rw [gT.hh D _ hDp hacc, g3.same _ _ hacc]
      · obtain ⟨j, hj⟩ := List.mem_iff_getElem?.mp hmm
        obtain ⟨c0, hc0⟩ := hO.csAt hj
        obtain ⟨tks', e, _⟩ := hR j _ mm (csI_at i j c0 hc0) hj
        exact ⟨_, e, rfl⟩
      · obtain ⟨c0, e1, e2⟩ := at_cs (i + 1) j c' h1
        by_cases hji : j = i
        · subst hji
          rw [hp] at h2
          cases h2
          rw [hc] at e1
          cases e1
          rw [if_pos (Nat.lt_succ_self _)] at e2
          rw [e2]
          exact ⟨tks5, h5, hR5⟩
        · obtain ⟨tks', e, r⟩ := hR j _ p' (csI_at i j c0 e1) h2
          have hpp : p' ≠ p := fun z => hji (by
            subst z
            exact (List.getElem?_inj (List.getElem?_eq_some_iff.mp h2).1 hO.nd).mp (h2.trans hp.symm))
          refine ⟨tks', gT.hh p' _ (by simpa using hpp) e, ?_⟩
          have : c'.2 = (if j < i then (c0.1, (foldS L.now prs c0.2).1) else c0).2 := by
            rw [e2]
            by_cases hlt : j < i
            · rw [if_pos hlt, if_pos (by omega)]
            · rw [if_neg hlt, if_neg (by omega)]
          rw [this]
          exact r.mono gT.ff
      · obtain ⟨j, hj⟩ := List.mem_iff_getElem?.mp hp'
        obtain ⟨c0, hc0⟩ := hO.csAt hj
        obtain ⟨tks', e, _⟩ := hR j _ p' (csI_at i j c0 hc0) hj
        rw [gT.nw p' _ e rfl]
        exact hn p' hp'
      · rw [e5]
        show Dt F5 _ (.int ((foldS L.now prs (L.cs.getD i ("", noMp)).2).2 : Nat))
        rw [hcD]
        exact .int _
    · obtain ⟨gI, hR, hn⟩ := hI
      subst hFl hHl
      obtain ⟨u1, u2, gU, sU⟩ := Gr.unlockZ g1.fh hq1 (fun z => hO.ne z) gI
      refine ⟨u1, ?_⟩
      rw [List.length_map, lenK] at hR hv
      have hv' : Dt (rel F2 F1 q) v (.lst ((L.cs.map fun c => ((foldS L.now prs c.2).2 : Int)).map Da.int)) := by
        refine Dt.sd sU ?_
        have e : (List.range L.cs.length).map nI = (L.cs.map fun c => ((foldS L.now prs c.2).2 : Int)).map Da.int := by
          refine List.ext_getElem? fun j => ?_
          rw [List.getElem?_map, List.getElem?_map, List.getElem?_map]
          by_cases hj : j < L.cs.length
          · rw [List.getElem?_range hj, List.getElem?_eq_getElem hj]
            show some (Da.int ((foldS L.now prs (L.cs.getD j ("", noMp)).2).2 : Nat)) = some (Da.int ((foldS L.now prs L.cs[j].2).2 : Nat))
            rw [List.getD_eq_getElem?_getD, List.getElem?_eq_getElem hj]
            rfl
          · rw [List.getElem?_eq_none (by simpa using hj), List.getElem?_eq_none (by omega)]
            rfl
        rw [← e]
        exact hv
      have gE := g1.wide (M := ps) |>.transL gU (fun n hn' => .inl hn') (fun mm hmm => by
        obtain ⟨tks', e⟩ := hO1.at_ hmm
        exact ⟨_, e, rfl⟩)
      have hcsE : csI L.cs.length = pressCs L.now prs L.cs := by
        show pressCs L.now prs (L.cs.take L.cs.length) ++ L.cs.drop L.cs.length = _
        rw [List.take_length, List.drop_length, List.append_nil]
      rw [hcsE] at hR
      refine (rc_sum (B := upd H2 q (.dK (kvsO L.cs ps)))) (rel F2 F1 q) _ _ (atC gU.fh) (.cons hv' .nil) _ fun w1 F5 H5 g5 d5 => ?_
      rw [d5.of_int]
      refine qq F5 H5 (gE.transL (g5.wide (M := ps)) (fun n hn' => .inl hn') fun mm hmm => ?_) fun j c p h1 h2 => ?_
      · obtain ⟨j, hj⟩ := List.mem_iff_getElem?.mp hmm
        obtain ⟨c0, hc0⟩ := hO.csAt hj
        obtain ⟨tks', e, _⟩ := hR j _ mm (by unfold pressCs; rw [List.getElem?_map, hc0]; rfl) hj
        exact ⟨_, by rw [upd_ne (hpq mm hmm)]; exact e, rfl⟩
      · obtain ⟨tks', e, r⟩ := hR j c p h1 h2
        exact ⟨tks', g5.same _ _ (by rw [upd_ne (hpq p (List.mem_of_getElem? h2))]; exact e), (r.sd sU).mono g5.ff⟩
    · obtain ⟨gI, hR, hn⟩ := hI
      have hpD : ∀ p ∈ ps, p ≠ D := fun p hp z => by
        obtain ⟨i, hi⟩ := List.mem_iff_getElem?.mp hp
        obtain ⟨c, hc⟩ := hO.csAt hi
        obtain ⟨tks, e, _⟩ := hIl i c p hc hi
        rw [z, nD] at e
        cases e
      have su : Same F2 (upd F2 D o) := fun b o' e => by rw [upd_ne (ne_of_none e nFD)]; exact e
      exact ⟨⟨gI.ff.trans su, fun b o' e => by
        by_cases hb : b = D
        · rw [hb, upd_same] at e; cases e; rw [hb]; exact hD
        · rw [upd_ne hb] at e; exact gI.fh _ _ e, gI.hh, fun b o' e t => by rw [upd_ne (ne_of_none e nD)]; exact gI.nw b o' e t⟩, fun j c p h1 h2 => by
        obtain ⟨tks, e, r⟩ := hR j c p h1 h2
        exact ⟨tks, e, r.mono su⟩, fun p hp => by rw [upd_ne (hpD p hp)]; exact hn p hp⟩
end
end Bb
/-! Bb15 -/
namespace Bb
open PySem PySem.Spec PyProof.Rows L2

/-- the class of the error by its word -/
def excN (word : Str) : Str := if word = "spot" then "NoSpot" else if word = "colour" then "NoColour" else if word = "wet" then "NoWet" else if word = "deed" then "NoDeed" else "NothingLeft"
theorem if_seq {c : TT} {t u rest : TS} {D : Ends} {σ : LSt} {H : Hp} (h : c σ H fun b H1 => if b = true then t { D with nx := rest D } σ H1 else u { D with nx := rest D } σ H1) : tSeq (tIfS c t u) rest D σ H := h
theorem nextS {u : TS} {D : Ends} {σ : LSt} {H : Hp} (h : u D σ H) : tNext { D with nx := u D } σ H := h
def spLyDrop (K : PySem.W.Frag) : Sp := fun vs H Q E => ∃ (F : Hp) (a q : Addr) (ps : List Addr) (m w : Nat) (L : Stt) (va vb vc : V) (da db dc : Da), vs = [.ref a, va, vb, vc] ∧ Same F H ∧ LyO K H F a m w L q ps ∧ F q = none ∧ (∀ p ∈ ps, F p = none) ∧ Dt F va da ∧ Dt F vb db ∧ Dt F vc dc ∧ Good da ∧ Good db ∧ dc.isOb = false ∧
  SttOk m w L ∧ m ≤ 4 ∧ w ≤ 3 ∧ L.cs.length ≤ 1000 ∧
  ((∃ s c wet, da = triD s ∧ db = .str c ∧ dc = .int wet ∧ spotB m w da = true ∧ nameB db = true ∧ 1 ≤ wet ∧ wet ≤ 400 ∧ ∀ F' H' ps', Gr (q :: ps) F H F' H' → RepO H' F' q ps' (dropCs L.now c s wet L.cs) → F' q = none → (∀ p ∈ ps', F' p = none ∧ (p ∈ ps ∨ H p = none)) → (∀ p ∈ ps, p ∈ ps') → Q .non H') ∨
  ∃ word, dropB m w da db dc = .str word ∧ ∀ F' H', Gr [] F H F' H' → E (.ref (He.ga K (excN word))) none H')
section
variable {P : Program} {w : World} {K : PySem.W.Frag} {mg : Str → Option Value} {base : Heap}
theorem ok_ly_drop (T : Txt K mg) (G_is_spot : Ok P w K mg base CX0 2 d_is_spot P_is_spot (spD R_is_spot)) (G_is_name : Ok P w K mg base CX0 1 d_is_name P_is_name (spD R_is_name)) (G_is_within : Ok P w K mg base CX0 1 d_is_within P_is_within (spD R_is_within)) (G_put_on : Ok P w K mg base CX0 1 d_put_on P_put_on spPut) :
    Ok P w K mg base (L2.CX P w) 3 d_ly_drop P_ly_drop (spLyDrop K) := by
  obtain ⟨t_MW, e_MOST_WET⟩ := T.i_MOST_WET
  refine okG T.f_ly_drop sc_ly_drop b_ly_drop (fun vs H Q E h => ?_) fun cdv A outer s H vs Q E hr h => ?_
  · obtain ⟨_, _, _, _, _, _, _, _, _, _, _, _, _, rfl, _⟩ := h
    rfl
  · obtain ⟨F, a, q, ps, m, w', L, va, vb, vc, da, db, dc, rfl, sm, hL, nFq, nFp, hva, hvb, hvc, Ga, Gb, Gc, hok, hm, hw, hcl, hend⟩ := h
    refine ⟨_, (pss_cons (ps_if (pt_not (pt_val (pe_callO G_is_spot (hr.mono (by decide)) rfl T.g_is_spot pass0 (pa_cons (kpe_fld (K := K) (pv 0) rfl) (pa_cons (pv 1) pa_nil))))) (pss_one (ps_raise rfl (takes_of rfl rfl rfl rfl) (pmk_own0 PySem.F.excBase_ValueError T.e_NoSpot.1 T.g_NoSpot T.e_NoSpot.2.1 (raises_own T.e_NoSpot.2.2.1 T.e_NoSpot.2.2.2) rfl))) pss_nil)
  (pss_cons (ps_if (pt_not (pt_val (pe_callO G_is_name (hr.mono (by decide)) rfl T.g_is_name pass0 (pa_cons (pv 2) pa_nil)))) (pss_one (ps_raise rfl (takes_of rfl rfl rfl rfl) (pmk_own0 PySem.F.excBase_ValueError T.e_NoColour.1 T.g_NoColour T.e_NoColour.2.1 (raises_own T.e_NoColour.2.2.1 T.e_NoColour.2.2.2) rfl))) pss_nil)
  (pss_cons (ps_if (pt_not (pt_val (pe_callO G_is_within (hr.mono (by decide)) rfl T.g_is_within pass0 (pa_cons (pv 3) (pa_cons pe_int (pa_cons (pe_glob (v := .int 400) rfl e_MOST_WET ⟨_, rfl⟩) pa_nil)))))) (pss_one (ps_raise rfl (takes_of rfl rfl rfl rfl) (pmk_own0 PySem.F.excBase_ValueError T.e_NoWet.1 T.g_NoWet T.e_NoWet.2.1 (raises_own T.e_NoWet.2.2.1 T.e_NoWet.2.2.2) rfl))) pss_nil)
  (pss_cons (ps_if (pt_cmp (pc_dnotin (hu_of hr) (pv 2) (kpe_fld (K := K) (pv 0) rfl)) rfl) (pss_one (ps_dput (hu_of hr) (kpe_fld (K := K) (pv 0) rfl) (pv 2) pe_dnewT rfl)) pss_nil)
  (pss_one (ps_expr (pe_callO G_put_on (hr.mono (by decide)) rfl T.g_put_on pass0 (pa_cons (pe_dget (hu_of hr) (kpe_fld (K := K) (pv 0) rfl) (pv 2) (fun _ _ => rfl)) (pa_cons (pv 1) (pa_cons (kpe_fld (K := K) (pv 0) rfl) (pa_cons (pe_op op_add (kpe_fld (K := K) (pv 0) rfl) (pv 3)) pa_nil))))))))))), ?_⟩
    obtain ⟨⟨dx, vsh, vst, vdn, ha, hsh, hst, hdn⟩, hO⟩ := hL
    have E0 : Env F (L2.start N_ly_drop [.ref a, va, vb, vc]) [some (.ob (.ref a)), some da, some db, some dc] := env_start (.cons (.ob _) (.cons hva (.cons hvb (.cons hvc .nil))))
    have bad : ∀ word : Str, dropB m w' da db dc = .str word → ∀ F' H', Gr [] F H F' H' → E (.ref (He.ga K (excN word))) none H' := fun word hword F' H' g => by
      rcases hend with ⟨s', c, wet, rfl, rfl, rfl, h1, h2, h3, h4, _⟩ | ⟨word', e, k⟩
      · exfalso
        unfold dropB at hword
        rw [if_pos h1, if_pos h2, if_pos (by show (decide (1 ≤ wet) && decide (wet ≤ 400)) = true; rw [decide_eq_true h3, decide_eq_true h4]; rfl)] at hword
        cases hword
      · rw [e] at hword
        cases hword
        exact k F' H' g
    -- the spot
    refine if_seq ?_
    refine (dt_not (dt_val (dv_call (da_cons (dv_fld (dv_var rfl) ha T.c_Lying T.a_Lying_shape ly_shape hsh) (da_cons (dv_var rfl) da_nil)) ⟨m, w', da, rfl, Ga.plain, rfl⟩))).run sm E0 fun F1 H1 g1 => ?_
    by_cases h1 : spotB m w' da = true
    case neg =>
      refine iteT' (by rw [Bool.eq_false_iff.mpr h1]; rfl) ?_
      exact bad "spot" (by unfold dropB; rw [if_neg h1]) F1 H1 g1
    refine iteF' (by rw [h1]; rfl) (nextS ?_)
    have E1 := E0.mono g1.ff
    -- the colour
    refine if_seq ?_
    refine (dt_not (dt_val (dv_call (da_cons (dv_var rfl) da_nil) ⟨db, rfl, Gb.fin, rfl⟩))).run g1.fh E1 fun F2 H2 g2 => ?_
    by_cases h2 : nameB db = true
    case neg =>
      refine iteT' (by rw [Bool.eq_false_iff.mpr h2]; rfl) ?_
      exact bad "colour" (by unfold dropB; rw [if_pos h1, if_neg h2]) F2 H2 (g1.trans0 g2)
    refine iteF' (by rw [h2]; rfl) (nextS ?_)
    have E2 := E1.mono g2.ff
    -- how long it is wet
    refine if_seq ?_
    refine (dt_not (dt_val (dv_call (da_cons (dv_var rfl) (da_cons dv_int (da_cons dv_int da_nil))) ⟨dc, 1, 400, rfl, Gc, rfl⟩))).run g2.fh E2 fun F3 H3 g3 => ?_
    by_cases h3 : withinB 1 400 dc = true
    case neg =>
      refine iteT' (by rw [Bool.eq_false_iff.mpr h3]; rfl) ?_
      exact bad "wet" (by unfold dropB; rw [if_pos h1, if_pos h2, if_neg h3]) F3 H3 ((g1.trans0 g2).trans0 g3)
    refine iteF' (by rw [h3]; rfl) (nextS ?_)
    rcases hend with ⟨s', c, wet, rfl, rfl, rfl, _, _, hw1, hw2, fin⟩ | ⟨word, e, _⟩
    case inr =>
      exfalso
      unfold dropB at e
      rw [if_pos h1, if_pos h2, if_pos h3] at e
      cases e
    have g13 := (g1.trans0 g2).trans0 g3
    have E3 := E2.mono g3.ff
    have ha3 := g13.same _ _ ha
    have hq3 := g13.same _ _ hO.d
    have n3q : F3 q = none := by rw [g13.nw q _ hO.d rfl]; exact nFq
    have n3p : ∀ p ∈ ps, F3 p = none := fun p hp => by
      obtain ⟨tks, e⟩ := hO.at_ hp
      rw [g13.nw p _ e rfl]
      exact nFp p hp
    have hO3 := (hO.mono g13.ff).grow g13.same
    have haq : a ≠ q := ne_of ha hO.d (fun z => nomatch z)
    have hap : a ∉ ps := fun z => by
      obtain ⟨tks, e⟩ := hO.at_ z
      rw [ha] at e
      cases e
    -- once the colour is there
    have rest : ∀ (F4 H4 : Hp) (ps4 : List Addr) (cs4 : List (Str × Mp)) (i : Nat) (mp : Mp), Gr (q :: ps) F3 H3 F4 H4 → RepO H4 F4 q ps4 cs4 → F4 q = none → (∀ p ∈ ps4, F4 p = none ∧ (p ∈ ps ∨ H3 p = none)) → (∀ p ∈ ps, p ∈ ps4) → cs4[i]? = some (c, mp) → Gm L.now mp → Sup (spotsL m w') mp → cs4.set i (c, mpPut mp s' (dropV L.now mp s' wet)) = dropCs L.now c s' wet L.cs →
        tDrop (tCall spPut [] L2.E0 (tCons (tDGet (tFld K (tVar 0) "stained") (tVar 2)) (tCons (tVar 1) (tCons (tFld K (tVar 0) "now") (tCons (tOp (rI0 fun i j => V.int (i + j)) (tFld K (tVar 0) "now") (tVar 3)) tNil))))) { nx := fun _ H' => Q .non H', rt := Q } (L2.start N_ly_drop [.ref a, va, vb, vc]) H4 := fun F4 H4 ps4 cs4 i mp g4 hO4 n4q n4p hsub hc hG hS hfin => by
      have E4 := E3.mono g4.ff
      have ha4 : H4 a = some (.ins (He.ga K "Lying") dx (lyF vsh vst L.now q vdn)) := g4.hh a _ (fun z => (List.mem_cons.mp z).elim haq hap) ha3
      obtain ⟨p4, hp4⟩ := hO4.psAt hc
      obtain ⟨tks, ht, hRt⟩ := hO4.inn i _ p4 hc hp4
      have hpm := List.mem_of_getElem? hp4
      refine putCall (mp := mp) (s := s') (since := L.now) (dry := L.now + wet) (da_cons (dv_getK (dv_fld (dv_var rfl) ha4 T.c_Lying T.a_Lying_stained ly_stained (.ob _)) (.inl hO4.d) (dv_var rfl) (hO4.get hc hp4) (.ob _)) (da_cons (dv_var rfl) (da_cons (dv_fld (dv_var rfl) ha4 T.c_Lying T.a_Lying_now ly_now (.int _)) (da_cons (dv_op (dv_fld (dv_var rfl) ha4 T.c_Lying T.a_Lying_now ly_now (.int _)) (dv_var rfl) rd_I0) da_nil)))) g4.fh E4 ht hRt (n4p p4 hpm).1 ?_ fun F5 H5 kvs5 g5 h5 hR5 hl5 n5 => ?_
      · have := hRt.few hS hm hw
        rw [sizeLine_eq]
        omega
      rw [putV_drop hG hok.now hw1] at hR5
      have hq4 := hO4.d
      have hq5 : H5 q = some (.dK (kvsO cs4 ps4)) := g5.hh q _ (by simpa using (fun e => hO4.ne (e ▸ hpm) : ¬ q = p4)) hq4
      have hO5 : RepO H5 F5 q ps4 (cs4.set i (c, mpPut mp s' (dropV L.now mp s' wet))) := (hO4.mono g5.ff).set hc hp4 (hq5.trans hq4.symm) (fun b hb hne => by
        obtain ⟨tk', e⟩ := hO4.at_ hb
        exact (g5.hh b _ (by simpa using hne) e).trans e.symm) h5 hR5
      rw [hfin] at hO5
      have old : ∀ p, H3 p = none → H p = none := fun p hp => by
        cases e : H p with
        | none => rfl
        | some o => rw [g13.same _ _ e] at hp; cases hp
      have gA : Gr (q :: ps) F3 H3 F5 H5 := g4.transL g5 (fun n hn => by
        have : n = p4 := by simpa using hn
        rw [this]
        exact (n4p p4 hpm).2.imp (fun h => .tail _ h) id) (fun mm hmm => by
        rcases List.mem_cons.mp hmm with rfl | hmm
        · exact ⟨_, hq4, rfl⟩
        · obtain ⟨tk'', e'⟩ := hO4.at_ (hsub mm hmm)
          exact ⟨_, e', rfl⟩)
      refine fin F5 H5 ps4 (g13.after gA) hO5 (by rw [g5.nw q _ hq4 rfl]; exact n4q) (fun p hp => ⟨?_, (n4p p hp).2.imp id (old p)⟩) hsub
      obtain ⟨tk', e⟩ := hO4.at_ hp
      rw [g5.nw p _ e rfl]
      exact (n4p p hp).1
    refine if_seq ?_
    refine (dt_val (dv_notInK (dv_fld (dv_var rfl) ha3 T.c_Lying T.a_Lying_stained ly_stained (.ob _)) (.inl hq3) (dv_var rfl))).run g3.fh E3 fun F4 H4 g4 => ?_
    have hO4 := (hO3.mono g4.ff).grow g4.same
    have n4q : F4 q = none := by rw [g4.nw q _ hq3 rfl]; exact n3q
    have n4p : ∀ p ∈ ps, F4 p = none := fun p hp => by
      obtain ⟨tks, e⟩ := hO3.at_ hp
      rw [g4.nw p _ e rfl]
      exact n3p p hp
    by_cases hcm : c ∈ L.cs.map (·.1)
    · obtain ⟨i, hi⟩ := List.mem_iff_getElem?.mp hcm
      rw [List.getElem?_map] at hi
      cases hci : L.cs[i]? with
      | none => rw [hci] at hi; cases hi
      | some x =>
        rw [hci] at hi
        obtain ⟨c', mp⟩ := x
        have : c' = c := Option.some.inj hi
        subst this
        obtain ⟨p0, hp0⟩ := hO.psAt hci
        refine iteF' (by rw [hO.get hci hp0]; rfl) (nextS ?_)
        have hmk := hok.mks _ (List.mem_of_getElem? hci)
        exact rest F4 H4 ps L.cs i mp g4.wide hO4 n4q (fun p hp => ⟨n4p p hp, .inl hp⟩) (fun p hp => hp) hci hmk.1 hmk.2 (dropCs_at hok.nd hci).symm
    · have hnone := hO.gone hcm
      refine iteT' (by rw [hnone]; rfl) ?_
      intro p hp
      have gp : Gr [] F4 H4 F4 (upd H4 p (.dT [])) := Gr.newM g4.fh hp
      have nFp : F4 p = none := none_of g4.fh hp
      have E4 := E3.mono g4.ff
      have ha4 := gp.same _ _ (g4.same _ _ ha3)
      refine (dv_fld (dv_var rfl) ha4 T.c_Lying T.a_Lying_stained ly_stained (.ob _) : Dv F4 _ _ _ _).run gp.fh E4 fun v5 F5 H5 g5 d5 => ?_
      refine (dv_var rfl : Dv F5 H5 (tVar 2) _ (.str c)).run g5.fh (E4.mono g5.ff) fun v6 F6 H6 g6 d6 => ?_
      have g46 := (gp.trans0 g5).trans0 g6
      have hq6 : H6 q = some (.dK (kvsO L.cs ps)) := g46.same _ _ hO4.d
      have hp6 : H6 p = some (.dT []) := (g5.trans0 g6).same _ _ upd_same
      have n6q : F6 q = none := by rw [g46.nw q _ hO4.d rfl]; exact n4q
      have n6p : F6 p = none := by rw [(g5.trans0 g6).nw p _ upd_same rfl]; exact nFp
      have hlen : (kvsO L.cs ps).length < sizeLine := by rw [kvsO_len hO.len, sizeLine_eq]; omega
      rw [d6.of_str]
      refine ⟨q, _, d5.of_ob, DPut.k (k := .inr c) hq6 hlen, ?_⟩
      rw [putK_new _ hnone]
      have gq : Gr [q] F6 H6 F6 (upd H6 q (.dK (kvsO L.cs ps ++ [(.inr c, .ref p)]))) := Gr.put g6.fh n6q
      have hqp : q ≠ p := ne_of_none hO4.d hp
      have hpps : p ∉ ps := fun z => by
        obtain ⟨tk', e⟩ := hO4.at_ z
        rw [hp] at e
        cases e
      have hO6 := (hO4.mono g46.ff).grow g46.same
      have hO7 : RepO (upd H6 q (.dK (kvsO L.cs ps ++ [(.inr c, .ref p)]))) F6 q (ps ++ [p]) (L.cs ++ [(c, noMp)]) := hO6.add hcm hpps upd_same (fun b hb => upd_ne fun z => hO4.ne (z ▸ hb)) (by rw [upd_ne (Ne.symm hqp)]; exact hp6) RepT.nil
      have hp3 : H3 p = none := by
        cases e : H3 p with
        | none => rfl
        | some o => rw [g4.same _ _ e] at hp; cases hp
      refine rest F6 _ (ps ++ [p]) (L.cs ++ [(c, noMp)]) L.cs.length noMp (((g4.trans0 g46).after gq).mono fun mm hmm => by rw [show mm = q by simpa using hmm]; exact .head _) hO7 n6q (fun p' hp' => ?_) (fun p' hp' => List.mem_append_left _ hp') ?_ Gm.empty (fun r e => (e rfl).elim) ?_
      · rcases List.mem_append.mp hp' with hp' | hp'
        · obtain ⟨tk', e⟩ := hO4.at_ hp'
          exact ⟨by rw [g46.nw p' _ e rfl]; exact n4p p' hp', .inl hp'⟩
        · have : p' = p := by simpa using hp'
          rw [this]
          exact ⟨n6p, .inr hp3⟩
      · rw [List.getElem?_append_right (Nat.le_refl _)]
        simp
      · rw [dropCs_new hcm, List.set_append_right _ _ (Nat.le_refl _)]
        simp
end
end Bb
/-! Bb16 -/
namespace Bb
open PySem PySem.Spec PyProof.Rows L2

/-- what may be told -/
structure Dok (d : Da) : Prop where
  plain : d.plain = true
  fits : d.fits 6
  parts : ∀ xs, d = .tup xs → ∀ x ∈ xs, Good x
  sizes : ∀ xs, d = .tup xs → ∀ x ∈ xs, ∀ ys, x = .tup ys → ys.length ≤ 1000000
theorem Good.ob {d : Da} (g : Good d) : d.isOb = false := g.fin.1
section
variable {F0 B F H : Hp} {σ : LSt} {ρ ρ' : Rho} {K : PySem.W.Frag} {d : Da} {i : Nat}
/-- is it a drop, as it is asked -/
abbrev tIsDrop (K : PySem.W.Frag) (i : Nat) : TT := tAnd (tB (tCB (rIsi K) (tCons (tVar i) (tCons (tC (.ty "tuple")) tNil)))) (tAnd (tTest (tOp rEq (tCB (rLenQ K) (tCons (tVar i) tNil)) (tC (.int 4)))) (tAnd (tB (tCB (rIsi K) (tCons (tOp (rIxT K) (tVar i) (tC (.int 0))) (tCons (tC (.ty "str")) tNil)))) (tTest (tOp rEq (tOp (rIxT K) (tVar i) (tC (.int 0))) (tC (.str "drop"))))))
theorem dt_isDrop (hi : ρ[i]? = some (some d)) (hd : Dok d) : DvT F0 B (tIsDrop K i) ρ (isDropD d) := by
  have ho := plain_ob hd.plain
  cases d with
  | tup xs =>
    have nope : (∀ s a b c, xs ≠ [.str s, a, b, c]) → isDropD (.tup xs) = false := fun q => by
      unfold isDropD
      split
      · rename_i s a b c e
        cases e
        exact absurd rfl (q s a b c)
      · rfl
    match xs, hi, hd, nope with
    | [x, y, z, u], hi, hd, nope =>
      have hx := (hd.parts _ rfl x (by simp)).ob
      have T1 : Dv F0 B (tOp (rIxT K) (tVar i) (tC (.int 0))) ρ x := dv_op (dv_var hi) dv_int (rd_ixT (by rfl))
      have base : ∀ {b c : Bool}, x.isT "str" = b → (b = true → DvT F0 B (tTest (tOp rEq (tOp (rIxT K) (tVar i) (tC (.int 0))) (tC (.str "drop")))) ρ c) → DvT F0 B (tIsDrop K i) ρ (b && c) := fun {b c} e h => by
        refine dt_to (dt_and (c := b && c) (dt_val (dv_cb (da_cons (dv_var hi) (da_cons dv_ty da_nil)) (rc_isi (n := rfl)))) fun _ => dt_to (dt_and (c := b && c) (dt_test (dv_op (dv_cb (da_cons (dv_var hi) da_nil) rc_lenT) dv_int rd_eqI)) fun _ => dt_and (dt_to (dt_val (dv_cb (da_cons T1 (da_cons dv_ty da_nil)) (rc_isi (n := hx)))) e) h) (by simp)) (by simp [Da.isT])
      cases x with
      | str s =>
        refine dt_to (base (b := true) (c := decide (s = "drop")) (by simp [Da.isT]) fun _ => dt_test (dv_op T1 dv_str rd_eqS)) ?_
        rfl
      | _ =>
        first
        | (cases hx; done)
        | (refine dt_to (base (b := false) (c := false) (by simp [Da.isT]) fun b => by cases b) ?_
           rw [nope (by intro s a b c z; cases z)]
           rfl)
    | [], hi, hd, nope | [_], hi, hd, nope | [_, _], hi, hd, nope | [_, _, _], hi, hd, nope | _ :: _ :: _ :: _ :: _ :: _, hi, hd, nope =>
      rw [nope (by intro s a b c z; cases z)]
      refine dt_to (dt_and (c := false) (dt_val (dv_cb (da_cons (dv_var hi) (da_cons dv_ty da_nil)) (rc_isi (n := rfl)))) fun _ => dt_to (dt_and (c := false) (dt_test (dv_op (dv_cb (da_cons (dv_var hi) da_nil) rc_lenT) dv_int rd_eqI)) fun q => by exfalso; simp at q <;> omega) (by simp)) (by simp)
  | _ =>
    first
    | (cases ho; done)
    | exact dt_to (dt_and (c := false) (dt_val (dv_cb (da_cons (dv_var hi) (da_cons dv_ty da_nil)) (rc_isi (n := rfl)))) fun q => by simp [Da.isT] at q) (by simp [isDropD])
theorem isDrop_shape (h : isDropD d = true) : ∃ a b c, d = .tup [.str "drop", a, b, c] := by
  unfold isDropD at h
  split at h
  · rename_i s a b c
    have e : s = "drop" := of_decide_eq_true h
    subst e
    exact ⟨a, b, c, rfl⟩
  · cases h
end
theorem deed_notDrop (dd : Dd) : isDropD (ddD dd) = false := by cases dd <;> rfl
theorem deedB_ddD {m : Nat} {dd : Dd} (h : dd.ok m) : deedB m (ddD dd) = true := by
  cases dd with
  | press g =>
    have h : g + 1 < m := h
    unfold ddD deedB
    dsimp only
    rw [if_pos (Or.inl rfl)]
    simp [withinB]; omega
  | swap g =>
    have h : g + 1 < m := h
    unfold ddD deedB
    dsimp only
    rw [if_pos (Or.inr rfl)]
    simp [withinB]; omega
  | over g =>
    have h : g < m := h
    unfold ddD deedB
    dsimp only
    rw [if_neg (by decide +kernel), if_pos (Or.inl rfl)]
    simp [withinB]; omega
  | about g =>
    have h : g < m := h
    unfold ddD deedB
    dsimp only
    rw [if_neg (by decide +kernel), if_pos (Or.inr rfl)]
    simp [withinB]; omega
  | wait t =>
    have h : 1 ≤ t ∧ t ≤ 9 := h
    unfold ddD deedB
    dsimp only
    rw [if_neg (by decide +kernel), if_neg (by decide +kernel), decide_eq_true rfl]
    simp [withinB]; omega
theorem triD_inj {a b : Tri} (h : triD a = triD b) : a = b := by
  obtain ⟨x, y, z⟩ := a
  obtain ⟨x', y', z'⟩ := b
  have e := Da.tup.inj h
  simp at e
  simp [e]
theorem ddD_inj {a b : Dd} (h : ddD a = ddD b) : a = b := by
  have two : ∀ (s s' : Str) (i j : Nat), Da.tup [.str s, .int i] = Da.tup [.str s', .int j] → s = s' ∧ i = j := fun s s' i j e => by
    have e := Da.tup.inj e
    simp at e
    exact ⟨e.1, by omega⟩
  cases a <;> cases b <;> obtain ⟨e1, e2⟩ := two _ _ _ _ h <;> first | (rw [e2]; done) | (exfalso; revert e1; decide +kernel)
theorem Tl.det {m w : Nat} {L L1 L2 : Stt} {d f1 f2 : Da} (h1 : Tl m w L d L1 f1) (h2 : Tl m w L d L2 f2) : L1 = L2 ∧ f1 = f2 := by
  cases h1 with
  | drop s c wet =>
    generalize hd : Da.tup [.str "drop", triD s, .str c, .int wet] = d at h2
    cases h2 with
    | drop s' c' wet' =>
      have e := Da.tup.inj hd
      simp at e
      obtain ⟨e1, e2, e3⟩ := e
      rw [triD_inj e1, e2, e3]
      exact ⟨rfl, rfl⟩
    | deed dd => cases dd <;> cases hd
  | deed dd =>
    generalize hd : ddD dd = d at h2
    cases h2 with
    | drop s' c' wet' => cases dd <;> cases hd
    | deed dd' =>
      rw [ddD_inj hd]
      exact ⟨rfl, rfl⟩
theorem Tl.not {m w : Nat} {L L1 : Stt} {d f1 : Da} {word : Str} (h1 : Tl m w L d L1 f1) (h2 : Nope m w d word) : False := by
  cases h1 with
  | drop s c wet a1 a2 a3 a4 =>
    cases h2 with
    | drop _ _ _ _ h =>
      unfold dropB at h
      rw [if_pos a1, if_pos a2, if_pos (by show (decide (1 ≤ wet) && decide (wet ≤ 400)) = true; rw [decide_eq_true a3, decide_eq_true a4]; rfl)] at h
      cases h
    | deed _ h =>
      have : isDropD (.tup [.str "drop", triD s, .str c, .int wet]) = true := by
        unfold isDropD
        exact decide_eq_true rfl
      rw [this] at h
      cases h
  | deed dd hok =>
    generalize hd : ddD dd = d at h2
    cases h2 with
    | drop _ _ _ _ h => cases dd <;> cases hd
    | deed _ h h' =>
      rw [← hd, deedB_ddD hok] at h'
      cases h'
theorem Nope.det {m w : Nat} {d : Da} {w1 w2 : Str} (h1 : Nope m w d w1) (h2 : Nope m w d w2) : w1 = w2 := by
  cases h1 with
  | drop a b c word h =>
    cases h2 with
    | drop _ _ _ _ h' => rw [h] at h'; exact Da.str.inj h'
    | deed _ h' =>
      have : isDropD (.tup [.str "drop", a, b, c]) = true := by
        unfold isDropD
        exact decide_eq_true rfl
      rw [this] at h'
      cases h'
  | deed _ h =>
    cases h2 with
    | drop a b c _ h' =>
      have : isDropD (.tup [.str "drop", a, b, c]) = true := by
        unfold isDropD
        exact decide_eq_true rfl
      rw [this] at h
      cases h
    | deed => rfl
theorem Tl.drop_inv {m w : Nat} {L L1 : Stt} {x y z f1 : Da} (h : Tl m w L (.tup [.str "drop", x, y, z]) L1 f1) : ∃ s c wet, x = triD s ∧ y = .str c ∧ z = .int wet ∧ spotB m w (triD s) = true ∧ nameB (.str c) = true ∧ 1 ≤ wet ∧ wet ≤ 400 ∧ L1 = ⟨L.st, L.now, dropCs L.now c s wet L.cs, L.bk ++ [.tup [.tup [.str "drop", triD s, .str c, .int wet], .non]]⟩ ∧ f1 = .non := by
  generalize hd : Da.tup [.str "drop", x, y, z] = d at h
  cases h with
  | drop s c wet a1 a2 a3 a4 =>
    have e := Da.tup.inj hd
    simp at e
    exact ⟨s, c, wet, e.1, e.2.1, e.2.2, a1, a2, a3, a4, rfl, rfl⟩
  | deed dd => cases dd <;> cases hd
theorem Nope.drop_inv {m w : Nat} {x y z : Da} {word : Str} (h : Nope m w (.tup [.str "drop", x, y, z]) word) : dropB m w x y z = .str word := by
  cases h with
  | drop _ _ _ _ h => exact h
  | deed _ h =>
    have : isDropD (.tup [.str "drop", x, y, z]) = true := by
      unfold isDropD
      exact decide_eq_true rfl
    rw [this] at h
    cases h
def spLyTells (K : PySem.W.Frag) : Sp := fun vs H Q E => ∃ (F : Hp) (a q : Addr) (ps : List Addr) (m w : Nat) (L : Stt) (vd : V) (d : Da), vs = [.ref a, vd] ∧ Same F H ∧ LyO K H F a m w L q ps ∧ F a = none ∧ F q = none ∧ (∀ p ∈ ps, F p = none) ∧ Dt F vd d ∧ Dok d ∧
  SttOk m w L ∧ m ≤ 4 ∧ w ≤ 3 ∧ L.cs.length ≤ 1000 ∧ L.bk.length ≤ 1000 ∧
  ((∃ L' f, Tl m w L d L' f ∧ ∀ F' H' ps' v, Gr (a :: q :: ps) F H F' H' → LyO K H' F' a m w L' q ps' → F' a = none → F' q = none → (∀ p ∈ ps', F' p = none ∧ (p ∈ ps ∨ H p = none)) → Dt F' v f → Q v H') ∨
  ∃ word, Nope m w d word ∧ ∀ F' H', Gr [] F H F' H' → E (.ref (He.ga K (excN word))) none H')
abbrev N_ly_tells : List Str := ["self", "deed", "found"]
abbrev P_ly_tells : List Str := ["self", "deed"]
theorem sc_ly_tells : FnScope N_ly_tells P_ly_tells (defScope s_ly_tells) := ⟨rfl, rfl, rfl, by decide +kernel, rfl, by decide +kernel, by decide +kernel⟩
theorem b_ly_tells : BindsD d_ly_tells P_ly_tells := fun _ _ _ _ _ _ us hl => match us, hl with | [_, _], _ => rfl

section
variable {P : Program} {w : World} {K : PySem.W.Frag} {mg : Str → Option Value} {base : Heap}
theorem ok_ly_tells (T : Txt K mg) (G_ly_drop : Ok P w K mg base (L2.CX P w) 3 d_ly_drop P_ly_drop (spLyDrop K)) (G_is_deed : Ok P w K mg base CX0 2 d_is_deed P_is_deed (spD R_is_deed)) (G_ly_press : Ok P w K mg base CX0 4 d_ly_press P_ly_press (spLyPress K))
    (G_moved : Ok P w K mg base CX0 1 d_moved P_moved (spD R_moved)) (G_takes : Ok P w K mg base CX0 1 d_takes P_takes (spD R_takes)) : Ok P w K mg base (L2.CX P w) 5 d_ly_tells P_ly_tells (spLyTells K) := by
  refine okG T.f_ly_tells sc_ly_tells b_ly_tells (fun vs H Q E h => ?_) fun cdv A outer s H vs Q E hr h => ?_
  · obtain ⟨_, _, _, _, _, _, _, _, _, rfl, _⟩ := h
    rfl
  · obtain ⟨F, a, q, ps, m, w', L, vd, d, rfl, sm, hL, nFa, nFq, nFp, hvd, hd, hok, hm, hw, hcl, hbl, hend⟩ := h
    refine ⟨_, (pss_cons (ps_set (i := 2) sc_ly_tells.nd rfl (.inl rfl) pe_non)
  (pss_cons (ps_if (PW.pt (pw_and (pt_val (pe_callB (kcall_isi (K := K)) (by rfl) T.n_isinstance (by decide +kernel) (pa_cons (pv 1) (pa_cons (pe_bltn (v := .ty "tuple") (u := .type "tuple") rfl T.n_tuple (by decide +kernel) rfl) pa_nil)))) (pw_and (pt_cmpR op_eq (pe_callB (kcall_len (K := K)) (by rfl) T.n_len (by decide +kernel) (pa_cons (pv 1) pa_nil)) pe_int (nomark _)) (pw_and (pt_val (pe_callB (kcall_isi (K := K)) (by rfl) T.n_isinstance (by decide +kernel) (pa_cons (pe_ix (kix_tup (K := K)) (pv 1) pe_int (fun _ _ => rfl)) (pa_cons (pe_bltn (v := .ty "str") (u := .type "str") rfl T.n_str (by decide +kernel) rfl) pa_nil)))) (pw_and1 (pt_cmpR op_eq (pe_ix (kix_tup (K := K)) (pv 1) pe_int (fun _ _ => rfl)) pe_str (nomark _))))))) (pss_one (ps_expr (pe_methO (pv 0) T.c_Lying T.m_ly_drop G_ly_drop (hr.mono (by decide)) (passes_call (takes_of rfl rfl rfl rfl) fun _ _ _ _ h => h) (pa_cons (pe_ix (kix_tup (K := K)) (pv 1) pe_int (fun _ _ => rfl)) (pa_cons (pe_ix (kix_tup (K := K)) (pv 1) pe_int (fun _ _ => rfl)) (pa_cons (pe_ix (kix_tup (K := K)) (pv 1) pe_int (fun _ _ => rfl)) pa_nil)))))) (pss_cons (ps_if (pt_not (pt_val (pe_callO G_is_deed (hr.mono (by decide)) rfl T.g_is_deed pass0 (pa_cons (kpe_fld (K := K) (pv 0) rfl) (pa_cons (pv 1) pa_nil))))) (pss_one (ps_raise rfl (takes_of rfl rfl rfl rfl) (pmk_own0 PySem.F.excBase_ValueError T.e_NoDeed.1 T.g_NoDeed T.e_NoDeed.2.1 (raises_own T.e_NoDeed.2.2.1 T.e_NoDeed.2.2.2) rfl))) pss_nil)
  (pss_cons (ps_set (i := 2) sc_ly_tells.nd rfl (.inl rfl) (pe_ifExp (pt_cmpR op_eq (pe_ix (kix_tup (K := K)) (pv 1) pe_int (fun _ _ => rfl)) pe_str (nomark _)) (pe_methO (pv 0) T.c_Lying T.m_ly_press G_ly_press (hr.mono (by decide)) pass0 (pa_cons (pe_ix (kix_tup (K := K)) (pv 1) pe_int (fun _ _ => rfl)) pa_nil)) pe_non))
  (pss_cons (kps_fld (K := K) (pv 0) (pe_callO G_moved (hr.mono (by decide)) rfl T.g_moved pass0 (pa_cons (kpe_fld (K := K) (pv 0) rfl) (pa_cons (pv 1) pa_nil))) rfl)
  (pss_one (ps_fldaug (pv 0) (pe_callO G_takes (hr.mono (by decide)) rfl T.g_takes pass0 (pa_cons (pv 1) pa_nil)) in_add))))))
  (pss_cons (kps_fld (K := K) (pv 0) (pe_op (kop_catA (K := K)) (kpe_fld (K := K) (pv 0) rfl) (pe_tup (pa_cons (pe_tup (pa_cons (pv 1) (pa_cons (pv 2) pa_nil))) pa_nil))) rfl)
  (pss_one (ps_ret (pv 2)))))), ?_⟩
    have E0 : Env F (L2.start N_ly_tells [.ref a, vd]) [some (.ob (.ref a)), some d, none] := env_start (.cons (.ob _) (.cons hvd .nil))
    refine Sv.seq (sv_set dv_non) sm E0 fun σ1 F1 H1 g1 E1 => ?_
    obtain ⟨dx, vsh, vst, vdn, ha, hsh, hst, hdn⟩ := hL.ins
    have haq : a ≠ q := ne_of ha hL.O.d (fun z => nomatch z)
    have hap : a ∉ ps := fun z => by
      obtain ⟨tks, e⟩ := hL.O.at_ z
      rw [ha] at e
      cases e
    have hL1 := (hL.mono g1.ff).grow g1.same
    have fr1 : ∀ {F' H' : Hp}, Gr [] F H F' H' → F' a = none ∧ F' q = none ∧ ∀ p ∈ ps, F' p = none := fun g => ⟨by rw [g.nw a _ ha rfl]; exact nFa, by rw [g.nw q _ hL.O.d rfl]; exact nFq, fun p hp => by
      obtain ⟨tks, e⟩ := hL.O.at_ hp
      rw [g.nw p _ e rfl]
      exact nFp p hp⟩
    -- the end: one more line in the book
    have rest : ∀ (F2 H2 : Hp) (σ2 : LSt) (Lm : Stt) (ps2 : List Addr) (f : Da), Gr (a :: q :: ps) F H F2 H2 → LyO K H2 F2 a m w' Lm q ps2 → F2 a = none → F2 q = none → (∀ p ∈ ps2, F2 p = none ∧ (p ∈ ps ∨ H p = none)) → (∀ p ∈ ps, p ∈ ps2) → Env F2 σ2 [some (.ob (.ref a)), some d, some f] → Lm.bk = L.bk → Tl m w' L d ⟨Lm.st, Lm.now, Lm.cs, L.bk ++ [.tup [d, f]]⟩ f →
        tSeq (sFld K (tVar 0) (tOp (rCatA K) (tFld K (tVar 0) "done") (tTup (tCons (tTup (tCons (tVar 1) (tCons (tVar 2) tNil))) tNil))) "done") (tRet (tVar 2)) { nx := fun _ H' => Q .non H', rt := Q } σ2 H2 := fun F2 H2 σ2 Lm ps2 f g2 hL2 n2a n2q n2p hsub E2 hbk hTl => by
      obtain ⟨⟨dx2, vsh2, vst2, vdn2, ha2, hsh2, hst2, hdn2⟩, hO2⟩ := hL2
      rw [hbk] at hdn2
      refine fld_seq (x := .tup (L.bk ++ [.tup [d, f]])) (dv_op (dv_fld (dv_var rfl) ha2 T.c_Lying T.a_Lying_done ly_done hdn2) (dv_tup (da_cons (dv_tup (da_cons (dv_var rfl) (da_cons (dv_var rfl) da_nil)) (small_ rfl)) da_nil) (small_ rfl)) (rd_catT (by rw [sizeLine_eq]; simp; omega))) (fun _ _ => dv_var rfl) ha2 n2a T.c_Lying T.a_Lying_done (Nat.le_of_ble_eq_true (by rfl)) g2.fh E2 fun F3 H3 y3 g3 h3 d3 n3 E3 => ?_
      rw [ly_putDone] at h3
      obtain ⟨v4, e4, h4⟩ := E3.at_ 2 _ rfl
      refine ⟨v4, e4, ?_⟩
      have hq3 : H3 q = H2 q := (g3.hh q _ (by simpa using Ne.symm haq) hO2.d).trans hO2.d.symm
      have hpa : ∀ p ∈ ps2, p ≠ a := fun p hp z => by
        obtain ⟨tks, e⟩ := hO2.at_ hp
        rw [z, ha2] at e
        cases e
      have hp3 : ∀ p ∈ ps2, H3 p = H2 p := fun p hp => by
        obtain ⟨tks, e⟩ := hO2.at_ hp
        exact (g3.hh p _ (by simpa using hpa p hp) e).trans e.symm
      have hO3 := (hO2.mono g3.ff).heap hq3 hp3
      have gA : Gr (a :: q :: ps) F H F3 H3 := g2.transL g3 (fun n hn => .inl (by rw [show n = a by simpa using hn]; exact .head _)) fun mm hmm => by
        rcases List.mem_cons.mp hmm with rfl | hmm
        · exact ⟨_, ha2, rfl⟩
        rcases List.mem_cons.mp hmm with rfl | hmm
        · exact ⟨_, hO2.d, rfl⟩
        · obtain ⟨tks, e⟩ := hO2.at_ (hsub mm hmm)
          exact ⟨_, e, rfl⟩
      have n3p : ∀ p ∈ ps2, F3 p = none ∧ (p ∈ ps ∨ H p = none) := fun p hp => by
        obtain ⟨tks, e⟩ := hO2.at_ hp
        exact ⟨by rw [g3.nw p _ e rfl]; exact (n2p p hp).1, (n2p p hp).2⟩
      rcases hend with ⟨L', f', hT', k⟩ | ⟨word, hN, _⟩
      · have hdet : L' = ⟨Lm.st, Lm.now, Lm.cs, L.bk ++ [.tup [d, f]]⟩ ∧ f' = f := hT'.det hTl
        obtain ⟨rfl, rfl⟩ := hdet
        exact k F3 H3 ps2 v4 gA ⟨⟨dx2, vsh2, vst2, y3, h3, hsh2.mono g3.ff, hst2.mono g3.ff, d3⟩, hO3⟩ n3 (by rw [g3.nw q _ hO2.d rfl]; exact n2q) n3p h4
      · exact (hTl.not hN).elim
    have bad : ∀ word : Str, Nope m w' d word → ∀ F' H', Gr [] F H F' H' → E (.ref (He.ga K (excN word))) none H' := fun word hN F' H' g => by
      rcases hend with ⟨L', f', hT', k⟩ | ⟨word', hN', k⟩
      · exact (hT'.not hN).elim
      · rw [hN.det hN']
        exact k F' H' g
    -- is it a drop
    refine if_seq ?_
    refine (dt_isDrop (K := K) (i := 1) rfl hd).run g1.fh E1 fun F2 H2 g2 => ?_
    have E2 := E1.mono g2.ff
    have g12 := g1.trans0 g2
    have hL2 := (hL.mono g12.ff).grow g12.same
    obtain ⟨n2a, n2q, n2p⟩ := fr1 g12
    have ha2 := g12.same _ _ ha
    by_cases hdr : isDropD d = true
    · refine iteT' hdr ?_
      obtain ⟨x, y, z, rfl⟩ := isDrop_shape hdr
      have P := hd.parts _ rfl
      obtain ⟨v0, e0, h0⟩ := E2.at_ 0 _ rfl
      rw [h0.of_ob] at e0
      refine ⟨_, e0, a, dx, _, rfl, ha2, by rfl, ?_⟩
      refine (da_cons (dv_op (dv_var rfl) dv_int (rd_ixT (by rfl))) (da_cons (dv_op (dv_var rfl) dv_int (rd_ixT (by rfl))) (da_cons (dv_op (dv_var rfl) dv_int (rd_ixT (by rfl))) da_nil))).run g2.fh E2 fun vs3 F3 H3 g3 d3 => ?_
      cases d3 with
      | cons a1 r1 =>
      cases r1 with
      | cons a2 r2 =>
      cases r2 with
      | cons a3 r3 =>
      cases r3
      have g13 := g12.trans0 g3
      obtain ⟨n3a, n3q, n3p⟩ := fr1 g13
      have hL3 := (hL.mono g13.ff).grow g13.same
      have E3 := E2.mono g3.ff
      refine ⟨F3, a, q, ps, m, w', L, _, _, _, x, y, z, rfl, g3.fh, hL3, n3q, n3p, a1, a2, a3, P x (by simp), P y (by simp), (P z (by simp)).ob, hok, hm, hw, hcl, ?_⟩
      rcases tell_or m w' L (.tup [.str "drop", x, y, z]) with ⟨L', f, hT⟩ | ⟨word, hN⟩
      · obtain ⟨s', c, wet, rfl, rfl, rfl, h1, h2, h3, h4, rfl, rfl⟩ := hT.drop_inv
        refine .inl ⟨s', c, wet, rfl, rfl, rfl, h1, h2, h3, h4, fun F4 H4 ps4 g4 hO4 n4q n4p hsub => ?_⟩
        have hq0 := hL3.O.d
        have ha3 := g13.same _ _ ha
        have ha4 : H4 a = some (.ins (He.ga K "Lying") dx (lyF vsh vst L.now q vdn)) := g4.hh a _ (fun z => (List.mem_cons.mp z).elim haq hap) ha3
        have old : ∀ p, H3 p = none → H p = none := fun p hp => by
          cases e : H p with
          | none => rfl
          | some o => rw [g13.same _ _ e] at hp; cases hp
        have ff := g13.ff.trans g4.ff
        have gA : Gr (a :: q :: ps) F H F4 H4 := g13.after (g4.mono fun n hn => .tail _ hn)
        exact rest F4 H4 _ ⟨L.st, L.now, dropCs L.now c s' wet L.cs, L.bk⟩ ps4 .non gA ⟨⟨dx, vsh, vst, vdn, ha4, hsh.mono ff, hst.mono ff, hdn.mono ff⟩, hO4⟩ (by rw [g4.nw a _ ha3 rfl]; exact n3a) n4q (fun p hp => ⟨(n4p p hp).1, (n4p p hp).2.imp id (old p)⟩) hsub (E3.mono g4.ff) rfl (.drop s' c wet h1 h2 h3 h4)
      · exact .inr ⟨word, hN.drop_inv, fun F4 H4 g4 => bad word hN F4 H4 (g13.trans0 g4)⟩
    · have hdr : isDropD d = false := Bool.eq_false_iff.mpr hdr
      refine iteF' hdr ?_
      refine if_seq ?_
      refine (dt_not (dt_val (dv_call (da_cons (dv_fld (dv_var rfl) ha2 T.c_Lying T.a_Lying_shape ly_shape (hsh.mono g12.ff)) (da_cons (dv_var rfl) da_nil)) ⟨m, w', d, rfl, hd.plain, rfl⟩))).run g2.fh E2 fun F3 H3 g3 => ?_
      have g13 := g12.trans0 g3
      by_cases hdb : deedB m d = true
      case neg =>
        refine iteT' (by rw [Bool.eq_false_iff.mpr hdb]; rfl) ?_
        exact bad "deed" (.deed d hdr (Bool.eq_false_iff.mpr hdb)) F3 H3 g13
      refine iteF' (by rw [hdb]; rfl) (nextS ?_)
      obtain ⟨dd, rfl, hdd⟩ := deedB_dd hdb
      have E3 := E2.mono g3.ff
      have ha3 := g13.same _ _ ha
      have hL3 := (hL.mono g13.ff).grow g13.same
      obtain ⟨n3a, n3q, n3p⟩ := fr1 g13
      have hlen : dd.ok L.st.length := by rw [hok.std.len]; exact hdd
      -- behind what was found
      have moved : ∀ (F4 H4 : Hp) (σ4 : LSt) (cs4 : List (Str × Mp)), Gr (a :: q :: ps) F H F4 H4 → H4 a = some (.ins (He.ga K "Lying") dx (lyF vsh vst L.now q vdn)) → RepO H4 F4 q ps cs4 → F4 a = none → F4 q = none → (∀ p ∈ ps, F4 p = none) → Env F4 σ4 [some (.ob (.ref a)), some (ddD dd), some (dd.found w' L)] → cs4 = dd.cs w' L →
          tSeq (sFld K (tVar 0) (tCall (spD R_moved) [] L2.E0 (tCons (tFld K (tVar 0) "order") (tCons (tVar 1) tNil))) "order") (sFldAug K (tVar 0) (tCall (spD R_takes) [] L2.E0 (tCons (tVar 1) tNil)) rAdd "now") { nx := tSeq (sFld K (tVar 0) (tOp (rCatA K) (tFld K (tVar 0) "done") (tTup (tCons (tTup (tCons (tVar 1) (tCons (tVar 2) tNil))) tNil))) "done") (tRet (tVar 2)) { nx := fun _ H' => Q .non H', rt := Q }, rt := Q } σ4 H4 := fun F4 H4 σ4 cs4 g4 ha4 hO4 n4a n4q n4p E4 hcs => by
        have f4 := g4.ff
        refine fld_seq (x := stD (dd.move L.st)) (dv_call (da_cons (dv_fld (dv_var rfl) ha4 T.c_Lying T.a_Lying_order ly_order (hst.mono f4)) (da_cons (dv_var rfl) da_nil)) ⟨L.st, dd, rfl, hlen, by rw [hok.std.len]; omega, rfl⟩) (fun _ _ => dv_var rfl) ha4 n4a T.c_Lying T.a_Lying_order (Nat.le_of_ble_eq_true (by rfl)) g4.fh E4 fun F5 H5 y5 g5 h5 d5 n5 E5 => ?_
        rw [ly_putOrder] at h5
        obtain ⟨v0, e0, h0⟩ := E5.at_ 0 _ rfl
        rw [h0.of_ob] at e0
        refine ⟨_, e0, a, _, dx, _, .int L.now, rfl, h5, T.c_Lying, T.a_Lying_now, ly_now, ?_⟩
        refine (dv_call (z := .int dd.takes) (da_cons (dv_var rfl) da_nil) ⟨dd, rfl, rfl⟩ : Dv F5 H5 _ _ _).run g5.fh E5 fun v6 F6 H6 g6 d6 => ?_
        have h6 := g6.same _ _ h5
        have n6 : F6 a = none := by rw [g6.nw a _ h5 rfl]; exact n5
        refine ⟨L.now, dd.takes, rfl, d6.of_int, dx, _, h6, Nat.le_of_ble_eq_true (by rfl), ?_⟩
        rw [ly_putNow]
        have gP : Gr [a] F6 H6 F6 (upd H6 a (.ins (He.ga K "Lying") dx (lyF vsh y5 (L.now + dd.takes) q vdn))) := Gr.put g6.fh n6
        have g56 := g5.then1 (g6.after gP) h5 rfl
        have hqa : q ∉ [a] := by simpa using Ne.symm haq
        have hpa : ∀ p ∈ ps, p ∉ [a] := fun p hp z => hap (by rw [← show p = a by simpa using z]; exact hp)
        have hO6 := (hO4.mono g56.ff).heap ((g56.hh q _ hqa hO4.d).trans hO4.d.symm) fun p hp => by
          obtain ⟨tks, e⟩ := hO4.at_ hp
          exact (g56.hh p _ (hpa p hp) e).trans e.symm
        have gA := g4.transL g56 (fun n hn => .inl (by rw [show n = a by simpa using hn]; exact .head _)) fun mm hmm => by
          rcases List.mem_cons.mp hmm with rfl | hmm
          · exact ⟨_, ha4, rfl⟩
          rcases List.mem_cons.mp hmm with rfl | hmm
          · exact ⟨_, hO4.d, rfl⟩
          · obtain ⟨tks, e⟩ := hO4.at_ hmm
            exact ⟨_, e, rfl⟩
        have f6 := f4.trans g56.ff
        refine rest F6 _ σ4 ⟨dd.move L.st, L.now + dd.takes, cs4, L.bk⟩ ps (dd.found w' L) gA ⟨⟨dx, vsh, y5, vdn, upd_same, hsh.mono f6, d5.mono g6.ff, hdn.mono f6⟩, hO6⟩ n6 (by rw [g56.nw q _ hO4.d rfl]; exact n4q) (fun p hp => ⟨?_, .inl hp⟩) (fun p hp => hp) (E5.mono g6.ff) rfl ?_
        · obtain ⟨tks, e⟩ := hO4.at_ hp
          rw [g56.nw p _ e rfl]
          exact n4p p hp
        · rw [hcs]
          exact .deed dd hdd
      -- found = press or None
      refine asg_seq ?_
      have hO3 := hL3.O
      by_cases hp : ∃ g, dd = .press g
      · obtain ⟨g, rfl⟩ := hp
        refine (dt_test (dv_op (dv_op (dv_var rfl) dv_int (rd_ixT (by rfl))) dv_str rd_eqS)).run g3.fh E3 fun F4 H4 g4 => iteT' (decide_eq_true rfl) ?_
        have g14 := g13.trans0 g4
        obtain ⟨n4a, n4q, n4p⟩ := fr1 g14
        have E4 := E3.mono g4.ff
        have ha4 := g14.same _ _ ha
        obtain ⟨v0, e0, h0⟩ := E4.at_ 0 _ rfl
        rw [h0.of_ob] at e0
        refine ⟨_, e0, a, dx, _, rfl, ha4, by rfl, ?_⟩
        refine (da_cons (dv_op (dv_var rfl) dv_int (rd_ixT (by rfl))) da_nil).run g4.fh E4 fun vs5 F5 H5 g5 d5 => ?_
        obtain ⟨v5, rfl, hv5⟩ := d5.sole
        have g15 := g14.trans0 g5
        obtain ⟨n5a, n5q, n5p⟩ := fr1 g15
        have hL5 := (hL.mono g15.ff).grow g15.same
        have ha5 := g15.same _ _ ha
        rw [hv5.of_int]
        refine ⟨F5, a, q, ps, m, w', g, L, rfl, g5.fh, hL5, n5q, n5p, hok, hm, hw, hdd, hcl, fun F6 H6 g6 hR6 => ?_⟩
        have E6 : Env F6 _ [some (.ob (.ref a)), some (ddD (.press g)), some ((Dd.press g).found w' L)] := ((E4.mono g5.ff).mono g6.ff).set (i := 2) (.int _)
        have hqp : q ∉ ps := hL5.O.ne
        have hO6 : RepO H6 F6 q ps (pressCs L.now (prsOf w' L.st g) L.cs) := hL5.O.of_in ((g6.hh q _ hqp hL5.O.d).trans hL5.O.d.symm) (by unfold pressCs; rw [List.map_map]; rfl) hR6
        have gA : Gr (a :: q :: ps) F H F6 H6 := g15.after (g6.mono fun n hn => .tail _ (.tail _ hn))
        exact moved F6 H6 _ _ gA (g6.hh a _ hap ha5) hO6 (by rw [g6.nw a _ ha5 rfl]; exact n5a) (by rw [g6.nw q _ hL5.O.d rfl]; exact n5q) (fun p hp => by
          obtain ⟨tks, e⟩ := hL5.O.at_ hp
          rw [g6.nw p _ e rfl]
          exact n5p p hp) E6 rfl
      · have hf : dd.found w' L = .non := by cases dd <;> first | rfl | exact (hp ⟨_, rfl⟩).elim
        have hc : dd.cs w' L = L.cs := by cases dd <;> first | rfl | exact (hp ⟨_, rfl⟩).elim
        have hs : ∃ (s : Str) (i : Int), ddD dd = .tup [.str s, .int i] ∧ decide (s = "press") = false := by
          cases dd with
          | press g => exact (hp ⟨g, rfl⟩).elim
          | swap g => exact ⟨_, _, rfl, by decide +kernel⟩
          | over g => exact ⟨_, _, rfl, by decide +kernel⟩
          | about g => exact ⟨_, _, rfl, by decide +kernel⟩
          | wait g => exact ⟨_, _, rfl, by decide +kernel⟩
        obtain ⟨s, i, hs1, hs2⟩ := hs
        refine (dt_test (dv_op (dv_op (x := .tup [.str s, .int i]) (dv_to (dv_var rfl) hs1) dv_int (rd_ixT (by rfl))) dv_str rd_eqS)).run g3.fh E3 fun F4 H4 g4 => iteF' hs2 ?_
        have g14 := g13.trans0 g4
        obtain ⟨n4a, n4q, n4p⟩ := fr1 g14
        have E4 := (E3.mono g4.ff).set (i := 2) (Dt.non (F := F4))
        rw [← hf] at E4
        exact moved F4 H4 _ L.cs g14.wide (g14.same _ _ ha) ((hO3.mono g4.ff).grow g4.same) n4a n4q n4p E4 hc.symm
end
end Bb
/-! Bb17 -/
namespace Bb
open PySem PySem.Spec PyProof.Rows L2

def tLocks : Nat → TE → TE
  | 0, t => t
  | n + 1, t => tLockE (tLocks n t)
theorem pe_locks {X : Cx} {e : Expr} {t : TE} : ∀ n : Nat, PE X e t → PE X e (tLocks n t)
  | 0, h => h
  | n + 1, h => pe_lock (pe_locks n h)
theorem SameD.trans {F F1 F2 : Hp} (a : SameD F F1) (b : SameD F1 F2) : SameD F F2 := ⟨fun x y e => b.1 _ _ (a.1 _ _ e), fun x y e => b.2 _ _ (a.2 _ _ e)⟩
/-- several dicts are locked while an expression runs that gives a new dict -/
theorem locks_run {te : TE} {σ : LSt} {n : Nat} : ∀ (ds : List Addr) (F H : Hp) (Q : VK), Same F H → ds.Nodup → (∀ d ∈ ds, ∃ u, H d = some u ∧ HO.isDict u = true) → (∀ d ∈ ds, ∀ o, F d = some o → HO.isDict o = true) →
    (∀ Fl Hl, Same Fl Hl → SameD F Fl → (∀ d ∈ ds, ∀ u, H d = some u → ∃ od, Fl d = some (.frz od u)) → (∀ b, b ∉ ds → Fl b = F b ∧ Hl b = H b) → ∀ k : VK, (∀ F' H' D kvs, Gr [] Fl Hl F' H' → Hl D = none → H' D = some (.dT kvs) → kvs.length = n → k (.ref D) H') → te σ Hl k) →
    (∀ F' H' D kvs, Gr [] F H F' H' → H D = none → H' D = some (.dT kvs) → kvs.length = n → Q (.ref D) H') → tLocks ds.length te σ H Q
  | [], F, H, Q, s, _, _, _, hin, hout => hin F H s ⟨fun _ _ e => e, fun _ _ e => e⟩ (fun d hd => nomatch hd) (fun b _ => ⟨rfl, rfl⟩) Q hout
  | d :: ds, F, H, Q, s, nd, hd, hk, hin, hout => by
    obtain ⟨u, hu, hdu⟩ := hd d (.head _)
    obtain ⟨n1, n2⟩ := List.nodup_cons.mp nd
    have ne : ∀ b ∈ ds, b ≠ d := fun b hb z => n1 (z ▸ hb)
    refine lockE s hu hdu fun od => ?_
    refine locks_run (n := n) ds (upd F d (.frz od u)) (upd H d (.frz od u)) _ (lock_same s) n2 (fun b hb => ?_) (fun b hb o e => ?_) (fun Fl Hl sl sd hl hb k hk' => ?_) fun F' H' D kvs g hD hD' hn => ?_
    · obtain ⟨u', h1, h2⟩ := hd b (.tail _ hb)
      exact ⟨u', by rw [upd_ne (ne b hb)]; exact h1, h2⟩
    · rw [upd_ne (ne b hb)] at e
      exact hk b (.tail _ hb) o e
    · have sd0 : SameD F (upd F d (.frz od u)) := lock_sd fun o e => hk d (.head _) o e
      refine hin Fl Hl sl (sd0.trans sd) (fun b hb' u' e => ?_) (fun b hb' => ?_) k hk'
      · rcases List.mem_cons.mp hb' with rfl | hb'
        · rw [hu] at e
          cases e
          exact ⟨od, by rw [(hb b n1).1, upd_same]⟩
        · exact hl b hb' u' (by rw [upd_ne (ne b hb')]; exact e)
      · have h1 : b ∉ ds := fun z => hb' (.tail _ z)
        have h2 : b ≠ d := fun z => hb' (z ▸ .head _)
        exact ⟨by rw [(hb b h1).1, upd_ne h2], by rw [(hb b h1).2, upd_ne h2]⟩
    · obtain ⟨u1, u2, gU, _⟩ := Gr.unlockZ s hu (by simp) g
      have hDd : D ≠ d := fun z => by rw [z, upd_same] at hD; cases hD
      exact ⟨u1, hout _ _ D kvs gU (by rw [upd_ne hDd] at hD; exact hD) (by rw [upd_ne hDd]; exact hD') hn⟩
/-! ### a dict by spots, its keys alone -/
structure RepU (kvs : List (List Key × V)) (S : Tri → Bool) : Prop where
  mem : ∀ s, keyT s ∈ kvs.map (·.1) ↔ S s = true
  key : ∀ k ∈ kvs.map (·.1), ∃ s, k = keyT s
  nd : (kvs.map (·.1)).Nodup
theorem RepU.put {kvs : List (List Key × V)} {S S' : Tri → Bool} (r : RepU kvs S) (s : Tri) (v : V) (h : ∀ t, S' t = (S t || decide (t = s))) : RepU (putK kvs (keyT s) v) S' := by
  have hk := putK_keys kvs (keyT s) v
  by_cases hm : keyT s ∈ kvs.map (·.1)
  · rw [if_pos hm] at hk
    refine ⟨fun t => ?_, by rw [hk]; exact r.key, by rw [hk]; exact r.nd⟩
    rw [hk, r.mem, h]
    constructor
    · intro e; rw [e]; rfl
    · intro e
      by_cases z : t = s
      · rw [z]; exact (r.mem s).mp hm
      · simpa [z] using e
  · rw [if_neg hm] at hk
    refine ⟨fun t => ?_, fun k hk' => ?_, ?_⟩
    · rw [hk, List.mem_append, r.mem, h]
      constructor
      · rintro (e | e)
        · rw [e]; rfl
        · have : keyT t = keyT s := by simpa using e
          rw [keyT_inj this]
          simp
      · intro e
        by_cases z : t = s
        · exact .inr (by rw [z]; simp)
        · exact .inl (by simpa [z] using e)
    · rw [hk] at hk'
      rcases List.mem_append.mp hk' with e | e
      · exact r.key k e
      · exact ⟨s, by simpa using e⟩
    · rw [hk]
      exact List.nodup_append.mpr ⟨r.nd, by simp, fun a ha b hb => by
        have : b = keyT s := by simpa using hb
        rw [this]
        exact fun z => hm (z ▸ ha)⟩
theorem RepU.length {kvs : List (List Key × V)} {S : Tri → Bool} (r : RepU kvs S) (L : List Tri) (nd : L.Nodup) (hs : ∀ s, S s = true → s ∈ L) : kvs.length = (L.filter S).length := by
  have e : kvs.length = (kvs.map (·.1)).length := by rw [List.length_map]
  have p : (kvs.map (·.1)).Perm ((L.filter S).map keyT) := by
    refine (List.perm_ext_iff_of_nodup r.nd ?_).mpr fun k => ?_
    · exact List.pairwise_map.mpr ((nd.filter _).imp fun h z => h (keyT_inj z))
    · constructor
      · intro hk
        obtain ⟨s, rfl⟩ := r.key k hk
        have := (r.mem s).mp hk
        exact List.mem_map.mpr ⟨s, List.mem_filter.mpr ⟨hs s this, this⟩, rfl⟩
      · intro hk
        obtain ⟨s, h1, rfl⟩ := List.mem_map.mp hk
        exact (r.mem s).mpr (List.mem_filter.mp h1).2
  rw [e, p.length_eq, List.length_map]
def keyInB (tks : List (List Key × V)) (s : Tri) : Bool := tks.any fun kv => decide (kv.1 = keyT s)
theorem keyInB_iff {tks : List (List Key × V)} {s : Tri} : keyInB tks s = true ↔ keyT s ∈ tks.map (·.1) := by
  unfold keyInB
  rw [List.any_eq_true, List.mem_map]
  constructor
  · rintro ⟨kv, h1, h2⟩; exact ⟨kv, h1, of_decide_eq_true h2⟩
  · rintro ⟨kv, h1, h2⟩; exact ⟨kv, h1, decide_eq_true h2⟩
/-- is there a mark of any colour -/
def anyB (cs : List (Str × Mp)) (s : Tri) : Bool := cs.any fun c => (c.2 s).isSome
def spotsN (cs : List (Str × Mp)) : Nat := ((spotsL 4 3).filter (anyB cs)).length
def spLySpots (K : PySem.W.Frag) : Sp := fun vs H Q _ => ∃ (F : Hp) (a : Addr) (m w : Nat) (L : Stt), vs = [.ref a] ∧ Same F H ∧ LyF K F a m w L ∧ SttOk m w L ∧ m ≤ 4 ∧ w ≤ 3 ∧ L.cs.length ≤ 1000 ∧
  ∀ F' H' D kvs, Gr [] F H F' H' → H D = none → H' D = some (.dT kvs) → kvs.length = spotsN L.cs → Q (.ref D) H'
abbrev N_ly_spots : List Str := ["self", "some", "spot"]
abbrev P_ly_spots : List Str := ["self"]
theorem sc_ly_spots : FnScope N_ly_spots P_ly_spots (defScope s_ly_spots) := ⟨rfl, rfl, rfl, by decide +kernel, rfl, by decide +kernel, by decide +kernel⟩
theorem b_ly_spots : BindsD d_ly_spots P_ly_spots := fun _ _ _ _ _ _ us hl => match us, hl with | [_], _ => rfl

section
variable {P : Program} {w : World} {K : PySem.W.Frag} {mg : Str → Option Value} {base : Heap}
theorem ok_ly_spots (T : Txt K mg) : Ok P w K mg base CX0 1 d_ly_spots P_ly_spots (spLySpots K) := by
  refine okN T.f_ly_spots sc_ly_spots b_ly_spots (fun vs H Q E h => ?_) fun cdv A outer s H vs Q E hr h => ?_
  · obtain ⟨_, _, _, _, _, rfl, _⟩ := h
    rfl
  · obtain ⟨F, a, m, w', L, rfl, sm, ⟨q, ps, hL⟩, hok, hm, hw, hcl, qq⟩ := h
    refine ⟨_, (pss_one (ps_ret (pe_locks (q :: ps).length (pe_dc2 (own := [("some", 1), ("spot", 2)]) (vs1 := [2]) hr.units0 rfl sc_ly_spots.nd (pi_values (kpe_fld (K := K) (pv 0) rfl)) (blkOk_by (N := N_ly_spots) (sc := defScope s_ly_spots) (by decide +kernel)) (by decide) (fun _ _ _ _ _ => (pg_name (i := 1) sc_ly_spots.nd rfl (.inl rfl))) (fun _ _ _ _ _ => (pi_keys (pv 1))) (fun _ _ _ _ _ => (pg_name (i := 2) sc_ly_spots.nd rfl (.inl rfl))) (fun _ _ _ _ _ => (pv 2)) (fun _ _ _ _ _ => pe_bl))))), ?_⟩
    obtain ⟨⟨dx, vsh, vst, vdn, ha, hsh, hst, hdn⟩, hO⟩ := hL
    have E0 : Env F (L2.start N_ly_spots [.ref a]) [some (.ob (.ref a)), none, none] := env_start (.cons (.ob _) .nil)
    have dictIn : ∀ d ∈ q :: ps, ∃ u, F d = some u ∧ HO.isDict u = true := fun d hd => by
      rcases List.mem_cons.mp hd with rfl | hd
      · exact ⟨_, hO.d, rfl⟩
      · obtain ⟨tks, e⟩ := hO.at_ hd
        exact ⟨_, e, rfl⟩
    have ha' : a ∉ q :: ps := fun z => by
      obtain ⟨u, e, hu⟩ := dictIn a z
      rw [ha] at e
      cases e
      cases hu
    show tLocks (q :: ps).length _ (L2.start N_ly_spots [.ref a]) H Q
    refine locks_run (n := spotsN L.cs) (q :: ps) F H Q sm (List.nodup_cons.mpr ⟨hO.ne, hO.nd⟩) (fun d hd => by
      obtain ⟨u, e, hu⟩ := dictIn d hd
      exact ⟨u, sm _ _ e, hu⟩) (fun d hd o e => by
      obtain ⟨u, e', hu⟩ := dictIn d hd
      rw [e] at e'
      cases e'
      exact hu) (fun Fl Hl sl sd hl hb k hk => ?_) qq
    have hla : Hl a = some (.ins (He.ga K "Lying") dx (lyF vsh vst L.now q vdn)) := by rw [(hb a ha').2]; exact sm _ _ ha
    obtain ⟨odq, hlq⟩ := hl q (.head _) _ (sm _ _ hO.d)
    have El := E0.sd sd
    generalize hσ : L2.start N_ly_spots [.ref a] = σ0 at El
    have hσl : σ0.length = 3 := by rw [← hσ]; rfl
    obtain ⟨v0, e0, h0⟩ := El.at_ 0 _ rfl
    rw [h0.of_ob] at e0
    have lenK : (kvsO L.cs ps).length = L.cs.length := kvsO_len hO.len
    refine ⟨_, e0, a, _, dx, _, _, rfl, hla, T.c_Lying, T.a_Lying_stained, ly_stained, q, odq, _, rfl, sl _ _ hlq, fun D hD => ?_⟩
    have nD : Fl D = none := none_of sl hD
    have gD : Gr [] Fl Hl Fl (upd Hl D (.dT [])) := Gr.newM sl hD
    refine ⟨fun i mm H' => mm = L.cs.length - i ∧ i ≤ L.cs.length ∧ ∃ F' kvs, Gr [] Fl Hl F' H' ∧ F' D = none ∧ H' D = some (.dT kvs) ∧ RepU kvs (anyB (L.cs.take i)),
      ⟨L.cs.length, rfl, Nat.zero_le _, Fl, [], gD, nD, upd_same, ⟨fun s => by simp [anyB], fun k hk => (nomatch hk), List.nodup_nil⟩⟩, ?_⟩
    rintro i mm H' ⟨rfl, hle, F', kvs, g', nD', hD', hR⟩
    have hlq' : H' q = some (.frz odq (.dK (kvsO L.cs ps))) := g'.fh _ _ (g'.ff _ _ hlq)
    by_cases hlt : i < L.cs.length
    · have hc : L.cs[i]? = some L.cs[i] := List.getElem?_eq_getElem hlt
      generalize L.cs[i] = c at hc
      obtain ⟨p, hp⟩ := hO.psAt hc
      have hpm := List.mem_of_getElem? hp
      obtain ⟨tks, ht, hRt⟩ := hO.inn i c p hc hp
      obtain ⟨odp, hlp⟩ := hl p (.tail _ hpm) _ (sm _ _ ht)
      have hcm := List.mem_of_getElem? hc
      refine .inr ⟨⟨hlq', by rw [lenK]; exact hlt⟩, fun H2 => i + 1 ≤ L.cs.length ∧ ∃ F' kvs, Gr [] Fl Hl F' H2 ∧ F' D = none ∧ H2 D = some (.dT kvs) ∧ RepU kvs (anyB (L.cs.take (i + 1))), fun H2 ⟨h1, h2⟩ => ⟨L.cs.length - (i + 1), by omega, rfl, h1, h2⟩, fun x H5 hy => ?_⟩
      obtain ⟨rfl, kk, hkv⟩ := hy
      rw [kvsO_get hc hp] at hkv
      cases hkv
      refine ⟨(wipe_set (by simp)).trans wipe_wipe, ?_⟩
      have sl1 : ((wipe σ0 [1, 2]).set 1 (some (V.ref p)))[1]? = some (some (.ref p)) := List.getElem?_set_self (by rw [wipe_length, hσl]; decide)
      refine ⟨_, sl1, p, odp, rfl, .inr ⟨tks, g'.fh _ _ (g'.ff _ _ hlp), ?_⟩⟩
      refine ⟨fun j mm H2 => mm = tks.length - j ∧ j ≤ tks.length ∧ ∃ F2 kvs2, Gr [] Fl Hl F2 H2 ∧ F2 D = none ∧ H2 D = some (.dT kvs2) ∧ RepU kvs2 (fun s => anyB (L.cs.take i) s || keyInB (tks.take j) s),
        ⟨tks.length, rfl, Nat.zero_le _, F', kvs, g', nD', hD', ?_⟩, ?_⟩
      · have : (fun s => anyB (L.cs.take i) s || keyInB (tks.take 0) s) = anyB (L.cs.take i) := funext fun s => by simp [keyInB]
        rw [this]
        exact hR
      · rintro j mm H2 ⟨rfl, hjle, F2, kvs2, g2, n2, h2D, hR2⟩
        have hlp2 : H2 p = some (.frz odp (.dT tks)) := g2.fh _ _ (g2.ff _ _ hlp)
        by_cases hjt : j < tks.length
        · have hk1 : tks[j]? = some tks[j] := List.getElem?_eq_getElem hjt
          generalize tks[j] = kv at hk1
          obtain ⟨sp, hsp⟩ := hRt.key kv (List.mem_of_getElem? hk1)
          refine .inr ⟨⟨hlp2, hjt⟩, fun H3 => j + 1 ≤ tks.length ∧ ∃ F2 kvs2, Gr [] Fl Hl F2 H3 ∧ F2 D = none ∧ H3 D = some (.dT kvs2) ∧ RepU kvs2 (fun s => anyB (L.cs.take i) s || keyInB (tks.take (j + 1)) s), fun H3 ⟨h1, h2⟩ => ⟨tks.length - (j + 1), by omega, rfl, h1, h2⟩, fun x H6 hy => ?_⟩
          obtain ⟨rfl, k1, v1, b1, e1, rfl, hb1⟩ := hy
          rw [hk1] at e1
          cases e1
          have hsp : k1 = keyT sp := hsp
          subst hsp
          refine ⟨(wipe_set (by simp)).trans wipe_wipe, ?_⟩
          have sl2 : ((wipe ((wipe σ0 [1, 2]).set 1 (some (V.ref p))) [2]).set 2 (some (V.ref b1)))[2]? = some (some (.ref b1)) := List.getElem?_set_self (by rw [wipe_length, List.length_set, wipe_length, hσl]; decide)
          refine ⟨_, sl2, kvs2, keyT sp, b1, rfl, hb1, h2D, ?_, hjt, F2, _, g2.mine hD n2, n2, upd_same, ?_⟩
          · have h3 : kvs2.length ≤ (spotsL 4 3).length := by
              rw [hR2.length (spotsL 4 3) nd43 fun s hs => ?_]
              · exact List.length_filter_le _ _
              · rcases Bool.or_eq_true_iff.mp hs with h | h
                · obtain ⟨c', h4, h5⟩ := List.any_eq_true.mp h
                  exact spots_sub hm hw ((hok.mks c' (List.mem_of_mem_take h4)).2 s fun z => by rw [z] at h5; cases h5)
                · have h4 := keyInB_iff.mp h
                  have h5 : keyT s ∈ tks.map (·.1) := by
                    obtain ⟨kv', h6, h7⟩ := List.mem_map.mp h4
                    exact List.mem_map.mpr ⟨kv', List.mem_of_mem_take h6, h7⟩
                  exact spots_sub hm hw ((hok.mks c hcm).2 s ((hRt.mem s).mp h5))
            rw [len43] at h3
            rw [sizeLine_eq]
            omega
          · refine hR2.put sp _ fun t => ?_
            rw [List.take_succ_eq_append_getElem hjt]
            have e2 : tks[j] = (keyT sp, v1) := by rw [List.getElem?_eq_getElem hjt] at hk1; exact Option.some.inj hk1
            rw [e2, Bool.or_assoc]
            congr 1
            rw [Bool.eq_iff_iff, Bool.or_eq_true_iff, keyInB_iff, keyInB_iff, decide_eq_true_iff, List.map_append, List.mem_append]
            constructor
            · rintro (h | h)
              · exact .inl h
              · exact .inr (keyT_inj (by simpa using h))
            · rintro (h | h)
              · exact .inl h
              · exact .inr (by rw [h]; simp)
        · have e : j = tks.length := by omega
          subst e
          rw [List.take_length] at hR2
          refine .inl ⟨⟨hlp2, Nat.le_refl _⟩, hlt, F2, kvs2, g2, n2, h2D, ?_⟩
          have : (fun s => anyB (L.cs.take i) s || keyInB tks s) = anyB (L.cs.take (i + 1)) := funext fun s => by
            unfold anyB
            rw [List.take_succ_eq_append_getElem hlt]
            have e2 : L.cs[i] = c := by rw [List.getElem?_eq_getElem hlt] at hc; exact Option.some.inj hc
            rw [e2, List.any_append]
            congr 1
            rw [Bool.eq_iff_iff, keyInB_iff, hRt.mem]
            cases hcs : c.2 s <;> simp [hcs]
          rw [← this]
          exact hR2
    · have e : i = L.cs.length := by omega
      subst e
      rw [List.take_length] at hR
      refine .inl ⟨⟨hlq', by rw [lenK]; exact Nat.le_refl _⟩, hk F' H' D kvs g' hD hD' ?_⟩
      refine hR.length (spotsL 4 3) nd43 fun s hs => ?_
      obtain ⟨c', h4, h5⟩ := List.any_eq_true.mp hs
      exact spots_sub hm hw ((hok.mks c' h4).2 s fun z => by rw [z] at h5; cases h5)
end
end Bb
/-! Bb18 -/
namespace Bb
open PySem PySem.Spec PyProof.Rows L2

section
variable {F H F1 H1 F2 H2 : Hp} {M : List Addr}
/-- all that is new is frozen -/
def allF (H F1 H1 : Hp) : Hp := fun c => if (H c).isNone then H1 c else F1 c
theorem allF_new {c : Addr} (h : H c = none) : allF H F1 H1 c = H1 c := by unfold allF; rw [h]; rfl
theorem allF_same (s : Same F1 H1) : Same F1 (allF H F1 H1) := fun c o e => by
  unfold allF
  split
  · exact s _ _ e
  · exact e
theorem Gr.all (g : Gr [] F H F1 H1) : Gr [] F H (allF H F1 H1) H1 where
  ff := g.ff.trans (allF_same g.fh)
  fh := fun c o e => by
    unfold allF at e
    split at e
    · exact e
    · exact g.fh _ _ e
  hh := g.hh
  nw := fun c o e t => by
    unfold allF
    rw [e]
    exact g.nw c o e t
/-- only new things are changed -/
theorem Gr.fresh (a : Gr [] F H F1 H1) (b : Gr M F1 H1 F2 H2) (h : ∀ m ∈ M, H m = none) : Gr [] F H F2 H2 :=
  ⟨a.ff.trans b.ff, b.fh, fun c o _ e => b.hh c o (fun z => by rw [h c z] at e; cases e) (a.same _ _ e), fun c o e t => by rw [b.nw c o (a.same _ _ e) t, a.nw c o e t]⟩
end
section
variable {K : PySem.W.Frag} {F H F1 H1 : Hp} {b q : Addr} {ps : List Addr} {m w : Nat} {L : Stt}
theorem LyO.all (g : Gr [] F H F1 H1) (r : LyO K H1 F1 b m w L q ps) (hb : H b = none) (hq : H q = none) (hp : ∀ p ∈ ps, H p = none) : LyF K (allF H F1 H1) b m w L := by
  have r' := r.mono (allF_same (H := H) g.fh)
  refine ⟨q, ps, ?_, r'.O.heap (allF_new hq) fun p hp' => allF_new (hp p hp')⟩
  obtain ⟨dx, v1, v2, v3, h, h1, h2, h3⟩ := r'.ins
  exact ⟨dx, v1, v2, v3, (allF_new hb).trans h, h1, h2, h3⟩
end
/-! ### the book -/
def bkF (la : Addr) (vp : V) : List (Str × V) := [("here", .ref la), ("past", vp)]
section
variable {la la' : Addr} {vp v : V}
theorem bk_here : (bkF la vp).lookup ("here" : Str) = some (.ref la) := by rfl
theorem bk_past : (bkF la vp).lookup ("past" : Str) = some vp := by rfl
theorem bk_putHere : putF "here" (.ref la') (bkF la vp) = bkF la' vp := by rfl
theorem bk_putPast : putF "past" v (bkF la vp) = bkF la v := by rfl
end
def obs (las : List Addr) : List Da := las.map fun a => .ob (.ref a)
/-- .. to be read -/
structure BkI (K : PySem.W.Frag) (H F : Hp) (kb : Addr) (m w : Nat) (L : Stt) (past : List Stt) : Prop where
  ins : ∃ dx la vp las, H kb = some (.ins (He.ga K "Book") dx (bkF la vp)) ∧ LyF K F la m w L ∧ Dt F vp (.tup (obs las)) ∧ las.length = past.length ∧ ∀ (i : Nat) (a : Addr) (L' : Stt), las[i]? = some a → past[i]? = some L' → LyF K F a m w L'
structure BkO (K : PySem.W.Frag) (H F : Hp) (kb : Addr) (m w : Nat) (L : Stt) (past : List Stt) : Prop where
  nF : F kb = none
  ins : ∃ dx la vp las, H kb = some (.ins (He.ga K "Book") dx (bkF la vp)) ∧ LyF K F la m w L ∧ Dt F vp (.tup (obs las)) ∧ las.length = past.length ∧ ∀ (i : Nat) (a : Addr) (L' : Stt), las[i]? = some a → past[i]? = some L' → LyF K F a m w L'
section
variable {K : PySem.W.Frag} {F H F1 H1 : Hp} {kb la : Addr} {m w : Nat} {L : Stt} {past : List Stt} {σ : LSt} {ρ ρ' : Rho} {te ta tb : TE} {B F0 : Hp} {f : Str} {d : Da}
theorem BkO.grow (r : BkO K H F kb m w L past) (g : Gr [] F H F1 H1) : BkO K H1 F1 kb m w L past := by
  obtain ⟨nF, dx, la, vp, las, h, hl, hp, hn, hi⟩ := r
  exact ⟨by rw [g.nw kb _ h rfl]; exact nF, dx, la, vp, las, g.same _ _ h, hl.mono g.ff, hp.mono g.ff, hn, fun i a L' h1 h2 => (hi i a L' h1 h2).mono g.ff⟩
theorem BkO.rd (r : BkO K H F kb m w L past) : BkI K H F kb m w L past := ⟨r.ins⟩
theorem BkI.mono (r : BkI K H F kb m w L past) (s : Same F F1) (t : Same H H1) : BkI K H1 F1 kb m w L past := by
  obtain ⟨dx, la, vp, las, h, hl, hp, hn, hi⟩ := r
  exact ⟨dx, la, vp, las, t _ _ h, hl.mono s, hp.mono s, hn, fun i a L' h1 h2 => (hi i a L' h1 h2).mono s⟩
/-- a field of a frozen Lying -/
theorem dv_ly {v : V} {fs : List (Str × V)} {dx : Addr} (h : Dv F0 B ta ρ (.ob (.ref la))) (hl : F0 la = some (.ins (He.ga K "Lying") dx fs)) (s : Same F0 B) (c : Cls K (He.ga K "Lying")) (n : NoAttr K (He.ga K "Lying") f) (hv : fs.lookup f = some v) (hd : Dt F0 v d) : Dv F0 B (tFld K ta f) ρ d := dv_fld h (s _ _ hl) c n hv hd
end
section
variable {F0 B : Hp} {te : TE} {u : TS} {D : Ends} {σ : LSt} {H : Hp} {i : Nat}
theorem set_seq (h : te σ H fun v H1 => u D (σ.set i (some v)) H1) : tSeq (tAsg te (gName i)) u D σ H := h
theorem ru_neg {i : Int} : RU F0 B (rU fun i => .int (-i)) (.int i) (.int (-i)) := fun F H v a d Q k => ⟨i, d.of_int, k _ F H (.refl a.h) (.int _)⟩
end
/-- what a method without a change gives -/
def spBk1 (K : PySem.W.Frag) (f : Stt → Da) : Sp := fun vs H Q _ => ∃ (F : Hp) (kb : Addr) (m w : Nat) (L : Stt) (past : List Stt), vs = [.ref kb] ∧ Same F H ∧ BkI K H F kb m w L past ∧ ∀ v F' H', Gr [] F H F' H' → Dt F' v (f L) → Q v H'
def spBkInit (K : PySem.W.Frag) : Sp := fun vs H Q _ => ∃ (F : Hp) (a dx : Addr) (m w : Nat) (v : V), vs = [.ref a, v] ∧ Same F H ∧ H a = some (.ins (He.ga K "Book") dx []) ∧ F a = none ∧ Dt F v (shD m w) ∧ 1 ≤ m ∧ m ≤ 4 ∧ 1 ≤ w ∧ w ≤ 3 ∧
  ∀ F' H', Gr [a] F H F' H' → BkO K H' F' a m w ⟨firstSt m, 0, [], []⟩ [] → Q .non H'
def spBkDo (K : PySem.W.Frag) : Sp := fun vs H Q E => ∃ (F : Hp) (kb : Addr) (m w : Nat) (L : Stt) (past : List Stt) (vd : V) (d : Da), vs = [.ref kb, vd] ∧ Same F H ∧ BkO K H F kb m w L past ∧ Dt F vd d ∧ Dok d ∧ SttOk m w L ∧ m ≤ 4 ∧ w ≤ 3 ∧ L.cs.length ≤ 1000 ∧ L.bk.length ≤ 1000 ∧ past.length ≤ 1000 ∧
  ((∃ L' f, Tl m w L d L' f ∧ ∀ F' H' v, Gr [kb] F H F' H' → BkO K H' F' kb m w L' (past ++ [L]) → Dt F' v f → Q v H') ∨
  ∃ word, Nope m w d word ∧ ∀ F' H', Gr [] F H F' H' → E (.ref (He.ga K (excN word))) none H')
def spBkBack (K : PySem.W.Frag) : Sp := fun vs H Q E => ∃ (F : Hp) (kb : Addr) (m w : Nat) (L : Stt) (past : List Stt), vs = [.ref kb] ∧ Same F H ∧ BkO K H F kb m w L past ∧ past.length ≤ 1000 ∧
  ((∃ past' L', past = past' ++ [L'] ∧ ∀ F' H', Gr [kb] F H F' H' → BkO K H' F' kb m w L' past' → Q .non H') ∨
  (past = [] ∧ ∀ F' H', Gr [] F H F' H' → E (.ref (He.ga K "NothingLeft")) none H'))
/-- what shown gives: the four, as they lie -/
def spShown (K : PySem.W.Frag) : Sp := fun vs H Q _ => ∃ (F : Hp) (a dx : Addr) (m w : Nat) (L : Stt) (q : Addr) (vsh vst vdn : V), vs = [.ref a] ∧ Same F H ∧ F a = some (.ins (He.ga K "Lying") dx (lyF vsh vst L.now q vdn)) ∧ Dt F vsh (shD m w) ∧ Dt F vst (stD L.st) ∧
  ∀ v F' H', Gr [] F H F' H' → Dt F' v (.tup [shD m w, stD L.st, .int L.now, .ob (.ref q)]) → Q v H'
abbrev N_ly_shown : List Str := ["self"]
abbrev P_ly_shown : List Str := ["self"]
theorem sc_ly_shown : FnScope N_ly_shown P_ly_shown (defScope s_ly_shown) := ⟨rfl, rfl, rfl, by decide +kernel, rfl, by decide +kernel, by decide +kernel⟩
theorem b_ly_shown : BindsD d_ly_shown P_ly_shown := fun _ _ _ _ _ _ us hl => match us, hl with | [_], _ => rfl
abbrev N_bk_init : List Str := ["self", "shape"]
abbrev P_bk_init : List Str := ["self", "shape"]
theorem sc_bk_init : FnScope N_bk_init P_bk_init (defScope s_bk_init) := ⟨rfl, rfl, rfl, by decide +kernel, rfl, by decide +kernel, by decide +kernel⟩
theorem b_bk_init : BindsD d_bk_init P_bk_init := fun _ _ _ _ _ _ us hl => match us, hl with | [_, _], _ => rfl
abbrev N_bk_do : List Str := ["self", "deed", "fresh", "found"]
abbrev P_bk_do : List Str := ["self", "deed"]
theorem sc_bk_do : FnScope N_bk_do P_bk_do (defScope s_bk_do) := ⟨rfl, rfl, rfl, by decide +kernel, rfl, by decide +kernel, by decide +kernel⟩
theorem b_bk_do : BindsD d_bk_do P_bk_do := fun _ _ _ _ _ _ us hl => match us, hl with | [_, _], _ => rfl
abbrev N_bk_back : List Str := ["self"]
abbrev P_bk_back : List Str := ["self"]
theorem sc_bk_back : FnScope N_bk_back P_bk_back (defScope s_bk_back) := ⟨rfl, rfl, rfl, by decide +kernel, rfl, by decide +kernel, by decide +kernel⟩
theorem b_bk_back : BindsD d_bk_back P_bk_back := fun _ _ _ _ _ _ us hl => match us, hl with | [_], _ => rfl
abbrev N_bk_stand : List Str := ["self"]
abbrev P_bk_stand : List Str := ["self"]
theorem sc_bk_stand : FnScope N_bk_stand P_bk_stand (defScope s_bk_stand) := ⟨rfl, rfl, rfl, by decide +kernel, rfl, by decide +kernel, by decide +kernel⟩
theorem b_bk_stand : BindsD d_bk_stand P_bk_stand := fun _ _ _ _ _ _ us hl => match us, hl with | [_], _ => rfl
abbrev N_bk_tick : List Str := ["self"]
abbrev P_bk_tick : List Str := ["self"]
theorem sc_bk_tick : FnScope N_bk_tick P_bk_tick (defScope s_bk_tick) := ⟨rfl, rfl, rfl, by decide +kernel, rfl, by decide +kernel, by decide +kernel⟩
theorem b_bk_tick : BindsD d_bk_tick P_bk_tick := fun _ _ _ _ _ _ us hl => match us, hl with | [_], _ => rfl
abbrev N_bk_book : List Str := ["self"]
abbrev P_bk_book : List Str := ["self"]
theorem sc_bk_book : FnScope N_bk_book P_bk_book (defScope s_bk_book) := ⟨rfl, rfl, rfl, by decide +kernel, rfl, by decide +kernel, by decide +kernel⟩
theorem b_bk_book : BindsD d_bk_book P_bk_book := fun _ _ _ _ _ _ us hl => match us, hl with | [_], _ => rfl

section
variable {P : Program} {w : World} {K : PySem.W.Frag} {mg : Str → Option Value} {base : Heap}
theorem ok_ly_shown (T : Txt K mg) : Ok P w K mg base CX0 1 d_ly_shown P_ly_shown (spShown K) := by
  refine okN T.f_ly_shown sc_ly_shown b_ly_shown (fun vs H Q E h => ?_) fun cdv A outer s H vs Q E hr h => ?_
  · obtain ⟨_, _, _, _, _, _, _, _, _, _, rfl, _⟩ := h
    rfl
  · obtain ⟨F, a, dx, m, w', L, q, vsh, vst, vdn, rfl, sm, ha, hsh, hst, k⟩ := h
    refine ⟨_, (pss_one (ps_ret (pe_tup (pa_cons (kpe_fld (K := K) (pv 0) rfl) (pa_cons (kpe_fld (K := K) (pv 0) rfl) (pa_cons (kpe_fld (K := K) (pv 0) rfl) (pa_cons (kpe_fld (K := K) (pv 0) rfl) pa_nil))))))), ?_⟩
    have E0 : Env F (L2.start N_ly_shown [.ref a]) [some (.ob (.ref a))] := env_start (.cons (.ob _) .nil)
    exact (sv_ret (dv_tup (da_cons (dv_ly (dv_var rfl) ha sm T.c_Lying T.a_Lying_shape ly_shape hsh) (da_cons (dv_ly (dv_var rfl) ha sm T.c_Lying T.a_Lying_order ly_order hst) (da_cons (dv_ly (dv_var rfl) ha sm T.c_Lying T.a_Lying_now ly_now (.int _)) (da_cons (dv_ly (dv_var rfl) ha sm T.c_Lying T.a_Lying_stained ly_stained (.ob _)) da_nil)))) (small_ rfl))).runR sm E0 k
theorem ok_bk_init (T : Txt K mg) (G_is_shape : Ok P w K mg base CX0 2 d_is_shape P_is_shape (spD R_is_shape)) (G_ly_init : Ok P w K mg base CX0 2 d_ly_init P_ly_init (spLyInit K)) : Ok P w K mg base CX0 4 d_bk_init P_bk_init (spBkInit K) := by
  refine okN T.f_bk_init sc_bk_init b_bk_init (fun vs H Q E h => ?_) fun cdv A outer s H vs Q E hr h => ?_
  · obtain ⟨_, _, _, _, _, _, rfl, _⟩ := h
    rfl
  · obtain ⟨F, a, dx, m, w', v, rfl, sm, ha, nF, hv, hm1, hm, hw1, hw, k⟩ := h
    refine ⟨_, (pss_cons (ps_if (pt_not (pt_val (pe_callO G_is_shape (hr.mono (by decide)) rfl T.g_is_shape pass0 (pa_cons (pv 1) pa_nil)))) (pss_one ps_never) pss_nil)
  (pss_cons (kps_fld (K := K) (pv 0) (pe_makeO T.k_Lying G_ly_init (hr.mono (by decide)) rfl T.g_Lying pass0 (pa_cons (pv 1) pa_nil)) rfl)
  (pss_one (kps_fld (K := K) (pv 0) (pe_tup pa_nil) rfl)))), ?_⟩
    have E0 : Env F (L2.start N_bk_init [.ref a, v]) [some (.ob (.ref a)), some (shD m w')] := env_start (.cons (.ob _) (.cons hv .nil))
    refine if_seq ?_
    refine (dt_not (dt_val (dv_call (da_cons (dv_var rfl) da_nil) ⟨m, w', rfl, hm1, by omega, hw1, by omega, rfl⟩))).run sm E0 fun F1 H1 g1 => ?_
    refine iteF' rfl (nextS ?_)
    have E1 := E0.mono g1.ff
    refine sfld_seq ?_
    refine lyMake (dv_var rfl) g1.fh E1 (by omega) fun F2 H2 b q dx2 vsh vst vdn g2 nb nq hb2 hsh hst hdn hq2 nFb nFq => ?_
    have gA := g2.all
    have hL : LyF K (allF H1 F2 H2) b m w' ⟨firstSt m, 0, [], []⟩ := LyO.all (ps := []) g2 ⟨⟨dx2, vsh, vst, vdn, hb2, hsh, hst, hdn⟩, .nil hq2⟩ nb nq (fun p hp => nomatch hp)
    generalize allF H1 F2 H2 = F3 at gA hL
    have gB := g1.trans0 gA
    have ha3 := gB.same _ _ ha
    have n3 : F3 a = none := by rw [gB.nw a _ ha rfl]; exact nF
    have E3 := E0.mono gB.ff
    obtain ⟨v0, e0, h0⟩ := E3.at_ 0 _ rfl
    rw [h0.of_ob] at e0
    refine ⟨_, e0, a, _, dx, [], rfl, ha3, T.c_Book, T.a_Book_here, by decide, ?_⟩
    have gC : Gr [a] F3 H2 F3 (upd H2 a (.ins (He.ga K "Book") dx [("here", .ref b)])) := Gr.put gA.fh n3
    refine fld_run (x := .tup []) (dv_tup da_nil (Nat.zero_le _)) (fun _ _ => dv_var rfl) upd_same n3 T.c_Book T.a_Book_past (Nat.le_of_ble_eq_true (by rfl)) gC.fh E3 fun F4 H4 y4 g4 h4 d4 n4 E4 => ?_
    have gD := gB.after (gC.then1 g4 upd_same rfl)
    exact k F4 H4 gD ⟨n4, dx, b, y4, [], h4, hL.mono g4.ff, d4, rfl, fun i _ _ z => by simp at z⟩
theorem ok_bk_do (T : Txt K mg) (G_ly_twin : Ok P w K mg base CX0 4 d_ly_twin P_ly_twin (spTwin K)) (G_ly_tells : Ok P w K mg base (L2.CX P w) 5 d_ly_tells P_ly_tells (spLyTells K)) : Ok P w K mg base (L2.CX P w) 6 d_bk_do P_bk_do (spBkDo K) := by
  refine okG T.f_bk_do sc_bk_do b_bk_do (fun vs H Q E h => ?_) fun cdv A outer s H vs Q E hr h => ?_
  · obtain ⟨_, _, _, _, _, _, _, _, rfl, _⟩ := h
    rfl
  · obtain ⟨F, kb, m, w', L, past, vd, d, rfl, sm, hB, hvd, hd, hok, hm, hw, hcl, hbl, hpl, hend⟩ := h
    refine ⟨_, (pss_cons (ps_set (i := 2) sc_bk_do.nd rfl (.inl rfl) (pe_methO0 (kpe_fld (K := K) (pv 0) rfl) T.c_Lying T.m_ly_twin G_ly_twin (hr.mono (by decide)) pass0))
  (pss_cons (ps_set (i := 3) sc_bk_do.nd rfl (.inl rfl) (pe_methO (pv 2) T.c_Lying T.m_ly_tells G_ly_tells (hr.mono (by decide)) (passes_call (takes_of rfl rfl rfl rfl) fun _ _ _ _ h => h) (pa_cons (pv 1) pa_nil)))
  (pss_cons (kps_fld (K := K) (pv 0) (pe_op (kop_catA (K := K)) (kpe_fld (K := K) (pv 0) rfl) (pe_tup (pa_cons (kpe_fld (K := K) (pv 0) rfl) pa_nil))) rfl)
  (pss_cons (kps_fld (K := K) (pv 0) (pv 2) rfl)
  (pss_one (ps_ret (pv 3))))))), ?_⟩
    have E0 : Env F (L2.start N_bk_do [.ref kb, vd]) [some (.ob (.ref kb)), some d, none, none] := env_start (.cons (.ob _) (.cons hvd .nil))
    have hB0 := hB
    obtain ⟨nFk, dx, la, vp, las, hk, hL, hvp, hln, hpast⟩ := hB
    refine set_seq ?_
    refine (dv_fld (d := .ob (.ref la)) (dv_var rfl) hk T.c_Book T.a_Book_here bk_here (.ob _)).run sm E0 fun v1 F1 H1 g1 d1 => ?_
    rw [d1.of_ob]
    have hL1 := hL.mono g1.ff
    obtain ⟨q0, ps0, ⟨dxl, vsh, vst, vdn, hla, hsh, hst, hdn⟩, hO⟩ := hL1
    refine ⟨la, dxl, _, rfl, g1.fh _ _ hla, by rfl, ?_⟩
    refine ⟨F1, la, m, w', L, rfl, g1.fh, ⟨q0, ps0, ⟨dxl, vsh, vst, vdn, hla, hsh, hst, hdn⟩, hO⟩, hm, hw, hok, hcl, fun F2 H2 b q ps g2 hL2 nb nq np nFb nFq nFp => ?_⟩
    have g12 := g1.trans0 g2
    have E2 : Env F2 ((L2.start N_bk_do [.ref kb, vd]).set 2 (some (.ref b))) [some (.ob (.ref kb)), some d, some (.ob (.ref b)), none] := (E0.mono g12.ff).set (.ob _)
    have old : ∀ p, H1 p = none → H p = none := fun p hp => by
      cases e : H p with
      | none => rfl
      | some o => rw [g1.same _ _ e] at hp; cases hp
    show tSeq (tAsg _ _) _ _ _ _
    generalize (L2.start N_bk_do [V.ref kb, vd]).set 2 (some (.ref b)) = σ2 at E2 ⊢
    refine set_seq ?_
    obtain ⟨v2, e2, h2⟩ := E2.at_ 2 _ rfl
    rw [h2.of_ob] at e2
    obtain ⟨dx2, vsh2, vst2, vdn2, hb2, hsh2, hst2, hdn2⟩ := hL2.ins
    refine ⟨_, e2, b, dx2, _, rfl, hb2, by rfl, ?_⟩
    refine (da_cons (d := d) (dv_var rfl) da_nil).run g2.fh E2 fun vs3 F3 H3 g3 d3 => ?_
    obtain ⟨vd3, rfl, hvd3⟩ := d3.sole
    have g13 := g12.trans0 g3
    have hL3 := (hL2.mono g3.ff).grow g3.same
    have n3b : F3 b = none := by rw [g3.nw b _ hb2 rfl]; exact nFb
    have n3q : F3 q = none := by rw [g3.nw q _ hL2.O.d rfl]; exact nFq
    have n3p : ∀ p ∈ ps, F3 p = none := fun p hp => by
      obtain ⟨tks, e⟩ := hL2.O.at_ hp
      rw [g3.nw p _ e rfl]
      exact nFp p hp
    have E3 := E2.mono g3.ff
    have newM : ∀ c ∈ b :: q :: ps, H c = none := fun c hc => by
      rcases List.mem_cons.mp hc with rfl | hc
      · exact old _ nb
      rcases List.mem_cons.mp hc with rfl | hc
      · exact old _ nq
      · exact old _ (np c hc)
    have old3 : ∀ p, H3 p = none → H p = none := fun p hp => by
      cases e : H p with
      | none => rfl
      | some o => rw [g13.same _ _ e] at hp; cases hp
    refine ⟨F3, b, q, ps, m, w', L, vd3, d, rfl, g3.fh, hL3, n3b, n3q, n3p, hvd3, hd, hok, hm, hw, hcl, hbl, ?_⟩
    rcases hend with ⟨L', f, hT, k⟩ | ⟨word, hN, k⟩
    case inr => exact .inr ⟨word, hN, fun F4 H4 g4 => k F4 H4 (g13.trans0 g4)⟩
    refine .inl ⟨L', f, hT, fun F4 H4 ps4 v4 g4 hL4 n4b n4q n4p hv4 => ?_⟩
    have g14 : Gr [] F H F4 H4 := g13.fresh g4 newM
    have gA := g14.all
    have hLF : LyF K (allF H F4 H4) b m w' L' := LyO.all g14 hL4 (newM b (.head _)) (newM q (.tail _ (.head _))) fun p hp => (n4p p hp).2.elim (fun z => newM p (.tail _ (.tail _ z))) (old3 p)
    have hv5 := hv4.mono (allF_same (H := H) g14.fh)
    have E5 : Env (allF H F4 H4) (σ2.set 3 (some v4)) [some (.ob (.ref kb)), some d, some (.ob (.ref b)), some f] := (((E3.mono g4.ff).mono (allF_same (H := H) g14.fh)).set hv5)
    generalize allF H F4 H4 = F5 at gA hLF hv5 E5
    show tSeq _ _ _ _ _
    generalize σ2.set 3 (some v4) = σ5 at E5 ⊢
    obtain ⟨n5, dx5, la5, vp5, las5, hk5, hL5, hvp5, hln5, hp5⟩ := hB0.grow gA
    refine fld_seq (x := .tup (obs las5 ++ [.ob (.ref la5)])) (dv_op (dv_fld (dv_var rfl) hk5 T.c_Book T.a_Book_past bk_past hvp5) (dv_tup (da_cons (dv_fld (d := .ob (.ref la5)) (dv_var rfl) hk5 T.c_Book T.a_Book_here bk_here (.ob _)) da_nil) (small_ rfl)) (rd_catT (by unfold obs; rw [sizeLine_eq, List.length_map]; simp; omega))) (fun _ _ => dv_var rfl) hk5 n5 T.c_Book T.a_Book_past (Nat.le_of_ble_eq_true (by rfl)) gA.fh E5 fun F6 H6 y6 g6 h6 d6 n6 E6 => ?_
    rw [bk_putPast] at h6
    refine fld_seq (x := .ob (.ref b)) (dv_var rfl) (fun _ _ => dv_var rfl) h6 n6 T.c_Book T.a_Book_here (Nat.le_of_ble_eq_true (by rfl)) g6.fh E6 fun F7 H7 y7 g7 h7 d7 n7 E7 => ?_
    rw [d7.of_ob, bk_putHere] at h7
    obtain ⟨v8, e8, h8⟩ := E7.at_ 3 _ rfl
    refine ⟨v8, e8, k F7 H7 v8 (gA.after (g6.then1 g7 h6 rfl)) ⟨n7, dx5, b, y6, las5 ++ [la5], h7, (hLF.mono g6.ff).mono g7.ff, by unfold obs; rw [List.map_append]; exact d6.mono g7.ff, by rw [List.length_append, List.length_append, hln5]; rfl, fun i a L1 h1 h2 => ?_⟩ h8⟩
    have ff := g6.ff.trans g7.ff
    by_cases hi : i < las5.length
    · rw [List.getElem?_append_left hi] at h1
      rw [List.getElem?_append_left (by omega)] at h2
      exact (hp5 i a L1 h1 h2).mono ff
    · rw [List.getElem?_append_right (by omega)] at h1
      rw [List.getElem?_append_right (by omega)] at h2
      have e0 : i - las5.length = 0 := by
        have := (List.getElem?_eq_some_iff.mp h1).1
        simp at this
        omega
      rw [e0] at h1
      rw [← hln5, e0] at h2
      cases h1
      cases h2
      exact hL5.mono ff
theorem ok_bk_stand (T : Txt K mg) : Ok P w K mg base CX0 1 d_bk_stand P_bk_stand (spBk1 K fun L => stD L.st) := by
  refine okN T.f_bk_stand sc_bk_stand b_bk_stand (fun vs H Q E h => ?_) fun cdv A outer s H vs Q E hr h => ?_
  · obtain ⟨_, _, _, _, _, _, rfl, _⟩ := h
    rfl
  · obtain ⟨F, kb, m, w', L, past, rfl, sm, ⟨dx, la, vp, las, hk, ⟨q0, ps0, ⟨dxl, vsh, vst, vdn, hla, hsh, hst, hdn⟩, hO⟩, hvp, hln, hpast⟩, k⟩ := h
    refine ⟨_, (pss_one (ps_ret (kpe_fld (K := K) (kpe_fld (K := K) (pv 0) rfl) rfl))), ?_⟩
    have E0 : Env F (L2.start N_bk_stand [.ref kb]) [some (.ob (.ref kb))] := env_start (.cons (.ob _) .nil)
    exact (sv_ret (dv_ly (dv_fld (d := .ob (.ref la)) (dv_var rfl) hk T.c_Book T.a_Book_here bk_here (.ob _)) hla sm T.c_Lying T.a_Lying_order ly_order hst)).runR sm E0 k
theorem ok_bk_tick (T : Txt K mg) : Ok P w K mg base CX0 1 d_bk_tick P_bk_tick (spBk1 K fun L => .int L.now) := by
  refine okN T.f_bk_tick sc_bk_tick b_bk_tick (fun vs H Q E h => ?_) fun cdv A outer s H vs Q E hr h => ?_
  · obtain ⟨_, _, _, _, _, _, rfl, _⟩ := h
    rfl
  · obtain ⟨F, kb, m, w', L, past, rfl, sm, ⟨dx, la, vp, las, hk, ⟨q0, ps0, ⟨dxl, vsh, vst, vdn, hla, hsh, hst, hdn⟩, hO⟩, hvp, hln, hpast⟩, k⟩ := h
    refine ⟨_, (pss_one (ps_ret (kpe_fld (K := K) (kpe_fld (K := K) (pv 0) rfl) rfl))), ?_⟩
    have E0 : Env F (L2.start N_bk_tick [.ref kb]) [some (.ob (.ref kb))] := env_start (.cons (.ob _) .nil)
    exact (sv_ret (dv_ly (dv_fld (d := .ob (.ref la)) (dv_var rfl) hk T.c_Book T.a_Book_here bk_here (.ob _)) hla sm T.c_Lying T.a_Lying_now ly_now (.int _))).runR sm E0 k
theorem ok_bk_book (T : Txt K mg) : Ok P w K mg base CX0 1 d_bk_book P_bk_book (spBk1 K fun L => .lst L.bk) := by
  refine okN T.f_bk_book sc_bk_book b_bk_book (fun vs H Q E h => ?_) fun cdv A outer s H vs Q E hr h => ?_
  · obtain ⟨_, _, _, _, _, _, rfl, _⟩ := h
    rfl
  · obtain ⟨F, kb, m, w', L, past, rfl, sm, ⟨dx, la, vp, las, hk, ⟨q0, ps0, ⟨dxl, vsh, vst, vdn, hla, hsh, hst, hdn⟩, hO⟩, hvp, hln, hpast⟩, k⟩ := h
    refine ⟨_, (pss_one (ps_ret (pe_callTy (kcall_list (K := K)) (by rfl) T.n_list (by decide +kernel) (pa_cons (kpe_fld (K := K) (kpe_fld (K := K) (pv 0) rfl) rfl) pa_nil)))), ?_⟩
    have E0 : Env F (L2.start N_bk_book [.ref kb]) [some (.ob (.ref kb))] := env_start (.cons (.ob _) .nil)
    exact (sv_ret (dv_cb (da_cons (dv_ly (dv_fld (d := .ob (.ref la)) (dv_var rfl) hk T.c_Book T.a_Book_here bk_here (.ob _)) hla sm T.c_Lying T.a_Lying_done ly_done hdn) da_nil) rc_listT)).runR sm E0 k
theorem ok_bk_back (T : Txt K mg) : Ok P w K mg base (L2.CX P w) 1 d_bk_back P_bk_back (spBkBack K) := by
  refine okG T.f_bk_back sc_bk_back b_bk_back (fun vs H Q E h => ?_) fun cdv A outer s H vs Q E hr h => ?_
  · obtain ⟨_, _, _, _, _, _, rfl, _⟩ := h
    rfl
  · obtain ⟨F, kb, m, w', L, past, rfl, sm, hB, hpl, hend⟩ := h
    refine ⟨_, (pss_cons (ps_if (pt_cmpR op_eq (pe_callB (kcall_len (K := K)) (by rfl) T.n_len (by decide +kernel) (pa_cons (kpe_fld (K := K) (pv 0) rfl) pa_nil)) pe_int (nomark _)) (pss_one (ps_raise rfl (takes_of rfl rfl rfl rfl) (pmk_own0 PySem.F.excBase_ValueError T.e_NothingLeft.1 T.g_NothingLeft T.e_NothingLeft.2.1 (raises_own T.e_NothingLeft.2.2.1 T.e_NothingLeft.2.2.2) rfl))) pss_nil)
  (pss_cons (kps_fld (K := K) (pv 0) (pe_ix (kix_tup (K := K)) (kpe_fld (K := K) (pv 0) rfl) (pe_un un_neg pe_int) (fun _ _ => rfl)) rfl)
  (pss_one (kps_fld (K := K) (pv 0) (pe_slice (ksl_tup (K := K)) (kpe_fld (K := K) (pv 0) rfl) po_none (po_some (pe_un un_neg pe_int))) rfl)))), ?_⟩
    have E0 : Env F (L2.start N_bk_back [.ref kb]) [some (.ob (.ref kb))] := env_start (.cons (.ob _) .nil)
    have hB0 := hB
    obtain ⟨nFk, dx, la, vp, las, hk, hL, hvp, hln, hpast⟩ := hB
    have hol : (obs las).length = past.length := by unfold obs; rw [List.length_map, hln]
    refine if_seq ?_
    refine (dt_test (dv_op (dv_cb (da_cons (dv_fld (dv_var rfl) hk T.c_Book T.a_Book_past bk_past hvp) da_nil) rc_lenT) dv_int rd_eqI)).run sm E0 fun F1 H1 g1 => ?_
    rw [hol]
    rcases hend with ⟨past', L', rfl, k⟩ | ⟨rfl, k⟩
    case inr => exact iteT' (by simp) (k F1 H1 g1)
    have hlp : past'.length < (past' ++ [L']).length := by simp
    refine iteF' (decide_eq_false (by simp; omega)) (nextS ?_)
    obtain ⟨n1, dx1, la1, vp1, las1, hk1, hL1, hvp1, hln1, hp1⟩ := hB0.grow g1
    have hol1 : (obs las1).length = past'.length + 1 := by unfold obs; rw [List.length_map, hln1]; simp
    obtain ⟨a', ea⟩ : ∃ a', las1[past'.length]? = some a' := ⟨_, List.getElem?_eq_getElem (by omega)⟩
    have hat : atI (obs las1) (-1) = some (.ob (.ref a')) := by
      unfold atI
      have e1 : (obs las1)[past'.length]? = some (.ob (.ref a')) := by unfold obs; rw [List.getElem?_map, ea]; rfl
      rw [hol1, show ixN (past'.length + 1) (-1) = some past'.length by unfold ixN; simp <;> omega]
      exact e1
    have E1 := E0.mono g1.ff
    refine fld_seq (x := .ob (.ref a')) (dv_op (dv_fld (dv_var rfl) hk1 T.c_Book T.a_Book_past bk_past hvp1) (dv_un dv_int ru_neg) (rd_ixT hat)) (fun _ _ => dv_var rfl) hk1 n1 T.c_Book T.a_Book_here (Nat.le_of_ble_eq_true (by rfl)) g1.fh E1 fun F2 H2 y2 g2 h2 d2 n2 E2 => ?_
    rw [d2.of_ob, bk_putHere] at h2
    refine fld_run (x := .tup (cutD (obs las1) none (some (-1)))) (dv_slT (dv_fld (dv_var rfl) h2 T.c_Book T.a_Book_past bk_past (hvp1.mono g2.ff)) do_none (do_some (dv_un dv_int ru_neg))) (fun _ _ => dv_var rfl) h2 n2 T.c_Book T.a_Book_past (Nat.le_of_ble_eq_true (by rfl)) g2.fh E2 fun F3 H3 y3 g3 h3 d3 n3 E3 => ?_
    rw [bk_putPast] at h3
    have ec : cutD (obs las1) none (some (-1)) = obs (las1.take past'.length) := by
      unfold cutD
      rw [hol1]
      have e0 : HT.sIx (past'.length + 1) 0 none = 0 := rfl
      have e1 : HT.sIx (past'.length + 1) (past'.length + 1) (some (-1)) = past'.length := by
        unfold HT.sIx
        simp
        try omega
      rw [e0, e1]
      unfold obs
      rw [List.drop_zero, Nat.sub_zero, List.map_take]
    rw [ec] at d3
    refine k F3 H3 (g1.after (g2.then1 g3 h2 rfl)) ⟨n3, dx1, a', y3, _, h3, ?_, d3, by rw [List.length_take]; simp at hln1; omega, fun i a L1 h1 h2 => ?_⟩
    · exact ((hp1 past'.length a' L' ea (by simp)).mono g2.ff).mono g3.ff
    · have hi : i < past'.length := (List.getElem?_eq_some_iff.mp h2).1
      rw [List.getElem?_take_of_lt hi] at h1
      exact ((hp1 i a L1 h1 (by rw [List.getElem?_append_left hi]; exact h2)).mono g2.ff).mono g3.ff
end
end Bb
/-! Bb19 -/
namespace Bb
open PySem PySem.Spec PyProof.Rows L2

/-! ### sorted -/
/-- the tuples that stand are taken among the frozen -/
def tupF (F H : Hp) : Hp := fun c => match H c with
  | some (.tup xs) => some (.tup xs)
  | _ => F c
theorem tupF_at {F H : Hp} {c : Addr} {xs : List V} (h : H c = some (.tup xs)) : tupF F H c = some (.tup xs) := by unfold tupF; rw [h]
theorem Gr.tups {F H : Hp} (s : Same F H) : Gr [] F H (tupF F H) H where
  ff := fun c o e => by
    have := s _ _ e
    unfold tupF
    rw [this]
    split
    · rename_i xs h
      exact h.symm
    · exact e
  fh := fun c o e => by
    unfold tupF at e
    split at e
    · rename_i xs h
      rw [h]
      exact e
    · exact s _ _ e
  hh := fun c o _ e => e
  nw := fun c o e t => by
    unfold tupF
    rw [e]
    cases o <;> first | rfl | cases t
def triL (s : Tri) : List Int := [s.1, s.2.1, s.2.2]
theorem keyT_triL (s : Tri) : keyT s = (triL s).map Sum.inl := rfl
theorem triL_inj {a b : Tri} (h : triL a = triL b) : a = b := by
  obtain ⟨a1, a2, a3⟩ := a
  obtain ⟨b1, b2, b3⟩ := b
  unfold triL at h
  simp at h
  rw [h.1, h.2.1, h.2.2]
theorem RepT.spots {F : Hp} {kvs : List (List Key × V)} {mp : Mp} (r : RepT F kvs mp) : ∃ ss : List Tri, kvs.map (·.1) = ss.map keyT ∧ ss.Nodup ∧ ∀ s, s ∈ ss ↔ mp s ≠ none := by
  obtain ⟨ss, e⟩ : ∃ ss : List Tri, kvs.map (·.1) = ss.map keyT := by
    have h := r.key
    clear r
    induction kvs with
    | nil => exact ⟨[], rfl⟩
    | cons kv kvs ih =>
      obtain ⟨ss, e⟩ := ih fun kv' h' => h kv' (.tail _ h')
      obtain ⟨s, es⟩ := h kv (.head _)
      exact ⟨s :: ss, by rw [List.map_cons, List.map_cons, e, es]⟩
  refine ⟨ss, e, ?_, fun s => ?_⟩
  · have := r.nd
    rw [e] at this
    exact (List.pairwise_map.mp this).imp fun h z => h (by rw [z])
  · rw [← r.mem s, e, List.mem_map]
    constructor
    · intro h; exact ⟨s, h, rfl⟩
    · rintro ⟨t, h1, h2⟩; rw [← keyT_inj h2]; exact h1
/-- the spots with a mark, in order -/
def spL (mp : Mp) : List Tri := (spotsL 4 3).filter fun s => (mp s).isSome
theorem mem_spL {mp : Mp} {s : Tri} (h : s ∈ spL mp) : ∃ m, mp s = some m := by
  have := (List.mem_filter.mp h).2
  cases e : mp s with
  | none => rw [e] at this; cases this
  | some m => exact ⟨m, rfl⟩
theorem rise43 : (spotsL 4 3).Pairwise fun a b => TS.code 64 (triL a) ≤ TS.code 64 (triL b) := by decide +kernel
theorem code_inj {a b : Tri} (ha : a ∈ spotsL 4 3) (hb : b ∈ spotsL 4 3) (h : TS.code 64 (triL a) = TS.code 64 (triL b)) : a = b := by
  obtain ⟨⟨a1, a2⟩, ⟨a3, a4⟩, a5, a6⟩ := mem_spotsL.mp ha
  obtain ⟨⟨b1, b2⟩, ⟨b3, b4⟩, b5, b6⟩ := mem_spotsL.mp hb
  obtain ⟨x1, x2, x3⟩ := a
  obtain ⟨y1, y2, y3⟩ := b
  simp [triL, TS.code] at h
  simp at a1 a2 a3 a4 a5 a6 b1 b2 b3 b4 b5 b6
  have e1 : x1 = y1 := by omega
  have e2 : x2 = y2 := by omega
  have e3 : x3 = y3 := by omega
  rw [e1, e2, e3]
theorem spL_perm {mp : Mp} {ss : List Tri} {m w : Nat} (nd : ss.Nodup) (h : ∀ s, s ∈ ss ↔ mp s ≠ none) (hs : Sup (spotsL m w) mp) (hm : m ≤ 4) (hw : w ≤ 3) : ss.Perm (spL mp) := by
  refine (List.perm_ext_iff_of_nodup nd (nd43.filter _)).mpr fun s => ?_
  rw [h s]
  constructor
  · intro e
    refine List.mem_filter.mpr ⟨spots_sub hm hw (hs s e), ?_⟩
    cases q : mp s with
    | none => exact (e q).elim
    | some x => rfl
  · intro e
    obtain ⟨x, q⟩ := mem_spL e
    rw [q]
    exact fun z => nomatch z
theorem spL_sorted {mp : Mp} {Ls : List (List Int)} (p : Ls.Perm ((spL mp).map triL)) (h : Ls.Pairwise fun a b => TS.code 64 a ≤ TS.code 64 b) : Ls = (spL mp).map triL := by
  refine List.Perm.eq_of_pairwise (le := fun a b => TS.code 64 a ≤ TS.code 64 b) (fun a b ha hb h1 h2 => ?_) h ?_ p
  · obtain ⟨s, hs, rfl⟩ := List.mem_map.mp (p.mem_iff.mp ha)
    obtain ⟨t, ht, rfl⟩ := List.mem_map.mp hb
    rw [code_inj (List.mem_filter.mp hs).1 (List.mem_filter.mp ht).1 (Int.le_antisymm h1 h2)]
  · exact List.pairwise_map.mpr (rise43.filter _)
section
variable {F0 B : Hp} {ρ ρ' ρ1 : Rho} {K : PySem.W.Frag} {d e x y z : Da} {td ty tx : TE} {p : Addr} {kvs : List (List Key × V)} {mp : Mp} {s : Tri} {m w : Nat}
theorem DtA.tris {F H : Hp} : ∀ {L : List (Addr × List Int)} {ss : List Tri}, L.map (·.2) = ss.map triL → (∀ q ∈ L, H q.1 = some (.tup (q.2.map V.int))) → (∀ c xs, H c = some (.tup xs) → F c = some (.tup xs)) → DtA F (L.map fun q => V.ref q.1) (ss.map triD)
  | [], [], _, _, _ => .nil
  | [], _ :: _, e, _, _ => by cases e
  | _ :: _, [], e, _, _ => by cases e
  | q :: L, s :: ss, e, h, k => by
    rw [List.map_cons, List.map_cons] at e
    injection e with e1 e2
    refine .cons ?_ (DtA.tris e2 (fun q' h' => h q' (.tail _ h')) k)
    have := k _ _ (h q (.head _))
    rw [e1] at this
    exact .tup this (DtA.of_ints (triL s))
theorem dv_sortT (h : Dv F0 B td ρ (.ob (.ref p))) (hB : B p = some (.dT kvs)) (hR : RepT F0 kvs mp) (hs : Sup (spotsL m w) mp) (hm : m ≤ 4) (hw : w ≤ 3) : Dv F0 B (tCB (rSortDT 3 64) (tCons td tNil)) ρ (.lst ((spL mp).map triD)) := by
  refine dv_cb (da_cons h da_nil) fun F H vs a hd Q q => ?_
  obtain ⟨v, rfl, h1⟩ := hd.sole
  rw [h1.of_ob]
  obtain ⟨ss, e, nd, hm'⟩ := hR.spots
  have pm := spL_perm nd hm' hs hm hw
  refine ⟨p, kvs, ss.map triL, rfl, a.b _ _ hB, by rw [e, List.map_map]; rfl, ?_, fun k hk => ?_, fun L pa pL hL hc hp => ?_⟩
  · rw [List.length_map, pm.length_eq]
    have := List.length_filter_le (fun s => (mp s).isSome) (spotsL 4 3)
    rw [len43] at this
    show ((spotsL 4 3).filter _).length < 64
    omega
  · obtain ⟨s, h2, rfl⟩ := List.mem_map.mp hk
    refine ⟨rfl, fun i hi => ?_⟩
    obtain ⟨⟨a1, a2⟩, ⟨a3, a4⟩, a5, a6⟩ := mem_spotsL.mp (spots_sub hm hw (hs s ((hm' s).mp h2)))
    have : i = s.1 ∨ i = s.2.1 ∨ i = s.2.2 := by simpa [triL] using hi
    rcases this with rfl | rfl | rfl <;> omega
  · have el := spL_sorted (mp := mp) (pL.trans (pm.map triL)) (List.pairwise_map.mpr hL)
    have g1 := Gr.tups a.h
    have g2 := Gr.new (o := .lst (L.map fun q => V.ref q.1)) g1.fh hp
    exact q _ _ _ (g1.trans0 g2) (.lst upd_same ((DtA.tris el hc fun c xs e => tupF_at e).mono g2.ff))
end
/-! ### sorted names -/
theorem ltCps_anti : ∀ {a b : List Nat}, ltCps a b = false → ltCps b a = false → a = b
  | [], [], _, _ => rfl
  | [], _ :: _, h, _ => by simp [ltCps] at h
  | _ :: _, [], _, h => by simp [ltCps] at h
  | x :: a, y :: b, h1, h2 => by
    unfold ltCps at h1 h2
    by_cases e : x = y
    · subst e
      simp at h1 h2
      rw [ltCps_anti h1 h2]
    · exfalso
      have e2 : ¬ y = x := fun z => e z.symm
      simp [e, e2] at h1 h2
      omega
theorem risingS_iff : ∀ (ns : List Str) (p : Str), risingS p ns = true → ((p :: ns).Pairwise fun a b => ltCps b.cps.toList a.cps.toList = false)
  | [], p, _ => by simp
  | x :: r, p, h => by
    unfold risingS at h
    obtain ⟨h1, h2⟩ := Bool.and_eq_true_iff.mp h
    have ih := risingS_iff r x h2
    refine List.pairwise_cons.mpr ⟨fun y hy => ?_, ih⟩
    have hx : ltCps x.cps.toList p.cps.toList = false := by simpa using h1
    rcases List.mem_cons.mp hy with rfl | hm
    · exact hx
    · exact le_trans_cps hx ((List.pairwise_cons.mp ih).1 y hm)
where
  le_trans_cps {a b c : List Nat} (h1 : ltCps b a = false) (h2 : ltCps c b = false) : ltCps c a = false := by
    induction a generalizing b c with
    | nil => cases c <;> rfl
    | cons x a ih =>
      cases b with
      | nil => simp [ltCps] at h1
      | cons y b =>
        cases c with
        | nil => simp [ltCps] at h2
        | cons z c =>
          unfold ltCps at h1 h2 ⊢
          by_cases e1 : y = x
          · subst e1
            by_cases e2 : z = y
            · subst e2
              simp at h1 h2 ⊢
              exact ih h1 h2
            · simp [e2] at h2 ⊢
              omega
          · by_cases e2 : z = y
            · subst e2
              simp [e1] at h1 ⊢
              omega
            · simp [e1] at h1
              simp [e2] at h2
              have : ¬ z = x := by omega
              simp [this]
              omega
theorem sortedS_eq {xs ys : List Str} (p : xs.Perm ys) (h1 : sortedS xs = true) (h2 : sortedS ys = true) : xs = ys := by
  have f : ∀ {l : List Str}, sortedS l = true → l.Pairwise fun a b => ltCps b.cps.toList a.cps.toList = false := fun {l} h => by
    cases l with
    | nil => exact List.Pairwise.nil
    | cons x r => exact risingS_iff r x h
  refine List.Perm.eq_of_pairwise (le := fun a b => ltCps b.cps.toList a.cps.toList = false) (fun a b _ _ k1 k2 => ?_) (f h1) (f h2) p
  have := ltCps_anti k2 k1
  obtain ⟨⟨a⟩⟩ := a
  obtain ⟨⟨b⟩⟩ := b
  simp at this
  rw [this]
end Bb
/-! Bb20 -/
namespace Bb
open PySem PySem.Spec PyProof.Rows L2

/-! ### names in order -/
theorem ltCps_asymm : ∀ {a b : List Nat}, ltCps a b = true → ltCps b a = false
  | [], [], h => by simp [ltCps] at h
  | [], _ :: _, _ => rfl
  | _ :: _, [], h => by simp [ltCps] at h
  | x :: a, y :: b, h => by
    unfold ltCps at h ⊢
    by_cases e : x = y
    · subst e
      simp at h ⊢
      exact ltCps_asymm h
    · have e2 : ¬ y = x := fun z => e z.symm
      simp [e] at h
      simp [e2]
      omega
def leN (a b : Str) : Bool := !ltCps b.cps.toList a.cps.toList
def sortN (l : List Str) : List Str := l.mergeSort leN
theorem sortN_perm (l : List Str) : (sortN l).Perm l := List.mergeSort_perm l leN
theorem rises_of : ∀ {ns : List Str} {p : Str}, ((p :: ns).Pairwise fun a b => leN a b = true) → risingS p ns = true
  | [], _, _ => rfl
  | x :: r, p, h => by
    obtain ⟨h1, h2⟩ := List.pairwise_cons.mp h
    unfold risingS
    exact Bool.and_eq_true_iff.mpr ⟨h1 x (.head _), rises_of h2⟩
theorem sortN_sorted (l : List Str) : sortedS (sortN l) = true := by
  have h : (sortN l).Pairwise fun a b => leN a b = true := List.pairwise_mergeSort (fun a b c h1 h2 => by
    unfold leN at h1 h2 ⊢
    simp at h1 h2 ⊢
    exact risingS_iff.le_trans_cps h1 h2) (fun a b => by
    unfold leN
    cases e : ltCps b.cps.toList a.cps.toList with
    | false => rfl
    | true => rw [ltCps_asymm e]; rfl) l
  cases e : sortN l with
  | nil => rfl
  | cons x r => rw [e] at h; exact rises_of h
abbrev rSortD : List V → Hp → VK → Prop := fun xs H Q => ∃ (a : Addr) (kvs : List (Key × V)) (ks : List Str), xs = [.ref a] ∧ Rd H a (.dK kvs) ∧ kvs.map (·.1) = ks.map Sum.inr ∧ ks.length < 64 ∧
    ∀ ys p, ys.Perm ks → sortedS ys = true → H p = none → Q (.ref p) (upd H p (.lst (ys.map V.str)))
theorem DtA.of_strs {F : Hp} : ∀ l : List Str, DtA F (l.map V.str) (l.map Da.str)
  | [] => .nil
  | i :: l => .cons (.str i) (DtA.of_strs l)
section
variable {F0 B : Hp} {ρ ρ' ρ1 : Rho} {K : PySem.W.Frag} {d e x y z : Da} {td ty tx : TE} {p : Addr}
theorem dv_sortN {kvs : List (Key × V)} {ks : List Str} (h : Dv F0 B td ρ (.ob (.ref p))) (hB : Rd B p (.dK kvs)) (hk : kvs.map (·.1) = ks.map Sum.inr) (hl : ks.length < 64) : Dv F0 B (tCB rSortD (tCons td tNil)) ρ (.lst ((sortN ks).map .str)) := by
  refine dv_cb (da_cons h da_nil) fun F H vs a hd Q q => ?_
  obtain ⟨v, rfl, h1⟩ := hd.sole
  rw [h1.of_ob]
  refine ⟨p, kvs, ks, rfl, Rd.same hB a.b, hk, hl, fun ys pa pm hs hp => ?_⟩
  have e := sortedS_eq (pm.trans (sortN_perm ks).symm) hs (sortN_sorted ks)
  subst e
  have g := Gr.new (o := .lst ((sortN ks).map V.str)) a.h hp
  exact q _ _ _ g (.lst upd_same (DtA.of_strs _))
end
/-! ### marks of a colour -/
def mpOf : List (Str × Mp) → Str → Mp
  | [], _ => fun _ => none
  | x :: cs, c => if x.1 = c then x.2 else mpOf cs c
theorem mpOf_at : ∀ {cs : List (Str × Mp)} {i : Nat} {x : Str × Mp}, (cs.map (·.1)).Nodup → cs[i]? = some x → mpOf cs x.1 = x.2
  | [], _, _, _, h => by simp at h
  | y :: cs, 0, x, _, h => by
    have e : y = x := by simpa using h
    subst e
    exact if_pos rfl
  | y :: cs, i + 1, x, nd, h => by
    have h' : cs[i]? = some x := by simpa using h
    rw [List.map_cons] at nd
    obtain ⟨n1, n2⟩ := List.nodup_cons.mp nd
    refine (if_neg fun z => n1 ?_).trans (mpOf_at n2 h')
    rw [z]
    exact List.mem_map.mpr ⟨x, List.mem_of_getElem? h', rfl⟩
theorem cs_at {cs : List (Str × Mp)} {c : Str} (h : c ∈ cs.map (·.1)) : ∃ (i : Nat) (mp : Mp), cs[i]? = some (c, mp) := by
  obtain ⟨x, h1, rfl⟩ := List.mem_map.mp h
  obtain ⟨i, hi⟩ := List.mem_iff_getElem?.mp h1
  exact ⟨i, x.2, hi⟩
def mkS (mp : Mp) (s : Tri) : Da := .tup (triD s :: (match mp s with | some m => [.int m.1, .int m.2] | none => []))
theorem mkS_at {mp : Mp} {s : Tri} {m : Mk2} (h : mp s = some m) : mkS mp s = .tup [triD s, .int m.1, .int m.2] := by unfold mkS; rw [h]
def marksD (mp : Mp) : Da := .lst ((spL mp).map (mkS mp))
def colT (cs : List (Str × Mp)) (s : Tri) (c : Str) : Da := .tup [.str c, .int ((mpOf cs c s).getD (0, 0)).2]
def colsD (cs : List (Str × Mp)) (s : Tri) : Da := .lst (((sortN (cs.map (·.1))).filter fun c => (mpOf cs c s).isSome).map (colT cs s))
theorem name_fin {c : Str} (h : nameB (.str c) = true) : Fin (.str c) := by
  unfold nameB at h
  obtain ⟨h1, h3⟩ := Bool.and_eq_true_iff.mp h
  obtain ⟨h1, h2⟩ := Bool.and_eq_true_iff.mp h1
  have h2 := of_decide_eq_true h2
  refine ⟨rfl, fun s e => ?_⟩
  cases e
  refine ⟨by omega, ?_⟩
  rw [Array.all_eq_true']
  intro x hx
  have := of_decide_eq_true (List.all_eq_true.mp h3 x (by simpa using hx))
  have hl : ∀ y ∈ letters.cps.toList, y < 0x110000 := by decide +kernel
  exact decide_eq_true (hl x this)
theorem spotB_mem {m w : Nat} {s : Tri} (h : s ∈ spotsL m w) : spotB m w (triD s) = true := by
  obtain ⟨⟨a1, a2⟩, ⟨a3, a4⟩, a5, a6⟩ := mem_spotsL.mp h
  have e : triD s = .tup (([s.1, s.2.1, s.2.2] : List Int).map Da.int) := rfl
  rw [e, ← any_spots]
  refine List.any_eq_true.mpr ⟨triD s, List.mem_map.mpr ⟨s, h, rfl⟩, ?_⟩
  rw [e]
  simp [Da.py, pyAll_map, PyData.eqv, PyData.eqvAll]
section
variable {F0 B : Hp} {ρ : Rho} {K : PySem.W.Frag} {ta te : TE} {la p : Addr} {m w : Nat} {L : Stt}
theorem dv_lenSpots {E : XK} (h : Dv F0 B ta ρ (.ob (.ref la))) (hL : LyF K F0 la m w L) (hok : SttOk m w L) (hm : m ≤ 4) (hw : w ≤ 3) (hcl : L.cs.length ≤ 1000) : Dv F0 B (tCB rLenT (tCons (tMeth (He.ga K "Lying") "spots" (spLySpots K) [] E ta tNil) tNil)) ρ (.int ((spotsN L.cs : Nat) : Int)) := fun σ F H a En Q k => h σ F H a En _ fun v1 F1 H1 g1 d1 => by
  rw [d1.of_ob]
  have hL1 := (hL.mono a.f).mono g1.ff
  have hL2 := hL1
  obtain ⟨q0, ps0, ⟨dxl, vsh, vst, vdn, hla, hsh, hst, hdn⟩, hO⟩ := hL1
  refine ⟨la, dxl, _, rfl, g1.fh _ _ hla, by rfl, ?_⟩
  refine ⟨F1, la, m, w, L, rfl, g1.fh, hL2, hok, hm, hw, hcl, fun F2 H2 D kvs g2 hD hD2 hn => ?_⟩
  refine ⟨D, kvs, rfl, hD2, ?_⟩
  rw [hn]
  exact k _ F2 H2 (g1.trans0 g2) (.int _)
end
def spBkMarks (K : PySem.W.Frag) : Sp := fun vs H Q _ => ∃ (F : Hp) (kb : Addr) (m w : Nat) (L : Stt) (past : List Stt) (v : V) (i : Nat) (c : Str) (mp : Mp), vs = [.ref kb, v] ∧ Same F H ∧ BkI K H F kb m w L past ∧ SttOk m w L ∧ m ≤ 4 ∧ w ≤ 3 ∧ Dt F v (.str c) ∧ L.cs[i]? = some (c, mp) ∧
  ∀ v F' H', Gr [] F H F' H' → Dt F' v (marksD mp) → Q v H'
def spBkColours (K : PySem.W.Frag) : Sp := fun vs H Q _ => ∃ (F : Hp) (kb : Addr) (m w : Nat) (L : Stt) (past : List Stt) (v : V) (s : Tri), vs = [.ref kb, v] ∧ Same F H ∧ BkI K H F kb m w L past ∧ SttOk m w L ∧ m ≤ 4 ∧ w ≤ 3 ∧ L.cs.length < 64 ∧ Dt F v (triD s) ∧ s ∈ spotsL m w ∧
  ∀ v F' H', Gr [] F H F' H' → Dt F' v (colsD L.cs s) → Q v H'
/-- what is given of a state that is right -/
def spBk2 (K : PySem.W.Frag) (f : Nat → Stt → Da) : Sp := fun vs H Q _ => ∃ (F : Hp) (kb : Addr) (m w : Nat) (L : Stt) (past : List Stt), vs = [.ref kb] ∧ Same F H ∧ BkI K H F kb m w L past ∧ SttOk m w L ∧ m ≤ 4 ∧ w ≤ 3 ∧ L.cs.length ≤ 1000 ∧ L.now ≤ 1000 ∧ ∀ v F' H', Gr [] F H F' H' → Dt F' v (f m L) → Q v H'
abbrev N_bk_marks : List Str := ["self", "colour", "some", "spot"]
abbrev P_bk_marks : List Str := ["self", "colour"]
theorem sc_bk_marks : FnScope N_bk_marks P_bk_marks (defScope s_bk_marks) := ⟨rfl, rfl, rfl, by decide +kernel, rfl, by decide +kernel, by decide +kernel⟩
theorem b_bk_marks : BindsD d_bk_marks P_bk_marks := fun _ _ _ _ _ _ us hl => match us, hl with | [_, _], _ => rfl
abbrev N_bk_colours : List Str := ["self", "spot", "some", "colour"]
abbrev P_bk_colours : List Str := ["self", "spot"]
theorem sc_bk_colours : FnScope N_bk_colours P_bk_colours (defScope s_bk_colours) := ⟨rfl, rfl, rfl, by decide +kernel, rfl, by decide +kernel, by decide +kernel⟩
theorem b_bk_colours : BindsD d_bk_colours P_bk_colours := fun _ _ _ _ _ _ us hl => match us, hl with | [_, _], _ => rfl
abbrev N_bk_len : List Str := ["self"]
abbrev P_bk_len : List Str := ["self"]
theorem sc_bk_len : FnScope N_bk_len P_bk_len (defScope s_bk_len) := ⟨rfl, rfl, rfl, by decide +kernel, rfl, by decide +kernel, by decide +kernel⟩
theorem b_bk_len : BindsD d_bk_len P_bk_len := fun _ _ _ _ _ _ us hl => match us, hl with | [_], _ => rfl

section
variable {P : Program} {w : World} {K : PySem.W.Frag} {mg : Str → Option Value} {base : Heap}
theorem ok_bk_marks (T : Txt K mg) (G_is_name : Ok P w K mg base CX0 1 d_is_name P_is_name (spD R_is_name)) : Ok P w K mg base CX0 3 d_bk_marks P_bk_marks (spBkMarks K) := by
  refine okN T.f_bk_marks sc_bk_marks b_bk_marks (fun vs H Q E h => ?_) fun cdv A outer s H vs Q E hr h => ?_
  · obtain ⟨_, _, _, _, _, _, _, _, _, _, rfl, _⟩ := h
    rfl
  · obtain ⟨F, kb, m, w', L, past, v, i, c, mp, rfl, sm, hB, hok, hm, hw, hv, hc, k⟩ := h
    refine ⟨_, (pss_cons (ps_if (pt_not (pt_val (pe_callO G_is_name (hr.mono (by decide)) rfl T.g_is_name pass0 (pa_cons (pv 1) pa_nil)))) (pss_one ps_never) pss_nil)
  (pss_cons (ps_set (i := 2) sc_bk_marks.nd rfl (.inr rfl) (pe_dget2 (hu_of hr) (kpe_fld (K := K) (kpe_fld (K := K) (pv 0) rfl) rfl) (pv 1) pe_dnewK ⟨by rfl, by rfl, by rfl, by rfl⟩))
  (pss_one (ps_ret (pe_lc (own := [("spot", 3)]) rfl sc_bk_marks.nd (kpi_list (K := K) (pe_callB (call_sortedDT rfl (d := 3) (B := 64) (by decide)) (by rfl) T.n_sorted (by decide +kernel) (pa_cons (pv 2) pa_nil))) (blkOk_by (N := N_bk_marks) (sc := defScope s_bk_marks) (by decide +kernel)) (fun _ _ _ _ _ => (pg_name (i := 3) sc_bk_marks.nd rfl (.inl rfl))) (fun _ _ _ _ _ => pts_nil) (fun _ _ _ _ _ => (pe_op (kop_catA (K := K)) (pe_tup (pa_cons (pv 3) pa_nil)) (pe_dget (hu_of hr) (pv 2) (pv 3) (fun _ _ => rfl))))))))), ?_⟩
    have E0 : Env F (L2.start N_bk_marks [.ref kb, v]) [some (.ob (.ref kb)), some (.str c), none, none] := env_start (.cons (.ob _) (.cons hv .nil))
    have hmem := List.mem_of_getElem? hc
    have hnm := hok.nm _ hmem
    refine if_seq ?_
    refine (dt_not (dt_val (dv_call (da_cons (dv_var rfl) da_nil) ⟨.str c, rfl, name_fin hnm, rfl⟩))).run sm E0 fun F1 H1 g1 => ?_
    refine iteF' (by rw [hnm]; rfl) (nextS ?_)
    have E1 := E0.mono g1.ff
    obtain ⟨dx, la, vp, las, hk, ⟨q0, ps0, ⟨dxl, vsh, vst, vdn, hla, hsh, hst, hdn⟩, hO⟩, hvp, hln, hpast⟩ := hB.mono g1.ff g1.same
    obtain ⟨p, hp⟩ := hO.psAt hc
    obtain ⟨tks, ht, hRt⟩ := hO.inn i _ p hc hp
    refine set_seq ?_
    refine (dv_ly (d := .ob (.ref q0)) (dv_fld (d := .ob (.ref la)) (dv_var rfl) hk T.c_Book T.a_Book_here bk_here (.ob _)) hla g1.fh T.c_Lying T.a_Lying_stained ly_stained (.ob _)).run g1.fh E1 fun v2 F2 H2 g2 d2 => ?_
    rw [d2.of_ob]
    have hq2 : H2 q0 = some (.dK (kvsO L.cs ps0)) := g2.fh _ _ (g2.ff _ _ hO.d)
    refine ⟨q0, rfl, .inl ⟨_, .inl hq2⟩, ?_⟩
    refine (dv_var (d := .str c) rfl).run g2.fh (E1.mono g2.ff) fun v3 F3 H3 g3 d3 => ?_
    intro z hz
    have gZ : Gr [] F3 H3 F3 (upd H3 z (.dK [])) := Gr.newM g3.fh hz
    have g13 := (g2.trans0 g3).trans0 gZ
    refine ⟨some (.ref p), .inl ⟨_, .inr c, .inl (g13.fh _ _ (g13.ff _ _ hO.d)), d3.of_str, (hO.get hc hp).symm⟩, ?_⟩
    have E4 : Env F3 ((L2.start N_bk_marks [.ref kb, v]).set 2 (some (.ref p))) [some (.ob (.ref kb)), some (.str c), some (.ob (.ref p)), none] := (E1.mono g13.ff).set (.ob _)
    have h4 := g13.fh _ _ (g13.ff _ _ ht)
    have hR4 := hRt.mono g13.ff
    refine (sv_ret (d := marksD mp) (dv_lcM (spL mp) triD (mkS mp) (di_list (dv_sortT (dv_var rfl) h4 hR4 (hok.mks _ hmem).2 hm hw)) ?_ fun x hx => ?_)).runR g13.fh E4 fun v F' H' g d => k v F' H' ((g1.trans0 g13).trans0 g) d
    · have := List.length_filter_le (fun s => (mp s).isSome) (spotsL 4 3)
      rw [len43] at this
      rw [sizeLine_eq]
      show ((spotsL 4 3).filter _).length < _
      omega
    · obtain ⟨mk, hmk⟩ := mem_spL hx
      refine ⟨_, bd_name, ?_⟩
      rw [mkS_at hmk]
      exact dv_op (dv_tup (da_cons (dv_var rfl) da_nil) (small_ rfl)) (dv_getT (dv_var rfl) (.inl h4) hR4 (dv_var rfl) hmk) (rd_catT (small_ rfl))
theorem ok_bk_colours (T : Txt K mg) (G_is_spot : Ok P w K mg base CX0 2 d_is_spot P_is_spot (spD R_is_spot)) : Ok P w K mg base CX0 3 d_bk_colours P_bk_colours (spBkColours K) := by
  refine okN T.f_bk_colours sc_bk_colours b_bk_colours (fun vs H Q E h => ?_) fun cdv A outer s H vs Q E hr h => ?_
  · obtain ⟨_, _, _, _, _, _, _, _, rfl, _⟩ := h
    rfl
  · obtain ⟨F, kb, m, w', L, past, v, sp, rfl, sm, hB, hok, hm, hw, hcl, hv, hsp, k⟩ := h
    refine ⟨_, (pss_cons (ps_if (pt_not (pt_val (pe_callO G_is_spot (hr.mono (by decide)) rfl T.g_is_spot pass0 (pa_cons (kpe_fld (K := K) (kpe_fld (K := K) (pv 0) rfl) rfl) (pa_cons (pv 1) pa_nil))))) (pss_one ps_never) pss_nil)
  (pss_cons (ps_set (i := 2) sc_bk_colours.nd rfl (.inr rfl) (kpe_fld (K := K) (kpe_fld (K := K) (pv 0) rfl) rfl))
  (pss_one (ps_ret (pe_lc (own := [("colour", 3)]) rfl sc_bk_colours.nd (kpi_list (K := K) (pe_callB (call_sortedD rfl) (by rfl) T.n_sorted (by decide +kernel) (pa_cons (pv 2) pa_nil))) (blkOk_by (N := N_bk_colours) (sc := defScope s_bk_colours) (by decide +kernel)) (fun _ _ _ _ _ => (pg_name (i := 3) sc_bk_colours.nd rfl (.inl rfl))) (fun _ _ _ _ _ => (pts_one (pt_cmp (pc_din (hu_of hr) (pv 1) (pe_dget (hu_of hr) (pv 2) (pv 3) (fun _ _ => rfl))) rfl))) (fun _ _ _ _ _ => (pe_tup (pa_cons (pv 3) (pa_cons (pe_ix (kix_tup (K := K)) (pe_dget (hu_of hr) (pe_dget (hu_of hr) (pv 2) (pv 3) (fun _ _ => rfl)) (pv 1) (fun _ _ => rfl)) pe_int (fun _ _ => rfl)) pa_nil))))))))), ?_⟩
    have E0 : Env F (L2.start N_bk_colours [.ref kb, v]) [some (.ob (.ref kb)), some (triD sp), none, none] := env_start (.cons (.ob _) (.cons hv .nil))
    obtain ⟨dx, la, vp, las, hk, ⟨q0, ps0, ⟨dxl, vsh, vst, vdn, hla, hsh, hst, hdn⟩, hO⟩, hvp, hln, hpast⟩ := hB
    refine if_seq ?_
    refine (dt_not (dt_val (dv_call (da_cons (dv_ly (dv_fld (d := .ob (.ref la)) (dv_var rfl) hk T.c_Book T.a_Book_here bk_here (.ob _)) hla sm T.c_Lying T.a_Lying_shape ly_shape hsh) (da_cons (dv_var rfl) da_nil)) ⟨m, w', triD sp, rfl, rfl, rfl⟩))).run sm E0 fun F1 H1 g1 => ?_
    refine iteF' (by rw [spotB_mem hsp]; rfl) (nextS ?_)
    have E1 := E0.mono g1.ff
    have hk1 := g1.same _ _ hk
    have hla1 := g1.ff _ _ hla
    have hO1 := hO.mono g1.ff |>.grow g1.ff
    refine Sv.seq (sv_set (d := .ob (.ref q0)) (dv_ly (dv_fld (d := .ob (.ref la)) (dv_var rfl) hk1 T.c_Book T.a_Book_here bk_here (.ob _)) hla1 g1.fh T.c_Lying T.a_Lying_stained ly_stained (.ob _))) g1.fh E1 fun σ2 F2 H2 g2 E2 => ?_
    have hO2 := hO1.mono g2.ff |>.grow g2.ff
    have hq2 : H2 q0 = some (.dK (kvsO L.cs ps0)) := g2.fh _ _ hO2.d
    refine (sv_ret (d := colsD L.cs sp) (dv_lc (sortN (L.cs.map (·.1))) .str (fun c => (mpOf L.cs c sp).isSome) (colT L.cs sp) (di_list (dv_sortN (dv_var rfl) (.inl hq2) (kvsO_keys hO2.len) (by rw [List.length_map]; exact hcl))) ?_ fun c hc => ?_)).runR g2.fh E2 fun v F' H' g d => k v F' H' ((g1.trans0 g2).trans0 g) d
    · rw [(sortN_perm _).length_eq, List.length_map, sizeLine_eq]
      omega
    · obtain ⟨i, mp, hi⟩ := cs_at ((sortN_perm _).mem_iff.mp hc)
      obtain ⟨p, hp⟩ := hO2.psAt hi
      obtain ⟨tks, ht, hRt⟩ := hO2.inn i _ p hi hp
      have em : mpOf L.cs c = mp := mpOf_at hok.nd hi
      have getC : ∀ {ρ : Rho}, ρ[2]? = some (some (.ob (.ref q0))) → ρ[3]? = some (some (.str c)) → Dv F2 H2 (tDGet (tVar 2) (tVar 3)) ρ (.ob (.ref p)) := fun h2 h3 => dv_getK (dv_var h2) (.inl hq2) (dv_var h3) (hO2.get hi hp) (.ob _)
      refine ⟨_, bd_name, ?_, fun hs => ?_⟩
      · rw [em]
        exact dt_test (dv_inT (getC rfl rfl) (.inl (g2.fh _ _ ht)) hRt (dv_var rfl))
      · rw [em] at hs
        cases e : mp sp with
        | none => rw [e] at hs; cases hs
        | some mk =>
          unfold colT
          rw [em, e]
          exact dv_tup (da_cons (dv_var rfl) (da_cons (dv_op (dv_getT (getC rfl rfl) (.inl (g2.fh _ _ ht)) hRt (dv_var rfl) e) dv_int (rd_ixT (by rfl))) da_nil)) (small_ rfl)
theorem ok_bk_len (T : Txt K mg) (G_ly_spots : Ok P w K mg base CX0 1 d_ly_spots P_ly_spots (spLySpots K)) : Ok P w K mg base CX0 2 d_bk_len P_bk_len (spBk2 K fun _ L => .int ((spotsN L.cs : Nat) : Int)) := by
  refine okN T.f_bk_len sc_bk_len b_bk_len (fun vs H Q E h => ?_) fun cdv A outer s H vs Q E hr h => ?_
  · obtain ⟨_, _, _, _, _, _, rfl, _⟩ := h
    rfl
  · obtain ⟨F, kb, m, w', L, past, rfl, sm, hB, hok, hm, hw, hcl, hnow, k⟩ := h
    refine ⟨_, (pss_one (ps_ret (pe_callB call_len_dT (by rfl) T.n_len (by decide +kernel) (pa_cons (pe_methO0 (kpe_fld (K := K) (pv 0) rfl) T.c_Lying T.m_ly_spots G_ly_spots (hr.mono (by decide)) pass0) pa_nil)))), ?_⟩
    have E0 : Env F (L2.start N_bk_len [.ref kb]) [some (.ob (.ref kb))] := env_start (.cons (.ob _) .nil)
    obtain ⟨dx, la, vp, las, hk, hL, hvp, hln, hpast⟩ := hB
    exact (sv_ret (dv_lenSpots (dv_fld (d := .ob (.ref la)) (dv_var rfl) hk T.c_Book T.a_Book_here bk_here (.ob _)) hL hok hm hw hcl)).runR sm E0 k
end
end Bb
/-! Bb21 -/
namespace Bb
open PySem PySem.Spec PyProof.Rows L2

/-! ### f-strings -/
section
variable {F0 B : Hp} {ρ : Rho} {K : PySem.W.Frag} {te : TE} {p : Addr}
inductive DvJ (F0 B : Hp) (ρ : Rho) : List TE → List Str → Prop
  | nil : DvJ F0 B ρ [] []
  | cons {t : TE} {y : Str} {ts : List TE} {ys : List Str} : Dv F0 B t ρ (.str y) → DvJ F0 B ρ ts ys → DvJ F0 B ρ (t :: ts) (y :: ys)
def lenJ : List Str → Nat
  | [] => 0
  | y :: ys => y.length + lenJ ys
theorem js_run {ts : List TE} {ys : List Str} (h : DvJ F0 B ρ ts ys) : ∀ (acc : Str) (σ : LSt) (F H : Hp) (Q : Str → Hp → Prop), At F0 B F H → Env F σ ρ → acc.length + lenJ ys ≤ sizeLine → (∀ F' H', Gr [] F H F' H' → Q (ys.foldl (· ++ ·) acc) H') → tJs ts acc σ H Q := by
  induction h with
  | nil => intro acc σ F H Q a E _ k; exact k F H (.refl a.h)
  | @cons t y ts ys hd _ ih =>
    intro acc σ F H Q a E hl k
    refine hd σ F H a E _ fun v F1 H1 g1 d1 => ⟨y, d1.of_str, ?_, ?_⟩
    · rw [PySem.Str.length_append]
      unfold lenJ at hl
      omega
    · refine ih (acc ++ y) σ F1 H1 Q (a.go g1) (E.mono g1.ff) ?_ fun F2 H2 g2 => k F2 H2 (g1.trans0 g2)
      rw [PySem.Str.length_append]
      unfold lenJ at hl
      omega
theorem dv_js {ts : List TE} {ys : List Str} (h : DvJ F0 B ρ ts ys) (hl : lenJ ys ≤ sizeLine) : Dv F0 B (fun σ H Q => tJs ts Str.empty σ H fun out H1 => Q (.str out) H1) ρ (.str (ys.foldl (· ++ ·) Str.empty)) := fun σ F H a E Q k =>
  js_run h Str.empty σ F H _ a E (by show 0 + _ ≤ _; omega) fun F' H' g => k _ F' H' g (.str _)
theorem dv_fmtI {i : Int} (h : Dv F0 B te ρ (.int i)) (hi : i.natAbs.log2 < 1920) : Dv F0 B (tFmt te) ρ (.str (toString i)) := fun σ F H a E Q k => h σ F H a E _ fun v F1 H1 g1 d1 => .inr ⟨i, d1.of_int, hi, k _ F1 H1 g1 (.str _)⟩
theorem rc_lenDK {kvs : List (Key × V)} (h : B p = some (.dK kvs)) : RC F0 B (fun xs H Q => ∃ a kvs, xs = [V.ref a] ∧ H a = some (.dK kvs) ∧ Q (.int kvs.length) H) [.ob (.ref p)] (.int ((kvs.length : Nat) : Int)) := rc_val fun F H vs a hd Q q => by
  obtain ⟨v, rfl, h1⟩ := hd.sole
  rw [h1.of_ob]
  exact ⟨p, kvs, rfl, a.b _ _ h, q _ (.int _)⟩
end
theorem empty_app (x : Str) : Str.empty ++ x = x := by
  obtain ⟨l⟩ := x
  show PySem.Str.append _ _ = _
  simp [Str.empty, PySem.Str.append]
theorem small_log {i : Int} (h0 : 0 ≤ i) (h : i ≤ 1000) : i.natAbs.log2 < 1920 := by
  by_cases e : i.natAbs = 0
  · rw [e]; decide
  · refine (Nat.log2_lt e).mpr (Nat.lt_of_le_of_lt (show i.natAbs ≤ 1000 by omega) ?_)
    exact Nat.lt_of_lt_of_le (show 1000 < 2 ^ 10 by decide) (Nat.pow_le_pow_right (by decide) (by decide))
theorem small_text {i : Int} (h0 : 0 ≤ i) (h : i ≤ 1000) : (Str.ofString (toString i)).length ≤ 4 := toString_length_le h0 (by decide) (by omega)
def textS (now m sp cs : Int) : Str := ["tick ", toString now, " leaves ", toString m, " spots ", toString sp, " colours ", toString cs].foldl (fun (a : Str) (y : String) => a ++ Str.ofString y) Str.empty
theorem textS_eq (now m sp cs : Int) : textS now m sp cs = Str.ofString "tick " ++ Str.ofString (toString now) ++ Str.ofString " leaves " ++ Str.ofString (toString m) ++ Str.ofString " spots " ++ Str.ofString (toString sp) ++ Str.ofString " colours " ++ Str.ofString (toString cs) := by
  unfold textS
  simp only [List.foldl]
  rw [empty_app]
theorem spotsN_le (cs : List (Str × Mp)) : spotsN cs ≤ 24 := by
  have := List.length_filter_le (anyB cs) (spotsL 4 3)
  rw [len43] at this
  exact this
/-! ### == of what is shown -/
abbrev DPart (K : PySem.W.Frag) : Eqv := fun x y H => DFlat x y H ∨ DTup K DFlat x y H
abbrev DElt (K : PySem.W.Frag) : Eqv := fun x y H => (DFlat x y H ∨ DTup K (DPart K) x y H) ∨ DNil x y H
theorem mon_part {K : PySem.W.Frag} : Mon (DPart K) := Mon.or mon_flat (mon_tup mon_flat)
theorem mon_elt {K : PySem.W.Frag} : Mon (DElt K) := Mon.or (Mon.or mon_flat (mon_tup mon_part)) mon_nil
theorem kop_bk {X : Cx} {K : PySem.W.Frag} (hr : Room 3 X.A) (h : X.K = K := by rfl) : OpR X (compareOp .Eq) (rEqG (DTup K (DElt K))) := by
  subst h
  have e1 : EqG X 1 (DPart X.K) := EqG.or (eqG_flat.mono (by decide)) (eqG_tup mon_flat eqG_flat)
  have e2 : EqG X 2 (DElt X.K) := EqG.or (EqG.or (eqG_flat.mono (by decide)) (eqG_tup mon_part e1)) eqG_nil
  exact op_eqG (rcG_tup mon_elt e2) hr
section
variable {F0 B F H : Hp} {ρ : Rho} {K : PySem.W.Frag} {q1 q2 : Addr} {m w : Nat} {st : List Tri} {now : Int}
theorem prs_ints {D : Eqv} (hD : ∀ i : Int, D (.int i) (.int i) H) : ∀ l : List Int, Prs D (l.map V.int) (l.map V.int) H
  | [] => Prs.nil
  | i :: l => Prs.cons (hD i) (prs_ints hD l)
theorem flat_int (i : Int) : DFlat (.int i) (.int i) H := ⟨rfl, rfl, by simp [eqV]⟩
theorem dtup_ints {D : Eqv} (hD : ∀ i : Int, D (.int i) (.int i) H) (s : Same F H) {v u : V} {l : List Int} (hv : Dt F v (.tup (l.map Da.int))) (hu : Dt F u (.tup (l.map Da.int))) : DTup K D v u H := by
  obtain ⟨a, rfl, ha⟩ := hv.tupI
  obtain ⟨b, rfl, hb⟩ := hu.tupI
  exact ⟨a, b, _, _, rfl, rfl, SqT.of (s _ _ ha), SqT.of (s _ _ hb), prs_ints hD l⟩
theorem prs_tris (s : Same F H) : ∀ {vs us : List V} {st : List Tri}, DtA F vs (st.map triD) → DtA F us (st.map triD) → Prs (DPart K) vs us H
  | _, _, [], hv, hu => by cases hv; cases hu; exact Prs.nil
  | _, _, t :: st, hv, hu => by
    cases hv with
    | cons h1 r1 =>
      cases hu with
      | cons h2 r2 => exact Prs.cons (.inr (dtup_ints (l := triL t) flat_int s h1 h2)) (prs_tris s r1 r2)
def shownD (m w : Nat) (st : List Tri) (now : Int) (q : Addr) : Da := .tup [shD m w, stD st, .int now, .ob (.ref q)]
theorem rd_eqBk (h1 : B q1 = some (.dK [])) (h2 : B q2 = some (.dK [])) : RD F0 B (rEqG (DTup K (DElt K))) (shownD m w st now q1) (shownD m w st now q2) (.bl true) := fun F H v u a dx dy Q k => by
  obtain ⟨b1, xs, rfl, hb1, hx⟩ := dx.of_tup
  obtain ⟨b2, ys, rfl, hb2, hy⟩ := dy.of_tup
  refine ⟨⟨b1, b2, xs, ys, rfl, rfl, SqT.of (a.h _ _ hb1), SqT.of (a.h _ _ hb2), ?_⟩, fun H' e => k _ F H' (Gr.of_same a.h e) (.bl _)⟩
  cases hx with
  | cons x1 hx =>
  cases hx with
  | cons x2 hx =>
  cases hx with
  | cons x3 hx =>
  cases hx with
  | cons x4 hx =>
  cases hx
  cases hy with
  | cons y1 hy =>
  cases hy with
  | cons y2 hy =>
  cases hy with
  | cons y3 hy =>
  cases hy with
  | cons y4 hy =>
  cases hy
  refine Prs.cons (.inl (.inr (dtup_ints (l := [(m : Int), (w : Int)]) (fun i => .inl (flat_int i)) a.h x1 y1))) (Prs.cons ?_ (Prs.cons ?_ (Prs.cons ?_ Prs.nil)))
  · obtain ⟨c1, us, rfl, hc1, hu⟩ := x2.of_tup
    obtain ⟨c2, ws, rfl, hc2, hw⟩ := y2.of_tup
    exact .inl (.inr ⟨c1, c2, us, ws, rfl, rfl, SqT.of (a.h _ _ hc1), SqT.of (a.h _ _ hc2), prs_tris a.h hu hw⟩)
  · rw [x3.of_int, y3.of_int]
    exact .inl (.inl (flat_int now))
  · rw [x4.of_ob, y4.of_ob]
    exact .inr ⟨q1, q2, rfl, rfl, a.b _ _ h1, a.b _ _ h2⟩
end
/-- two books of the same state, without a mark -/
def EqB (K : PySem.W.Frag) : Addr → Addr → Hp → Prop := fun a b H => ∃ (F : Hp) (m w : Nat) (L : Stt) (p1 p2 : List Stt), Same F H ∧ BkO K H F a m w L p1 ∧ BkO K H F b m w L p2 ∧ L.cs = []
abbrev N_bk_str : List Str := ["self", "here", "many", "spots", "colours"]
abbrev P_bk_str : List Str := ["self"]
theorem sc_bk_str : FnScope N_bk_str P_bk_str (defScope s_bk_str) := ⟨rfl, rfl, rfl, by decide +kernel, rfl, by decide +kernel, by decide +kernel⟩
theorem b_bk_str : BindsD d_bk_str P_bk_str := fun _ _ _ _ _ _ us hl => match us, hl with | [_], _ => rfl
abbrev N_bk_eq : List Str := ["self", "other"]
abbrev P_bk_eq : List Str := ["self", "other"]
theorem sc_bk_eq : FnScope N_bk_eq P_bk_eq (defScope s_bk_eq) := ⟨rfl, rfl, rfl, by decide +kernel, rfl, by decide +kernel, by decide +kernel⟩
theorem b_bk_eq : BindsD d_bk_eq P_bk_eq := fun _ _ _ _ _ _ us hl => match us, hl with | [_, _], _ => rfl

section
variable {P : Program} {w : World} {K : PySem.W.Frag} {mg : Str → Option Value} {base : Heap}
theorem ok_bk_str (T : Txt K mg) (G_ly_spots : Ok P w K mg base CX0 1 d_ly_spots P_ly_spots (spLySpots K)) : Ok P w K mg base CX0 2 d_bk_str P_bk_str (spBk2 K fun m L => .str (textS L.now m (spotsN L.cs) L.cs.length)) := by
  refine okN T.f_bk_str sc_bk_str b_bk_str (fun vs H Q E h => ?_) fun cdv A outer s H vs Q E hr h => ?_
  · obtain ⟨_, _, _, _, _, _, rfl, _⟩ := h
    rfl
  · obtain ⟨F, kb, m, w', L, past, rfl, sm, hB, hok, hm, hw, hcl, hnow, k⟩ := h
    refine ⟨_, (pss_cons (ps_set (i := 1) sc_bk_str.nd rfl (.inl rfl) (kpe_fld (K := K) (pv 0) rfl))
  (pss_cons (ps_par3 (i := 2) (j := 3) (l := 4) rfl sc_bk_str.nd rfl rfl rfl (by decide) (by decide) (by decide) rfl rfl rfl (pa_cons (pe_ix (kix_tup (K := K)) (kpe_fld (K := K) (pv 1) rfl) pe_int (fun _ _ => rfl)) (pa_cons (pe_callB call_len_dT (by rfl) T.n_len (by decide +kernel) (pa_cons (pe_methO0 (pv 1) T.c_Lying T.m_ly_spots G_ly_spots (hr.mono (by decide)) pass0) pa_nil)) (pa_cons (pe_callB call_lenD (by rfl) T.n_len (by decide +kernel) (pa_cons (kpe_fld (K := K) (pv 1) rfl) pa_nil)) pa_nil))) (by rfl))
  (pss_one (ps_ret (pe_joined (.cons pe_str (.cons (pe_fmt (kpe_fld (K := K) (pv 1) rfl)) (.cons pe_str (.cons (pe_fmt (pv 2)) (.cons pe_str (.cons (pe_fmt (pv 3)) (.cons pe_str (.cons (pe_fmt (pv 4)) .nil))))))))))))), ?_⟩
    have E0 : Env F (L2.start N_bk_str [.ref kb]) [some (.ob (.ref kb)), none, none, none, none] := env_start (.cons (.ob _) .nil)
    obtain ⟨dx, la, vp, las, hk, hL, hvp, hln, hpast⟩ := hB
    have hL0 := hL
    obtain ⟨q0, ps0, ⟨dxl, vsh, vst, vdn, hla, hsh, hst, hdn⟩, hO⟩ := hL
    have lenK : (kvsO L.cs ps0).length = L.cs.length := kvsO_len hO.len
    refine (sv_seq (sv_set (d := .ob (.ref la)) (dv_fld (dv_var rfl) hk T.c_Book T.a_Book_here bk_here (.ob _))) (sv_seq (sv_par3 (x := .int m) (y := .int ((spotsN L.cs : Nat) : Int)) (z := .int ((L.cs.length : Nat) : Int)) (da_cons (dv_op (dv_ly (dv_var rfl) hla sm T.c_Lying T.a_Lying_shape ly_shape hsh) dv_int (rd_ixT (by rfl))) (da_cons (dv_lenSpots (dv_var rfl) hL0 hok hm hw hcl) (da_cons (dv_to (dv_cb (da_cons (dv_ly (d := .ob (.ref q0)) (dv_var rfl) hla sm T.c_Lying T.a_Lying_stained ly_stained (.ob _)) da_nil) (rc_lenDK (sm _ _ hO.d))) (by rw [lenK])) da_nil)))) (sv_ret (dv_js (.cons dv_str (.cons (dv_fmtI (dv_ly (dv_var rfl) hla sm T.c_Lying T.a_Lying_now ly_now (.int _)) (small_log hok.now hnow)) (.cons dv_str (.cons (dv_fmtI (dv_var rfl) (small_log (by omega) (by omega))) (.cons dv_str (.cons (dv_fmtI (dv_var rfl) (small_log (by omega) (by have := spotsN_le L.cs; omega))) (.cons dv_str (.cons (dv_fmtI (dv_var rfl) (small_log (by omega) (by omega))) .nil)))))))) ?_)))).runR sm E0 k
    unfold lenJ lenJ lenJ lenJ lenJ lenJ lenJ lenJ lenJ
    have l1 := small_text hok.now hnow
    have l2 := small_text (i := (m : Int)) (by omega) (by omega)
    have l3 := small_text (i := ((spotsN L.cs : Nat) : Int)) (by omega) (by have := spotsN_le L.cs; omega)
    have l4 := small_text (i := ((L.cs.length : Nat) : Int)) (by omega) (by omega)
    have c1 : (Str.ofString "tick ").length = 5 := by rfl
    have c2 : (Str.ofString " leaves ").length = 8 := by rfl
    have c3 : (Str.ofString " spots ").length = 7 := by rfl
    have c4 : (Str.ofString " colours ").length = 9 := by rfl
    rw [sizeLine_eq]
    omega
theorem ok_bk_eq (T : Txt K mg) (G_ly_shown : Ok P w K mg base CX0 1 d_ly_shown P_ly_shown (spShown K)) : Ok P w K mg base CX0 4 d_bk_eq P_bk_eq (spEq (EqB K)) := by
  refine okN T.f_bk_eq sc_bk_eq b_bk_eq (fun vs H Q E h => ?_) fun cdv A outer s H vs Q E hr h => ?_
  · obtain ⟨_, _, rfl, _⟩ := h
    rfl
  · obtain ⟨a, b, rfl, ⟨F, m, w', L, p1, p2, sm, hA, hB, hcs⟩, k⟩ := h
    refine ⟨_, (pss_one (ps_ret (pe_and (pe_callB (kcall_isi (K := K)) (by rfl) T.n_isinstance (by decide +kernel) (pa_cons (pv 1) (pa_cons (pe_glob (v := .ref (He.ga K "Book")) rfl T.g_Book rfl) pa_nil))) (pe_one (pe_cmpR (kop_bk (K := K) (hr.mono (by decide))) (pe_methO0 (kpe_fld (K := K) (pv 0) rfl) T.c_Lying T.m_ly_shown G_ly_shown (hr.mono (by decide)) pass0) (pe_methO0 (kpe_fld (K := K) (pv 1) rfl) T.c_Lying T.m_ly_shown G_ly_shown (hr.mono (by decide)) pass0) (nomark _)))))), ?_⟩
    have E0 : Env F (L2.start N_bk_eq [.ref a, .ref b]) [some (.ob (.ref a)), some (.ob (.ref b))] := env_start (.cons (.ob _) (.cons (.ob _) .nil))
    obtain ⟨nFa, dx1, la1, vp1, las1, hk1, ⟨q1, ps1, ⟨dxl1, vsh1, vst1, vdn1, hla1, hsh1, hst1, hdn1⟩, hO1⟩, _⟩ := hA
    obtain ⟨nFb, dx2, la2, vp2, las2, hk2, ⟨q2, ps2, ⟨dxl2, vsh2, vst2, vdn2, hla2, hsh2, hst2, hdn2⟩, hO2⟩, _⟩ := hB
    have hq1 : F q1 = some (.dK []) := by
      have := hO1.d
      rw [hcs] at this
      exact this
    have hq2 : F q2 = some (.dK []) := by
      have := hO2.d
      rw [hcs] at this
      exact this
    have shown : ∀ {te : TE} {la dxl q : Addr} {vsh vst vdn : V}, Dv F H te [some (.ob (.ref a)), some (.ob (.ref b))] (.ob (.ref la)) → F la = some (.ins (He.ga K "Lying") dxl (lyF vsh vst L.now q vdn)) → Dt F vsh (shD m w') → Dt F vst (stD L.st) →
        Dv F H (tMeth (He.ga K "Lying") "shown" (spShown K) [] L2.E0 te tNil) [some (.ob (.ref a)), some (.ob (.ref b))] (shownD m w' L.st L.now q) := fun h hla hsh hst σ F' H' aa En Q kk => h σ F' H' aa En _ fun v F3 H3 g3 d3 => by
      rw [d3.of_ob]
      have ff := aa.f.trans g3.ff
      exact ⟨_, _, _, rfl, g3.fh _ _ (ff _ _ hla), by rfl, F3, _, _, m, w', L, _, _, _, _, rfl, g3.fh, ff _ _ hla, hsh.mono ff, hst.mono ff, fun v F4 H4 g4 d4 => kk v F4 H4 (g3.trans0 g4) d4⟩
    refine (sv_ret (d := .bl true) (dv_to (dv_and (b := true) (c := true) (dv_cb (da_cons (d := .ob (.ref b)) (dv_var rfl) (da_cons (d := .ob (.ref (He.ga K "Book"))) dv_ob da_nil)) ?_) fun _ => ?_) (by rfl))).runR sm E0 fun v F' H' g d => ?_
    · refine rc_val fun F3 H3 vs aa hd Q q => ?_
      obtain ⟨v, u, rfl, h1, h2⟩ := hd.two
      rw [h1.of_ob, h2.of_ob]
      exact ⟨_, _, _, _, true, rfl, .own _, .base (.ins (aa.b _ _ hk2) T.c_Book T.bk_ha T.bk_hn T.bk_ht T.bk_hm), by unfold PySem.W.kitOne; rw [if_pos (beq_self_eq_true _)], q _ (.bl _)⟩
    · exact dv_op (shown (dv_fld (d := .ob (.ref la1)) (dv_var rfl) hk1 T.c_Book T.a_Book_here bk_here (.ob _)) hla1 hsh1 hst1) (shown (dv_fld (d := .ob (.ref la2)) (dv_var rfl) hk2 T.c_Book T.a_Book_here bk_here (.ob _)) hla2 hsh2 hst2) (rd_eqBk (sm _ _ hq1) (sm _ _ hq2))
    · rw [d.of_bl]
      exact k H' g.same
end
end Bb
/-! Bb22 -/
namespace Bb
open PySem PySem.Spec PyProof.Rows L2

/-! ### the law's record of a state -/
structure OwO (G F : Hp) (ow : Addr) (m w : Nat) (L : Stt) (q b : Addr) (ps : List Addr) : Prop where
  ins : ∃ vsh vst bs, G ow = some (.dK (ownK vsh vst L.now q b)) ∧ Dt F vsh (shD m w) ∧ Dt F vst (stD L.st) ∧ G b = some (.lst bs) ∧ DtA F bs L.bk
  O : RepO G F q ps L.cs
def OwF (F : Hp) (ow : Addr) (m w : Nat) (L : Stt) : Prop := ∃ q b ps, OwO F F ow m w L q b ps
section
variable {G G' F F' H F1 H1 : Hp} {ow q b : Addr} {ps : List Addr} {m w : Nat} {L : Stt}
theorem OwO.mono (r : OwO G F ow m w L q b ps) (s : Same F F') : OwO G F' ow m w L q b ps := ⟨let ⟨v1, v2, bs, h, h1, h2, h3, h4⟩ := r.ins; ⟨v1, v2, bs, h, h1.mono s, h2.mono s, h3, h4.mono s⟩, r.O.mono s⟩
theorem OwO.grow (r : OwO G F ow m w L q b ps) (s : Same G G') : OwO G' F ow m w L q b ps := ⟨let ⟨v1, v2, bs, h, h1, h2, h3, h4⟩ := r.ins; ⟨v1, v2, bs, s _ _ h, h1, h2, s _ _ h3, h4⟩, r.O.grow s⟩
theorem OwF.mono (r : OwF F ow m w L) (s : Same F F') : OwF F' ow m w L := let ⟨q, b, ps, h⟩ := r; ⟨q, b, ps, (h.mono s).grow s⟩
theorem OwO.all (g : Gr [] F H F1 H1) (r : OwO H1 F1 ow m w L q b ps) (ho : H ow = none) (hq : H q = none) (hb : H b = none) (hp : ∀ p ∈ ps, H p = none) : OwF (allF H F1 H1) ow m w L := by
  have r' := r.mono (allF_same (H := H) g.fh)
  refine ⟨q, b, ps, ?_, r'.O.heap (allF_new hq) fun p hp' => allF_new (hp p hp')⟩
  obtain ⟨v1, v2, bs, h, h1, h2, h3, h4⟩ := r'.ins
  exact ⟨v1, v2, bs, (allF_new ho).trans h, h1, h2, (allF_new hb).trans h3, h4⟩
end
section
variable {vsh vst v : V} {t t' : Int} {q q' b b' : Addr}
theorem own_putMarks : putK (ownK vsh vst t q b) (.inr "marks") (.ref q') = ownK vsh vst t q' b := by rfl
theorem own_putBook : putK (ownK vsh vst t q b) (.inr "book") (.ref b') = ownK vsh vst t q b' := by rfl
theorem own_putStand : putK (ownK vsh vst t q b) (.inr "stand") v = ownK vsh v t q b := by rfl
theorem own_putTick : putK (ownK vsh vst t q b) (.inr "tick") (.int t') = ownK vsh vst t' q b := by rfl
end
/-- inner dicts, with no outer one -/
structure RepI (G F : Hp) (ps : List Addr) (cs : List (Str × Mp)) : Prop where
  len : ps.length = cs.length
  nd : ps.Nodup
  inn : ∀ (i : Nat) (c : Str × Mp) (p : Addr), cs[i]? = some c → ps[i]? = some p → ∃ tks, G p = some (.dT tks) ∧ RepT F tks c.2
section
variable {G G' F F' : Hp} {ps : List Addr} {cs : List (Str × Mp)}
theorem RepI.nil : RepI G F [] [] := ⟨rfl, List.nodup_nil, fun i c p h => by simp at h⟩
theorem RepI.at_ (r : RepI G F ps cs) {p : Addr} (h : p ∈ ps) : ∃ tks, G p = some (.dT tks) := by
  obtain ⟨i, hi⟩ := List.mem_iff_getElem?.mp h
  have hl := (List.getElem?_eq_some_iff.mp hi).1
  obtain ⟨t, e, _⟩ := r.inn i _ p (List.getElem?_eq_getElem (by rw [← r.len]; exact hl)) hi
  exact ⟨t, e⟩
theorem RepI.mono (r : RepI G F ps cs) (s : Same F F') : RepI G F' ps cs := ⟨r.len, r.nd, fun i c p h1 h2 => let ⟨t, a, b⟩ := r.inn i c p h1 h2; ⟨t, a, b.mono s⟩⟩
theorem RepI.heap (r : RepI G F ps cs) (hp : ∀ p ∈ ps, G' p = G p) : RepI G' F ps cs := ⟨r.len, r.nd, fun i c p h1 h2 => let ⟨t, a, b⟩ := r.inn i c p h1 h2; ⟨t, (hp p (List.mem_of_getElem? h2)).trans a, b⟩⟩
theorem RepI.snoc (r : RepI G F ps cs) {c : Str × Mp} {p : Addr} {tks : List (List Key × V)} (hp : p ∉ ps) (ho : ∀ b ∈ ps, G' b = G b) (he : G' p = some (.dT tks)) (hR : RepT F tks c.2) : RepI G' F (ps ++ [p]) (cs ++ [c]) := by
  refine ⟨by rw [List.length_append, List.length_append, r.len]; rfl, List.nodup_append.mpr ⟨r.nd, by simp, fun a ha b hb => by
      have : b = p := by simpa using hb
      subst this
      exact fun z => hp (z ▸ ha)⟩, fun j c' p' e1 e2 => ?_⟩
  by_cases hj : j < cs.length
  · rw [List.getElem?_append_left hj] at e1
    rw [List.getElem?_append_left (by rw [r.len]; exact hj)] at e2
    obtain ⟨t, a, b⟩ := r.inn j c' p' e1 e2
    exact ⟨t, (ho p' (List.mem_of_getElem? e2)).trans a, b⟩
  · rw [List.getElem?_append_right (by omega)] at e1
    rw [List.getElem?_append_right (by rw [r.len]; omega)] at e2
    rw [r.len] at e2
    have h0 : j - cs.length = 0 := by
      have := (List.getElem?_eq_some_iff.mp e1).1
      simp at this
      omega
    rw [h0] at e1 e2
    cases e1
    cases e2
    exact ⟨tks, he, hR⟩
theorem RepI.rep {q : Addr} (r : RepI G F ps cs) (h : G q = some (.dK (kvsO cs ps))) (hn : (cs.map (·.1)).Nodup) : RepO G F q ps cs := ⟨r.len, h, r.nd, hn, r.inn⟩
end
theorem kvsO_ref {cs : List (Str × Mp)} {ps : List Addr} {k : Key} {v : V} (h : (k, v) ∈ kvsO cs ps) : ∃ p, v = .ref p := by
  unfold kvsO at h
  obtain ⟨z, _, e⟩ := List.mem_map.mp h
  cases e
  exact ⟨_, rfl⟩
theorem kvsO_snoc {cs : List (Str × Mp)} {ps : List Addr} {c : Str × Mp} {p : Addr} (h : ps.length = cs.length) : kvsO (cs ++ [c]) (ps ++ [p]) = kvsO cs ps ++ [(Sum.inr c.1, V.ref p)] := by
  unfold kvsO
  rw [List.zip_append h.symm, List.map_append]
  rfl
theorem Paired.snoc' {α β : Type} {R : α → β → Prop} : ∀ {xs : List α} {ys : List β} {x : α} {y : β}, Paired R xs ys → R x y → Paired R (xs ++ [x]) (ys ++ [y])
  | _, _, _, _, .nil, h => .cons h .nil
  | _, _, _, _, .cons a r, h => .cons a (Paired.snoc' r h)
theorem Paired.mono' {α β : Type} {R S : α → β → Prop} (h : ∀ a b, R a b → S a b) : ∀ {xs : List α} {ys : List β}, Paired R xs ys → Paired S xs ys
  | _, _, .nil => .nil
  | _, _, .cons a r => .cons (h _ _ a) (Paired.mono' h r)
def spCopied : Sp := fun vs H Q _ => ∃ (F : Hp) (ow : Addr) (m w : Nat) (L : Stt), vs = [.ref ow] ∧ Same F H ∧ OwF F ow m w L ∧ m ≤ 4 ∧ w ≤ 3 ∧ SttOk m w L ∧ L.cs.length ≤ 1000 ∧
  ∀ F' H' o q b ps, Gr [] F H F' H' → OwO H' F' o m w L q b ps → H o = none → H q = none → H b = none → (∀ p ∈ ps, H p = none) → F' o = none → F' q = none → F' b = none → (∀ p ∈ ps, F' p = none) → Q (.ref o) H'
abbrev N_w_copied : List Str := ["_law_own", "_law_found", "_law_colour"]
abbrev P_w_copied : List Str := ["_law_own"]
theorem sc_w_copied : FnScope N_w_copied P_w_copied (defScope s_w_copied) := ⟨rfl, rfl, rfl, by decide +kernel, rfl, by decide +kernel, by decide +kernel⟩
theorem b_w_copied : BindsD d_w_copied P_w_copied := fun _ _ _ _ _ _ us hl => match us, hl with | [_], _ => rfl

theorem yes_if {A B : Hp → Prop} {σ : LSt} {H : Hp} (h : A H) : tYes σ H fun b H3 => if b = true then A H3 else B H3 := by
  show if true = true then A H else B H
  rw [if_pos rfl]
  exact h
theorem dput_seq {td ty tv : TE} {u : TS} {D : Ends} {σ : LSt} {H : Hp} (h : tv σ H fun v H1 => td σ H1 fun x H2 => ty σ H2 fun y H3 => ∃ a H4, x = .ref a ∧ DPut H3 a y v H4 ∧ u D σ H4) : tSeq (sDPut td ty tv) u D σ H := h
section
variable {P : Program} {w : World} {K : PySem.W.Frag} {mg : Str → Option Value} {base : Heap}
theorem ok_w_copied (T : Txt K mg) : Ok P w K mg base CX0 3 d_w_copied P_w_copied spCopied := by
  refine okN T.f_w_copied sc_w_copied b_w_copied (fun vs H Q E h => ?_) fun cdv A outer s H vs Q E hr h => ?_
  · obtain ⟨_, _, _, _, _, rfl, _⟩ := h
    rfl
  · obtain ⟨F, ow, m, w', L, rfl, sm, ⟨q0, b0, ps0, hOw⟩, hm, hw, hok, hcl, k⟩ := h
    refine ⟨_, (pss_cons (ps_set (i := 1) sc_w_copied.nd rfl (.inl rfl) (pe_callTy call_dictK (by rfl) T.n_dict (by decide +kernel) (pa_cons (pv 0) pa_nil)))
  (pss_cons (ps_dput (hu_of hr) (pv 1) pe_str (pe_callTy (call_dictP rfl) (by rfl) T.n_dict (by decide +kernel) (pa_cons (pe_lock (pe_lc (own := [("_law_colour", 2)]) rfl sc_w_copied.nd (pi_keys (pe_dget (hu_of hr) (pv 0) pe_str (fun _ _ => rfl))) (blkOk_by (N := N_w_copied) (sc := defScope s_w_copied) (by decide +kernel)) (fun _ _ _ _ _ => (pg_name (i := 2) sc_w_copied.nd rfl (.inl rfl))) (fun _ _ _ _ _ => pts_nil) (fun _ _ _ _ _ => (pe_tup (pa_cons (pv 2) (pa_cons (pe_callTy (kcall_dictT (P := P) (w := w) hr.un3) (by rfl) T.n_dict (by decide +kernel) (pa_cons (pe_dget (hu_of hr) (pe_dget (hu_of hr) (pv 0) pe_str (fun _ _ => rfl)) (pv 2) (fun _ _ => rfl)) pa_nil)) pa_nil)))))) pa_nil)) rfl)
  (pss_cons (ps_dput (hu_of hr) (pv 1) pe_str (pe_callTy (kcall_list (K := K)) (by rfl) T.n_list (by decide +kernel) (pa_cons (pe_dget (hu_of hr) (pv 0) pe_str (fun _ _ => rfl)) pa_nil)) rfl)
  (pss_one (ps_ret (pv 1)))))), ?_⟩
    obtain ⟨⟨vsh, vst, bs, how, hsh, hst, hb0, hbs⟩, hO⟩ := hOw
    have E0 : Env F (L2.start N_w_copied [.ref ow]) [some (.ob (.ref ow)), none, none] := env_start (.cons (.ob _) .nil)
    -- found = dict(own)
    refine set_seq ?_
    refine (da_cons (d := .ob (.ref ow)) (dv_var rfl) da_nil).run sm E0 fun vs1 F1 H1 g1 d1 => ?_
    obtain ⟨v1, rfl, h1⟩ := d1.sole
    rw [h1.of_ob]
    refine ⟨ow, _, rfl, g1.same _ _ (sm _ _ how), fun o ho => ?_⟩
    have old1 : ∀ p, H1 p = none → H p = none := fun p hp => by
      cases e : H p with
      | none => rfl
      | some u => rw [g1.same _ _ e] at hp; cases hp
    have gO : Gr [] F1 H1 F1 (upd H1 o (.dK (ownK vsh vst L.now q0 b0))) := Gr.newM g1.fh ho
    have g2 := g1.trans0 gO
    have no2 : F1 o = none := none_of g1.fh ho
    have E2 : Env F1 ((L2.start N_w_copied [.ref ow]).set 1 (some (.ref o))) [some (.ob (.ref ow)), some (.ob (.ref o)), none] := (E0.mono g1.ff).set (.ob _)
    generalize hH2 : upd H1 o (.dK (ownK vsh vst L.now q0 b0)) = H2 at g2
    have ho2 : H2 o = some (.dK (ownK vsh vst L.now q0 b0)) := by rw [← hH2]; exact upd_same
    have g2s := g2.fh
    show tSeq (sDPut _ _ _) _ _ _ H2
    generalize hσ : (L2.start N_w_copied [V.ref ow]).set 1 (some (.ref o)) = σ2 at E2 ⊢
    have hσl : σ2.length = 3 := by rw [← hσ]; rfl
    refine dput_seq ?_
    -- the marks
    have hF1 := g1.ff
    have hd2 : H2 q0 = some (.dK (kvsO L.cs ps0)) := g2s _ _ (hF1 _ _ hO.d)
    have hk0 : ∀ u, F1 q0 = some u → HO.isDict u = true := fun u e => by rw [hF1 _ _ hO.d] at e; cases e; rfl
    have loE : ∀ {Q : VK}, (∀ od, tLc (iKeys (tDGet (tVar 0) (tC (.str "marks")))) (gName 2) tYes (tTup (tCons (tVar 2) (tCons (tCB (rCopyT P w) (tCons (tDGet (tDGet (tVar 0) (tC (.str "marks"))) (tVar 2)) tNil)) tNil))) [2] σ2 (upd H2 q0 (.frz od (.dK (kvsO L.cs ps0)))) fun v H' => H' q0 = some (.frz od (.dK (kvsO L.cs ps0))) ∧ Q v (upd H' q0 (.dK (kvsO L.cs ps0)))) →
        tLockE (tLc (iKeys (tDGet (tVar 0) (tC (.str "marks")))) (gName 2) tYes (tTup (tCons (tVar 2) (tCons (tCB (rCopyT P w) (tCons (tDGet (tDGet (tVar 0) (tC (.str "marks"))) (tVar 2)) tNil)) tNil))) [2]) σ2 H2 Q := fun h => lockE g2s hd2 rfl h
    refine loE fun od => ?_
    have sl : Same (unl F1 q0) (upd H2 q0 (.frz od (.dK (kvsO L.cs ps0)))) := unl_same g2s
    generalize hHl : upd H2 q0 (.frz od (.dK (kvsO L.cs ps0))) = Hl at sl
    have hlq : Hl q0 = some (.frz od (.dK (kvsO L.cs ps0))) := by rw [← hHl]; exact upd_same
    have hne : ow ≠ q0 := fun z => by
      have hd := hO.d
      rw [← z, how] at hd
      have e : ownK vsh vst L.now q0 b0 = kvsO L.cs ps0 := by injection hd with hd; injection hd
      have hmem : ((Sum.inr "tick" : Key), V.int L.now) ∈ kvsO L.cs ps0 := by rw [← e]; exact .tail _ (.tail _ (.head _))
      obtain ⟨p, hp⟩ := kvsO_ref hmem
      cases hp
    have howl : Hl ow = some (.dK (ownK vsh vst L.now q0 b0)) := by rw [← hHl, upd_ne hne]; exact g2s _ _ (hF1 _ _ how)
    obtain ⟨v0, e0, h0⟩ := E2.at_ 0 _ rfl
    rw [h0.of_ob] at e0
    obtain ⟨v1, e1, h1⟩ := E2.at_ 1 _ rfl
    rw [h1.of_ob] at e1
    have rdM : ∀ {H' : Hp}, H' ow = some (.dK (ownK vsh vst L.now q0 b0)) → DGet H' ow (.str "marks") (some (.ref q0)) := fun h => .inl ⟨_, .inr "marks", .inl h, rfl, own_marks.symm⟩
    refine ⟨_, e0, ow, .ref q0, rfl, rdM howl, q0, od, rfl, .inl ⟨_, hlq, fun D hD => ?_⟩⟩
    have nD : unl F1 q0 D = none := none_of sl hD
    have gD : Gr [] (unl F1 q0) Hl (unl F1 q0) (upd Hl D (.lst [])) := Gr.newM sl hD
    have lenK : (kvsO L.cs ps0).length = L.cs.length := kvsO_len hO.len
    refine ⟨fun i mm H' => mm = L.cs.length - i ∧ i ≤ L.cs.length ∧ ∃ F' psn tps, Gr [] (unl F1 q0) Hl F' H' ∧ F' D = none ∧ H' D = some (.lst (tps.map V.ref)) ∧ Paired (fun (t : Addr) (kv : Key × V) => F' t = some (.tup [kV kv.1, kv.2])) tps (kvsO (L.cs.take i) psn) ∧ RepI H' F' psn (L.cs.take i) ∧ (∀ p ∈ psn, Hl p = none ∧ F' p = none),
      ⟨L.cs.length, rfl, Nat.zero_le _, unl F1 q0, [], [], gD, nD, upd_same, .nil, .nil, fun p hp => nomatch hp⟩, ?_⟩
    rintro i mm H' ⟨rfl, hle, F', psn, tps, g', nD', hD', hP, hR, hfr⟩
    have hlq' : H' q0 = some (.frz od (.dK (kvsO L.cs ps0))) := g'.same _ _ hlq
    have ltps : tps.length = i := by
      have := Paired.length hP
      rw [this, kvsO_len hR.len, List.length_take]
      omega
    by_cases hlt : i < L.cs.length
    · have hc : L.cs[i]? = some L.cs[i] := List.getElem?_eq_getElem hlt
      generalize L.cs[i] = cc at hc
      obtain ⟨c, mp⟩ := cc
      obtain ⟨p0, hp0⟩ := hO.psAt hc
      obtain ⟨tks, ht, hRt⟩ := hO.inn i _ p0 hc hp0
      have hmem : (c, mp) ∈ L.cs := List.mem_of_getElem? hc
      have htl : Hl p0 = some (.dT tks) := by
        rw [← hHl, upd_ne (ne_of ht hO.d (fun z => nomatch z))]
        exact g2s _ _ (hF1 _ _ ht)
      refine .inr ⟨⟨hlq', by rw [lenK]; exact hlt⟩, fun H2 => i + 1 ≤ L.cs.length ∧ ∃ F' psn tps, Gr [] (unl F1 q0) Hl F' H2 ∧ F' D = none ∧ H2 D = some (.lst (tps.map V.ref)) ∧ Paired (fun (t : Addr) (kv : Key × V) => F' t = some (.tup [kV kv.1, kv.2])) tps (kvsO (L.cs.take (i + 1)) psn) ∧ RepI H2 F' psn (L.cs.take (i + 1)) ∧ (∀ p ∈ psn, Hl p = none ∧ F' p = none), fun H2 ⟨h1, h2⟩ => ⟨L.cs.length - (i + 1), by omega, rfl, h1, h2⟩, fun x H5 hy => ?_⟩
      obtain ⟨rfl, kk, vv, hkv, rfl⟩ := hy
      rw [kvsO_get hc hp0] at hkv
      cases hkv
      refine ⟨(wipe_set (by simp)).trans wipe_wipe, ?_⟩
      refine yes_if ?_
      have hl3 : (wipe σ2 [2]).length = 3 := by rw [wipe_length]; exact hσl
      have sl2 : ((wipe σ2 [2]).set 2 (some (kV (.inr c))))[2]? = some (some (kV (.inr c))) := List.getElem?_set_self (by omega)
      have sl0 : ((wipe σ2 [2]).set 2 (some (kV (.inr c))))[0]? = some (some (.ref ow)) := by rw [List.getElem?_set_ne (by decide), wipe_out (by decide)]; exact e0
      refine ⟨_, sl2, ?_⟩
      refine ⟨_, sl0, ow, .ref q0, rfl, rdM (g'.same _ _ howl), _, sl2, q0, .ref p0, rfl, .inl ⟨_, .inr c, .inr ⟨od, hlq'⟩, rfl, (hO.get hc hp0).symm⟩, ?_⟩
      refine ⟨p0, tks, rfl, g'.same _ _ htl, hRt.apart (hok.mks _ hmem).2 hm hw P w, fun pn hpn => ?_⟩
      have nFp : F' pn = none := none_of g'.fh hpn
      have hpl : Hl pn = none := by
        cases e : Hl pn with
        | none => rfl
        | some u => rw [g'.same _ _ e] at hpn; cases hpn
      have gN : Gr [] F' H5 F' (upd H5 pn (.dT tks)) := Gr.newM g'.fh hpn
      refine ⟨small_ rfl, fun Tt hT => ?_⟩
      have gT : Gr [] F' (upd H5 pn (.dT tks)) (upd F' Tt (.tup [kV (.inr c), .ref pn])) (upd (upd H5 pn (.dT tks)) Tt (.tup [kV (.inr c), .ref pn])) := Gr.new gN.fh hT
      have g'' := (g'.trans0 gN).trans0 gT
      have hTp : Tt ≠ pn := fun z => by rw [z, upd_same] at hT; cases hT
      have hT' : H5 Tt = none := by rw [upd_ne hTp] at hT; exact hT
      have hDpn : D ≠ pn := ne_of_none hD' hpn
      have hDT : D ≠ Tt := ne_of_none hD' hT'
      have keepD : upd (upd H5 pn (.dT tks)) Tt (.tup [kV (.inr c), .ref pn]) D = some (.lst (tps.map V.ref)) := by rw [upd_ne hDT, upd_ne hDpn]; exact hD'
      have nDT : upd F' Tt (.tup [kV (.inr c), .ref pn]) D = none := by rw [upd_ne hDT]; exact nD'
      have hpsn : pn ∉ psn := fun hm' => by
        obtain ⟨tk', e⟩ := hR.at_ hm'
        rw [hpn] at e
        cases e
      have et : L.cs.take (i + 1) = L.cs.take i ++ [(c, mp)] := by
        rw [List.take_succ_eq_append_getElem hlt]
        rw [List.getElem?_eq_getElem hlt] at hc
        rw [Option.some.inj hc]
      refine ⟨_, keepD, by rw [List.length_map, ltps, sizeLine_eq]; omega, hlt, upd F' Tt (.tup [kV (.inr c), .ref pn]), psn ++ [pn], tps ++ [Tt], g''.mine hD nDT, nDT, by rw [upd_same, List.map_append]; rfl, ?_, ?_, fun p hp => ?_⟩
      · rw [et, kvsO_snoc hR.len]
        exact Paired.snoc' (Paired.mono' (fun a kv e => gT.ff _ _ e) hP) upd_same
      · rw [et]
        refine (hR.mono gT.ff).snoc hpsn (fun b' hb' => ?_) (by rw [upd_ne (Ne.symm hDpn), upd_ne (Ne.symm hTp)]; exact upd_same) (((hRt.mono hF1).unl hk0 |>.mono g'.ff).mono gT.ff)
        obtain ⟨tk', e⟩ := hR.at_ hb'
        rw [upd_ne (fun z => by rw [z, hD'] at e; cases e), upd_ne (fun z => by rw [z, hT'] at e; cases e), upd_ne (fun z => by rw [z, hpn] at e; cases e)]
      · rcases List.mem_append.mp hp with hp | hp
        · refine ⟨(hfr p hp).1, ?_⟩
          obtain ⟨tk', e⟩ := hR.at_ hp
          rw [upd_ne (fun z => by rw [z, hT'] at e; cases e)]
          exact (hfr p hp).2
        · have : p = pn := by simpa using hp
          rw [this]
          exact ⟨hpl, by rw [upd_ne (Ne.symm hTp)]; exact nFp⟩
    · have e : i = L.cs.length := by omega
      subst e
      rw [List.take_length] at hR hP
      refine .inl ⟨⟨hlq', by rw [lenK]; exact Nat.le_refl _⟩, ?_⟩
      subst hHl
      obtain ⟨u1, u2, gU, sU⟩ := Gr.unlock g2s hd2 (by simp) rfl g'
      refine ⟨u1, ?_⟩
      have hDq : D ≠ q0 := fun z => by rw [z, upd_same] at hD; cases hD
      have hpq : ∀ p ∈ psn, p ≠ q0 := fun p hp z => by
        have := (hfr p hp).1
        rw [z, upd_same] at this
        cases this
      have hRU : RepI (upd H' q0 (.dK (kvsO L.cs ps0))) (rel F' F1 q0) psn L.cs := (hR.mono sU).heap fun p hp => upd_ne (hpq p hp)
      have npU : ∀ p ∈ psn, rel F' F1 q0 p = none := fun p hp => by unfold rel; rw [if_neg (hpq p hp)]; exact (hfr p hp).2
      have hPU : Paired (fun (t : Addr) (kv : Key × V) => rel F' F1 q0 t = some (.tup [kV kv.1, kv.2])) tps (kvsO L.cs psn) := Paired.mono' (fun a kv e => sU _ _ e) hP
      have hDU : upd H' q0 (.dK (kvsO L.cs ps0)) D = some (.lst (tps.map V.ref)) := by rw [upd_ne hDq]; exact hD'
      have oldl : ∀ p, upd H2 q0 (.frz od (.dK (kvsO L.cs ps0))) p = none → H2 p = none := fun p hp => by
        by_cases z : p = q0
        · rw [z, upd_same] at hp; cases hp
        · rw [upd_ne z] at hp; exact hp
      have hnew : ∀ p ∈ psn, H2 p = none := fun p hp => oldl p (hfr p hp).1
      generalize rel F' F1 q0 = FU at gU hRU npU hPU
      generalize upd H' q0 (.dK (kvsO L.cs ps0)) = HU at gU hRU hDU ⊢
      clear g' hR hP hfr hD' nD' sU hlq' u1 u2 nD gD hD hpq
      refine ⟨D, tps, kvsO L.cs psn, rfl, SqL.of hDU, Paired.mono' (fun a kv e => SqT.of (gU.fh _ _ e)) hPU, fun qn hqn => ?_⟩
      have em : mergeK [] (kvsO L.cs psn) = kvsO L.cs psn := mergeK_new _ _ (by rw [List.map_nil, List.nil_append, kvsO_keys hRU.len]; exact inr_nodup hok.nd)
      rw [em]
      have gQ : Gr [] FU HU FU (upd HU qn (.dK (kvsO L.cs psn))) := Gr.newM gU.fh hqn
      have nq : FU qn = none := none_of gU.fh hqn
      have g3 := gU.trans0 gQ
      have ho3 := g3.same _ _ ho2
      have no3 : FU o = none := by rw [gU.nw o _ ho2 rfl]; exact no2
      have hqo : qn ≠ o := fun z => by rw [z, gU.same _ _ ho2] at hqn; cases hqn
      refine ⟨_, e1, o, _, rfl, .inl ⟨_, .inr "marks", ho3, rfl, by rw [sizeLine_eq]; exact Nat.le_of_ble_eq_true (by rfl), rfl⟩, ?_⟩
      rw [own_putMarks]
      have gO3 : Gr [o] FU (upd HU qn (.dK (kvsO L.cs psn))) FU (upd (upd HU qn (.dK (kvsO L.cs psn))) o (.dK (ownK vsh vst L.now qn b0))) := Gr.put gQ.fh no3
      have hqn3 : upd (upd HU qn (.dK (kvsO L.cs psn))) o (.dK (ownK vsh vst L.now qn b0)) qn = some (.dK (kvsO L.cs psn)) := by rw [upd_ne hqo]; exact upd_same
      have hI3 : RepI (upd (upd HU qn (.dK (kvsO L.cs psn))) o (.dK (ownK vsh vst L.now qn b0))) FU psn L.cs := hRU.heap fun p hp => by
        obtain ⟨tk', e⟩ := hRU.at_ hp
        rw [upd_ne (fun z => by rw [z, gU.same _ _ ho2] at e; cases e), upd_ne (fun z => by rw [z, hqn] at e; cases e)]
      have g4 := g3.after gO3
      have ho4 : upd (upd HU qn (.dK (kvsO L.cs psn))) o (.dK (ownK vsh vst L.now qn b0)) o = some (.dK (ownK vsh vst L.now qn b0)) := upd_same
      have hoNone : H o = none := old1 o ho
      have old2 : ∀ p, H2 p = none → H p = none := fun p hp => by
        cases e : H p with
        | none => rfl
        | some u => rw [g2.same _ _ e] at hp; cases hp
      have g5 := g2.fresh g4 (fun z hz => by rw [show z = o by simpa using hz]; exact hoNone)
      have hqH : H qn = none := by
        cases e : H qn with
        | none => rfl
        | some u => rw [(g2.trans0 gU).same _ _ e] at hqn; cases hqn
      have hpnew : ∀ p ∈ psn, H p = none := fun p hp => old2 p (hnew p hp)
      have hqp : ∀ p ∈ psn, p ≠ o := fun p hp z => by
        have := hnew p hp
        rw [z, ho2] at this
        cases this
      generalize upd (upd HU qn (.dK (kvsO L.cs psn))) o (.dK (ownK vsh vst L.now qn b0)) = H5 at g4 g5 hqn3 hI3 ho4 ⊢
      clear g3 gQ gO3 hDU hPU
      -- the book
      refine dput_seq ?_
      have how5 := g5.same _ _ (sm _ _ how)
      refine ⟨_, e0, ow, .ref b0, rfl, .inl ⟨_, .inr "book", .inl how5, rfl, own_book.symm⟩, ?_⟩
      refine ⟨b0, bs, rfl, .inl (SqL.of (g5.same _ _ (sm _ _ hb0))), fun bn hbn => ?_⟩
      have gB : Gr [] FU H5 FU (upd H5 bn (.lst bs)) := Gr.newM g5.fh hbn
      have hbo : bn ≠ o := fun z => by rw [z, ho4] at hbn; cases hbn
      have hbq : bn ≠ qn := fun z => by rw [z, hqn3] at hbn; cases hbn
      refine ⟨_, e1, o, _, rfl, .inl ⟨_, .inr "book", gB.same _ _ ho4, rfl, by rw [sizeLine_eq]; exact Nat.le_of_ble_eq_true (by rfl), rfl⟩, ?_⟩
      rw [own_putBook]
      have gO6 : Gr [o] FU (upd H5 bn (.lst bs)) FU (upd (upd H5 bn (.lst bs)) o (.dK (ownK vsh vst L.now qn bn))) := Gr.put gB.fh no3
      have g6 := (g5.trans0 gB).fresh gO6 (fun z hz => by rw [show z = o by simpa using hz]; exact hoNone)
      refine ⟨_, e1, ?_⟩
      have ff := g6.ff
      refine k FU _ o qn bn psn g6 ⟨⟨vsh, vst, bs, upd_same, hsh.mono ff, hst.mono ff, by rw [upd_ne hbo]; exact upd_same, hbs.mono ff⟩, (hI3.heap fun p hp => ?_).rep ?_ hok.nd⟩ hoNone hqH ?_ hpnew no3 nq (none_of g5.fh hbn) npU
      · obtain ⟨tk', e⟩ := hI3.at_ hp
        rw [upd_ne (hqp p hp), upd_ne (fun z => by rw [z, hbn] at e; cases e)]
      · rw [upd_ne hqo, upd_ne (Ne.symm hbq)]
        exact hqn3
      · cases e : H bn with
        | none => rfl
        | some u => rw [g5.same _ _ e] at hbn; cases hbn
end
end Bb
/-! Bb23 -/
namespace Bb
open PySem PySem.Spec PyProof.Rows L2

def kD : Key → Da
  | .inl i => .int i
  | .inr c => .str c
theorem dt_kV {F : Hp} : ∀ k : Key, Dt F (kV k) (kD k)
  | .inl i => .int i
  | .inr c => .str c
section
variable {F0 B : Hp} {ρ : Rho} {td : TE} {q : Addr}
theorem di_keys {o : Obj} {kvs : List (Key × V)} (h : Dv F0 B td ρ (.ob (.ref q))) (hF : F0 q = some (.frz o (.dK kvs))) : DvI F0 B (iKeys td) ρ (kvs.map fun kv => kD kv.1) := fun σ F H a E R k => h σ F H a E _ fun v F1 H1 g1 d1 => by
  have hf1 := g1.ff _ _ (a.f _ _ hF)
  have hx : ∀ (i : Nat) (x : Da), (kvs.map fun kv => kD kv.1)[i]? = some x → ∃ kv, kvs[i]? = some kv ∧ x = kD kv.1 := fun i x e => by
    rw [List.getElem?_map] at e
    cases z : kvs[i]? with
    | none => rw [z] at e; cases e
    | some kv => rw [z] at e; cases e; exact ⟨kv, rfl, rfl⟩
  refine ⟨q, o, d1.of_ob, .inl ⟨kvs, g1.fh _ _ hf1, k _ F1 H1 g1 ⟨fun F2 H2 g2 i x e => ?_, fun F2 H2 g2 i x e v H3 hy => ?_, fun F2 H2 g2 => ?_⟩⟩⟩
  · obtain ⟨kv, e1, _⟩ := hx i x e
    exact ⟨g2.fh _ _ (g2.ff _ _ hf1), (List.getElem?_eq_some_iff.mp e1).1⟩
  · obtain ⟨kv, e1, rfl⟩ := hx i x e
    obtain ⟨rfl, kk, vv, e2, rfl⟩ := hy
    rw [e1] at e2
    cases e2
    exact ⟨F2, .refl g2.fh, dt_kV _⟩
  · rw [List.length_map]
    exact ⟨g2.fh _ _ (g2.ff _ _ hf1), Nat.le_refl _⟩
end
theorem own_ne {G F : Hp} {ow q b : Addr} {ps : List Addr} {cs : List (Str × Mp)} {vsh vst : V} {t : Int} (h : G ow = some (.dK (ownK vsh vst t q b))) (hO : RepO G F q ps cs) : ow ≠ q ∧ ow ∉ ps := by
  refine ⟨fun z => ?_, fun z => ?_⟩
  · have hd := hO.d
    rw [← z, h] at hd
    have e : ownK vsh vst t q b = kvsO cs ps := by injection hd with hd; injection hd
    have hmem : ((Sum.inr "tick" : Key), V.int t) ∈ kvsO cs ps := by rw [← e]; exact .tail _ (.tail _ (.head _))
    obtain ⟨p, hp⟩ := kvsO_ref hmem
    cases hp
  · obtain ⟨tks, e⟩ := hO.at_ z
    rw [h] at e
    cases e
section
variable {P : Program} {w : World} {K : PySem.W.Frag} {mg : Str → Option Value} {base : Heap}
theorem due_sum {F H1 : Hp} {σ1 : LSt} {a q bk : Addr} {ps : List Addr} {vsh vst : V} {L : Stt} {m w' g : Nat} {qQ : VK} {EE : XK} (smm : Same F H1) (E1 : Env F σ1 [some (.ob (.ref a)), some (.tup [.str "press", .int g]), some .non, none, none, none, none, none]) (ha1 : H1 a = some (.dK (ownK vsh vst L.now q bk))) (hsh : Dt F vsh (shD m w')) (hst : Dt F vst (stD L.st)) (hO : RepO H1 F q ps L.cs) (n1q : F q = none) (n1p : ∀ p ∈ ps, F p = none) (hok : SttOk m w' L) (hm : m ≤ 4) (hw : w' ≤ 3) (hg : g + 1 < m) (hcl : L.cs.length ≤ 1000)
    (qq : ∀ F' H', Gr ps F H1 F' H' → InR H' F' ps (pressCs L.now (prsOf w' L.st g) L.cs) → qQ (.int (pressN L.now (prsOf w' L.st g) L.cs)) H') :
    tCB (rSum K) (tCons (tLockE (tLc (iKeys (tDGet (tVar 0) (tC (.str "marks")))) (gName 7) tYes (tCall spWP [] EE (tCons (tVar 0) (tCons (tDGet (tDGet (tVar 0) (tC (.str "marks"))) (tVar 7)) (tCons (tOp (rIxT K) (tVar 1) (tC (.int 1))) tNil)))) [7])) tNil) σ1 H1 qQ := by
    obtain ⟨haq, hap⟩ := own_ne ha1 hO
    have hq1 := hO.d
    have hO1 := hO
    let F1 := F
    have g1 : Gr [] F H1 F1 H1 := .refl smm
    have hlp : L.st[g]? = some (L.st.getD g (0, 0, 0)) := by rw [List.getD_eq_getElem?_getD, List.getElem?_eq_getElem (by have := hok.std.len; omega)]; rfl
    have hlq : L.st[g + 1]? = some (L.st.getD (g + 1) (0, 0, 0)) := by rw [List.getD_eq_getElem?_getD, List.getElem?_eq_getElem (by have := hok.std.len; omega)]; rfl
    have hlne : (L.st.getD g (0, 0, 0)).1 ≠ (L.st.getD (g + 1) (0, 0, 0)).1 := fun z => by
      have e1 : (L.st.map (·.1))[g]? = some (L.st.getD g (0, 0, 0)).1 := by rw [List.getElem?_map, hlp]; rfl
      have e2 : (L.st.map (·.1))[g + 1]? = some (L.st.getD (g + 1) (0, 0, 0)).1 := by rw [List.getElem?_map, hlq]; rfl
      rw [← z] at e2
      have := (List.getElem?_inj (List.getElem?_eq_some_iff.mp e1).1 hok.std.nd).mp (e1.trans e2.symm)
      omega
    refine (fun h => h : (tLockE _ σ1 H1 fun v H2 => rSum K [v] H2 qQ) → _) ?_
    refine lockE g1.fh hq1 rfl fun od => ?_
    have sl := lock_same (d := q) (o := .frz od (.dK (kvsO L.cs ps))) g1.fh
    have sd : Same F1 (upd F1 q (.frz od (.dK (kvsO L.cs ps)))) := fun b o e => by rw [upd_ne (ne_of_none e n1q)]; exact e
    generalize hFl : upd F1 q (.frz od (.dK (kvsO L.cs ps))) = Fl at sl sd
    generalize hHl : upd H1 q (.frz od (.dK (kvsO L.cs ps))) = Hl at sl
    have hal : Hl a = some (.dK (ownK vsh vst L.now q bk)) := by rw [← hHl, upd_ne haq]; exact ha1
    have hFlq : Fl q = some (.frz od (.dK (kvsO L.cs ps))) := by rw [← hFl]; exact upd_same
    have hql : Hl q = some (.frz od (.dK (kvsO L.cs ps))) := sl _ _ hFlq
    have hpq : ∀ p ∈ ps, p ≠ q := fun p hp z => hO.ne (z ▸ hp)
    have npl : ∀ p ∈ ps, Fl p = none := fun p hp => by rw [← hFl, upd_ne (hpq p hp)]; exact n1p p hp
    have hIl : InR Hl Fl ps L.cs := fun i c p h1 h2 => by
      obtain ⟨tks, e, r⟩ := hO1.inn i c p h1 h2
      exact ⟨tks, by rw [← hHl, upd_ne (hpq p (List.mem_of_getElem? h2))]; exact e, r.mono sd⟩
    have El := E1.mono sd
    have lenK : (kvsO L.cs ps).length = L.cs.length := kvsO_len hO.len
    let prs := prsOf w' L.st g
    have hprs : prs.length = w' := by show (pairsP _ _ _).length = _; unfold pairsP; simp
    have hne : ∀ pr ∈ prs, pr.1 ≠ pr.2 := prs_ne hok.std hg
    -- the marks as they are behind i turns
    let csI : Nat → List (Str × Mp) := fun i => pressCs L.now prs (L.cs.take i) ++ L.cs.drop i
    have csI_at : ∀ (i j : Nat) (c : Str × Mp), L.cs[j]? = some c → (csI i)[j]? = some (if j < i then (c.1, (foldS L.now prs c.2).1) else c) := fun i j c h => by
      have hj := (List.getElem?_eq_some_iff.mp h).1
      show (pressCs L.now prs (L.cs.take i) ++ L.cs.drop i)[j]? = _
      have hlen : (pressCs L.now prs (L.cs.take i)).length = min i L.cs.length := by unfold pressCs; rw [List.length_map, List.length_take]
      by_cases hji : j < i
      · rw [List.getElem?_append_left (by rw [hlen]; omega), if_pos hji]
        unfold pressCs
        rw [List.getElem?_map, List.getElem?_take_of_lt hji, h]
        rfl
      · rw [List.getElem?_append_right (by rw [hlen]; omega), if_neg hji, hlen, List.getElem?_drop, ← h]
        congr 1
        omega
    have csI_len : ∀ i, (csI i).length = L.cs.length := fun i => by
      show (pressCs L.now prs (L.cs.take i) ++ L.cs.drop i).length = _
      unfold pressCs
      rw [List.length_append, List.length_map, List.length_take, List.length_drop]
      omega
    have at_cs : ∀ (i j : Nat) (c : Str × Mp), (csI i)[j]? = some c → ∃ c0, L.cs[j]? = some c0 ∧ c = if j < i then (c0.1, (foldS L.now prs c0.2).1) else c0 := fun i j c h => by
      have hj : j < L.cs.length := by rw [← csI_len i]; exact (List.getElem?_eq_some_iff.mp h).1
      refine ⟨L.cs[j], List.getElem?_eq_getElem hj, ?_⟩
      rw [csI_at i j _ (List.getElem?_eq_getElem hj)] at h
      exact (Option.some.inj h).symm
    let nI : Nat → Da := fun i => .int ((foldS L.now prs (L.cs.getD i ("", noMp)).2).2 : Nat)
    refine lcS nI (fun i F2 H2 => Gr ps Fl Hl F2 H2 ∧ InR H2 F2 ps (csI i) ∧ ∀ p ∈ ps, F2 p = none) (di_keys (dv_own rfl hal own_marks (.ob _)) hFlq) sl El (by rw [List.length_map, lenK, sizeLine_eq]; omega) (fun F2 H2 D g2 nD hD _ => ?_) (fun i F2 H2 D o nD nFD hI => ?_) (fun i x hx F2 H2 D s1 s2 hI nD hacc nFD v F3 H3 g3 d3 E3 Nx hNx => ?_) (fun F2 H2 v s1 s2 hI hv => ?_) (fun i F2 H2 D o nD nFD hD hI => ?_)
    · exact ⟨g2.wide, fun i c p h1 h2 => by
        have h1' : L.cs[i]? = some c := by
          obtain ⟨c0, e1, e2⟩ := at_cs 0 i c h1
          rw [if_neg (Nat.not_lt_zero _)] at e2
          rw [e2]; exact e1
        obtain ⟨tks, e, r⟩ := hIl i c p h1' h2
        exact ⟨tks, g2.same _ _ e, r.mono g2.ff⟩, fun p hp => by
        obtain ⟨i, hi⟩ := List.mem_iff_getElem?.mp hp
        obtain ⟨c, hc⟩ := hO.csAt hi
        obtain ⟨tks, e, _⟩ := hIl i c p hc hi
        rw [g2.nw p _ e rfl]
        exact npl p hp⟩
    · obtain ⟨gI, hR, hn⟩ := hI
      have hpD : ∀ p ∈ ps, p ≠ D := fun p hp z => by
        obtain ⟨i, hi⟩ := List.mem_iff_getElem?.mp hp
        obtain ⟨c, hc⟩ := hO.csAt hi
        obtain ⟨tks, e, _⟩ := hIl i c p hc hi
        rw [z, nD] at e
        cases e
      exact ⟨⟨gI.ff, fun b o e => by rw [upd_ne (ne_of_none e nFD)]; exact gI.fh _ _ e, fun b o hb e => by rw [upd_ne (ne_of_none e nD)]; exact gI.hh b o hb e, gI.nw⟩, fun j c p h1 h2 => by
        obtain ⟨tks, e, r⟩ := hR j c p h1 h2
        exact ⟨tks, by rw [upd_ne (hpD p (List.mem_of_getElem? h2))]; exact e, r⟩, hn⟩
    · obtain ⟨gI, hR, hn⟩ := hI
      have hi : i < L.cs.length := by
        have := (List.getElem?_eq_some_iff.mp hx).1
        rw [List.length_map, lenK] at this
        exact this
      have hc : L.cs[i]? = some L.cs[i] := List.getElem?_eq_getElem hi
      have hcD : L.cs.getD i ("", noMp) = L.cs[i] := by rw [List.getD_eq_getElem?_getD, hc]; rfl
      generalize L.cs[i] = c at hc hcD
      obtain ⟨p, hp⟩ := hO.psAt hc
      have hpm := List.mem_of_getElem? hp
      have hx' : x = kD (Sum.inr c.1) := by
        rw [List.getElem?_map, kvsO_get hc hp] at hx
        exact (Option.some.inj hx).symm
      subst hx'
      obtain ⟨tks, ht, hRt⟩ := hR i c p (by rw [csI_at i i c hc, if_neg (Nat.lt_irrefl _)]) hp
      have hcm := List.mem_of_getElem? hc
      have E3' : Env F3 (wipe σ1 [7]) [some (.ob (.ref a)), some (.tup [.str "press", .int g]), some .non, none, none, none, none, none] := E3
      have ht3 := g3.same _ _ ht
      have n3p : F3 p = none := by rw [g3.nw p _ ht rfl]; exact hn p hpm
      have ha3 : H3 a = some (.dK (ownK vsh vst L.now q bk)) := g3.same _ _ (gI.hh a _ (fun z => by
        obtain ⟨tks', e⟩ := hO.at_ z
        rw [ha1] at e
        cases e) hal)
      refine ⟨wipe_set (by simp) |>.trans wipe_wipe, ?_⟩
      have E4 : Env F3 ((wipe σ1 [7]).set 7 (some v)) [some (.ob (.ref a)), some (.tup [.str "press", .int g]), some .non, none, none, none, none, some (.str c.1)] := E3'.set d3
      have hq3 : H3 q = some (.frz od (.dK (kvsO L.cs ps))) := g3.same _ _ (gI.hh q _ (fun z => hO.ne z) hql)
      refine (da_cons (d := .ob (.ref a)) (dv_var rfl) (da_cons (d := .ob (.ref p)) (dv_getK (dv_own rfl ha3 own_marks (.ob _)) (.inr ⟨od, hq3⟩) (dv_var rfl) (hO.get hc hp) (.ob _)) (da_cons (d := .int g) (dv_op (dv_var rfl) dv_int (rd_ixT (by rfl))) da_nil))).run g3.fh E4 fun vs4 F4 H4 g4 d4 => ?_
      cases d4 with
      | cons a1 r1 =>
      cases r1 with
      | cons a2 r2 =>
      cases r2 with
      | cons a3 r3 =>
      cases r3
      rw [a1.of_ob, a2.of_ob, a3.of_int]
      have hfew := hRt.few (hok.mks c hcm).2 hm hw
      have s14 : Same F F4 := ((sd.trans gI.ff).trans g3.ff).trans g4.ff
      refine ⟨F4, a, p, q, bk, vsh, vst, m, w', L.st, tks, c.2, L.now, g, _, _, rfl, g4.fh, by rw [g4.nw p _ ht3 rfl]; exact n3p, g4.same _ _ ha3, hsh.mono s14, hst.mono s14, g4.same _ _ ht3, (hRt.mono g3.ff).mono g4.ff, hlp, hlq, by omega, by omega, (hok.mks c hcm).1, hok.now, hlne, fun F5 H5 tks5 g5 h5 hR5 hl5 n5 => ?_⟩
      rw [fold_both hlne] at hR5 ⊢
      have gT : Gr [p] F2 H2 F5 H5 := (g3.trans0 g4).after g5
      obtain ⟨accl, hacc⟩ := hacc
      have hDp : D ∉ [p] := fun z => by
        have : D = p := by simpa using z
        rw [this, ht] at hacc
        cases hacc
      refine hNx _ F5 H5 (g4.ff.trans g5.ff) g5.fh (by rw [gT.nw D _ hacc rfl]; exact nFD) ?_ ⟨gI.transL gT (fun n hn' => .inl (by rw [show n = p by simpa using hn']; exact hpm)) (fun mm hmm => ?_), fun j c' p' h1 h2 => ?_, fun p' hp' => ?_⟩ ?_
      · rw [gT.hh D _ hDp hacc, g3.same _ _ hacc]
      · obtain ⟨j, hj⟩ := List.mem_iff_getElem?.mp hmm
        obtain ⟨c0, hc0⟩ := hO.csAt hj
        obtain ⟨tks', e, _⟩ := hR j _ mm (csI_at i j c0 hc0) hj
        exact ⟨_, e, rfl⟩
      · obtain ⟨c0, e1, e2⟩ := at_cs (i + 1) j c' h1
        by_cases hji : j = i
        · subst hji
          rw [hp] at h2
          cases h2
          rw [hc] at e1
          cases e1
          rw [if_pos (Nat.lt_succ_self _)] at e2
          rw [e2]
          exact ⟨tks5, h5, hR5⟩
        · obtain ⟨tks', e, r⟩ := hR j _ p' (csI_at i j c0 e1) h2
          have hpp : p' ≠ p := fun z => hji (by
            subst z
            exact (List.getElem?_inj (List.getElem?_eq_some_iff.mp h2).1 hO.nd).mp (h2.trans hp.symm))
          refine ⟨tks', gT.hh p' _ (by simpa using hpp) e, ?_⟩
          have : c'.2 = (if j < i then (c0.1, (foldS L.now prs c0.2).1) else c0).2 := by
            rw [e2]
            by_cases hlt : j < i
            · rw [if_pos hlt, if_pos (by omega)]
            · rw [if_neg hlt, if_neg (by omega)]
          rw [this]
          exact r.mono gT.ff
      · obtain ⟨j, hj⟩ := List.mem_iff_getElem?.mp hp'
        obtain ⟨c0, hc0⟩ := hO.csAt hj
        obtain ⟨tks', e, _⟩ := hR j _ p' (csI_at i j c0 hc0) hj
        rw [gT.nw p' _ e rfl]
        exact hn p' hp'
      · show Dt F5 _ (.int ((foldS L.now prs (L.cs.getD i ("", noMp)).2).2 : Nat))
        rw [hcD]
        exact .int _
    · obtain ⟨gI, hR, hn⟩ := hI
      subst hFl hHl
      obtain ⟨u1, u2, gU, sU⟩ := Gr.unlockZ g1.fh hq1 (fun z => hO.ne z) gI
      refine ⟨u1, ?_⟩
      rw [List.length_map, lenK] at hR hv
      have hv' : Dt (rel F2 F1 q) v (.lst ((L.cs.map fun c => ((foldS L.now prs c.2).2 : Int)).map Da.int)) := by
        refine Dt.sd sU ?_
        have e : (List.range L.cs.length).map nI = (L.cs.map fun c => ((foldS L.now prs c.2).2 : Int)).map Da.int := by
          refine List.ext_getElem? fun j => ?_
          rw [List.getElem?_map, List.getElem?_map, List.getElem?_map]
          by_cases hj : j < L.cs.length
          · rw [List.getElem?_range hj, List.getElem?_eq_getElem hj]
            show some (Da.int ((foldS L.now prs (L.cs.getD j ("", noMp)).2).2 : Nat)) = some (Da.int ((foldS L.now prs L.cs[j].2).2 : Nat))
            rw [List.getD_eq_getElem?_getD, List.getElem?_eq_getElem hj]
            rfl
          · rw [List.getElem?_eq_none (by simpa using hj), List.getElem?_eq_none (by omega)]
            rfl
        rw [← e]
        exact hv
      have gE := g1.wide (M := ps) |>.transL gU (fun n hn' => .inl hn') (fun mm hmm => by
        obtain ⟨tks', e⟩ := hO1.at_ hmm
        exact ⟨_, e, rfl⟩)
      have hcsE : csI L.cs.length = pressCs L.now prs L.cs := by
        show pressCs L.now prs (L.cs.take L.cs.length) ++ L.cs.drop L.cs.length = _
        rw [List.take_length, List.drop_length, List.append_nil]
      rw [hcsE] at hR
      refine (rc_sum (B := upd H2 q (.dK (kvsO L.cs ps)))) (rel F2 F1 q) _ _ (atC gU.fh) (.cons hv' .nil) _ fun w1 F5 H5 g5 d5 => ?_
      rw [d5.of_int]
      refine qq F5 H5 (gE.transL (g5.wide (M := ps)) (fun n hn' => .inl hn') fun mm hmm => ?_) fun j c p h1 h2 => ?_
      · obtain ⟨j, hj⟩ := List.mem_iff_getElem?.mp hmm
        obtain ⟨c0, hc0⟩ := hO.csAt hj
        obtain ⟨tks', e, _⟩ := hR j _ mm (by unfold pressCs; rw [List.getElem?_map, hc0]; rfl) hj
        exact ⟨_, by rw [upd_ne (hpq mm hmm)]; exact e, rfl⟩
      · obtain ⟨tks', e, r⟩ := hR j c p h1 h2
        exact ⟨tks', g5.same _ _ (by rw [upd_ne (hpq p (List.mem_of_getElem? h2))]; exact e), (r.sd sU).mono g5.ff⟩
    · obtain ⟨gI, hR, hn⟩ := hI
      have hpD : ∀ p ∈ ps, p ≠ D := fun p hp z => by
        obtain ⟨i, hi⟩ := List.mem_iff_getElem?.mp hp
        obtain ⟨c, hc⟩ := hO.csAt hi
        obtain ⟨tks, e, _⟩ := hIl i c p hc hi
        rw [z, nD] at e
        cases e
      have su : Same F2 (upd F2 D o) := fun b o' e => by rw [upd_ne (ne_of_none e nFD)]; exact e
      exact ⟨⟨gI.ff.trans su, fun b o' e => by
        by_cases hb : b = D
        · rw [hb, upd_same] at e; cases e; rw [hb]; exact hD
        · rw [upd_ne hb] at e; exact gI.fh _ _ e, gI.hh, fun b o' e t => by rw [upd_ne (ne_of_none e nD)]; exact gI.nw b o' e t⟩, fun j c p h1 h2 => by
        obtain ⟨tks, e, r⟩ := hR j c p h1 h2
        exact ⟨tks, e, r.mono su⟩, fun p hp => by rw [upd_ne (hpD p hp)]; exact hn p hp⟩
end
end Bb
/-! Bb24 -/
namespace Bb
open PySem PySem.Spec PyProof.Rows L2

section
variable {F0 B F H : Hp} {σ : LSt} {ρ ρ' : Rho} {K : PySem.W.Frag} {te td ty tv ta : TE} {tr : TA} {p b ow : Addr} {d x : Da} {u : TS} {D : Ends} {c : Str} {kvs : List (Key × V)}
theorem append_seq {bs : List V} (ha : ∀ F1 H1, Gr [] F H F1 H1 → Dv F1 H1 ta ρ (.ob (.ref b))) (hr : ∀ F H, DvA F H tr ρ [d]) (hb : H b = some (.lst bs)) (nF : F b = none) (hl : bs.length < sizeLine) (sm : Same F H) (E : Env F σ ρ)
    (k : ∀ F' H' y, Gr [b] F H F' H' → H' b = some (.lst (bs ++ [y])) → Dt F' y d → F' b = none → Env F' σ ρ → u D σ H') : tSeq (tDrop (tBM K "list" rAppend ta tr)) u D σ H := by
  refine (ha F H (.refl sm)).run sm E fun v F1 H1 g1 d1 => ?_
  rw [d1.of_ob]
  have hb1 := g1.same _ _ hb
  refine ⟨.inl ⟨rfl, bs, SqL.of hb1⟩, ?_⟩
  refine (hr F1 H1).run g1.fh (E.mono g1.ff) fun vs F2 H2 g2 d2 => ?_
  obtain ⟨y, rfl, hy⟩ := d2.sole
  have g := g1.trans0 g2
  have hb2 := g.same _ _ hb
  have n2 : F2 b = none := by rw [g.nw b _ hb rfl]; exact nF
  exact ⟨b, bs, y, rfl, rfl, hb2, hl, k F2 _ y (g.after (Gr.put g2.fh n2)) upd_same hy n2 (E.mono g.ff)⟩
theorem ownPut (hv : Dv F H tv ρ x) (h0 : ρ[0]? = some (some (.ob (.ref ow)))) (ho : H ow = some (.dK kvs)) (nF : F ow = none) (hl : kvs.length < sizeLine) (sm : Same F H) (E : Env F σ ρ)
    (k : ∀ F' H' y, Gr [ow] F H F' H' → H' ow = some (.dK (putK kvs (.inr c) y)) → Dt F' y x → F' ow = none → Env F' σ ρ → D.nx σ H') : sDPut (tVar 0) (tC (.str c)) tv D σ H := by
  refine hv.run sm E fun y F1 H1 g1 d1 => ?_
  obtain ⟨v0, e0, hv0⟩ := (E.mono g1.ff).at_ 0 _ h0
  rw [hv0.of_ob] at e0
  have n1 : F1 ow = none := by rw [g1.nw ow _ ho rfl]; exact nF
  refine ⟨_, e0, ow, _, rfl, DPut.k (k := .inr c) (g1.same _ _ ho) hl, ?_⟩
  exact k F1 _ y (g1.after (Gr.put g1.fh n1)) upd_same d1 n1 (E.mono g1.ff)
theorem ownPut_seq (hv : Dv F H tv ρ x) (h0 : ρ[0]? = some (some (.ob (.ref ow)))) (ho : H ow = some (.dK kvs)) (nF : F ow = none) (hl : kvs.length < sizeLine) (sm : Same F H) (E : Env F σ ρ)
    (k : ∀ F' H' y, Gr [ow] F H F' H' → H' ow = some (.dK (putK kvs (.inr c) y)) → Dt F' y x → F' ow = none → Env F' σ ρ → u D σ H') : tSeq (sDPut (tVar 0) (tC (.str c)) tv) u D σ H := ownPut (D := { D with nx := u D }) hv h0 ho nF hl sm E k
theorem set_run {i : Nat} (h : te σ H fun v H1 => D.nx (σ.set i (some v)) H1) : tAsg te (gName i) D σ H := h
theorem rd_notN0 : RD F0 B rNotN .non .non (.bl false) := rd_val fun F H v u a dx dy Q q => by
  rw [dx.of_non, dy.of_non]
  exact ⟨rfl, q _ (.bl _)⟩
theorem rd_notNS {s : Str} : RD F0 B rNotN (.str s) .non (.bl true) := rd_val fun F H v u a dx dy Q q => by
  rw [dx.of_str, dy.of_non]
  exact ⟨rfl, q _ (.bl _)⟩
end
def spDue : Sp := fun vs H Q _ => ∃ (F : Hp) (ow q b : Addr) (ps : List Addr) (m w : Nat) (L : Stt) (vd : V) (d : Da), vs = [.ref ow, vd] ∧ Same F H ∧ OwO H F ow m w L q b ps ∧ F ow = none ∧ F q = none ∧ F b = none ∧ (∀ p ∈ ps, F p = none) ∧ Dt F vd d ∧ Dok d ∧
  SttOk m w L ∧ m ≤ 4 ∧ w ≤ 3 ∧ L.cs.length ≤ 1000 ∧ L.bk.length ≤ 1000 ∧
  ((∃ L' f, Tl m w L d L' f ∧ ∀ F' H' ps' v, Gr (ow :: q :: b :: ps) F H F' H' → OwO H' F' ow m w L' q b ps' → F' ow = none → F' q = none → F' b = none → (∀ p ∈ ps', F' p = none ∧ (p ∈ ps ∨ H p = none)) → Dt F' v f → Q v H') ∨
  ∃ word, Nope m w d word ∧ ∀ F' H' v, Gr [] F H F' H' → Dt F' v (.tup [.str "word", .str word]) → Q v H')
abbrev N_w_due : List Str := ["_law_own", "_law_deed", "_law_found", "_law_word_here", "_law_some", "_law_since", "_law_dry", "_law_colour"]
abbrev P_w_due : List Str := ["_law_own", "_law_deed"]
theorem sc_w_due : FnScope N_w_due P_w_due (defScope s_w_due) := ⟨rfl, rfl, rfl, by decide +kernel, rfl, by decide +kernel, by decide +kernel⟩
theorem b_w_due : BindsD d_w_due P_w_due := fun _ _ _ _ _ _ us hl => match us, hl with | [_, _], _ => rfl

section
variable {P : Program} {w : World} {K : PySem.W.Frag} {mg : Str → Option Value} {base : Heap}
theorem ok_w_due (T : Txt K mg) (G_w_no_drop : Ok P w K mg base CX0 3 d_w_no_drop P_w_no_drop (spD R_w_no_drop)) (G_w_is_deed : Ok P w K mg base CX0 3 d_w_is_deed P_w_is_deed (spD R_w_is_deed)) (G_w_pressed : Ok P w K mg base CX0 3 d_w_pressed P_w_pressed spWP) (G_w_moved : Ok P w K mg base CX0 1 d_w_moved P_w_moved (spD R_moved)) : Ok P w K mg base CX0 6 d_w_due P_w_due spDue := by
  refine okN T.f_w_due sc_w_due b_w_due (fun vs H Q E h => ?_) fun cdv A outer s H vs Q E hr h => ?_
  · obtain ⟨_, _, _, _, _, _, _, _, _, _, rfl, _⟩ := h
    rfl
  · obtain ⟨F, ow, q, b, ps, m, w', L, vd, d, rfl, sm, hOw, nFo, nFq, nFb, nFp, hvd, hd, hok, hm, hw, hcl, hbl, hend⟩ := h
    refine ⟨_, (pss_cons (ps_set (i := 2) sc_w_due.nd rfl (.inl rfl) pe_non)
  (pss_cons (ps_if (PW.pt (pw_and (pt_val (pe_callB (kcall_isi (K := K)) (by rfl) T.n_isinstance (by decide +kernel) (pa_cons (pv 1) (pa_cons (pe_bltn (v := .ty "tuple") (u := .type "tuple") rfl T.n_tuple (by decide +kernel) rfl) pa_nil)))) (pw_and (pt_cmpR op_eq (pe_callB (kcall_len (K := K)) (by rfl) T.n_len (by decide +kernel) (pa_cons (pv 1) pa_nil)) pe_int (nomark _)) (pw_and (pt_val (pe_callB (kcall_isi (K := K)) (by rfl) T.n_isinstance (by decide +kernel) (pa_cons (pe_ix (kix_tup (K := K)) (pv 1) pe_int (fun _ _ => rfl)) (pa_cons (pe_bltn (v := .ty "str") (u := .type "str") rfl T.n_str (by decide +kernel) rfl) pa_nil)))) (pw_and1 (pt_cmpR op_eq (pe_ix (kix_tup (K := K)) (pv 1) pe_int (fun _ _ => rfl)) pe_str (nomark _))))))) (pss_cons (ps_set (i := 3) sc_w_due.nd rfl (.inl rfl) (pe_callO G_w_no_drop (hr.mono (by decide)) rfl T.g_w_no_drop pass0 (pa_cons (pe_dget (hu_of hr) (pv 0) pe_str (fun _ _ => rfl)) (pa_cons (pv 1) pa_nil))))
  (pss_cons (ps_if (pt_cmpR op_notN1 (pv 3) pe_non (nomark _)) (pss_one (ps_ret (pe_tup (pa_cons pe_str (pa_cons (pv 3) pa_nil))))) pss_nil)
  (pss_cons (ps_set (i := 4) sc_w_due.nd rfl (.inl rfl) (pe_dsetd (pe_dget (hu_of hr) (pv 0) pe_str (fun _ _ => rfl)) (pe_ix (kix_tup (K := K)) (pv 1) pe_int (fun _ _ => rfl)) pe_dnewT ⟨by rfl, by rfl, by rfl, by rfl⟩))
  (pss_cons (ps_asg (pe_dget2 (hu_of hr) (pv 4) (pe_ix (kix_tup (K := K)) (pv 1) pe_int (fun _ _ => rfl)) (pe_tup (pa_cons (pe_dget (hu_of hr) (pv 0) pe_str (fun _ _ => rfl)) (pa_cons pe_int pa_nil))) ⟨by rfl, by rfl, by rfl, by rfl⟩) (kpg_tup (K := K) (n := 2) rfl (pgs_cons (pg_name (i := 5) sc_w_due.nd rfl (.inl rfl)) (pgs_cons (pg_name (i := 6) sc_w_due.nd rfl (.inl rfl)) pgs_nil))))
  (pss_one (ps_dput (hu_of hr) (pv 4) (pe_ix (kix_tup (K := K)) (pv 1) pe_int (fun _ _ => rfl)) (pe_tup (pa_cons (pv 5) (pa_cons (pe_callB (call_max2 rfl) (by rfl) T.n_max (by decide +kernel) (pa_cons (pv 6) (pa_cons (pe_op op_add (pe_dget (hu_of hr) (pv 0) pe_str (fun _ _ => rfl)) (pe_ix (kix_tup (K := K)) (pv 1) pe_int (fun _ _ => rfl))) pa_nil))) pa_nil))) rfl)))))) (pss_cons (ps_if (pt_not (pt_val (pe_callO G_w_is_deed (hr.mono (by decide)) rfl T.g_w_is_deed pass0 (pa_cons (pe_dget (hu_of hr) (pv 0) pe_str (fun _ _ => rfl)) (pa_cons (pv 1) pa_nil))))) (pss_one (ps_ret (pe_tup (pa_cons pe_str (pa_cons pe_str pa_nil))))) pss_nil)
  (pss_cons (ps_if (pt_cmpR op_eq (pe_ix (kix_tup (K := K)) (pv 1) pe_int (fun _ _ => rfl)) pe_str (nomark _)) (pss_one (ps_set (i := 2) sc_w_due.nd rfl (.inl rfl) (pe_callB (kcr_sum (K := K)) (by rfl) T.n_sum (by decide +kernel) (pa_cons (pe_lock (pe_lc (own := [("_law_colour", 7)]) rfl sc_w_due.nd (pi_keys (pe_dget (hu_of hr) (pv 0) pe_str (fun _ _ => rfl))) (blkOk_by (N := N_w_due) (sc := defScope s_w_due) (by decide +kernel)) (fun _ _ _ _ _ => (pg_name (i := 7) sc_w_due.nd rfl (.inl rfl))) (fun _ _ _ _ _ => pts_nil) (fun _ _ _ _ _ => (pe_callO G_w_pressed (hr.mono (by decide)) rfl T.g_w_pressed pass0 (pa_cons (pv 0) (pa_cons (pe_dget (hu_of hr) (pe_dget (hu_of hr) (pv 0) pe_str (fun _ _ => rfl)) (pv 7) (fun _ _ => rfl)) (pa_cons (pe_ix (kix_tup (K := K)) (pv 1) pe_int (fun _ _ => rfl)) pa_nil))))))) pa_nil)))) pss_nil)
  (pss_cons (ps_dput (hu_of hr) (pv 0) pe_str (pe_callO G_w_moved (hr.mono (by decide)) rfl T.g_w_moved pass0 (pa_cons (pe_dget (hu_of hr) (pv 0) pe_str (fun _ _ => rfl)) (pa_cons (pv 1) pa_nil))) rfl)
  (pss_one (ps_dput (hu_of hr) (pv 0) pe_str (pe_op op_add (pe_dget (hu_of hr) (pv 0) pe_str (fun _ _ => rfl)) (pe_ifExp (pt_cmpR op_eq (pe_ix (kix_tup (K := K)) (pv 1) pe_int (fun _ _ => rfl)) pe_str (nomark _)) (pe_ix (kix_tup (K := K)) (pv 1) pe_int (fun _ _ => rfl)) pe_int)) rfl))))))
  (pss_cons (ps_expr (kpe_bm (K := K) PySem.F.plainAttrs_list PySem.F.slot_list_append PySem.F.type_list_append mt_append (pe_dget (hu_of hr) (pv 0) pe_str (fun _ _ => rfl)) (pa_cons (pe_tup (pa_cons (pv 1) (pa_cons (pv 2) pa_nil))) pa_nil)))
  (pss_one (ps_ret (pv 2)))))), ?_⟩
    have E0 : Env F (L2.start N_w_due [.ref ow, vd]) [some (.ob (.ref ow)), some d, none, none, none, none, none, none] := env_start (.cons (.ob _) (.cons hvd .nil))
    refine Sv.seq (sv_set dv_non) sm E0 fun σ1 F1 H1 g1 E1 => ?_
    obtain ⟨⟨vsh, vst, bs, how, hsh, hst, hbs, hbk⟩, hO⟩ := hOw
    obtain ⟨hoq, hop⟩ := own_ne how hO
    have hob : ow ≠ b := ne_of how hbs (fun z => nomatch z)
    have hqb : q ≠ b := ne_of hO.d hbs (fun z => nomatch z)
    have hpb : b ∉ ps := fun z => by
      obtain ⟨tks, e⟩ := hO.at_ z
      rw [hbs] at e
      cases e
    have fr : ∀ {F' H' : Hp}, Gr [] F H F' H' → F' ow = none ∧ F' q = none ∧ F' b = none ∧ ∀ p ∈ ps, F' p = none := fun g => ⟨by rw [g.nw ow _ how rfl]; exact nFo, by rw [g.nw q _ hO.d rfl]; exact nFq, by rw [g.nw b _ hbs rfl]; exact nFb, fun p hp => by
      obtain ⟨tks, e⟩ := hO.at_ hp
      rw [g.nw p _ e rfl]
      exact nFp p hp⟩
    -- the end: one more line in the book
    have rest : ∀ (F2 H2 : Hp) (σ2 : LSt) (ρ2 : Rho) (vst2 : V) (st2 : List Tri) (now2 : Int) (cs2 : List (Str × Mp)) (ps2 : List Addr) (f : Da), Gr (ow :: q :: b :: ps) F H F2 H2 → H2 ow = some (.dK (ownK vsh vst2 now2 q b)) → Dt F2 vst2 (stD st2) → H2 b = some (.lst bs) → RepO H2 F2 q ps2 cs2 → F2 ow = none → F2 q = none → F2 b = none → (∀ p ∈ ps2, F2 p = none ∧ (p ∈ ps ∨ H p = none)) → (∀ p ∈ ps, p ∈ ps2) → Env F2 σ2 ρ2 → ρ2[0]? = some (some (.ob (.ref ow))) → ρ2[1]? = some (some d) → ρ2[2]? = some (some f) → Tl m w' L d ⟨st2, now2, cs2, L.bk ++ [.tup [d, f]]⟩ f →
        tSeq (tDrop (tBM K "list" rAppend (tDGet (tVar 0) (tC (.str "book"))) (tCons (tTup (tCons (tVar 1) (tCons (tVar 2) tNil))) tNil))) (tRet (tVar 2)) { nx := fun _ H' => Q .non H', rt := Q } σ2 H2 := fun F2 H2 σ2 ρ2 vst2 st2 now2 cs2 ps2 f g2 ho2 hst2 hb2 hO2 n2o n2q n2b n2p hsub E2 r0 r1 r2 hTl => by
      refine append_seq (d := .tup [d, f]) (fun F3 H3 g3 => dv_own r0 (g3.same _ _ ho2) own_book (.ob _)) (fun _ _ => da_cons (dv_tup (da_cons (dv_var r1) (da_cons (dv_var r2) da_nil)) (small_ rfl)) da_nil) hb2 n2b (by rw [hbk.length, sizeLine_eq]; omega) g2.fh E2 fun F3 H3 y3 g3 h3 d3 n3 E3 => ?_
      obtain ⟨v4, e4, h4⟩ := E3.at_ 2 _ r2
      refine ⟨v4, e4, ?_⟩
      have nb : ∀ {c : Addr}, c ≠ b → c ∉ [b] := fun h z => h (by simpa using z)
      have ho3 := g3.hh ow _ (nb hob) ho2
      have hq3 : H3 q = H2 q := (g3.hh q _ (nb hqb) hO2.d).trans hO2.d.symm
      have hp3 : ∀ p ∈ ps2, H3 p = H2 p := fun p hp => by
        obtain ⟨tks, e⟩ := hO2.at_ hp
        exact (g3.hh p _ (nb (ne_of e hb2 (fun z => nomatch z))) e).trans e.symm
      have hO3 := (hO2.mono g3.ff).heap hq3 hp3
      have gA : Gr (ow :: q :: b :: ps) F H F3 H3 := g2.transL g3 (fun n hn => .inl (by rw [show n = b by simpa using hn]; exact .tail _ (.tail _ (.head _)))) fun mm hmm => by
        rcases List.mem_cons.mp hmm with rfl | hmm
        · exact ⟨_, ho2, rfl⟩
        rcases List.mem_cons.mp hmm with rfl | hmm
        · exact ⟨_, hO2.d, rfl⟩
        rcases List.mem_cons.mp hmm with rfl | hmm
        · exact ⟨_, hb2, rfl⟩
        · obtain ⟨tks, e⟩ := hO2.at_ (hsub mm hmm)
          exact ⟨_, e, rfl⟩
      rcases hend with ⟨L', f', hT', k⟩ | ⟨word, hN, _⟩
      · obtain ⟨rfl, rfl⟩ := hT'.det hTl
        exact k F3 H3 ps2 v4 gA ⟨⟨vsh, vst2, bs ++ [y3], ho3, hsh.mono (g2.ff.trans g3.ff), hst2.mono g3.ff, h3, (hbk.mono (g2.ff.trans g3.ff)).append (.cons d3 .nil)⟩, hO3⟩ (by rw [g3.nw ow _ ho2 rfl]; exact n2o) (by rw [g3.nw q _ hO2.d rfl]; exact n2q) n3 (fun p hp => by
          obtain ⟨tks, e⟩ := hO2.at_ hp
          exact ⟨by rw [g3.nw p _ e rfl]; exact (n2p p hp).1, (n2p p hp).2⟩) h4
      · exact (hTl.not hN).elim
    have bad : ∀ word : Str, Nope m w' d word → ∀ F' H' v, Gr [] F H F' H' → Dt F' v (.tup [.str "word", .str word]) → Q v H' := fun word hN F' H' v g dd => by
      rcases hend with ⟨L', f', hT', k⟩ | ⟨word', hN', k⟩
      · exact (hT'.not hN).elim
      · rw [hN.det hN'] at dd
        exact k F' H' v g dd
    -- is it a drop
    refine if_seq ?_
    refine (dt_isDrop (K := K) (i := 1) rfl hd).run g1.fh E1 fun F2 H2 g2 => ?_
    have E2 := E1.mono g2.ff
    have g12 := g1.trans0 g2
    have how2 := g12.same _ _ how
    by_cases hdr : isDropD d = true
    · refine iteT' hdr ?_
      obtain ⟨x, y, z, rfl⟩ := isDrop_shape hdr
      have PP := hd.parts _ rfl
      refine Sv.seq (sv_set (dv_call (da_cons (dv_own rfl how2 own_shape (hsh.mono g12.ff)) (da_cons (dv_var rfl) da_nil)) ⟨m, w', _, x, y, z, rfl, by omega, by omega, PP x (by simp), PP y (by simp), (PP z (by simp)).ob, hd.sizes _ rfl x (by simp), rfl⟩)) g2.fh E2 fun σ3 F3 H3 g3 E3 => ?_
      have g13 := g12.trans0 g3
      refine if_seq ?_
      rcases tell_or m w' L (.tup [.str "drop", x, y, z]) with ⟨L', f, hT⟩ | ⟨word, hN⟩
      case inr =>
        have hw3 := hN.drop_inv
        rw [hw3] at E3
        refine (dt_test (dv_op (dv_var rfl) dv_non rd_notNS)).run g3.fh E3 fun F4 H4 g4 => ?_
        refine iteT' rfl ?_
        refine (dv_tup (da_cons dv_str (da_cons (d := .str word) (dv_var rfl) da_nil)) (small_ rfl)).run g4.fh (E3.mono g4.ff) fun v5 F5 H5 g5 d5 => bad word hN F5 H5 v5 ((g13.trans0 g4).trans0 g5) d5
      obtain ⟨s', c, wet, rfl, rfl, rfl, h1, h2, h3, h4, rfl, rfl⟩ := hT.drop_inv
      have hnon : dropB m w' (triD s') (.str c) (.int wet) = .non := by
        unfold dropB
        rw [if_pos h1, if_pos h2, if_pos (by show (decide (1 ≤ wet) && decide (wet ≤ 400)) = true; rw [decide_eq_true h3, decide_eq_true h4]; rfl)]
      rw [hnon] at E3
      refine (dt_test (dv_op (dv_var rfl) dv_non rd_notN0)).run g3.fh E3 fun F4 H4 g4 => ?_
      refine iteF' rfl (nextS ?_)
      have E4 := E3.mono g4.ff
      have g14 := g13.trans0 g4
      have how4 := g14.same _ _ how
      have hO4 := (hO.mono g14.ff).grow g14.same
      have hbs4 := g14.same _ _ hbs
      obtain ⟨n4o, n4q, n4b, n4p⟩ := fr g14
      have old4 : ∀ p, H4 p = none → H p = none := fun p hp => by
        cases e : H p with
        | none => rfl
        | some u => rw [g14.same _ _ e] at hp; cases hp
      -- once the colour is there
      have rest2 : ∀ (F5 H5 : Hp) (ps5 : List Addr) (cs5 : List (Str × Mp)) (i : Nat) (mp : Mp) (p5 : Addr), Gr (q :: ps) F4 H4 F5 H5 → RepO H5 F5 q ps5 cs5 → F5 q = none → (∀ p ∈ ps5, F5 p = none ∧ (p ∈ ps ∨ H4 p = none)) → (∀ p ∈ ps, p ∈ ps5) → cs5[i]? = some (c, mp) → ps5[i]? = some p5 → Gm L.now mp → Sup (spotsL m w') mp → cs5.set i (c, mpPut mp s' (dropV L.now mp s' wet)) = dropCs L.now c s' wet L.cs →
          tSeq (tAsg (tDGet2 (tVar 4) (tOp (rIxT K) (tVar 1) (tC (.int 1))) (tTup (tCons (tDGet (tVar 0) (tC (.str "tick"))) (tCons (tC (.int 0)) tNil)))) (gTup K 2 (gCons (gName 5) (gCons (gName 6) gNil)))) (sDPut (tVar 4) (tOp (rIxT K) (tVar 1) (tC (.int 1))) (tTup (tCons (tVar 5) (tCons (tCB (fun xs H Q => ∃ i j, xs = [.int i, .int j] ∧ Q (.int (if j > i then j else i)) H) (tCons (tVar 6) (tCons (tOp rAdd (tDGet (tVar 0) (tC (.str "tick"))) (tOp (rIxT K) (tVar 1) (tC (.int 3)))) tNil))) tNil)))) { nx := tSeq (tDrop (tBM K "list" rAppend (tDGet (tVar 0) (tC (.str "book"))) (tCons (tTup (tCons (tVar 1) (tCons (tVar 2) tNil))) tNil))) (tRet (tVar 2)) { nx := fun _ H' => Q .non H', rt := Q }, rt := Q } (σ3.set 4 (some (.ref p5))) H5 := fun F5 H5 ps5 cs5 i mp p5 g5 hO5 n5q n5p hsub hc hp5 hG hS hfin => by
        have E5 := (E4.mono g5.ff).set (i := 4) (Dt.ob (V.ref p5))
        have nq : ow ∉ q :: ps := fun z => (List.mem_cons.mp z).elim hoq hop
        have nb : b ∉ q :: ps := fun z => (List.mem_cons.mp z).elim (fun e => hqb e.symm) hpb
        have how5 := g5.hh ow _ nq how4
        have hbs5 := g5.hh b _ nb hbs4
        obtain ⟨tks, ht, hRt⟩ := hO5.inn i _ p5 hc hp5
        have hpm := List.mem_of_getElem? hp5
        have es : ∀ z : Option Mk2, mkD (z.getD (L.now, 0)) = .tup [.int (z.getD (L.now, 0)).1, .int (z.getD (L.now, 0)).2] := fun z => rfl
        refine Sv.seq (sv_un2 (x := .int (sinceOf L.now mp s')) (y := .int (dryOf mp s')) (dv_to (dv_getT2 (s := s') (z := mkD (L.now, 0)) (dv_var rfl) (.inl ht) hRt (dv_op (dv_var rfl) dv_int (rd_ixT (by rfl))) (dv_tup (da_cons (dv_own rfl how5 own_tick (.int _)) (da_cons dv_int da_nil)) (small_ rfl))) ?_)) g5.fh E5 fun σ6 F6 H6 g6 E6 => ?_
        · rw [orM_mk]
          show mkD ((mp s').getD (L.now, 0)) = _
          unfold sinceOf dryOf
          cases mp s' <;> rfl
        have how6 := g6.same _ _ how5
        have ht6 := g6.same _ _ ht
        have n6p5 : F6 p5 = none := by rw [g6.nw p5 _ ht rfl]; exact (n5p p5 hpm).1
        refine sDPut_run (s := s') (m := dropV L.now mp s' wet) (p := p5) (fun _ _ => dv_var rfl) (fun _ _ => dv_op (dv_var rfl) dv_int (rd_ixT (by rfl))) (dv_tup (da_cons (dv_var rfl) (da_cons (dv_cb (da_cons (dv_var rfl) (da_cons (dv_op (dv_own rfl how6 own_tick (.int _)) (dv_op (dv_var rfl) dv_int (rd_ixT (by rfl))) rd_I0) da_nil)) rc_max2) da_nil)) (small_ rfl)) ht6 (hRt.mono g6.ff) n6p5 (by have := hRt.few hS hm hw; rw [sizeLine_eq]; omega) g6.fh E6 fun F7 H7 kvs7 g7 h7 hR7 hl7 n7 E7 => ?_
        have g67 := g6.after g7
        have hq5 := hO5.d
        have hqp5 : q ≠ p5 := fun e => hO5.ne (e ▸ hpm)
        have hop5 : ow ≠ p5 := ne_of how5 ht (fun z => nomatch z)
        have hbp5 : b ≠ p5 := ne_of hbs5 ht (fun z => nomatch z)
        have n1 : ∀ {c : Addr}, c ≠ p5 → c ∉ [p5] := fun h z => h (by simpa using z)
        have hO7 : RepO H7 F7 q ps5 (cs5.set i (c, mpPut mp s' (dropV L.now mp s' wet))) := (hO5.mono g67.ff).set hc hp5 ((g67.hh q _ (n1 hqp5) hq5).trans hq5.symm) (fun b' hb' hne => by
          obtain ⟨tk', e⟩ := hO5.at_ hb'
          exact (g67.hh b' _ (n1 hne) e).trans e.symm) h7 hR7
        rw [hfin] at hO7
        have gA : Gr (ow :: q :: b :: ps) F H F7 H7 := by
          have gx : Gr (q :: ps) F4 H4 F7 H7 := g5.transL g67 (fun n hn => by
            have : n = p5 := by simpa using hn
            rw [this]
            exact (n5p p5 hpm).2.imp (fun h => .tail _ h) id) (fun mm hmm => by
            rcases List.mem_cons.mp hmm with rfl | hmm
            · exact ⟨_, hq5, rfl⟩
            · obtain ⟨tk'', e'⟩ := hO5.at_ (hsub mm hmm)
              exact ⟨_, e', rfl⟩)
          exact (g14.after gx).mono fun mm hmm => by
            rcases List.mem_cons.mp hmm with rfl | hmm
            · exact .tail _ (.head _)
            · exact .tail _ (.tail _ (.tail _ hmm))
        have how7 := g67.hh ow _ (n1 hop5) how5
        have hbs7 := g67.hh b _ (n1 hbp5) hbs5
        have n5o : F5 ow = none := by rw [g5.nw ow _ how4 rfl]; exact n4o
        have n5b : F5 b = none := by rw [g5.nw b _ hbs4 rfl]; exact n4b
        exact rest F7 H7 σ6 _ vst L.st L.now _ ps5 .non gA how7 (hst.mono gA.ff) hbs7 hO7 (by rw [g67.nw ow _ how5 rfl]; exact n5o) (by rw [g67.nw q _ hq5 rfl]; exact n5q) (by rw [g67.nw b _ hbs5 rfl]; exact n5b) (fun p hp => ⟨by
          obtain ⟨tk', e⟩ := hO5.at_ hp
          rw [g67.nw p _ e rfl]
          exact (n5p p hp).1, (n5p p hp).2.imp id (old4 p)⟩) hsub E7 rfl rfl rfl (.drop s' c wet h1 h2 h3 h4)
      refine set_seq ?_
      refine (dv_own (d := .ob (.ref q)) rfl how4 own_marks (.ob _)).run g4.fh E4 fun v5 F5 H5 g5 d5 => ?_
      rw [d5.of_ob]
      have hq5 := g5.same _ _ hO4.d
      refine ⟨q, rfl, .inl ⟨_, .inl hq5⟩, ?_⟩
      refine (dv_op (dv_var rfl) dv_int (rd_ixT (z := .str c) (by rfl))).run g5.fh (E4.mono g5.ff) fun v6 F6 H6 g6 d6 => ?_
      rw [d6.of_str]
      intro p hp
      have g46 := g5.trans0 g6
      have gp : Gr [] F6 H6 F6 (upd H6 p (.dT [])) := Gr.newM g6.fh hp
      have g47 := g46.trans0 gp
      have hO7 := (hO4.mono g47.ff).grow g47.same
      have lenK : (kvsO L.cs ps).length = L.cs.length := kvsO_len hO.len
      have n7q : F6 q = none := by rw [g46.nw q _ hO4.d rfl]; exact n4q
      have n7p : ∀ p' ∈ ps, F6 p' = none := fun p' hp' => by
        obtain ⟨tk', e⟩ := hO4.at_ hp'
        rw [g46.nw p' _ e rfl]
        exact n4p p' hp'
      refine ⟨_, .inr c, hO7.d, rfl, by rw [lenK, sizeLine_eq]; omega, fun v hv => ?_, fun hnone => ?_⟩
      · have hcm : c ∈ L.cs.map (·.1) := Classical.byContradiction fun z => by
          rw [hO.gone z] at hv
          cases hv
        obtain ⟨i, mp, hi⟩ := cs_at hcm
        obtain ⟨p0, hp0⟩ := hO.psAt hi
        rw [hO.get hi hp0] at hv
        cases hv
        have hmk := hok.mks _ (List.mem_of_getElem? hi)
        exact rest2 F6 _ ps L.cs i mp p0 g47.wide hO7 n7q (fun p' hp' => ⟨n7p p' hp', .inl hp'⟩) (fun p' hp' => hp') hi hp0 hmk.1 hmk.2 (dropCs_at hok.nd hi).symm
      · have hcm : c ∉ L.cs.map (·.1) := fun z => by
          obtain ⟨i, mp, hi⟩ := cs_at z
          obtain ⟨p0, hp0⟩ := hO.psAt hi
          rw [hO.get hi hp0] at hnone
          cases hnone
        rw [putK_new _ hnone]
        have gq : Gr [q] F6 (upd H6 p (.dT [])) F6 (upd (upd H6 p (.dT [])) q (.dK (kvsO L.cs ps ++ [(.inr c, .ref p)]))) := Gr.put gp.fh n7q
        have hq6 := g46.same _ _ hO4.d
        have hqp : q ≠ p := ne_of_none hq6 hp
        have hpps : p ∉ ps := fun z => by
          obtain ⟨tk', e⟩ := hO4.at_ z
          rw [g46.same _ _ e] at hp
          cases hp
        have hO8 : RepO (upd (upd H6 p (.dT [])) q (.dK (kvsO L.cs ps ++ [(.inr c, .ref p)]))) F6 q (ps ++ [p]) (L.cs ++ [(c, noMp)]) := hO7.add hcm hpps upd_same (fun b' hb' => upd_ne fun z => hO4.ne (z ▸ hb')) (by rw [upd_ne (Ne.symm hqp)]; exact upd_same) RepT.nil
        have hp4 : H4 p = none := by
          cases e : H4 p with
          | none => rfl
          | some u => rw [g46.same _ _ e] at hp; cases hp
        refine rest2 F6 _ (ps ++ [p]) (L.cs ++ [(c, noMp)]) L.cs.length noMp p ((g47.after gq).mono fun mm hmm => by rw [show mm = q by simpa using hmm]; exact .head _) hO8 n7q (fun p' hp' => ?_) (fun p' hp' => List.mem_append_left _ hp') ?_ ?_ Gm.empty (fun r e => (e rfl).elim) ?_
        · rcases List.mem_append.mp hp' with hp' | hp'
          · exact ⟨n7p p' hp', .inl hp'⟩
          · have : p' = p := by simpa using hp'
            rw [this]
            exact ⟨none_of g6.fh hp, .inr hp4⟩
        · rw [List.getElem?_append_right (Nat.le_refl _)]
          simp
        · rw [← hO.len, List.getElem?_append_right (Nat.le_refl _)]
          simp
        · rw [dropCs_new hcm, List.set_append_right _ _ (Nat.le_refl _)]
          simp
    · have hdr : isDropD d = false := Bool.eq_false_iff.mpr hdr
      refine iteF' hdr ?_
      refine if_seq ?_
      refine (dt_not (dt_val (dv_call (da_cons (dv_own rfl how2 own_shape (hsh.mono g12.ff)) (da_cons (dv_var rfl) da_nil)) ⟨m, w', d, rfl, hd.plain, rfl⟩))).run g2.fh E2 fun F3 H3 g3 => ?_
      have g13 := g12.trans0 g3
      by_cases hdb : deedB m d = true
      case neg =>
        refine iteT' (by rw [Bool.eq_false_iff.mpr hdb]; rfl) ?_
        refine (dv_tup (da_cons dv_str (da_cons (d := .str "deed") dv_str da_nil)) (small_ rfl)).run g3.fh (E2.mono g3.ff) fun v5 F5 H5 g5 d5 => bad "deed" (.deed d hdr (Bool.eq_false_iff.mpr hdb)) F5 H5 v5 (g13.trans0 g5) d5
      refine iteF' (by rw [hdb]; rfl) (nextS ?_)
      obtain ⟨dd, rfl, hdd⟩ := deedB_dd hdb
      have E3 := E2.mono g3.ff
      have how3 := g13.same _ _ how
      have hbs3 := g13.same _ _ hbs
      have hO3 := (hO.mono g13.ff).grow g13.same
      obtain ⟨n3o, n3q, n3b, n3p⟩ := fr g13
      have hlen : dd.ok L.st.length := by rw [hok.std.len]; exact hdd
      have moved : ∀ (F4 H4 : Hp) (σ4 : LSt) (cs4 : List (Str × Mp)), Gr (ow :: q :: b :: ps) F H F4 H4 → H4 ow = some (.dK (ownK vsh vst L.now q b)) → H4 b = some (.lst bs) → RepO H4 F4 q ps cs4 → F4 ow = none → F4 q = none → F4 b = none → (∀ p ∈ ps, F4 p = none) → Env F4 σ4 [some (.ob (.ref ow)), some (ddD dd), some (dd.found w' L), none, none, none, none, none] → cs4 = dd.cs w' L →
          tSeq (sDPut (tVar 0) (tC (.str "stand")) (tCall (spD R_moved) [] L2.E0 (tCons (tDGet (tVar 0) (tC (.str "stand"))) (tCons (tVar 1) tNil)))) (sDPut (tVar 0) (tC (.str "tick")) (tOp rAdd (tDGet (tVar 0) (tC (.str "tick"))) (tIf (tTest (tOp rEq (tOp (rIxT K) (tVar 1) (tC (.int 0))) (tC (.str "wait")))) (tOp (rIxT K) (tVar 1) (tC (.int 1))) (tC (.int 1))))) { nx := tSeq (tDrop (tBM K "list" rAppend (tDGet (tVar 0) (tC (.str "book"))) (tCons (tTup (tCons (tVar 1) (tCons (tVar 2) tNil))) tNil))) (tRet (tVar 2)) { nx := fun _ H' => Q .non H', rt := Q }, rt := Q } σ4 H4 := fun F4 H4 σ4 cs4 g4 ho4 hb4 hO4 n4o n4q n4b n4p E4 hcs => by
        have f4 := g4.ff
        refine ownPut_seq (x := stD (dd.move L.st)) (dv_call (da_cons (dv_own rfl ho4 own_stand (hst.mono f4)) (da_cons (dv_var rfl) da_nil)) ⟨L.st, dd, rfl, hlen, by rw [hok.std.len]; omega, rfl⟩) rfl ho4 n4o (by rw [sizeLine_eq]; exact Nat.le_of_ble_eq_true (by rfl)) g4.fh E4 fun F5 H5 y5 g5 h5 d5 n5 E5 => ?_
        rw [own_putStand] at h5
        have tk : Dv F5 H5 (tIf (tTest (tOp rEq (tOp (rIxT K) (tVar 1) (tC (.int 0))) (tC (.str "wait")))) (tOp (rIxT K) (tVar 1) (tC (.int 1))) (tC (.int 1))) [some (.ob (.ref ow)), some (ddD dd), some (dd.found w' L), none, none, none, none, none] (.int (dd.takes : Nat)) := by
          clear rest bad hend hdb E3 E4 E5 hd hvd hlen hcs E0 E1 E2 hdd d5
          cases dd with
          | wait t => exact dv_if (dt_test (dv_op (dv_op (dv_var rfl) dv_int (rd_ixT (z := .str "wait") (by rfl))) dv_str rd_eqS)) (fun _ => dv_op (dv_var rfl) dv_int (rd_ixT (by rfl))) (fun z => absurd z (by decide +kernel))
          | press t => exact dv_if (dt_test (dv_op (dv_op (dv_var rfl) dv_int (rd_ixT (z := .str "press") (by rfl))) dv_str rd_eqS)) (fun z => absurd z (by decide +kernel)) (fun _ => dv_to dv_int rfl)
          | swap t => exact dv_if (dt_test (dv_op (dv_op (dv_var rfl) dv_int (rd_ixT (z := .str "swap") (by rfl))) dv_str rd_eqS)) (fun z => absurd z (by decide +kernel)) (fun _ => dv_to dv_int rfl)
          | over t => exact dv_if (dt_test (dv_op (dv_op (dv_var rfl) dv_int (rd_ixT (z := .str "over") (by rfl))) dv_str rd_eqS)) (fun z => absurd z (by decide +kernel)) (fun _ => dv_to dv_int rfl)
          | about t => exact dv_if (dt_test (dv_op (dv_op (dv_var rfl) dv_int (rd_ixT (z := .str "about") (by rfl))) dv_str rd_eqS)) (fun z => absurd z (by decide +kernel)) (fun _ => dv_to dv_int rfl)
        refine ownPut (x := .int (L.now + dd.takes)) (dv_op (dv_own rfl h5 own_tick (.int _)) tk rd_I0) rfl h5 n5 (by rw [sizeLine_eq]; exact Nat.le_of_ble_eq_true (by rfl)) g5.fh E5 fun F6 H6 y6 g6 h6 d6 n6 E6 => ?_
        rw [d6.of_int, own_putTick] at h6
        have g56 := g5.then1 g6 h5 rfl
        have nn : ∀ {c : Addr}, c ≠ ow → c ∉ [ow] := fun h z => h (by simpa using z)
        have hb6 := g56.hh b _ (nn (Ne.symm hob)) hb4
        have hO6 := (hO4.mono g56.ff).heap ((g56.hh q _ (nn (Ne.symm hoq)) hO4.d).trans hO4.d.symm) fun p hp => by
          obtain ⟨tks, e⟩ := hO4.at_ hp
          exact (g56.hh p _ (nn (fun z => hop (z ▸ hp))) e).trans e.symm
        have gA := g4.transL g56 (fun n hn => .inl (by rw [show n = ow by simpa using hn]; exact .head _)) fun mm hmm => by
          rcases List.mem_cons.mp hmm with rfl | hmm
          · exact ⟨_, ho4, rfl⟩
          rcases List.mem_cons.mp hmm with rfl | hmm
          · exact ⟨_, hO4.d, rfl⟩
          rcases List.mem_cons.mp hmm with rfl | hmm
          · exact ⟨_, hb4, rfl⟩
          · obtain ⟨tks, e⟩ := hO4.at_ hmm
            exact ⟨_, e, rfl⟩
        subst hcs
        exact rest F6 H6 σ4 _ y5 (dd.move L.st) (L.now + dd.takes) (dd.cs w' L) ps (dd.found w' L) gA h6 (d5.mono g6.ff) hb6 hO6 n6 (by rw [g56.nw q _ hO4.d rfl]; exact n4q) (by rw [g56.nw b _ hb4 rfl]; exact n4b) (fun p hp => ⟨by
          obtain ⟨tks, e⟩ := hO4.at_ hp
          rw [g56.nw p _ e rfl]
          exact n4p p hp, .inl hp⟩) (fun p hp => hp) E6 rfl rfl rfl (.deed dd hdd)
      refine if_seq ?_
      cases dd with
      | press g =>
        refine (dt_test (dv_op (dv_op (dv_var rfl) dv_int (rd_ixT (z := .str "press") (by rfl))) dv_str rd_eqS)).run g3.fh E3 fun F4 H4 g4 => ?_
        refine iteT' (by decide +kernel) (set_run ?_)
        have g14 := g13.trans0 g4
        have E4 := E3.mono g4.ff
        have ho4 := g14.same _ _ how
        have hb4 := g14.same _ _ hbs
        have hO4 := (hO.mono g14.ff).grow g14.same
        obtain ⟨n4o, n4q, n4b, n4p⟩ := fr g14
        refine due_sum (g := g) g4.fh E4 ho4 (hsh.mono g14.ff) (hst.mono g14.ff) hO4 n4q n4p hok hm hw hdd hcl fun F5 H5 g5 hI5 => ?_
        have gA : Gr (ow :: q :: b :: ps) F H F5 H5 := (g14.after g5).mono fun mm hmm => .tail _ (.tail _ (.tail _ hmm))
        have hq5 := g5.hh q _ (fun z => hO.ne z) hO4.d
        have E5 := (E4.mono g5.ff).set (i := 2) (Dt.int (pressN L.now (prsOf w' L.st g) L.cs))
        exact moved F5 H5 _ (pressCs L.now (prsOf w' L.st g) L.cs) gA (g5.hh ow _ hop ho4) (g5.hh b _ hpb hb4) (hO4.of_in (hq5.trans hO4.d.symm) (by unfold pressCs; rw [List.map_map]; rfl) hI5) (by rw [g5.nw ow _ ho4 rfl]; exact n4o) (by rw [g5.nw q _ hO4.d rfl]; exact n4q) (by rw [g5.nw b _ hb4 rfl]; exact n4b) (fun p hp => by
          obtain ⟨tks, e⟩ := hO4.at_ hp
          rw [g5.nw p _ e rfl]
          exact n4p p hp) E5 rfl
      | swap g =>
        refine (dt_test (dv_op (dv_op (dv_var rfl) dv_int (rd_ixT (z := .str "swap") (by rfl))) dv_str rd_eqS)).run g3.fh E3 fun F4 H4 g4 => ?_
        refine iteF' (by decide +kernel) (nextS ?_)
        have g14 := g13.trans0 g4
        obtain ⟨n4o, n4q, n4b, n4p⟩ := fr g14
        exact moved F4 H4 _ L.cs g14.wide (g14.same _ _ how) (g14.same _ _ hbs) ((hO.mono g14.ff).grow g14.same) n4o n4q n4b n4p (E3.mono g4.ff) rfl
      | over g =>
        refine (dt_test (dv_op (dv_op (dv_var rfl) dv_int (rd_ixT (z := .str "over") (by rfl))) dv_str rd_eqS)).run g3.fh E3 fun F4 H4 g4 => ?_
        refine iteF' (by decide +kernel) (nextS ?_)
        have g14 := g13.trans0 g4
        obtain ⟨n4o, n4q, n4b, n4p⟩ := fr g14
        exact moved F4 H4 _ L.cs g14.wide (g14.same _ _ how) (g14.same _ _ hbs) ((hO.mono g14.ff).grow g14.same) n4o n4q n4b n4p (E3.mono g4.ff) rfl
      | about g =>
        refine (dt_test (dv_op (dv_op (dv_var rfl) dv_int (rd_ixT (z := .str "about") (by rfl))) dv_str rd_eqS)).run g3.fh E3 fun F4 H4 g4 => ?_
        refine iteF' (by decide +kernel) (nextS ?_)
        have g14 := g13.trans0 g4
        obtain ⟨n4o, n4q, n4b, n4p⟩ := fr g14
        exact moved F4 H4 _ L.cs g14.wide (g14.same _ _ how) (g14.same _ _ hbs) ((hO.mono g14.ff).grow g14.same) n4o n4q n4b n4p (E3.mono g4.ff) rfl
      | wait g =>
        refine (dt_test (dv_op (dv_op (dv_var rfl) dv_int (rd_ixT (z := .str "wait") (by rfl))) dv_str rd_eqS)).run g3.fh E3 fun F4 H4 g4 => ?_
        refine iteF' (by decide +kernel) (nextS ?_)
        have g14 := g13.trans0 g4
        obtain ⟨n4o, n4q, n4b, n4p⟩ := fr g14
        exact moved F4 H4 _ L.cs g14.wide (g14.same _ _ how) (g14.same _ _ hbs) ((hO.mono g14.ff).grow g14.same) n4o n4q n4b n4p (E3.mono g4.ff) rfl
end
end Bb
/-! Bb25 -/
namespace Bb
open PySem PySem.Spec PyProof.Rows L2

/-! ### alike -/
theorem likeB_refl : ∀ (n : Nat) (d : Da), d.fits n → likeB n d d = true
  | 0, d, h => by
    cases d with
    | lst xs => exact h.elim
    | tup xs => exact h.elim
    | ob v => exact h.elim
    | _ => simp [likeB, Da.isSeq, Da.isBl, Da.eqS]
  | n + 1, d, h => by
    cases d with
    | lst xs =>
      unfold likeB
      rw [decide_eq_true rfl, Bool.true_and, List.all_eq_true]
      intro k hk
      have hk' : k < xs.length := by simpa using hk
      have e : xs.getD k .non = xs[k] := by rw [List.getD_eq_getElem?_getD, List.getElem?_eq_getElem hk']; rfl
      rw [e]
      exact likeB_refl n _ (h.2 _ (List.getElem_mem hk'))
    | tup xs =>
      unfold likeB
      rw [decide_eq_true rfl, Bool.true_and, List.all_eq_true]
      intro k hk
      have hk' : k < xs.length := by simpa using hk
      have e : xs.getD k .non = xs[k] := by rw [List.getD_eq_getElem?_getD, List.getElem?_eq_getElem hk']; rfl
      rw [e]
      exact likeB_refl n _ (h.2 _ (List.getElem_mem hk'))
    | ob v => exact h.elim
    | _ => simp [likeB, Da.isSeq, Da.isBl, Da.eqS]
theorem fits_up : ∀ {n : Nat} {d : Da}, d.fits n → d.fits (n + 1)
  | 0, d, h => by
    cases d with
    | lst xs => exact h.elim
    | tup xs => exact h.elim
    | ob v => exact h.elim
    | _ => trivial
  | n + 1, d, h => by
    cases d with
    | lst xs => exact ⟨h.1, fun x hx => fits_up (h.2 x hx)⟩
    | tup xs => exact ⟨h.1, fun x hx => fits_up (h.2 x hx)⟩
    | ob v => exact h.elim
    | _ => trivial
theorem fits_le {n m : Nat} {d : Da} (h : d.fits n) (hm : n ≤ m) : d.fits m := by
  induction hm with
  | refl => exact h
  | step _ ih => exact fits_up ih
theorem fits_int {n : Nat} {i : Int} : (Da.int i).fits n := by cases n <;> trivial
theorem fits_str {n : Nat} {s : Str} : (Da.str s).fits n := by cases n <;> trivial
theorem fits_non {n : Nat} : Da.non.fits n := by cases n <;> trivial
theorem fits_tri (s : Tri) : (triD s).fits 1 := ⟨by simp, fun x hx => by
  rcases List.mem_cons.mp hx with rfl | hx
  · exact fits_int
  rcases List.mem_cons.mp hx with rfl | hx
  · exact fits_int
  rw [show x = _ by simpa using hx]
  exact fits_int⟩
theorem fits_st {st : List Tri} (h : st.length ≤ 1000) : (stD st).fits 2 := ⟨by rw [List.length_map]; omega, fun x hx => by
  obtain ⟨s, _, rfl⟩ := List.mem_map.mp hx
  exact fits_tri s⟩
theorem spL_len (mp : Mp) : (spL mp).length ≤ 24 := by
  have := List.length_filter_le (fun s => (mp s).isSome) (spotsL 4 3)
  rw [len43] at this
  exact this
theorem fits_marks (mp : Mp) : (marksD mp).fits 3 := ⟨by rw [List.length_map]; have := spL_len mp; omega, fun x hx => by
  obtain ⟨s, hs, rfl⟩ := List.mem_map.mp hx
  obtain ⟨m, hm⟩ := mem_spL hs
  rw [mkS_at hm]
  refine ⟨by simp, fun x hx => ?_⟩
  rcases List.mem_cons.mp hx with rfl | hx
  · exact fits_tri s
  rcases List.mem_cons.mp hx with rfl | hx
  · exact fits_int
  rw [show x = _ by simpa using hx]
  exact fits_int⟩
theorem fits_col (cs : List (Str × Mp)) (s : Tri) (c : Str) : (colT cs s c).fits 1 := ⟨by simp, fun x hx => by
  rcases List.mem_cons.mp hx with rfl | hx
  · exact fits_str
  rw [show x = _ by simpa using hx]
  exact fits_int⟩
theorem fits_cols {cs : List (Str × Mp)} (h : cs.length ≤ 1000) (s : Tri) : (colsD cs s).fits 2 := ⟨by
  rw [List.length_map]
  have := List.length_filter_le (fun c => (mpOf cs c s).isSome) (sortN (cs.map (·.1)))
  rw [(sortN_perm _).length_eq, List.length_map] at this
  omega, fun x hx => by
  obtain ⟨c, _, rfl⟩ := List.mem_map.mp hx
  exact fits_col cs s c⟩
/-! ### asking the book -/
section
variable {F0 B : Hp} {ρ : Rho} {K : PySem.W.Frag} {ta te : TE} {kb : Addr} {m w : Nat} {L : Stt} {past : List Stt} {nm : Str} {E : XK}
theorem dv_bk1 {f : Stt → Da} (h : Dv F0 B ta ρ (.ob (.ref kb))) (hB : BkI K B F0 kb m w L past) (hn : ∀ la vp, (bkF la vp).lookup nm = none) : Dv F0 B (tMeth (He.ga K "Book") nm (spBk1 K f) [] E ta tNil) ρ (f L) := fun σ F H a En Q k => h σ F H a En _ fun v F1 H1 g1 d1 => by
  rw [d1.of_ob]
  have hB1 := hB.mono (a.f.trans g1.ff) (a.b.trans g1.same)
  have hB2 := hB1
  obtain ⟨dx, la, vp, las, hk, _⟩ := hB2
  exact ⟨kb, dx, _, rfl, hk, hn _ _, F1, kb, m, w, L, past, rfl, g1.fh, hB1, fun v F2 H2 g2 d2 => k v F2 H2 (g1.trans0 g2) d2⟩
theorem dv_bkMarks {i : Nat} {c : Str} {mp : Mp} (h : Dv F0 B ta ρ (.ob (.ref kb))) (he : Dv F0 B te ρ (.str c)) (hB : BkI K B F0 kb m w L past) (hok : SttOk m w L) (hm : m ≤ 4) (hw : w ≤ 3) (hc : L.cs[i]? = some (c, mp)) : Dv F0 B (tMeth (He.ga K "Book") "marks" (spBkMarks K) [] E ta (tCons te tNil)) ρ (marksD mp) := fun σ F H a En Q k => h σ F H a En _ fun v F1 H1 g1 d1 => by
  rw [d1.of_ob]
  have hB1 := hB.mono (a.f.trans g1.ff) (a.b.trans g1.same)
  have hB2 := hB1
  obtain ⟨dx, la, vp, las, hk, _⟩ := hB2
  refine ⟨kb, dx, _, rfl, hk, by rfl, ?_⟩
  refine he σ F1 H1 (a.go g1) (En.mono g1.ff) _ fun u F2 H2 g2 d2 => ?_
  exact ⟨F2, kb, m, w, L, past, u, i, c, mp, rfl, g2.fh, hB1.mono g2.ff g2.same, hok, hm, hw, d2, hc, fun v F3 H3 g3 d3 => k v F3 H3 ((g1.trans0 g2).trans0 g3) d3⟩
theorem dv_bkCols {s : Tri} (h : Dv F0 B ta ρ (.ob (.ref kb))) (he : Dv F0 B te ρ (triD s)) (hB : BkI K B F0 kb m w L past) (hok : SttOk m w L) (hm : m ≤ 4) (hw : w ≤ 3) (hcl : L.cs.length < 64) (hs : s ∈ spotsL m w) : Dv F0 B (tMeth (He.ga K "Book") "colours" (spBkColours K) [] E ta (tCons te tNil)) ρ (colsD L.cs s) := fun σ F H a En Q k => h σ F H a En _ fun v F1 H1 g1 d1 => by
  rw [d1.of_ob]
  have hB1 := hB.mono (a.f.trans g1.ff) (a.b.trans g1.same)
  have hB2 := hB1
  obtain ⟨dx, la, vp, las, hk, _⟩ := hB2
  refine ⟨kb, dx, _, rfl, hk, by rfl, ?_⟩
  refine he σ F1 H1 (a.go g1) (En.mono g1.ff) _ fun u F2 H2 g2 d2 => ?_
  exact ⟨F2, kb, m, w, L, past, u, s, rfl, g2.fh, hB1.mono g2.ff g2.same, hok, hm, hw, hcl, d2, hs, fun v F3 H3 g3 d3 => k v F3 H3 ((g1.trans0 g2).trans0 g3) d3⟩
/-- str(kept), len(kept) -/
theorem dv_bkStr {f : Nat → Stt → Da} {x : Str} (h : Dv F0 B ta ρ (.ob (.ref kb))) (hB : BkI K B F0 kb m w L past) (hok : SttOk m w L) (hm : m ≤ 4) (hw : w ≤ 3) (hcl : L.cs.length ≤ 1000) (hn : L.now ≤ 1000) (hf : f m L = .str x) : Dv F0 B (tCB (rStrO (He.ga K "Book") (spBk2 K f) E) (tCons ta tNil)) ρ (.str x) := fun σ F H a En Q k => h σ F H a En _ fun v F1 H1 g1 d1 => by
  rw [d1.of_ob]
  have hB1 := hB.mono (a.f.trans g1.ff) (a.b.trans g1.same)
  have hB2 := hB1
  obtain ⟨dx, la, vp, las, hk, _⟩ := hB2
  refine ⟨kb, dx, _, rfl, hk, F1, kb, m, w, L, past, rfl, g1.fh, hB1, hok, hm, hw, hcl, hn, fun v F2 H2 g2 d2 => ?_⟩
  rw [hf] at d2
  exact ⟨x, d2.of_str, k _ F2 H2 (g1.trans0 g2) (.str _)⟩
theorem dv_bkLen {f : Nat → Stt → Da} {x : Nat} (h : Dv F0 B ta ρ (.ob (.ref kb))) (hB : BkI K B F0 kb m w L past) (hok : SttOk m w L) (hm : m ≤ 4) (hw : w ≤ 3) (hcl : L.cs.length ≤ 1000) (hn : L.now ≤ 1000) (hf : f m L = .int (x : Nat)) (hx : x < 2 ^ 62) : Dv F0 B (tCB (rLenO (He.ga K "Book") (spBk2 K f) E) (tCons ta tNil)) ρ (.int (x : Nat)) := fun σ F H a En Q k => h σ F H a En _ fun v F1 H1 g1 d1 => by
  rw [d1.of_ob]
  have hB1 := hB.mono (a.f.trans g1.ff) (a.b.trans g1.same)
  have hB2 := hB1
  obtain ⟨dx, la, vp, las, hk, _⟩ := hB2
  refine ⟨kb, dx, _, rfl, hk, F1, kb, m, w, L, past, rfl, g1.fh, hB1, hok, hm, hw, hcl, hn, fun v F2 H2 g2 d2 => ?_⟩
  rw [hf] at d2
  exact ⟨x, d2.of_int, hx, k _ F2 H2 (g1.trans0 g2) (.int _)⟩
end
/-! ### lists by spots -/
structure RepV (F : Hp) (kvs : List (List Key × V)) (f : Tri → List Da) : Prop where
  u : RepU kvs fun s => !(f s).isEmpty
  val : ∀ s, f s ≠ [] → ∃ v, valV kvs (keyT s) = some v ∧ Dt F v (.lst (f s))
section
variable {F F' H : Hp} {kvs : List (List Key × V)} {f f' : Tri → List Da}
theorem RepV.nil : RepV F [] fun _ => [] := ⟨⟨fun s => by simp, fun k hk => (nomatch hk), List.nodup_nil⟩, fun s h => (h rfl).elim⟩
theorem RepV.mono (r : RepV F kvs f) (s : Same F F') : RepV F' kvs f := ⟨r.u, fun t h => let ⟨v, a, b⟩ := r.val t h; ⟨v, a, b.mono s⟩⟩
theorem RepV.sd (r : RepV F kvs f) (s : SameD F F') : RepV F' kvs f := ⟨r.u, fun t h => let ⟨v, a, b⟩ := r.val t h; ⟨v, a, b.sd s⟩⟩
theorem RepV.not (r : RepV F kvs f) {s : Tri} (h : f s = []) : valV kvs (keyT s) = none := by
  refine valV_mem.mpr fun hm => ?_
  have := (r.u.mem s).mp hm
  rw [h] at this
  cases this
theorem RepV.put (r : RepV F kvs f) {s : Tri} {v : V} (hv : Dt F v (.lst (f' s))) (hne : f' s ≠ []) (h : ∀ t, t ≠ s → f' t = f t) : RepV F (putK kvs (keyT s) v) f' := by
  refine ⟨r.u.put s v fun t => ?_, fun t ht => ?_⟩
  · by_cases e : t = s
    · subst e
      cases z : f' t with
      | nil => exact (hne z).elim
      | cons a l => simp
    · rw [h t e]
      simp [e]
  · rw [valV_put]
    by_cases e : t = s
    · subst e
      rw [if_pos rfl]
      exact ⟨v, rfl, hv⟩
    · rw [if_neg fun z => e (keyT_inj z)]
      rw [h t e] at ht ⊢
      exact r.val t ht
end
end Bb
/-! Bb26 -/
namespace Bb
open PySem PySem.Spec PyProof.Rows L2

theorem Env.forget {F : Hp} {σ : LSt} {ρ : Rho} (e : Env F σ ρ) (i : Nat) : Env F σ (ρ.set i Option.none) := by
  refine ⟨by rw [List.length_set]; exact e.len, fun j d q => ?_⟩
  by_cases hj : i = j
  · subst hj
    have hi : i < ρ.length := by
      have := (List.getElem?_eq_some_iff.mp q).1
      rw [List.length_set] at this
      exact this
    rw [List.getElem?_set_self hi] at q
    cases q
  · rw [List.getElem?_set_ne hj] at q
    exact e.at_ j d q
section
variable {F0 B : Hp} {ρ : Rho} {td ty : TE} {pc p : Addr}
/-- the keys of a dict by spots that stands locked -/
theorem di_keysT {o : Obj} {tks : List (List Key × V)} {ss : List Tri} (h : Dv F0 B td ρ (.ob (.ref pc))) (hF : F0 pc = some (.frz o (.dT tks))) (hs : tks.map (·.1) = ss.map keyT) : DvI F0 B (iKeys td) ρ (ss.map triD) := fun σ F H a E R k => h σ F H a E _ fun v F1 H1 g1 d1 => by
  have hf1 := g1.ff _ _ (a.f _ _ hF)
  have hl : tks.length = ss.length := by
    have := congrArg List.length hs
    simpa using this
  have hx : ∀ (i : Nat) (x : Da), (ss.map triD)[i]? = some x → ∃ s, ss[i]? = some s ∧ x = triD s ∧ ∃ v, tks[i]? = some (keyT s, v) := fun i x e => by
    rw [List.getElem?_map] at e
    cases z : ss[i]? with
    | none => rw [z] at e; cases e
    | some s =>
      rw [z] at e
      cases e
      have hi : i < tks.length := by rw [hl]; exact (List.getElem?_eq_some_iff.mp z).1
      have e1 : (tks.map (·.1))[i]? = some (keyT s) := by rw [hs, List.getElem?_map, z]; rfl
      rw [List.getElem?_map, List.getElem?_eq_getElem hi] at e1
      exact ⟨s, rfl, rfl, tks[i].2, by rw [List.getElem?_eq_getElem hi]; rw [← Option.some.inj e1]⟩
  refine ⟨pc, o, d1.of_ob, .inr ⟨tks, g1.fh _ _ hf1, k _ F1 H1 g1 ⟨fun F2 H2 g2 i x e => ?_, fun F2 H2 g2 i x e v H3 hy => ?_, fun F2 H2 g2 => ?_⟩⟩⟩
  · obtain ⟨s, _, _, v, e1⟩ := hx i x e
    exact ⟨g2.fh _ _ (g2.ff _ _ hf1), (List.getElem?_eq_some_iff.mp e1).1⟩
  · obtain ⟨s, _, rfl, v1, e1⟩ := hx i x e
    obtain ⟨rfl, kk, vv, q', e2, rfl, hq⟩ := hy
    rw [e1] at e2
    cases e2
    have g := Gr.tupIn g2.fh hq
    refine ⟨_, g, ?_⟩
    exact .tup upd_same (DtA.of_ints (triL s))
  · rw [List.length_map, ← hl]
    exact ⟨g2.fh _ _ (g2.ff _ _ hf1), Nat.le_refl _⟩
/-- my_spots.get(spot, []) -/
theorem dv_getV {kvs : List (List Key × V)} {f : Tri → List Da} {s : Tri} (h : Dv F0 B td ρ (.ob (.ref p))) (hB : B p = some (.dT kvs)) (hR : RepV F0 kvs f) (hy : Dv F0 B ty ρ (triD s)) : Dv F0 B (tDGet2 td ty (tLst tNil)) ρ (.lst (f s)) := fun σ F H a E Q k => h σ F H a E _ fun v F1 H1 g1 d1 => by
  have h1 : Rd H1 p (.dT kvs) := Rd.same (Rd.same (.inl hB) a.b) g1.same
  refine ⟨p, d1.of_ob, .inr ⟨kvs, h1⟩, hy σ F1 H1 (a.go g1) (E.mono g1.ff) _ fun u F2 H2 g2 d2 => ?_⟩
  refine (dv_lst da_nil (Nat.zero_le _) : Dv F0 B (tLst tNil) ρ (.lst [])) σ F2 H2 ((a.go g1).go g2) ((E.mono g1.ff).mono g2.ff) _ fun w F3 H3 g3 d3 => ?_
  have h3 : Rd H3 p (.dT kvs) := Rd.same (Rd.same h1 g2.same) g3.same
  refine ⟨_, dget_tri h3 (d2.mono g3.ff) g3.fh, k _ F3 H3 ((g1.trans0 g2).trans0 g3) ?_⟩
  have f3 : Same F0 F3 := a.f.trans ((g1.trans0 g2).trans0 g3).ff
  by_cases e : f s = []
  · rw [hR.not e, e]
    exact d3
  · obtain ⟨v, e1, hv⟩ := hR.val s e
    rw [e1]
    exact hv.mono f3
end
/-! ### what my_spots is to hold -/
def fI (cs : List (Str × Mp)) (i : Nat) (s : Tri) : List Da := (((sortN (cs.map (·.1))).take i).filter fun c => (mpOf cs c s).isSome).map (colT cs s)
theorem fI_zero (cs : List (Str × Mp)) : fI cs 0 = fun _ => [] := rfl
theorem fI_full (cs : List (Str × Mp)) (s : Tri) : Da.lst (fI cs (sortN (cs.map (·.1))).length s) = colsD cs s := by
  unfold fI colsD
  rw [List.take_length]
theorem fI_succ {cs : List (Str × Mp)} {i : Nat} {c : Str} (h : (sortN (cs.map (·.1)))[i]? = some c) (s : Tri) : fI cs (i + 1) s = fI cs i s ++ (if (mpOf cs c s).isSome = true then [colT cs s c] else []) := by
  unfold fI
  rw [filter_snoc (fun c => (mpOf cs c s).isSome) h]
  by_cases e : (mpOf cs c s).isSome = true
  · rw [if_pos e, if_pos e, List.map_append]
    rfl
  · rw [if_neg e, if_neg e, List.append_nil]
theorem fI_any {cs : List (Str × Mp)} (nd : (cs.map (·.1)).Nodup) (s : Tri) : (!(fI cs (sortN (cs.map (·.1))).length s).isEmpty) = anyB cs s := by
  rw [Bool.eq_iff_iff]
  unfold fI anyB
  rw [List.take_length, List.any_eq_true]
  constructor
  · intro h
    have hne : ((sortN (cs.map (·.1))).filter fun c => (mpOf cs c s).isSome) ≠ [] := fun z => by
      rw [z] at h
      cases h
    obtain ⟨c, hc⟩ := List.exists_mem_of_ne_nil _ hne
    obtain ⟨h1, h2⟩ := List.mem_filter.mp hc
    obtain ⟨i, mp, hi⟩ := cs_at ((sortN_perm _).mem_iff.mp h1)
    rw [mpOf_at nd hi] at h2
    exact ⟨_, List.mem_of_getElem? hi, h2⟩
  · rintro ⟨x, h1, h2⟩
    obtain ⟨i, hi⟩ := List.mem_iff_getElem?.mp h1
    have hm : x.1 ∈ (sortN (cs.map (·.1))).filter fun c => (mpOf cs c s).isSome := List.mem_filter.mpr ⟨(sortN_perm _).mem_iff.mpr (List.mem_map.mpr ⟨x, h1, rfl⟩), by rw [mpOf_at nd hi]; exact h2⟩
    cases z : ((sortN (cs.map (·.1))).filter fun c => (mpOf cs c s).isSome) with
    | nil => rw [z] at hm; cases hm
    | cons a l => rfl
theorem fI_len (cs : List (Str × Mp)) (i : Nat) (s : Tri) : (fI cs i s).length ≤ cs.length := by
  unfold fI
  rw [List.length_map]
  refine Nat.le_trans (List.length_filter_le _ _) ?_
  rw [List.length_take, (sortN_perm _).length_eq, List.length_map]
  omega
end Bb
/-! Bb27 -/
namespace Bb
open PySem PySem.Spec PyProof.Rows L2
abbrev N_w_right : List Str := ["_law_own", "_law_kept", "_law_my_spots", "_law_colour", "_law_spot_here", "_law_text", "_law_some"]
abbrev P_w_right : List Str := ["_law_own", "_law_kept"]
theorem sc_w_right : FnScope N_w_right P_w_right (defScope s_w_right) := ⟨rfl, rfl, rfl, by decide +kernel, rfl, by decide +kernel, by decide +kernel⟩
theorem b_w_right : BindsD d_w_right P_w_right := fun _ _ _ _ _ _ us hl => match us, hl with | [_, _], _ => rfl

theorem if_run {c : TT} {t u : TS} {D : Ends} {σ : LSt} {H : Hp} (h : c σ H fun b H1 => if b = true then t D σ H1 else u D σ H1) : tIfS c t u D σ H := h
theorem rc_strI {F0 B : Hp} {i : Int} (h : i.natAbs.log2 < 1920) : RC F0 B (fun xs H Q => ∃ i : Int, xs = [V.int i] ∧ i.natAbs.log2 < 1920 ∧ Q (.str (toString i)) H) [.int i] (.str (toString i)) := rc_val fun F H vs a hd Q q => by
  obtain ⟨v, rfl, h1⟩ := hd.sole
  rw [h1.of_int]
  exact ⟨i, rfl, h, q _ (.str _)⟩
theorem fI_in {cs : List (Str × Mp)} (nd : (cs.map (·.1)).Nodup) {i : Nat} {t : Tri} (h : (!(fI cs i t).isEmpty) = true) : ∃ x ∈ cs, (x.2 t).isSome = true := by
  unfold fI at h
  have hne : (((sortN (cs.map (·.1))).take i).filter fun c => (mpOf cs c t).isSome) ≠ [] := fun z => by
    rw [z] at h
    cases h
  obtain ⟨c, hc⟩ := List.exists_mem_of_ne_nil _ hne
  obtain ⟨h1, h2⟩ := List.mem_filter.mp hc
  obtain ⟨j, mp, hj⟩ := cs_at ((sortN_perm _).mem_iff.mp (List.mem_of_mem_take h1))
  rw [mpOf_at nd hj] at h2
  exact ⟨_, List.mem_of_getElem? hj, h2⟩
def spRight (K : PySem.W.Frag) : Sp := fun vs H Q _ => ∃ (F : Hp) (ow kb : Addr) (m w : Nat) (L : Stt) (past : List Stt), vs = [.ref ow, .ref kb] ∧ Same F H ∧ OwF F ow m w L ∧ BkI K H F kb m w L past ∧ SttOk m w L ∧ m ≤ 4 ∧ w ≤ 3 ∧ L.cs.length < 64 ∧ L.now ≤ 1000 ∧ L.bk.length ≤ 1000 ∧ (∀ e ∈ L.bk, e.fits 7) ∧
  ∀ v F' H', Gr [] F H F' H' → Dt F' v (.bl true) → Q v H'
section
variable {P : Program} {w : World} {K : PySem.W.Frag} {mg : Str → Option Value} {base : Heap}
theorem ok_w_right (T : Txt K mg) (G_w_like : ∀ n : Nat, Ok P w K mg base CX0 (n + 1) d_w_like P_w_like (spD (R_like n))) (G_bk_book : Ok P w K mg base CX0 1 d_bk_book P_bk_book (spBk1 K fun L => .lst L.bk)) (G_bk_tick : Ok P w K mg base CX0 1 d_bk_tick P_bk_tick (spBk1 K fun L => .int L.now)) (G_bk_stand : Ok P w K mg base CX0 1 d_bk_stand P_bk_stand (spBk1 K fun L => stD L.st))
    (G_bk_marks : Ok P w K mg base CX0 3 d_bk_marks P_bk_marks (spBkMarks K)) (G_w_spots : Ok P w K mg base CX0 1 d_w_spots P_w_spots (spD R_spots)) (G_bk_colours : Ok P w K mg base CX0 3 d_bk_colours P_bk_colours (spBkColours K))
    (G_bk_len : Ok P w K mg base CX0 2 d_bk_len P_bk_len (spBk2 K fun _ L => .int ((spotsN L.cs : Nat) : Int))) (G_bk_str : Ok P w K mg base CX0 2 d_bk_str P_bk_str (spBk2 K fun m L => .str (textS L.now m (spotsN L.cs) L.cs.length))) : Ok P w K mg base CX0 11 d_w_right P_w_right (spRight K) := by
  refine okN T.f_w_right sc_w_right b_w_right (fun vs H Q E h => ?_) fun cdv A outer s H vs Q E hr h => ?_
  · obtain ⟨_, _, _, _, _, _, _, rfl, _⟩ := h
    rfl
  · obtain ⟨F, ow, kb, m, w', L, past, rfl, sm, ⟨q, b, ps, hOw⟩, hB, hok, hm, hw, hcl, hnow, hbl, hbf, k⟩ := h
    refine ⟨_, (pss_cons (ps_if (pt_not (pt_val (pe_callO (G_w_like 9) (hr.mono (by decide)) rfl T.g_w_like pass0 (pa_cons (pe_lst (pa_cons (pe_methO0 (pv 1) T.c_Book T.m_bk_stand G_bk_stand (hr.mono (by decide)) pass0) (pa_cons (pe_methO0 (pv 1) T.c_Book T.m_bk_tick G_bk_tick (hr.mono (by decide)) pass0) (pa_cons (pe_methO0 (pv 1) T.c_Book T.m_bk_book G_bk_book (hr.mono (by decide)) pass0) pa_nil)))) (pa_cons (pe_lst (pa_cons (pe_dget (hu_of hr) (pv 0) pe_str (fun _ _ => rfl)) (pa_cons (pe_dget (hu_of hr) (pv 0) pe_str (fun _ _ => rfl)) (pa_cons (pe_dget (hu_of hr) (pv 0) pe_str (fun _ _ => rfl)) pa_nil)))) pa_nil))))) (pss_one (ps_ret pe_bl)) pss_nil)
  (pss_cons (ps_set (i := 2) sc_w_right.nd rfl (.inl rfl) pe_dnewT)
  (pss_cons (ps_for PassesOwn.never rfl (kpi_list (K := K) (pe_callB (call_sortedD rfl) (by rfl) T.n_sorted (by decide +kernel) (pa_cons (pe_dget (hu_of hr) (pv 0) pe_str (fun _ _ => rfl)) pa_nil))) (pg_name (i := 3) sc_w_right.nd rfl (.inl rfl)) (pss_cons (ps_set (i := 6) sc_w_right.nd rfl (.inr rfl) (pe_dget (hu_of hr) (pe_dget (hu_of hr) (pv 0) pe_str (fun _ _ => rfl)) (pv 3) (fun _ _ => rfl)))
  (pss_cons (ps_if (pt_not (pt_val (pe_callO (G_w_like 9) (hr.mono (by decide)) rfl T.g_w_like pass0 (pa_cons (pe_methO (pv 1) T.c_Book T.m_bk_marks G_bk_marks (hr.mono (by decide)) pass0 (pa_cons (pv 3) pa_nil)) (pa_cons (pe_lc (own := [("_law_spot_here", 4)]) rfl sc_w_right.nd (kpi_list (K := K) (pe_callB (call_sortedDT rfl (d := 3) (B := 64) (by decide)) (by rfl) T.n_sorted (by decide +kernel) (pa_cons (pv 6) pa_nil))) (blkOk_by (N := N_w_right) (sc := defScope s_w_right) (by decide +kernel)) (fun _ _ _ _ _ => (pg_name (i := 4) sc_w_right.nd rfl (.inl rfl))) (fun _ _ _ _ _ => pts_nil) (fun _ _ _ _ _ => (pe_op (kop_catA (K := K)) (pe_tup (pa_cons (pv 4) pa_nil)) (pe_dget (hu_of hr) (pv 6) (pv 4) (fun _ _ => rfl))))) pa_nil))))) (pss_one (ps_ret pe_bl)) pss_nil)
  (pss_one (ps_lock (ps_for PassesOwn.never rfl (pi_keys (pv 6)) (pg_name (i := 4) sc_w_right.nd rfl (.inl rfl)) (pss_one (ps_dput (hu_of hr) (pv 2) (pv 4) (pe_op op_cat (pe_dget2 (hu_of hr) (pv 2) (pv 4) (pe_lst pa_nil) ⟨by rfl, by rfl, by rfl, by rfl⟩) (pe_lst (pa_cons (pe_tup (pa_cons (pv 3) (pa_cons (pe_ix (kix_tup (K := K)) (pe_dget (hu_of hr) (pv 6) (pv 4) (fun _ _ => rfl)) pe_int (fun _ _ => rfl)) pa_nil))) pa_nil))) rfl))))))))
  (pss_cons (ps_for PassesOwn.never rfl (kpi_list (K := K) (pe_callO G_w_spots (hr.mono (by decide)) rfl T.g_w_spots pass0 (pa_cons (pe_dget (hu_of hr) (pv 0) pe_str (fun _ _ => rfl)) pa_nil))) (pg_name (i := 4) sc_w_right.nd rfl (.inl rfl)) (pss_one (ps_if (pt_not (pt_val (pe_callO (G_w_like 9) (hr.mono (by decide)) rfl T.g_w_like pass0 (pa_cons (pe_methO (pv 1) T.c_Book T.m_bk_colours G_bk_colours (hr.mono (by decide)) pass0 (pa_cons (pv 4) pa_nil)) (pa_cons (pe_dget2 (hu_of hr) (pv 2) (pv 4) (pe_lst pa_nil) ⟨by rfl, by rfl, by rfl, by rfl⟩) pa_nil))))) (pss_one (ps_ret pe_bl)) pss_nil)))
  (pss_cons (ps_set (i := 5) sc_w_right.nd rfl (.inl rfl) (pe_op op_add_str (pe_op op_add_str (pe_op op_add_str pe_str (pe_callTy call_str_int (by rfl) T.n_str (by decide +kernel) (pa_cons (pe_dget (hu_of hr) (pv 0) pe_str (fun _ _ => rfl)) pa_nil))) pe_str) (pe_callTy call_str_int (by rfl) T.n_str (by decide +kernel) (pa_cons (pe_ix (kix_tup (K := K)) (pe_dget (hu_of hr) (pv 0) pe_str (fun _ _ => rfl)) pe_int (fun _ _ => rfl)) pa_nil))))
  (pss_cons (ps_set (i := 5) sc_w_right.nd rfl (.inl rfl) (pe_op op_add_str (pe_op op_add_str (pe_op op_add_str (pe_op op_add_str (pv 5) pe_str) (pe_callTy call_str_int (by rfl) T.n_str (by decide +kernel) (pa_cons (pe_callB call_len_dT (by rfl) T.n_len (by decide +kernel) (pa_cons (pv 2) pa_nil)) pa_nil))) pe_str) (pe_callTy call_str_int (by rfl) T.n_str (by decide +kernel) (pa_cons (pe_callB call_lenD (by rfl) T.n_len (by decide +kernel) (pa_cons (pe_dget (hu_of hr) (pv 0) pe_str (fun _ _ => rfl)) pa_nil)) pa_nil))))
  (pss_one (ps_ret (pe_and (pe_cmpR op_eq (pe_callTy (call_strO G_bk_str T.m_bk_str.at_ T.m_bk_str.fn (hr.mono (by decide)) pass0) (by rfl) T.n_str (by decide +kernel) (pa_cons (pv 1) pa_nil)) (pv 5) (nomark _)) (pe_one (pe_cmpR op_eq (pe_callB (call_lenO G_bk_len T.m_bk_len.at_ T.m_bk_len.fn (hr.mono (by decide)) pass0) (by rfl) T.n_len (by decide +kernel) (pa_cons (pv 1) pa_nil)) (pe_callB call_len_dT (by rfl) T.n_len (by decide +kernel) (pa_cons (pv 2) pa_nil)) (nomark _)))))))))))), ?_⟩
    obtain ⟨⟨vsh, vst, bs, how, hsh, hst, hb0, hbs⟩, hO⟩ := hOw
    have E0 : Env F (L2.start N_w_right [.ref ow, .ref kb]) [some (.ob (.ref ow)), some (.ob (.ref kb)), none, none, none, none, none] := env_start (.cons (.ob _) (.cons (.ob _) .nil))
    generalize L2.start N_w_right [V.ref ow, .ref kb] = σ0 at E0 ⊢
    have hcl' : L.cs.length ≤ 1000 := by omega
    have fitB : (Da.lst L.bk).fits 8 := ⟨by omega, hbf⟩
    have fitT : (Da.lst [stD L.st, .int L.now, .lst L.bk]).fits 9 := ⟨by simp, fun x hx => by
      rcases List.mem_cons.mp hx with rfl | hx
      · exact fits_le (fits_st (by rw [hok.std.len]; omega)) (by decide)
      rcases List.mem_cons.mp hx with rfl | hx
      · exact fits_int
      rw [show x = _ by simpa using hx]
      exact fitB⟩
    -- the stand, the tick and the book
    refine if_seq ?_
    refine (dt_not (dt_val (dv_call (da_cons (dv_lst (da_cons (dv_bk1 (f := fun L => stD L.st) (dv_var rfl) hB (fun _ _ => rfl)) (da_cons (dv_bk1 (f := fun L => .int L.now) (dv_var rfl) hB (fun _ _ => rfl)) (da_cons (dv_bk1 (f := fun L => .lst L.bk) (dv_var rfl) hB (fun _ _ => rfl)) da_nil))) (small_ rfl)) (da_cons (dv_lst (da_cons (dv_own rfl (sm _ _ how) own_stand hst) (da_cons (dv_own rfl (sm _ _ how) own_tick (.int _)) (da_cons (dv_own rfl (sm _ _ how) own_book (.lst hb0 hbs)) da_nil))) (small_ rfl)) da_nil)) ⟨_, _, rfl, fitT, fitT, rfl⟩))).run sm E0 fun F1 H1 g1 => ?_
    refine iteF' (by rw [likeB_refl 9 _ fitT]; rfl) (nextS ?_)
    have E1 := E0.mono g1.ff
    -- my spots
    refine set_seq ?_
    intro p hp
    have gP : Gr [] F1 H1 F1 (upd H1 p (.dT [])) := Gr.newM g1.fh hp
    have g2 := g1.trans0 gP
    have np : F1 p = none := none_of g1.fh hp
    have hpn : H p = none := by
      cases e : H p with
      | none => rfl
      | some u => rw [g1.same _ _ e] at hp; cases hp
    have E2 : Env F1 (σ0.set 2 (some (.ref p))) [some (.ob (.ref ow)), some (.ob (.ref kb)), some (.ob (.ref p)), none, none, none, none] := E1.set (.ob _)
    have hB2 : BkI K (upd H1 p (.dT [])) F1 kb m w' L past := hB.mono g2.ff g2.same
    have hp2 : upd H1 p (.dT []) p = some (.dT []) := upd_same
    generalize upd H1 p (.dT []) = H2 at gP g2 hB2 hp2 ⊢
    show tSeq (tFor _ _ _) _ _ _ _
    generalize σ0.set 2 (some (.ref p)) = σ2 at E2 ⊢
    have how2 := g2.fh _ _ (g2.ff _ _ how)
    have hO2 := hO.mono g2.ff |>.grow g2.ff
    have hq2 := g2.fh _ _ hO2.d
    have lenN : (sortN (L.cs.map (·.1))).length = L.cs.length := by rw [(sortN_perm _).length_eq, List.length_map]
    let ρ0 : Rho := [some (.ob (.ref ow)), some (.ob (.ref kb)), some (.ob (.ref p)), none, none, none, none]
    refine forSeq (fun i σ' F' H' => Gr [p] F1 H2 F' H' ∧ Env F' σ' ρ0 ∧ F' p = none ∧ ∃ kvs, H' p = some (.dT kvs) ∧ RepV F' kvs (fI L.cs i)) (di_list (dv_sortN (dv_own rfl how2 own_marks (.ob _)) (.inl hq2) (kvsO_keys hO2.len) (by rw [List.length_map]; exact hcl))) gP.fh E2 (fun F3 H3 g3 => ⟨g3.wide, E2.mono g3.ff, by rw [g3.nw p _ hp2 rfl]; exact np, [], g3.same _ _ hp2, RepV.nil⟩) (fun i x hx σ3 F3 H3 s1 s2 hI v F4 H4 g4 d4 Nx hNx => ?_) (fun σ9 F9 H9 s1 s2 hI => ?_)
    · obtain ⟨gI, EI, nI, kvs, hpI, hRI⟩ := hI
      rw [List.getElem?_map] at hx
      cases hz : (sortN (L.cs.map (·.1)))[i]? with
      | none => rw [hz] at hx; cases hx
      | some c =>
      rw [hz] at hx
      cases hx
      obtain ⟨j, mp, hj⟩ := cs_at ((sortN_perm _).mem_iff.mp (List.mem_of_getElem? hz))
      have em : mpOf L.cs c = mp := mpOf_at hok.nd hj
      have hmk := hok.mks _ (List.mem_of_getElem? hj)
      show tSeq _ _ _ _ _
      have sF4 : Same F F4 := g2.ff.trans (s1.trans g4.ff)
      have E4 : Env F4 (σ3.set 3 (some v)) [some (.ob (.ref ow)), some (.ob (.ref kb)), some (.ob (.ref p)), some (.str c), none, none, none] := (EI.mono g4.ff).set (i := 3) d4
      generalize σ3.set 3 (some v) = σ4 at E4 ⊢
      have how4 := g4.fh _ _ (sF4 _ _ how)
      have hO4 := hO.mono sF4 |>.grow sF4
      obtain ⟨p0, hp0⟩ := hO4.psAt hj
      obtain ⟨tks, ht, hRt⟩ := hO4.inn j _ p0 hj hp0
      have g14 : Gr [p] F1 H2 F4 H4 := gI.transL (g4.wide (M := [p])) (fun n hn => .inl hn) fun mm hmm => by rw [show mm = p by simpa using hmm]; exact ⟨_, hpI, rfl⟩
      have hp4 := g4.same _ _ hpI
      have np4 : F4 p = none := by rw [g4.nw p _ hpI rfl]; exact nI
      refine Sv.seq (sv_set (d := .ob (.ref p0)) (dv_getK (dv_own rfl how4 own_marks (.ob _)) (.inl (g4.fh _ _ hO4.d)) (dv_var rfl) (hO4.get hj hp0) (.ob _))) g4.fh E4 fun σ5 F5 H5 g5 E5 => ?_
      have hB5 : BkI K H5 F5 kb m w' L past := by
        obtain ⟨dx, la, vp, las, hk, hl, hvp, hn, hi⟩ := hB2
        have hkp : kb ≠ p := ne_of hk hp2 (fun z => nomatch z)
        have s15 : Same F1 F5 := g14.ff.trans g5.ff
        exact ⟨dx, la, vp, las, g5.same _ _ (g14.hh kb _ (by simpa using hkp) hk), hl.mono s15, hvp.mono s15, hn, fun i a L' h1 h2 => (hi i a L' h1 h2).mono s15⟩
      have ht5 := g5.fh _ _ (g5.ff _ _ ht)
      have hRt5 := hRt.mono g5.ff
      have fm := fits_le (fits_marks mp) (show 3 ≤ 9 by decide)
      refine if_seq ?_
      refine (dt_not (dt_val (dv_call (da_cons (dv_bkMarks (dv_var rfl) (dv_var rfl) hB5 hok hm hw hj) (da_cons (d := marksD mp) (dv_lcM (spL mp) triD (mkS mp) (di_list (dv_sortT (dv_var rfl) ht5 hRt5 hmk.2 hm hw)) (by have := spL_len mp; rw [sizeLine_eq]; omega) fun x hx => by
        obtain ⟨mk, hmk'⟩ := mem_spL hx
        refine ⟨_, bd_name, ?_⟩
        rw [mkS_at hmk']
        exact dv_op (dv_tup (da_cons (dv_var rfl) da_nil) (small_ rfl)) (dv_getT (dv_var rfl) (.inl ht5) hRt5 (dv_var rfl) hmk') (rd_catT (small_ rfl))) da_nil)) ⟨_, _, rfl, fm, fm, rfl⟩))).run g5.fh E5 fun F6 H6 g6 => ?_
      refine iteF' (by rw [likeB_refl 9 _ fm]; rfl) (nextS ?_)
      have E6 := E5.mono g6.ff
      have g46 := g5.trans0 g6
      have ht6 := g46.ff _ _ ht
      have hRt6 := hRt.mono g46.ff
      have hp6 := g46.same _ _ hp4
      have np6 : F6 p = none := by rw [g46.nw p _ hp4 rfl]; exact np4
      have hRI6 := (hRI.mono g4.ff).mono g46.ff
      have hpp : p ≠ p0 := fun z => by rw [z, ht6] at np6; cases np6
      obtain ⟨ss, hss, ndS, hmS⟩ := hRt6.spots
      refine ⟨p0, .dT tks, g6.fh _ _ ht6, trivial, fun od => ?_⟩
      have sl := lock_same (d := p0) (o := .frz od (.dT tks)) g6.fh
      have sd0 : SameD F6 (upd F6 p0 (.frz od (.dT tks))) := lock_sd fun o e => by rw [ht6] at e; cases e; rfl
      have hlp : upd F6 p0 (.frz od (.dT tks)) p0 = some (.frz od (.dT tks)) := upd_same
      have npl : upd F6 p0 (.frz od (.dT tks)) p = none := by rw [upd_ne hpp]; exact np6
      have hpl : upd H6 p0 (.frz od (.dT tks)) p = some (.dT kvs) := by rw [upd_ne hpp]; exact hp6
      have El := E6.sd sd0
      let gJ : Nat → Tri → List Da := fun n s => fI L.cs i s ++ (if s ∈ ss.take n then [colT L.cs s c] else [])
      have gJ0 : gJ 0 = fI L.cs i := funext fun s => by show _ ++ (if s ∈ ss.take 0 then _ else _) = _; simp
      refine forS (fun n σ' F' H' => Gr [p] (upd F6 p0 (.frz od (.dT tks))) (upd H6 p0 (.frz od (.dT tks))) F' H' ∧ Env F' σ' [some (.ob (.ref ow)), some (.ob (.ref kb)), some (.ob (.ref p)), some (.str c), none, none, some (.ob (.ref p0))] ∧ F' p = none ∧ ∃ kvs, H' p = some (.dT kvs) ∧ RepV F' kvs (gJ n)) (di_keysT (dv_var rfl) hlp hss) sl El (fun F7 H7 g7 => ⟨g7.wide, El.mono g7.ff, by rw [g7.nw p _ hpl rfl]; exact npl, kvs, g7.same _ _ hpl, by rw [gJ0]; exact (hRI6.sd sd0).mono g7.ff⟩) (fun n x hx σ7 F7 H7 s3 s4 hJ v8 F8 H8 g8 d8 Nx8 hNx8 => ?_) (fun σ9 F9 H9 s3 s4 hJ => ?_)
      · obtain ⟨gI8, EI8, nI8, kvs8, hp8, hR8⟩ := hJ
        rw [List.getElem?_map] at hx
        cases hzs : ss[n]? with
        | none => rw [hzs] at hx; cases hx
        | some sp =>
        rw [hzs] at hx
        cases hx
        show sDPut _ _ _ _ _ _
        have E8 : Env F8 (σ7.set 4 (some v8)) [some (.ob (.ref ow)), some (.ob (.ref kb)), some (.ob (.ref p)), some (.str c), some (triD sp), none, some (.ob (.ref p0))] := (EI8.mono g8.ff).set (i := 4) d8
        generalize σ7.set 4 (some v8) = σ8 at E8 ⊢
        have hin : sp ∈ ss := List.mem_of_getElem? hzs
        obtain ⟨mk, hmk2⟩ : ∃ mk, mp sp = some mk := by
          cases e : mp sp with
          | none => exact ((hmS sp).mp hin e).elim
          | some mk => exact ⟨mk, rfl⟩
        have hl8 : H8 p0 = some (.frz od (.dT tks)) := g8.fh _ _ (g8.ff _ _ (s3 _ _ hlp))
        have hR88 := hR8.mono g8.ff
        have eT : colT L.cs sp c = .tup [.str c, .int mk.2] := by unfold colT; rw [em, hmk2]; rfl
        have lJ : (gJ n sp).length ≤ 1001 := by
          show (fI L.cs i sp ++ _).length ≤ _
          rw [List.length_append]
          have := fI_len L.cs i sp
          have h2 : (if sp ∈ ss.take n then [colT L.cs sp c] else []).length ≤ 1 := by split <;> simp
          omega
        have hv8 : Dv F8 H8 _ [some (.ob (.ref ow)), some (.ob (.ref kb)), some (.ob (.ref p)), some (.str c), some (triD sp), none, some (.ob (.ref p0))] (.lst (gJ n sp ++ [.tup [.str c, .int mk.2]])) := dv_op (dv_getV (td := tVar 2) (ty := tVar 4) (dv_var rfl) (g8.same _ _ hp8) hR88 (dv_var rfl)) (dv_lst (da_cons (dv_tup (da_cons (dv_var (i := 3) rfl) (da_cons (dv_op (dv_getT (td := tVar 6) (ty := tVar 4) (dv_var rfl) (.inr ⟨od, hl8⟩) (((hRt6.sd sd0).mono s3).mono g8.ff) (dv_var rfl) hmk2) (dv_int (i := 1)) (rd_ixT (K := K) (by rfl))) da_nil)) (small_ rfl)) da_nil) (small_ rfl)) (rd_catL (by rw [sizeLine_eq]; simp; omega))
        refine hv8.run g8.fh E8 fun y F9 H9 g9 d9 => ?_
        have E9 := E8.mono g9.ff
        obtain ⟨v2, e2, h2⟩ := E9.at_ 2 _ rfl
        obtain ⟨v4, e4, h4⟩ := E9.at_ 4 _ rfl
        rw [h2.of_ob] at e2
        obtain ⟨bb, rfl, hbb⟩ := dt_tri h4 g9.fh
        have g89 := g8.trans0 g9
        have hp9 := g89.same _ _ hp8
        have np9 : F9 p = none := by rw [g89.nw p _ hp8 rfl]; exact nI8
        have sup8 : ∀ t, (!(gJ n t).isEmpty) = true → t ∈ spotsL 4 3 := fun t h => by
          by_cases ht8 : t ∈ ss.take n
          · exact spots_sub hm hw (hmk.2 t ((hmS t).mp (List.mem_of_mem_take ht8)))
          · have e : gJ n t = fI L.cs i t := by show _ ++ (if t ∈ ss.take n then _ else _) = _; rw [if_neg ht8, List.append_nil]
            rw [e] at h
            obtain ⟨x, h1, h2⟩ := fI_in hok.nd h
            exact spots_sub hm hw ((hok.mks x h1).2 t fun z => by rw [z] at h2; cases h2)
        have hlen8 : kvs8.length < sizeLine := by
          have := hR8.u.length (spotsL 4 3) nd43 sup8
          have h3 := List.length_filter_le (fun s => !(gJ n s).isEmpty) (spotsL 4 3)
          rw [len43] at h3
          rw [sizeLine_eq]
          omega
        have gP9 : Gr [p] F9 H9 F9 (upd H9 p (.dT (putK kvs8 (keyT sp) y))) := Gr.put g9.fh np9
        have hsn : ss.take (n + 1) = ss.take n ++ [sp] := by
          rw [List.take_succ_eq_append_getElem (List.getElem?_eq_some_iff.mp hzs).1, (List.getElem?_eq_some_iff.mp hzs).2]
        have hnot : sp ∉ ss.take n := fun z => by
          obtain ⟨j', hj'⟩ := List.mem_iff_getElem?.mp z
          have hjn : j' < n := by
            have := (List.getElem?_eq_some_iff.mp hj').1
            rw [List.length_take] at this
            omega
          rw [List.getElem?_take_of_lt hjn] at hj'
          have := (List.getElem?_inj (List.getElem?_eq_some_iff.mp hj').1 ndS).mp (hj'.trans hzs.symm)
          omega
        have eS : gJ (n + 1) sp = gJ n sp ++ [.tup [.str c, .int mk.2]] := by
          show fI L.cs i sp ++ (if sp ∈ ss.take (n + 1) then _ else _) = (fI L.cs i sp ++ (if sp ∈ ss.take n then _ else _)) ++ _
          rw [if_neg hnot, List.append_nil, if_pos (by rw [hsn]; simp), eT]
        have eO : ∀ t, t ≠ sp → gJ (n + 1) t = gJ n t := fun t ht' => by
          show fI L.cs i t ++ (if t ∈ ss.take (n + 1) then _ else _) = fI L.cs i t ++ (if t ∈ ss.take n then _ else _)
          have : t ∈ ss.take (n + 1) ↔ t ∈ ss.take n := by rw [hsn]; simp [ht']
          simp only [this]
        refine ⟨_, e2, _, e4, p, _, rfl, DPut.t hp9 hbb hlen8, hNx8 _ F9 _ g9.ff gP9.fh ⟨?_, E9.forget 4, np9, _, upd_same, ?_⟩⟩
        · exact gI8.transL (g89.after gP9) (fun n hn => .inl hn) fun mm hmm => by rw [show mm = p by simpa using hmm]; exact ⟨_, hp8, rfl⟩
        · exact (hR88.mono g9.ff).put (by rw [eS]; exact d9) (by rw [eS]; simp) eO
      · obtain ⟨gI9, EI9, nI9, kvs9, hp9, hR9⟩ := hJ
        obtain ⟨u1, u2, gU, sU⟩ := Gr.unlockZ g6.fh (g6.fh _ _ ht6) (fun z => hpp ((by simpa using z : p0 = p).symm)) gI9
        refine ⟨u1, hNx σ9 (rel F9 F6 p0) _ (g46.ff.trans gU.ff) gU.fh ⟨?_, ((EI9.sd sU).forget 3).forget 6, by rw [gU.nw p _ hp6 rfl]; exact np6, kvs9, by rw [upd_ne hpp]; exact hp9, ?_⟩⟩
        · exact (g14.transL (g46.wide (M := [p])) (fun n hn => .inl hn) fun mm hmm => by rw [show mm = p by simpa using hmm]; exact ⟨_, hp4, rfl⟩).transL gU (fun n hn => .inl hn) fun mm hmm => by rw [show mm = p by simpa using hmm]; exact ⟨_, hp6, rfl⟩
        · have e : fI L.cs (i + 1) = gJ (ss.map triD).length := funext fun t => by
            rw [fI_succ hz t, em]
            show _ = fI L.cs i t ++ (if t ∈ ss.take (ss.map triD).length then _ else _)
            rw [List.length_map, List.take_length]
            congr 1
            have : ((mp t).isSome = true) ↔ t ∈ ss := by
              rw [hmS t]
              show (mp t).isSome = true ↔ mp t ≠ none
              cases mp t <;> simp
            simp only [this]
          rw [e]
          exact hR9.sd sU
    · obtain ⟨gI, EI, nI, kvs, hpI, hRI⟩ := hI
      rw [List.length_map] at hRI
      have s19 : Same F F9 := g2.ff.trans gI.ff
      have how9 := gI.fh _ _ (s19 _ _ how)
      have hB9 : BkI K H9 F9 kb m w' L past := by
        obtain ⟨dx, la, vp, las, hk, hl, hvp, hn, hi⟩ := hB2
        have hkp : kb ≠ p := ne_of hk hp2 (fun z => nomatch z)
        exact ⟨dx, la, vp, las, gI.hh kb _ (by simpa using hkp) hk, hl.mono gI.ff, hvp.mono gI.ff, hn, fun i a L' h1 h2 => (hi i a L' h1 h2).mono gI.ff⟩
      have fc : ∀ t, (colsD L.cs t).fits 9 := fun t => fits_le (fits_cols hcl' t) (by decide)
      refine forSeq (fun i σ' F' H' => Gr [] F9 H9 F' H' ∧ Env F' σ' ρ0) (di_list (dv_call (z := .lst ((spotsL m w').map triD)) (da_cons (dv_own rfl how9 own_shape (hsh.mono s19)) da_nil) ⟨m, w', rfl, by omega, by omega, rfl⟩)) gI.fh EI (fun F3 H3 g3 => ⟨g3, EI.mono g3.ff⟩) (fun i x hx σ3 F3 H3 s3 s4 hJ v F4 H4 g4 d4 Nx hNx => ?_) (fun σ8 F8 H8 s3 s4 hJ => ?_)
      · obtain ⟨gJ, EJ⟩ := hJ
        obtain ⟨sp, hsp, rfl⟩ := List.mem_map.mp (List.mem_of_getElem? hx)
        show tIfS _ _ _ _ _ _
        have E4 : Env F4 (σ3.set 4 (some v)) [some (.ob (.ref ow)), some (.ob (.ref kb)), some (.ob (.ref p)), none, some (triD sp), none, none] := (EJ.mono g4.ff).set (i := 4) d4
        generalize σ3.set 4 (some v) = σ4 at E4 ⊢
        have g14 := gJ.trans0 g4
        have hB4 := hB9.mono g14.ff g14.same
        refine if_run ?_
        refine (dt_not (dt_val (dv_call (da_cons (dv_bkCols (dv_var rfl) (dv_var rfl) hB4 hok hm hw hcl hsp) (da_cons (dv_to (dv_getV (dv_var rfl) (g14.same _ _ hpI) (hRI.mono g14.ff) (dv_var rfl)) (fI_full L.cs sp)) da_nil)) ⟨_, _, rfl, fc sp, fc sp, rfl⟩))).run g4.fh E4 fun F5 H5 g5 => ?_
        exact iteF' (by rw [likeB_refl 9 _ (fc sp)]; rfl) (hNx _ F5 H5 g5.ff g5.fh ⟨g14.trans0 g5, (E4.mono g5.ff).forget 4⟩)
      · obtain ⟨gJ, EJ⟩ := hJ
        have hp8 := gJ.same _ _ hpI
        have how8 := gJ.same _ _ how9
        have hB8 := hB9.mono gJ.ff gJ.same
        have hq8 : H8 q = some (.dK (kvsO L.cs ps)) := gJ.same _ _ (gI.fh _ _ (s19 _ _ hO.d))
        have lenK : (kvsO L.cs ps).length = L.cs.length := kvsO_len hO.len
        have hkl : kvs.length = spotsN L.cs := by
          have e := hRI.u.length (spotsL 4 3) nd43 fun t h => by
            obtain ⟨x, h1, h2⟩ := fI_in hok.nd h
            exact spots_sub hm hw ((hok.mks x h1).2 t fun z => by rw [z] at h2; cases h2)
          rw [e]
          unfold spotsN
          rw [show (fun s => !(fI L.cs (sortN (L.cs.map (·.1))).length s).isEmpty) = anyB L.cs from funext fun s => fI_any hok.nd s]
        have l1 := small_text hok.now hnow
        have l2 := small_text (i := (m : Int)) (by omega) (by omega)
        have l3 := small_text (i := ((spotsN L.cs : Nat) : Int)) (by omega) (by have := spotsN_le L.cs; omega)
        have l4 := small_text (i := ((L.cs.length : Nat) : Int)) (by omega) (by omega)
        have c1 : (Str.ofString "tick ").length = 5 := by rfl
        have c2 : (Str.ofString " leaves ").length = 8 := by rfl
        have c3 : (Str.ofString " spots ").length = 7 := by rfl
        have c4 : (Str.ofString " colours ").length = 9 := by rfl
        have sh8 := (hsh.mono s19).mono gJ.ff
        refine (sv_seq (sv_set (dv_op (dv_op (dv_op dv_str (dv_cb (da_cons (dv_own rfl how8 own_tick (.int _)) da_nil) (rc_strI (small_log hok.now hnow))) (rd_addS (by (try simp only [PySem.Str.length_append]); rw [sizeLine_eq]; omega))) dv_str (rd_addS (by (try simp only [PySem.Str.length_append]); rw [sizeLine_eq]; omega))) (dv_cb (da_cons (dv_op (dv_own rfl how8 own_shape sh8) dv_int (rd_ixT (z := .int m) (by rfl))) da_nil) (rc_strI (small_log (by omega) (by omega)))) (rd_addS (by (try simp only [PySem.Str.length_append]); rw [sizeLine_eq]; omega))))
          (sv_seq (sv_set (dv_op (dv_op (dv_op (dv_op (dv_var rfl) dv_str (rd_addS (by (try simp only [PySem.Str.length_append]); rw [sizeLine_eq]; omega))) (dv_cb (da_cons (dv_to (dv_cb (da_cons (d := .ob (.ref p)) (dv_var rfl) da_nil) (rc_lenDT hp8)) (by rw [hkl])) da_nil) (rc_strI (i := ((spotsN L.cs : Nat) : Int)) (small_log (by omega) (by have := spotsN_le L.cs; omega)))) (rd_addS (by (try simp only [PySem.Str.length_append]); rw [sizeLine_eq]; omega))) dv_str (rd_addS (by (try simp only [PySem.Str.length_append]); rw [sizeLine_eq]; omega))) (dv_cb (da_cons (dv_to (dv_cb (da_cons (d := .ob (.ref q)) (dv_own rfl how8 own_marks (.ob _)) da_nil) (rc_lenDK hq8)) (by rw [lenK])) da_nil) (rc_strI (i := ((L.cs.length : Nat) : Int)) (small_log (by omega) (by omega)))) (rd_addS (by (try simp only [PySem.Str.length_append]); rw [sizeLine_eq]; omega))))
          (sv_ret (d := .bl true) (dv_to (dv_and (b := true) (c := true) (dv_to (dv_op (dv_bkStr (dv_var rfl) hB8 hok hm hw hcl' hnow rfl) (dv_var rfl) rd_eqS) ?_) fun _ => dv_to (dv_op (dv_bkLen (x := spotsN L.cs) (dv_var rfl) hB8 hok hm hw hcl' hnow rfl (by have := spotsN_le L.cs; omega)) (dv_cb (da_cons (d := .ob (.ref p)) (dv_var rfl) da_nil) (rc_lenDT hp8)) rd_eqI) (by rw [hkl]; simp)) rfl)))).runR gJ.fh EJ fun v F' H' g d => k v F' H' ?_ d
        · rw [textS_eq]
          simp
        · refine g2.fresh (M := [p]) (gI.transL ((gJ.trans0 g).wide) (fun n hn => .inl hn) fun mm hmm => by rw [show mm = p by simpa using hmm]; exact ⟨_, hpI, rfl⟩) fun mm hmm => by rw [show mm = p by simpa using hmm]; exact hpn
end
end Bb
/-! BbW -/
namespace Bb
open PySem PySem.Spec PyProof.Rows L2
/-! list.count of bools -/
def eqkB (k : Bool) : Value → Bool
  | .bool b => b == k
  | _ => false
theorem bools_of : ∀ {bs : List Bool} {its : List Value}, Vals (bs.map V.bl) its → its = bs.map Value.bool
  | [], _, h => by cases h; rfl
  | b :: bs, _, h => by
    cases h with
    | cons r h =>
      rw [bools_of h]
      rw [show _ = Value.bool b from r]
      rfl
def rCntB (K : PySem.W.Frag) : V → List V → Hp → VK → Prop := fun x xs H Q => ∃ (p : Addr) (bs : List Bool) (k : Bool), x = .ref p ∧ xs = [.bl k] ∧ SqL K H p (bs.map V.bl) ∧ Q (.int (bs.count k : Nat)) H
theorem mt_lcountB {X : Cx} : MtR X "list.count" (rCntB X.K) := by
  intro pins s σ H x xs v us Q I rx rxs h
  obtain ⟨p, bs, k, rfl, rfl, hs, q⟩ := h
  cases rx
  obtain ⟨u, rfl, ru⟩ := rxs.one
  obtain rfl : u = Value.bool k := ru
  obtain ⟨its, rv, ⟨⟨cls, dd, data, sl⟩, n, ho, hc, hdn, hd⟩, hlen⟩ := I.list hs
  simp only at hc hd
  subst hc hd
  have hi := bools_of rv
  subst hi
  refine call_meets PySem.F.slot_list_count ⟨_, ho, rfl⟩ PySem.F.entry_list_count (PySem.F.args_list_count_2 _ _)
    (SeqAt.list_countAt p (bs.map Value.bool).toArray n dd sl (.bool k) (eqkB k)) ⟨ho, fun y hy => ?_, ?_⟩
  · have hy' : y ∈ bs.map Value.bool := by simpa using hy
    obtain ⟨b, _, rfl⟩ := List.mem_map.mp hy'
    have := eqAt_V (y := .bl b) (x := .bl k) (u := .bool b) (v := .bool k) (A := X.A.in1) (s := s) rfl rfl rfl rfl
    exact this
  have ec : (bs.map Value.bool).toArray.toList.countP (eqkB k) = bs.count k := by
    show (bs.map Value.bool).countP (eqkB k) = _
    rw [List.countP_map]
    rfl
  refine ⟨.int (bs.count k : Nat), H, I.tok _, ⟨s.toks, ?_⟩, q⟩
  show Value.int (((bs.map Value.bool).toArray.toList.countP (eqkB k) : Nat) : Int) s.toks = Value.int ((bs.count k : Nat) : Int) s.toks
  rw [ec]
theorem kmt_countB {X : Cx} {K : PySem.W.Frag} (h : X.K = K := by rfl) : MtR X "list.count" (rCntB K) := by subst h; exact mt_lcountB
theorem kop_inD {X : Cx} {K : PySem.W.Frag} (hu : X.A.units + 65 < cLine) (h : X.K = K := by rfl) : OpR X (compareOp .In) (rInD K) := by subst h; exact op_inD hu
section
variable {F0 B : Hp} {ρ : Rho} {K : PySem.W.Frag} {x : Da} {ds : List Da} {ta : TE} {tr : TA}
theorem rd_inD (p1 : x.plain = true) (p2 : (Da.lst ds).plain = true) (s1 : SeqAt.shaped x.py = true) (s2 : SeqAt.shaped (Da.lst ds).py = true) : RD F0 B (rInD K) x (.lst ds) (.bl (ds.any fun z => PyData.eqv z.py x.py)) := rd_val fun F H v u a dx dy Q q => by
  refine ⟨_, ds.map Da.py, dx.dp a.h p1, by rw [← py_list]; exact dy.dp a.h p2, s1, by rw [← py_list]; exact s2, q _ ?_⟩
  rw [List.any_map]
  exact .bl _
theorem flat_bls : ∀ l : List Bool, (l.map V.bl).all flatV = true
  | [] => rfl
  | a :: l => by rw [List.map_cons, List.all_cons, flat_bls l]; rfl
theorem dv_countB {l : List Bool} {k : Bool} (h : Dv F0 B ta ρ (.lst (l.map Da.bl))) (hr : DvA F0 B tr ρ [.bl k]) : Dv F0 B (tBM K "list" (rCntB K) ta tr) ρ (.int (l.count k : Nat)) :=
  dv_bmL h hr fun F H a vs us at_ hp hd hu Q q => by
    obtain ⟨v, rfl, hv⟩ := hu.sole
    have e := hd.bls
    subst e
    rw [hv.of_bl]
    exact ⟨a, l, k, rfl, rfl, SqL.of (at_.h _ _ hp), q _ (.int _)⟩
theorem dv_indexB {l : List Bool} {k : Bool} {j : Nat} (h : Dv F0 B ta ρ (.lst (l.map Da.bl))) (hr : DvA F0 B tr ρ [.bl k]) (hj : l[j]? = some k) (hn : k ∉ l.take j) : Dv F0 B (tBM K "list" (rIndex K) ta tr) ρ (.int j) :=
  dv_bmL h hr fun F H a vs us at_ hp hd hu Q q => by
    obtain ⟨v, rfl, hv⟩ := hu.sole
    have e := hd.bls
    subst e
    rw [hv.of_bl]
    refine ⟨a, l.map V.bl, .bl k, j, .bl k, rfl, rfl, SqL.of (at_.h _ _ hp), rfl, flat_bls l, by rw [List.getElem?_map, hj]; rfl, by simp [eqV], fun m z' hm hz => ?_, q _ (.int _)⟩
    rw [List.getElem?_map] at hz
    cases e : l[m]? with
    | none => rw [e] at hz; cases hz
    | some i =>
      rw [e] at hz
      cases hz
      have : i ∈ l.take j := by
        refine List.mem_iff_getElem?.mpr ⟨m, ?_⟩
        rw [List.getElem?_take_of_lt hm]
        exact e
      have ne : i ≠ k := fun q => hn (q ▸ this)
      cases i <;> cases k <;> first | exact absurd rfl ne | rfl | simp [eqV]
/-- isinstance(e, C), e a kept exception of the class at D -/
theorem dv_isX {tc : TE} {a D : Addr} {c : V} {cv : Value} {b : Bool} (h : Dv F0 B ta ρ (.ob (.ref a))) (hc : Dv F0 B tc ρ (.ob c)) (hB : B a = some (excO a D)) (C : ExcC K D) (hcv : ∀ u, RelV c u → u = cv) (e : PySem.W.kitOne K (.ref D) cv = some b) : Dv F0 B (tCB (rIsX K) (tCons ta (tCons tc tNil))) ρ (.bl b) :=
  dv_cb (da_cons h (da_cons hc da_nil)) (rc_val fun F H vs a' hd Q q => by
    obtain ⟨v, u, rfl, h1, h2⟩ := hd.two
    rw [h1.of_ob, h2.of_ob]
    exact ⟨a, D, c, cv, b, rfl, a'.b _ _ hB, C, hcv, e, q _ (.bl _)⟩)
theorem dv_isXo {tc : TE} {a D C' : Addr} {b : Bool} (h : Dv F0 B ta ρ (.ob (.ref a))) (hc : Dv F0 B tc ρ (.ob (.ref C'))) (hB : B a = some (excO a D)) (C : ExcC K D) (e : PySem.W.kitOne K (.ref D) (.ref C') = some b) : Dv F0 B (tCB (rIsX K) (tCons ta (tCons tc tNil))) ρ (.bl b) := dv_isX h hc hB C (fun _ r => r) e
theorem dv_isXt {tc : TE} {a D : Addr} {n : String} {b : Bool} (h : Dv F0 B ta ρ (.ob (.ref a))) (hc : Dv F0 B tc ρ (.ob (.ty n))) (hB : B a = some (excO a D)) (C : ExcC K D) (e : PySem.W.kitOne K (.ref D) (.type n) = some b) : Dv F0 B (tCB (rIsX K) (tCons ta (tCons tc tNil))) ρ (.bl b) := dv_isX h hc hB C (fun _ r => r) e
theorem kcall_isX {X : Cx} (h : X.K = K := by rfl) : CallR X (.builtin "isinstance") (rIsX K) := by subst h; exact call_isX
end
theorem xc_NoDeed {K : PySem.W.Frag} {mg : Str → Option Value} (T : Txt K mg) : ExcC K (He.ga K "NoDeed") := ⟨T.hg_NoDeed, T.hk_NoDeed, T.e_NoDeed.2.2.1, T.hd_NoDeed, T.ha_NoDeed, T.bk_hn, T.bk_ht, T.hm_NoDeed⟩
theorem xc_NoSpot {K : PySem.W.Frag} {mg : Str → Option Value} (T : Txt K mg) : ExcC K (He.ga K "NoSpot") := ⟨T.hg_NoSpot, T.hk_NoSpot, T.e_NoSpot.2.2.1, T.hd_NoSpot, T.ha_NoSpot, T.bk_hn, T.bk_ht, T.hm_NoSpot⟩
theorem xc_NoColour {K : PySem.W.Frag} {mg : Str → Option Value} (T : Txt K mg) : ExcC K (He.ga K "NoColour") := ⟨T.hg_NoColour, T.hk_NoColour, T.e_NoColour.2.2.1, T.hd_NoColour, T.ha_NoColour, T.bk_hn, T.bk_ht, T.hm_NoColour⟩
theorem xc_NoWet {K : PySem.W.Frag} {mg : Str → Option Value} (T : Txt K mg) : ExcC K (He.ga K "NoWet") := ⟨T.hg_NoWet, T.hk_NoWet, T.e_NoWet.2.2.1, T.hd_NoWet, T.ha_NoWet, T.bk_hn, T.bk_ht, T.hm_NoWet⟩
theorem xc_NothingLeft {K : PySem.W.Frag} {mg : Str → Option Value} (T : Txt K mg) : ExcC K (He.ga K "NothingLeft") := ⟨T.hg_NothingLeft, T.hk_NothingLeft, T.e_NothingLeft.2.2.1, T.hd_NothingLeft, T.ha_NothingLeft, T.bk_hn, T.bk_ht, T.hm_NothingLeft⟩
end Bb
/-! BbW2 -/
namespace Bb
open PySem PySem.Spec PyProof.Rows L2
theorem split_words : Txt.split "shape deed spot colour wet many left" " " = (["shape", "deed", "spot", "colour", "wet", "many", "left"] : List Str) := by decide +kernel
theorem dv_split {F0 B : Hp} {ρ : Rho} {to te : TE} {a b : Str} {l : List Str} (h : Dv F0 B to ρ (.str a)) (he : Dv F0 B te ρ (.str b)) (hb : (b.length == 0) = false) (ha : a.length + 2 ≤ sizeLine) (hl : Txt.split a b = l) : Dv F0 B (tM1 (fun x xs H Q => ∃ a b, x = .str a ∧ xs = [.str b] ∧ (b.length == 0) = false ∧ a.length + 2 ≤ sizeLine ∧ rNewStrs (Txt.split a b) H Q) to te) ρ (.lst (l.map .str)) := fun σ F H at_ E Q k => h σ F H at_ E _ fun v F1 H1 g1 d1 => ⟨⟨a, d1.of_str⟩, he σ F1 H1 (at_.go g1) (E.mono g1.ff) _ fun u F2 H2 g2 d2 => by
  subst hl
  refine ⟨a, b, d1.of_str, by rw [d2.of_str], hb, ha, fun p hp => ?_⟩
  have g := Gr.new (o := .lst ((Txt.split a b).map V.str)) g2.fh hp
  exact k _ _ _ ((g1.trans0 g2).trans0 g) (.lst upd_same (DtA.of_strs _))⟩
end Bb
/-! Bb28 -/
namespace Bb
open PySem PySem.Spec PyProof.Rows L2
abbrev N_w_word : List Str := ["_law_e", "_law_mine", "_law_more"]
abbrev P_w_word : List Str := ["_law_e"]
theorem sc_w_word : FnScope N_w_word P_w_word (defScope s_w_word) := ⟨rfl, rfl, rfl, by decide +kernel, rfl, by decide +kernel, by decide +kernel⟩
theorem b_w_word : BindsD d_w_word P_w_word := fun _ _ _ _ _ _ us hl => match us, hl with | [_], _ => rfl

section
variable {F F' H : Hp} {σ : LSt} {ρ : Rho} {K : PySem.W.Frag} {ta : TE} {tr : TA} {b : Addr} {d d0 : Da} {u : TS} {D : Ends}
theorem append_seqG {bs : List V} (ha : ∀ F1 H1, Gr [] F H F1 H1 → Dv F1 H1 ta ρ (.ob (.ref b))) (hr : ∀ F1 H1, Gr [] F H F1 H1 → DvA F1 H1 tr ρ [d]) (hb : H b = some (.lst bs)) (nF : F b = none) (hl : bs.length < sizeLine) (sm : Same F H) (E : Env F σ ρ)
    (k : ∀ F' H' y, Gr [b] F H F' H' → H' b = some (.lst (bs ++ [y])) → Dt F' y d → F' b = none → Env F' σ ρ → u D σ H') : tSeq (tDrop (tBM K "list" rAppend ta tr)) u D σ H := by
  refine (ha F H (.refl sm)).run sm E fun v F1 H1 g1 d1 => ?_
  rw [d1.of_ob]
  have hb1 := g1.same _ _ hb
  refine ⟨.inl ⟨rfl, bs, SqL.of hb1⟩, ?_⟩
  refine (hr F1 H1 g1).run g1.fh (E.mono g1.ff) fun vs F2 H2 g2 d2 => ?_
  obtain ⟨y, rfl, hy⟩ := d2.sole
  have g := g1.trans0 g2
  have hb2 := g.same _ _ hb
  have n2 : F2 b = none := by rw [g.nw b _ hb rfl]; exact nF
  exact ⟨b, bs, y, rfl, rfl, hb2, hl, k F2 _ y (g.after (Gr.put g2.fh n2)) upd_same hy n2 (E.mono g.ff)⟩
/-- a slot read otherwise -/
theorem Env.re (e : Env F σ ρ) {i : Nat} (h : ρ[i]? = some (some d0)) (hd : ∀ v, Dt F v d0 → Dt F v d) : Env F σ (ρ.set i (some d)) := by
  refine ⟨by rw [List.length_set]; exact e.len, fun j d' q => ?_⟩
  by_cases hj : i = j
  · subst hj
    have hi : i < ρ.length := by
      have := (List.getElem?_eq_some_iff.mp q).1
      rw [List.length_set] at this
      exact this
    rw [List.getElem?_set_self hi] at q
    cases q
    obtain ⟨v, e1, h1⟩ := e.at_ i _ h
    exact ⟨v, e1, hd v h1⟩
  · rw [List.getElem?_set_ne hj] at q
    exact e.at_ j d' q
end
def spWord (K : PySem.W.Frag) : Sp := fun vs H Q _ => ∃ (F : Hp) (a : Addr) (word : Str), vs = [.ref a] ∧ Same F H ∧ H a = some (excO a (He.ga K (excN word))) ∧ word ∈ (["spot", "colour", "wet", "deed", "left"] : List Str) ∧ ∀ v F' H', Gr [] F H F' H' → Dt F' v (.str word) → Q v H'
theorem count_bl {l : List Bool} (h : l.count true = 1) : (!decide (((l.count true : Nat) : Int) = 1)) = false := by rw [h]; rfl
section
variable {P : Program} {w : World} {K : PySem.W.Frag} {mg : Str → Option Value} {base : Heap}
theorem ok_w_word (T : Txt K mg) : Ok P w K mg base CX0 1 d_w_word P_w_word (spWord K) := by
  refine okN T.f_w_word sc_w_word b_w_word (fun vs H Q E h => ?_) fun cdv A outer s H vs Q E hr h => ?_
  · obtain ⟨_, _, _, rfl, _⟩ := h
    rfl
  · obtain ⟨F, a, word, rfl, sm, ha, hwd, k⟩ := h
    refine ⟨_, (pss_cons (ps_set (i := 1) sc_w_word.nd rfl (.inl rfl) (pe_lst (pa_cons (pe_callB (kcall_isX (K := K)) (by rfl) T.n_isinstance (by decide +kernel) (pa_cons (pv 0) (pa_cons (pe_glob (v := .ref (He.ga K "NoShape")) rfl T.g_NoShape rfl) pa_nil))) (pa_cons (pe_callB (kcall_isX (K := K)) (by rfl) T.n_isinstance (by decide +kernel) (pa_cons (pv 0) (pa_cons (pe_glob (v := .ref (He.ga K "NoDeed")) rfl T.g_NoDeed rfl) pa_nil))) (pa_cons (pe_callB (kcall_isX (K := K)) (by rfl) T.n_isinstance (by decide +kernel) (pa_cons (pv 0) (pa_cons (pe_glob (v := .ref (He.ga K "NoSpot")) rfl T.g_NoSpot rfl) pa_nil))) (pa_cons (pe_callB (kcall_isX (K := K)) (by rfl) T.n_isinstance (by decide +kernel) (pa_cons (pv 0) (pa_cons (pe_glob (v := .ref (He.ga K "NoColour")) rfl T.g_NoColour rfl) pa_nil))) pa_nil))))))
  (pss_cons (ps_expr (kpe_bm (K := K) PySem.F.plainAttrs_list PySem.F.slot_list_append PySem.F.type_list_append mt_append (pv 1) (pa_cons (pe_callB (kcall_isX (K := K)) (by rfl) T.n_isinstance (by decide +kernel) (pa_cons (pv 0) (pa_cons (pe_glob (v := .ref (He.ga K "NoWet")) rfl T.g_NoWet rfl) pa_nil))) pa_nil)))
  (pss_cons (ps_set (i := 2) sc_w_word.nd rfl (.inl rfl) (pe_lst (pa_cons (pe_callB (kcall_isX (K := K)) (by rfl) T.n_isinstance (by decide +kernel) (pa_cons (pv 0) (pa_cons (pe_glob (v := .ref (He.ga K "TooMany")) rfl T.g_TooMany rfl) pa_nil))) (pa_cons (pe_callB (kcall_isX (K := K)) (by rfl) T.n_isinstance (by decide +kernel) (pa_cons (pv 0) (pa_cons (pe_glob (v := .ref (He.ga K "NothingLeft")) rfl T.g_NothingLeft rfl) pa_nil))) pa_nil))))
  (pss_cons (ps_if (PW.pt (pw_or (pt_cmpR op_ne (kpe_bm (K := K) PySem.F.plainAttrs_list PySem.F.slot_list_count PySem.F.type_list_count (kmt_countB (K := K)) (pe_op op_cat (pv 1) (pv 2)) (pa_cons pe_bl pa_nil)) pe_int (nomark _)) (pw_or1 (pt_not (pt_val (pe_callB (kcall_isX (K := K)) (by rfl) T.n_isinstance (by decide +kernel) (pa_cons (pv 0) (pa_cons (pe_bltn (v := .ty "ValueError") (u := .type "ValueError") rfl T.n_ValueError (by decide +kernel) rfl) pa_nil)))))))) (pss_one (ps_ret pe_str)) pss_nil)
  (pss_cons (ps_if (PW.pt (pw_or (pt_cmpR op_ne (pe_callB (kcall_isX (K := K)) (by rfl) T.n_isinstance (by decide +kernel) (pa_cons (pv 0) (pa_cons (pe_glob (v := .ref (He.ga K "ToldError")) rfl T.g_ToldError rfl) pa_nil))) (pe_cmpR (kop_inD (K := K) hr.units65) pe_bl (pv 1) rfl) (nomark _)) (pw_or1 (pt_cmpR op_ne (pe_callB (kcall_isX (K := K)) (by rfl) T.n_isinstance (by decide +kernel) (pa_cons (pv 0) (pa_cons (pe_glob (v := .ref (He.ga K "AskedError")) rfl T.g_AskedError rfl) pa_nil))) (pe_cmpR (kop_inD (K := K) hr.units65) pe_bl (pv 2) rfl) (nomark _))))) (pss_one (ps_ret pe_str)) pss_nil)
  (pss_one (ps_ret (pe_ix (kix_list (K := K)) (pe_split pe_str pe_str) (kpe_bm (K := K) PySem.F.plainAttrs_list PySem.F.slot_list_index PySem.F.type_list_index (kmt_index (K := K)) (pe_op op_cat (pv 1) (pv 2)) (pa_cons pe_bl pa_nil)) (fun _ _ => rfl))))))))), ?_⟩
    have E0 : Env F (L2.start N_w_word [.ref a]) [some (.ob (.ref a)), none, none] := env_start (.cons (.ob _) .nil)
    have ex : ∃ (b1 b2 b3 b4 b5 b6 b7 b8 b9 : Bool) (j : Nat), ExcC K (He.ga K (excN word)) ∧ PySem.W.kitOne K (.ref (He.ga K (excN word))) (.ref (He.ga K "NoShape")) = some b1 ∧ PySem.W.kitOne K (.ref (He.ga K (excN word))) (.ref (He.ga K "NoDeed")) = some b2 ∧ PySem.W.kitOne K (.ref (He.ga K (excN word))) (.ref (He.ga K "NoSpot")) = some b3 ∧ PySem.W.kitOne K (.ref (He.ga K (excN word))) (.ref (He.ga K "NoColour")) = some b4 ∧ PySem.W.kitOne K (.ref (He.ga K (excN word))) (.ref (He.ga K "NoWet")) = some b5 ∧ PySem.W.kitOne K (.ref (He.ga K (excN word))) (.ref (He.ga K "TooMany")) = some b6 ∧ PySem.W.kitOne K (.ref (He.ga K (excN word))) (.ref (He.ga K "NothingLeft")) = some b7 ∧ PySem.W.kitOne K (.ref (He.ga K (excN word))) (.ref (He.ga K "ToldError")) = some b8 ∧ PySem.W.kitOne K (.ref (He.ga K (excN word))) (.ref (He.ga K "AskedError")) = some b9 ∧ PySem.W.kitOne K (.ref (He.ga K (excN word))) (.type "ValueError") = some true ∧
        [b1, b2, b3, b4, b5, b6, b7].count true = 1 ∧ ([Da.bl b1, .bl b2, .bl b3, .bl b4, .bl b5].any fun z => PyData.eqv z.py (Da.bl true).py) = b8 ∧ ([Da.bl b6, .bl b7].any fun z => PyData.eqv z.py (Da.bl true).py) = b9 ∧ [b1, b2, b3, b4, b5, b6, b7][j]? = some true ∧ true ∉ [b1, b2, b3, b4, b5, b6, b7].take j ∧ atI ((["shape", "deed", "spot", "colour", "wet", "many", "left"] : List Str).map Da.str) (j : Int) = some (.str word) := by
      have cs : word = "spot" ∨ word = "colour" ∨ word = "wet" ∨ word = "deed" ∨ word = "left" := by simpa using hwd
      rcases cs with rfl | rfl | rfl | rfl | rfl
      · exact ⟨false, false, true, false, false, false, false, true, false, 2, xc_NoSpot T, T.ki_NoSpot_NoShape, T.ki_NoSpot_NoDeed, T.ki_NoSpot_NoSpot, T.ki_NoSpot_NoColour, T.ki_NoSpot_NoWet, T.ki_NoSpot_TooMany, T.ki_NoSpot_NothingLeft, T.ki_NoSpot_ToldError, T.ki_NoSpot_AskedError, T.ki_NoSpot_ValueError, rfl, rfl, rfl, rfl, (by decide), rfl⟩
      · exact ⟨false, false, false, true, false, false, false, true, false, 3, xc_NoColour T, T.ki_NoColour_NoShape, T.ki_NoColour_NoDeed, T.ki_NoColour_NoSpot, T.ki_NoColour_NoColour, T.ki_NoColour_NoWet, T.ki_NoColour_TooMany, T.ki_NoColour_NothingLeft, T.ki_NoColour_ToldError, T.ki_NoColour_AskedError, T.ki_NoColour_ValueError, rfl, rfl, rfl, rfl, (by decide), rfl⟩
      · exact ⟨false, false, false, false, true, false, false, true, false, 4, xc_NoWet T, T.ki_NoWet_NoShape, T.ki_NoWet_NoDeed, T.ki_NoWet_NoSpot, T.ki_NoWet_NoColour, T.ki_NoWet_NoWet, T.ki_NoWet_TooMany, T.ki_NoWet_NothingLeft, T.ki_NoWet_ToldError, T.ki_NoWet_AskedError, T.ki_NoWet_ValueError, rfl, rfl, rfl, rfl, (by decide), rfl⟩
      · exact ⟨false, true, false, false, false, false, false, true, false, 1, xc_NoDeed T, T.ki_NoDeed_NoShape, T.ki_NoDeed_NoDeed, T.ki_NoDeed_NoSpot, T.ki_NoDeed_NoColour, T.ki_NoDeed_NoWet, T.ki_NoDeed_TooMany, T.ki_NoDeed_NothingLeft, T.ki_NoDeed_ToldError, T.ki_NoDeed_AskedError, T.ki_NoDeed_ValueError, rfl, rfl, rfl, rfl, (by decide), rfl⟩
      · exact ⟨false, false, false, false, false, false, true, false, true, 6, xc_NothingLeft T, T.ki_NothingLeft_NoShape, T.ki_NothingLeft_NoDeed, T.ki_NothingLeft_NoSpot, T.ki_NothingLeft_NoColour, T.ki_NothingLeft_NoWet, T.ki_NothingLeft_TooMany, T.ki_NothingLeft_NothingLeft, T.ki_NothingLeft_ToldError, T.ki_NothingLeft_AskedError, T.ki_NothingLeft_ValueError, rfl, rfl, rfl, rfl, (by decide), rfl⟩
    obtain ⟨b1, b2, b3, b4, b5, b6, b7, b8, b9, j, C, h1, h2, h3, h4, h5, h6, h7, h8, h9, hv, e1, e2, e3, e4, e5, e6⟩ := ex
    refine set_seq ?_
    refine (da_cons (dv_isXo (dv_var rfl) dv_ob ha C h1) (da_cons (dv_isXo (dv_var rfl) dv_ob ha C h2) (da_cons (dv_isXo (dv_var rfl) dv_ob ha C h3) (da_cons (dv_isXo (dv_var rfl) dv_ob ha C h4) da_nil))) : DvA F H _ _ _).run sm E0 fun vs F1 H1 g1 d1 => ⟨by rw [d1.length]; exact small_ rfl, fun p hp => ?_⟩
    have gP : Gr [] F1 H1 F1 (upd H1 p (.lst vs)) := Gr.newM g1.fh hp
    have g2 := g1.trans0 gP
    have np : F1 p = none := none_of g1.fh hp
    have hpn : H p = none := by
      cases e : H p with
      | none => rfl
      | some u => rw [g1.same _ _ e] at hp; cases hp
    have E2 : Env F1 ((L2.start N_w_word [.ref a]).set 1 (some (.ref p))) [some (.ob (.ref a)), some (.ob (.ref p)), none] := (E0.mono g1.ff).set (i := 1) (.ob _)
    have hp2 : upd H1 p (.lst vs) p = some (.lst vs) := upd_same
    have ha2 : upd H1 p (.lst vs) a = some (excO a (He.ga K (excN word))) := g2.same _ _ ha
    generalize upd H1 p (.lst vs) = H2 at gP g2 hp2 ha2 ⊢
    show tSeq _ _ _ _ _
    generalize (L2.start N_w_word [.ref a]).set 1 (some (.ref p)) = σ2 at E2 ⊢
    refine append_seqG (d := .bl b5) (fun F3 H3 g3 => dv_var rfl) (fun F3 H3 g3 => da_cons (dv_isXo (dv_var rfl) dv_ob (g3.same _ _ ha2) C h5) da_nil) hp2 np (by rw [d1.length]; exact Nat.lt_of_lt_of_le (show 4 < 5 by decide) (small_ rfl)) gP.fh E2 fun F3 H3 y g3 h3 d3 n3 E3 => ?_
    have gF := (g2.fresh g3 (fun m hm => by rw [show m = p by simpa using hm]; exact hpn)).freeze hpn n3 h3
    have s34 : Same F3 (upd F3 p (.lst (vs ++ [y]))) := fun c o e => by rw [upd_ne (ne_of_none e n3)]; exact e
    have E4 := (E3.mono s34).re (i := 1) (d0 := .ob (.ref p)) (d := .lst [.bl b1, .bl b2, .bl b3, .bl b4, .bl b5]) rfl (fun v hv => by rw [hv.of_ob]; exact .lst upd_same (((d1.mono g3.ff).mono s34).append (.cons (d3.mono s34) .nil)))
    have ha4 := gF.same _ _ ha
    generalize upd F3 p (.lst (vs ++ [y])) = F4 at gF E4
    refine (sv_seq (sv_set (dv_lst (da_cons (dv_isXo (dv_var rfl) dv_ob ha4 C h6) (da_cons (dv_isXo (dv_var rfl) dv_ob ha4 C h7) da_nil)) (small_ rfl)))
      (sv_ifS (b := false) (dt_or (b := false) (c := false) (dt_test (dv_to (dv_op (dv_countB (l := [b1, b2, b3, b4, b5, b6, b7]) (dv_to (dv_op (dv_var rfl) (dv_var rfl) (rd_catL (small_ rfl))) rfl) (da_cons dv_bl da_nil)) dv_int rd_neI) (by rw [count_bl e1]))) fun _ => dt_to (dt_not (dt_val (dv_isXt (dv_var rfl) dv_ty ha4 C hv))) rfl) (fun q => by cases q) fun _ => sv_nextS
      (sv_ifS (b := false) (dt_or (b := false) (c := false) (dt_test (dv_to (dv_op (dv_isXo (dv_var rfl) dv_ob ha4 C h8) (dv_to (dv_op dv_bl (dv_var rfl) (rd_inD rfl rfl rfl rfl)) (congrArg Da.bl e2)) rd_neB) (by simp))) fun _ => dt_test (dv_to (dv_op (dv_isXo (dv_var rfl) dv_ob ha4 C h9) (dv_to (dv_op dv_bl (dv_var rfl) (rd_inD rfl rfl rfl rfl)) (congrArg Da.bl e3)) rd_neB) (by simp))) (fun q => by cases q) fun _ => sv_nextS
      (sv_ret (dv_op (dv_split dv_str dv_str rfl (small_ rfl) split_words) (dv_indexB (l := [b1, b2, b3, b4, b5, b6, b7]) (dv_to (dv_op (dv_var rfl) (dv_var rfl) (rd_catL (small_ rfl))) rfl) (da_cons dv_bl da_nil) e4 e5) (rd_ixL e6)))))).runR gF.fh E4 fun v F5 H5 g5 d5 => k v F5 H5 (gF.trans0 g5) d5
end
end Bb
/-! Bb29 -/
namespace Bb
open PySem PySem.Spec PyProof.Rows L2

section
variable {X : Cx} {CX : CXT} {k : Nat} {d : He.DefD} {ps : List Str} {sp : Sp} {E : LSt → XK} {m : Str} {pos apos : Pos} {e o : Expr} {es : List Expr} {ta : TE} {t : TA} {C : Addr}
/-- o.m(..) whose exception is waited for -/
def tMethO (C : Addr) (m : Str) (sp : Sp) (E : LSt → XK) (ta : TE) (t : TA) : TE := fun σ H Q => ta σ H fun x H1 => ∃ a dx fs, x = .ref a ∧ H1 a = some (.ins C dx fs) ∧ fs.lookup m = none ∧
  t σ H1 fun vs H2 => sp (x :: vs) H2 Q (E σ)
theorem pe_methOS {pl : Sem Bool} (he : PE X o ta) (c : Cls X.K C) (hm : Meth X.K C m (He.fAd X.K d.at_)) (G : Ok X.prog X.w X.K X.mg X.base CX k d ps sp) (hr : Room k X.A) (hx : ∀ σ, PassesAt CX X σ (E σ)) (ha : PA X (e :: es) t)
    (hst : starEach (e :: es) X.env = (false, eval e X.env) :: starEach es X.env := by rfl) (hpl : (backTo pos (starEach es X.env)).any (·.1) = false := by rfl)
    (ht : eval (.Call (.Attribute o m apos) (e :: es) [] pos) X.env = (do
      let ov ← eval o X.env
      standAt apos.atName
      let (f, first) ← holding [ov] (getMethod ov m pl)
      callWith pos f first (backTo pos (starEach (e :: es) X.env)) (backToKw pos (keywordEach [] X.env))) := by rfl) :
    PE X (.Call (.Attribute o m apos) (e :: es) [] pos) (tMethO C m sp E ta t) := by
  obtain ⟨fd, F, b, _⟩ := G
  refine ⟨fun pins s σ H Q I h => ?_⟩
  refine PySem.W.methodCall_KW (pl := pl) (thn (he.run pins s σ H _ I h) fun u s1 ⟨x, H1, I1, rx, a, dx, fs, ex, ea, l, q⟩ => ?_) ht
  subst ex
  obtain rfl : u = Value.ref a := rx
  refine getmeth_ok I1 ea c hm l ?_
  refine PySem.W.callWith_K (first := [.ref a]) (h₀ := X.base) I.ok.mod.kin hm.kp (thn (ha.run pos pins s1 σ H1 _ I1 q) fun us s2 ⟨vs, H2, I2, r, q2⟩ => ⟨I2.kIn, ?_⟩) hst hpl
  exact run_fnS (us := .ref a :: us) (vs := .ref a :: vs) F hr b (hx σ) I2 (.cons rfl r) q2
theorem pe_methOS0 {pl : Sem Bool} (he : PE X o ta) (c : Cls X.K C) (hm : Meth X.K C m (He.fAd X.K d.at_)) (G : Ok X.prog X.w X.K X.mg X.base CX k d ps sp) (hr : Room k X.A) (hx : ∀ σ, PassesAt CX X σ (E σ))
    (ht : eval (.Call (.Attribute o m apos) [] [] pos) X.env = (do
      let ov ← eval o X.env
      standAt apos.atName
      let (f, first) ← holding [ov] (getMethod ov m pl)
      callWith pos f first (backTo pos (starEach [] X.env)) (backToKw pos (keywordEach [] X.env))) := by rfl) :
    PE X (.Call (.Attribute o m apos) [] [] pos) (tMethO C m sp E ta tNil) := by
  obtain ⟨fd, F, b, _⟩ := G
  refine ⟨fun pins s σ H Q I h => ?_⟩
  refine PySem.W.methodCall_KW (pl := pl) (thn (he.run pins s σ H _ I h) fun u s1 ⟨x, H1, I1, rx, a, dx, fs, ex, ea, l, q⟩ => ?_) ht
  subst ex
  obtain rfl : u = Value.ref a := rx
  refine getmeth_ok I1 ea c hm l ?_
  exact PySem.W.callWith_K0 (first := [.ref a]) I1.kIn hm.kp (run_fnS (us := [.ref a]) (vs := [.ref a]) F hr b (hx σ) I1 (.cons rfl .nil) q)
end
/-! ### what fits can be compared -/
theorem fits_plain : ∀ (n : Nat) (d : Da), d.fits n → d.plain = true := by
  have all : ∀ xs : List Da, (∀ x ∈ xs, x.plain = true) → Da.plain.plainAll xs = true := fun xs => by
    induction xs with
    | nil => intro _; rfl
    | cons x xs ih =>
      intro h
      show (x.plain && Da.plain.plainAll xs) = true
      rw [h x (.head _), ih fun y hy => h y (.tail _ hy)]
      rfl
  intro n
  induction n with
  | zero =>
    intro d h
    cases d with
    | lst xs => exact h.elim
    | tup xs => exact h.elim
    | ob v => exact h.elim
    | _ => rfl
  | succ n ih =>
    intro d h
    cases d with
    | lst xs => rw [Da.plain]; exact all xs fun x hx => ih x (h.2 x hx)
    | tup xs => rw [Da.plain]; exact all xs fun x hx => ih x (h.2 x hx)
    | ob v => exact h.elim
    | _ => rfl
def backD : Da := .tup [.str "back"]
theorem backD_sh : SeqAt.shaped backD.py = true := by decide +kernel
theorem eqv_back {d : Da} (hp : d.plain = true) (h : PyData.eqv d.py backD.py = true) : d = backD := by
  cases d with
  | tup xs =>
    rw [py_tup, show backD.py = .tuple [.str "back"] from rfl] at h
    match xs, hp, h with
    | [], _, h => exact absurd h (by simp [PyData.eqv, PyData.eqvAll])
    | [x], hp, h =>
      cases x with
      | str s =>
        have : s = "back" := by
          have h2 : ((s == ("back" : Str)) && true) = true := h
          simpa using h2
        rw [this]
        rfl
      | lst ys => exact absurd h (by show ¬ PyData.eqv (.tuple [(Da.lst ys).py]) _ = true; rw [py_list]; simp [PyData.eqv, PyData.eqvAll])
      | tup ys => exact absurd h (by show ¬ PyData.eqv (.tuple [(Da.tup ys).py]) _ = true; rw [py_tup]; simp [PyData.eqv, PyData.eqvAll])
      | ob v => simp [Da.plain, Da.plain.plainAll] at hp
      | _ => exact absurd h (by simp [Da.py, PyData.eqv, PyData.eqvAll])
    | x :: y :: r, _, h => exact absurd h (by simp [PyData.eqv, PyData.eqvAll])
  | lst xs => exact absurd h (by rw [py_list]; simp [backD, Da.py, PyData.eqv])
  | ob v => simp [Da.plain] at hp
  | _ => exact absurd h (by simp [backD, Da.py, PyData.eqv])
/-! ### what a book tells of a deed -/
def spDone (K : PySem.W.Frag) : Sp := fun vs H Q _ => ∃ (F : Hp) (kb : Addr) (m w : Nat) (L : Stt) (past : List Stt) (vd : V) (d : Da), vs = [.ref kb, vd] ∧ Same F H ∧ BkO K H F kb m w L past ∧ Dt F vd d ∧ past.length ≤ 1000 ∧
  ((d = backD ∧ ((∃ past' L', past = past' ++ [L'] ∧ ∀ v F' H', Gr [kb] F H F' H' → BkO K H' F' kb m w L' past' → Dt F' v .non → Q v H') ∨
    (past = [] ∧ ∀ v F' H', Gr [] F H F' H' → Dt F' v (.tup [.str "word", .str "left"]) → Q v H'))) ∨
  (d ≠ backD ∧ Dok d ∧ SeqAt.shaped d.py = true ∧ SttOk m w L ∧ m ≤ 4 ∧ w ≤ 3 ∧ L.cs.length ≤ 1000 ∧ L.bk.length ≤ 1000 ∧
    ((∃ L' f, Tl m w L d L' f ∧ ∀ v F' H', Gr [kb] F H F' H' → BkO K H' F' kb m w L' (past ++ [L]) → Dt F' v f → Q v H') ∨
    ∃ word, Nope m w d word ∧ ∀ v F' H', Gr [] F H F' H' → Dt F' v (.tup [.str "word", .str word]) → Q v H')))
theorem nope_word {m w : Nat} {d : Da} {word : Str} (h : Nope m w d word) : word ∈ (["spot", "colour", "wet", "deed", "left"] : List Str) := by
  cases h with
  | drop a b c _ h =>
    unfold dropB at h
    split at h
    · split at h
      · split at h
        · cases h
        · cases h; simp
      · cases h; simp
    · cases h; simp
  | deed => simp
theorem exm_word {K : PySem.W.Frag} {mg : Str → Option Value} (T : Txt K mg) {word : Str} (h : word ∈ (["spot", "colour", "wet", "deed", "left"] : List Str)) : PySem.W.exmOne K (.ref (He.ga K (excN word))) (.ref (He.ga K "BlotError")) = some true := by
  have cs : word = "spot" ∨ word = "colour" ∨ word = "wet" ∨ word = "deed" ∨ word = "left" := by simpa using h
  rcases cs with rfl | rfl | rfl | rfl | rfl
  · exact T.x_NoSpot
  · exact T.x_NoColour
  · exact T.x_NoWet
  · exact T.x_NoDeed
  · exact T.x_NothingLeft
section
variable {F0 B : Hp} {te : TE} {ρ : Rho}
theorem rd_isN0 : RD F0 B rIsN .non .non (.bl true) := rd_val fun F H v u a dx dy Q q => by
  rw [dx.of_non, dy.of_non]
  exact ⟨rfl, q _ (.bl _)⟩
theorem rd_isNR {a : Addr} : RD F0 B rIsN (.ob (.ref a)) .non (.bl false) := rd_val fun F H v u a dx dy Q q => by
  rw [dx.of_ob, dy.of_non]
  exact ⟨rfl, q _ (.bl _)⟩
end
abbrev N_w_done : List Str := ["_law_kept", "_law_deed", "_law_error", "_law_found", "_law_e"]
abbrev P_w_done : List Str := ["_law_kept", "_law_deed"]
theorem sc_w_done : FnScope N_w_done P_w_done (defScope s_w_done) := ⟨rfl, rfl, rfl, by decide +kernel, rfl, by decide +kernel, by decide +kernel⟩
theorem b_w_done : BindsD d_w_done P_w_done := fun _ _ _ _ _ _ us hl => match us, hl with | [_, _], _ => rfl

section
variable {P : Program} {w : World} {K : PySem.W.Frag} {mg : Str → Option Value} {base : Heap}
theorem ok_w_done (T : Txt K mg) (G_bk_back : Ok P w K mg base (L2.CX P w) 1 d_bk_back P_bk_back (spBkBack K)) (G_bk_do : Ok P w K mg base (L2.CX P w) 6 d_bk_do P_bk_do (spBkDo K)) (G_w_word : Ok P w K mg base CX0 1 d_w_word P_w_word (spWord K)) : Ok P w K mg base CX0 7 d_w_done P_w_done (spDone K) := by
  refine okN T.f_w_done sc_w_done b_w_done (fun vs H Q E h => ?_) fun cdv A outer s H vs Q E hr h => ?_
  · obtain ⟨_, _, _, _, _, _, _, _, rfl, _⟩ := h
    rfl
  · obtain ⟨F, kb, m, w', L, past, vd, d, rfl, sm, hB, hvd, hpl, hend⟩ := h
    refine ⟨_, (pss_cons (ps_set (i := 2) sc_w_done.nd rfl (.inl rfl) pe_non)
  (pss_cons (ps_set (i := 3) sc_w_done.nd rfl (.inl rfl) pe_non)
  (pss_cons (ps_try_asT (i := 4) (Wout := fun _ _ _ _ => False) rfl rfl sc_w_done.nd rfl rfl ⟨rfl, by decide, .inl T.g_BlotError⟩ rfl rfl rfl
    (fun W pn xe tk _ => pss_one (ps_set (i := 3) sc_w_done.nd rfl (.inl rfl) (pe_ifExp (pt_cmpR (kop_eqD (K := K) hr.units) (pv 1) (pe_tup (pa_cons pe_str pa_nil)) (nomark _)) (pe_methOS0 (pv 0) T.c_Book T.m_bk_back G_bk_back (hr.mono (by decide)) (fun σ => passAt tk σ)) (pe_methOS (pv 0) T.c_Book T.m_bk_do G_bk_do (hr.mono (by decide)) (fun σ => passAt tk σ) (pa_cons (pv 1) pa_nil)))))
    (fun a cls d pn => pss_one (ps_set (i := 2) sc_w_done.nd rfl (.inl rfl) (pv 4))))
  (pss_one (ps_ret (pe_ifExp (pt_cmpR op_isN1 (pv 2) pe_non (nomark _)) (pv 3) (pe_tup (pa_cons pe_str (pa_cons (pe_callO G_w_word (hr.mono (by decide)) rfl T.g_w_word pass0 (pa_cons (pv 2) pa_nil)) pa_nil))))))))), ?_⟩
    have E0 : Env F (L2.start N_w_done [.ref kb, vd]) [some (.ob (.ref kb)), some d, none, none, none] := env_start (.cons (.ob _) (.cons hvd .nil))
    refine Sv.seq (sv_set dv_non) sm E0 fun σ1 F1 H1 g1 E1 => ?_
    refine Sv.seq (sv_set dv_non) g1.fh E1 fun σ2 F2 H2 g2 E2 => ?_
    have g02 := g1.trans0 g2
    -- the last row
    have good : ∀ (F3 H3 : Hp) (σ3 : LSt) (f : Da) (R : V → Hp → Prop), Same F3 H3 → Env F3 σ3 [some (.ob (.ref kb)), some d, some .non, some f, none] → (∀ v F4 H4, Gr [] F3 H3 F4 H4 → Dt F4 v f → R v H4) →
        tRet (tIf (tTest (tOp rIsN (tVar 2) (tC .non))) (tVar 3) (tTup (tCons (tC (.str "word")) (tCons (tCall (spWord K) [] L2.E0 (tCons (tVar 2) tNil)) tNil)))) { nx := fun _ H' => Q .non H', rt := R } σ3 H3 := fun F3 H3 σ3 f R s3 E3 kk => by
      refine (dt_test (dv_op (dv_var rfl) dv_non rd_isN0)).run s3 E3 fun F4 H4 g4 => iteT ?_
      exact (dv_var rfl : Dv F4 H4 (tVar 3) _ f).run g4.fh (E3.mono g4.ff) fun v F5 H5 g5 d5 => kk v F5 H5 (g4.trans0 g5) d5
    have bad : ∀ (F3 H3 : Hp) (σ3 : LSt) (a : Addr) (word : Str) (R : V → Hp → Prop), Same F3 H3 → H3 a = some (excO a (He.ga K (excN word))) → word ∈ (["spot", "colour", "wet", "deed", "left"] : List Str) → Env F3 σ3 [some (.ob (.ref kb)), some d, some (.ob (.ref a)), some .non, none] → (∀ v F4 H4, Gr [] F3 H3 F4 H4 → Dt F4 v (.tup [.str "word", .str word]) → R v H4) →
        tRet (tIf (tTest (tOp rIsN (tVar 2) (tC .non))) (tVar 3) (tTup (tCons (tC (.str "word")) (tCons (tCall (spWord K) [] L2.E0 (tCons (tVar 2) tNil)) tNil)))) { nx := fun _ H' => Q .non H', rt := R } σ3 H3 := fun F3 H3 σ3 a word R s3 ha hwd E3 kk => by
      refine (dt_test (dv_op (dv_var rfl) dv_non (rd_isNR (a := a)))).run s3 E3 fun F4 H4 g4 => iteF ?_
      have hcall : Dv F4 H4 (tCall (spWord K) [] L2.E0 (tCons (tVar 2) tNil)) [some (.ob (.ref kb)), some d, some (.ob (.ref a)), some .non, none] (.str word) := fun σ F H aa En Q' k' => (da_cons (dv_var rfl) da_nil : DvA F4 H4 _ _ [.ob (.ref a)]) σ F H aa En _ fun vs F5 H5 g5 d5 => by
        obtain ⟨v, rfl, hv⟩ := d5.sole
        rw [hv.of_ob, List.append_nil]
        exact ⟨F5, a, word, rfl, g5.fh, g5.same _ _ (aa.b _ _ (g4.same _ _ ha)), hwd, fun v F6 H6 g6 d6 => k' v F6 H6 (g5.trans0 g6) d6⟩
      exact (dv_tup (da_cons dv_str (da_cons hcall da_nil)) (small_ rfl)).run g4.fh (E3.mono g4.ff) fun v F5 H5 g5 d5 => kk v F5 H5 (g4.trans0 g5) d5
    have hBg := hB.grow g02
    show tAsg (tIf _ _ _) _ _ _ _
    have hk1 : ∀ {F3 H3 : Hp}, Gr [] F2 H2 F3 H3 → ∃ dx fs, H3 kb = some (.ins (He.ga K "Book") dx fs) ∧ fs.lookup ("back" : Str) = none ∧ fs.lookup ("do" : Str) = none := fun g3 => by
      obtain ⟨_, dx, la, vp, las, hk, _⟩ := hBg.grow g3
      exact ⟨dx, _, hk, by rfl, by rfl⟩
    -- the way out by an error
    have out : ∀ (F3 H3 : Hp) (word : Str), word ∈ (["spot", "colour", "wet", "deed", "left"] : List Str) → Gr [] F2 H2 F3 H3 → (∀ v F' H', Gr [] F H F' H' → Dt F' v (.tup [.str "word", .str word]) → Q v H') →
        wAsT K (.ref (He.ga K "BlotError")) 4 (fun a cls d => tAsg (tVar 4) (gName 2)) (fun _ _ _ _ => False) { nx := fun σ H => tRet (tIf (tTest (tOp rIsN (tVar 2) (tC .non))) (tVar 3) (tTup (tCons (tC (.str "word")) (tCons (tCall (spWord K) [] L2.E0 (tCons (tVar 2) tNil)) tNil)))) { nx := fun _ H' => Q .non H', rt := Q } σ H, rt := Q } (.ref (He.ga K (excN word))) none σ2 H3 := fun F3 H3 word hwd g3 kk => by
      refine ⟨_, rfl, rfl, exm_word T hwd, fun a na => ?_⟩
      have gN : Gr [] F3 H3 F3 (upd H3 a (excO a (He.ga K (excN word)))) := Gr.newM g3.fh na
      have g4 := (g02.trans0 g3).trans0 gN
      have E4 : Env F3 (σ2.set 4 (some (.ref a))) [some (.ob (.ref kb)), some d, some .non, some .non, some (.ob (.ref a))] := (E2.mono g3.ff).set (i := 4) (.ob _)
      have ha : upd H3 a (excO a (He.ga K (excN word))) a = some (excO a (He.ga K (excN word))) := upd_same
      generalize upd H3 a (excO a (He.ga K (excN word))) = H4 at gN g4 ha ⊢
      generalize σ2.set 4 (some (.ref a)) = σ4 at E4 ⊢
      obtain ⟨v4, e4, h4⟩ := E4.at_ 4 _ rfl
      refine ⟨v4, e4, ?_⟩
      rw [h4.of_ob]
      have E5 : Env F3 ((σ4.set 2 (some (.ref a))).set 4 none) [some (.ob (.ref kb)), some d, some (.ob (.ref a)), some .non, none] := (E4.set (i := 2) (v := .ref a) (d := .ob (.ref a)) (.ob _)).none (i := 4) none
      exact bad F3 H4 _ a word Q gN.fh ha hwd E5 fun v F5 H5 g5 d5 => kk v F5 H5 (g4.trans0 g5) d5
    have past1 : ∀ (F3 H3 : Hp) (v : V) (f : Da), Env F3 σ2 [some (.ob (.ref kb)), some d, some .non, some .non, none] → Dt F3 v f → Env F3 (σ2.set 3 (some v)) [some (.ob (.ref kb)), some d, some .non, some f, none] := fun F3 H3 v f e h => e.set (i := 3) h
    rcases hend with ⟨rfl, hb⟩ | ⟨hne, hd, hsh, hok, hm, hw, hcl, hbl, hb⟩
    · refine (dt_test (dv_op (dv_var rfl) (dv_tup (da_cons dv_str da_nil) (small_ rfl)) (rd_eqD (y := backD) rfl rfl backD_sh backD_sh))).run g2.fh E2 fun F3 H3 g3 => ?_
      refine iteT' (by rfl) ?_
      obtain ⟨v0, e0, h0⟩ := (E2.mono g3.ff).at_ 0 _ rfl
      rw [h0.of_ob] at e0
      obtain ⟨dx, fs, hk, l1, l2⟩ := hk1 g3
      refine ⟨.ref kb, e0, kb, dx, fs, rfl, hk, l1, ?_⟩
      have g03 := g02.trans0 g3
      refine ⟨F3, kb, m, w', L, past, rfl, g3.fh, hB.grow g03, hpl, ?_⟩
      rcases hb with ⟨past', L', e, kk⟩ | ⟨e, kk⟩
      · refine .inl ⟨past', L', e, fun F4 H4 g4 hB4 => ?_⟩
        exact good F4 H4 _ .non Q g4.fh ((E2.mono (g3.ff.trans g4.ff)).set (i := 3) .non) fun v F5 H5 g5 d5 => by
          have gA : Gr [kb] F H F4 H4 := g03.after g4
          exact kk v F5 H5 (gA.transL g5 (fun n hn => (nomatch hn)) fun mm hmm => by
            obtain ⟨_, dx, la, vp, las, hk, _⟩ := hB4
            rw [show mm = kb by simpa using hmm]
            exact ⟨_, hk, rfl⟩) (hB4.grow g5) d5
      · exact .inr ⟨e, fun F4 H4 g4 => out F4 H4 "left" (by simp) (g3.trans0 g4) kk⟩
    · refine (dt_test (dv_op (dv_var rfl) (dv_tup (da_cons dv_str da_nil) (small_ rfl)) (rd_eqD (y := backD) hd.plain rfl hsh backD_sh))).run g2.fh E2 fun F3 H3 g3 => ?_
      refine iteF' (by
        cases e : PyData.eqv d.py backD.py with
        | false => rfl
        | true => exact (hne (eqv_back hd.plain e)).elim) ?_
      obtain ⟨v0, e0, h0⟩ := (E2.mono g3.ff).at_ 0 _ rfl
      rw [h0.of_ob] at e0
      obtain ⟨v1, e1, h1⟩ := (E2.mono g3.ff).at_ 1 _ rfl
      obtain ⟨dx, fs, hk, l1, l2⟩ := hk1 g3
      refine ⟨.ref kb, e0, kb, dx, fs, rfl, hk, l2, v1, e1, ?_⟩
      have g03 := g02.trans0 g3
      refine ⟨F3, kb, m, w', L, past, v1, d, rfl, g3.fh, hB.grow g03, h1, hd, hok, hm, hw, hcl, hbl, hpl, ?_⟩
      rcases hb with ⟨L', f, hT, kk⟩ | ⟨word, hN, kk⟩
      · refine .inl ⟨L', f, hT, fun F4 H4 v4 g4 hB4 d4 => ?_⟩
        exact good F4 H4 _ f Q g4.fh ((E2.mono (g3.ff.trans g4.ff)).set (i := 3) d4) fun v F5 H5 g5 d5 => by
          have gA : Gr [kb] F H F4 H4 := g03.after g4
          exact kk v F5 H5 (gA.transL g5 (fun n hn => (nomatch hn)) fun mm hmm => by
            obtain ⟨_, dx, la, vp, las, hk, _⟩ := hB4
            rw [show mm = kb by simpa using hmm]
            exact ⟨_, hk, rfl⟩) (hB4.grow g5) d5
      · exact .inr ⟨word, hN, fun F4 H4 g4 => out F4 H4 word (nope_word hN) (g3.trans0 g4) kk⟩
end
end Bb
/-! Bb30 -/
namespace Bb
open PySem PySem.Spec PyProof.Rows L2

/-- the tape: the script, how far it is read, what is left of a number -/
structure Tape (H F : Hp) (tp : Addr) (ns : List Int) (i c : Nat) : Prop where
  nF : F tp = none
  ins : ∃ vs, H tp = some (.lst vs) ∧ DtA F vs [.lst (ns.map Da.int), .int (i : Nat), .int (c : Nat)]
def TapeE (H F : Hp) (tp : Addr) : Prop := ∃ ns i c, Tape H F tp ns i c
theorem TapeE.go {M : List Addr} {F H F1 H1 : Hp} {tp : Addr} (t : TapeE H F tp) (g : Gr M F H F1 H1) (h : tp ∉ M) : TapeE H1 F1 tp := by
  obtain ⟨ns, i, c, nF, vs, h1, h2⟩ := t
  exact ⟨ns, i, c, by rw [g.nw tp _ h1 rfl]; exact nF, vs, g.hh tp _ h h1, h2.mono g.ff⟩
theorem TapeE.grow {F H F1 H1 : Hp} {tp : Addr} (t : TapeE H F tp) (g : Gr [] F H F1 H1) : TapeE H1 F1 tp := t.go g (by simp)
theorem TapeE.at_ {F H : Hp} {tp : Addr} (t : TapeE H F tp) : ∃ o, H tp = some o ∧ HO.isTup o = false := by
  obtain ⟨ns, i, c, nF, vs, h1, h2⟩ := t
  exact ⟨_, h1, rfl⟩
def spDraw : Sp := fun vs H Q _ => ∃ (F : Hp) (tp : Addr) (many : Nat), vs = [.ref tp, .int (many : Nat)] ∧ Same F H ∧ TapeE H F tp ∧ 0 < many ∧ many ≤ 1000000000000 ∧
  ∀ F' H' (r : Nat), r < many → Gr [tp] F H F' H' → TapeE H' F' tp → Q (.int (r : Nat)) H'
abbrev N_w_draw : List Str := ["_law_tape", "_law_many", "_law_prime", "_law_found", "_law_cell"]
abbrev P_w_draw : List Str := ["_law_tape", "_law_many"]
theorem sc_w_draw : FnScope N_w_draw P_w_draw (defScope s_w_draw) := ⟨rfl, rfl, rfl, by decide +kernel, rfl, by decide +kernel, by decide +kernel⟩
theorem b_w_draw : BindsD d_w_draw P_w_draw := fun _ _ _ _ _ _ us hl => match us, hl with | [_, _], _ => rfl

abbrev primeI : Int := 2305843009213693951
section
variable {P : Program} {w : World} {K : PySem.W.Frag} {mg : Str → Option Value} {base : Heap}
theorem mod_range (a : Int) : 0 ≤ a % primeI ∧ a % primeI < primeI := ⟨Int.emod_nonneg _ (by decide), Int.emod_lt_of_pos _ (by decide)⟩
theorem sq_ok {a : Int} (h : 0 ≤ a ∧ a < primeI) : CMul a a := .inl ⟨by have := h.1; omega, by have := h.2; unfold primeI at this; omega⟩
theorem ok_w_draw (T : Txt K mg) : Ok P w K mg base CX0 1 d_w_draw P_w_draw spDraw := by
  refine okN T.f_w_draw sc_w_draw b_w_draw (fun vs H Q E h => ?_) fun cdv A outer s H vs Q E hr h => ?_
  · obtain ⟨_, _, _, rfl, _⟩ := h
    rfl
  · obtain ⟨F, tp, many, rfl, sm, ⟨ns, i, c, nF, vs, htp, hvs⟩, hm0, hm1, k⟩ := h
    refine ⟨_, (pss_cons (ps_set (i := 2) sc_w_draw.nd rfl (.inl rfl) pe_int)
  (pss_cons (ps_if (pt_cmpR op_lt (pe_ix (kix_list (K := K)) (pv 0) pe_int (fun _ _ => rfl)) (pv 1) (nomark _)) (pss_cons (ps_set (i := 4) sc_w_draw.nd rfl (.inl rfl) pe_int)
  (pss_cons (ps_if (pt_cmpR op_gt (pe_callB (kcall_len (K := K)) (by rfl) T.n_len (by decide +kernel) (pa_cons (pe_ix (kix_list (K := K)) (pv 0) pe_int (fun _ _ => rfl)) pa_nil)) pe_int (nomark _)) (pss_one (ps_set (i := 4) sc_w_draw.nd rfl (.inl rfl) (pe_ix (kix_list (K := K)) (pe_ix (kix_list (K := K)) (pv 0) pe_int (fun _ _ => rfl)) (pe_op op_mod (pe_ix (kix_list (K := K)) (pv 0) pe_int (fun _ _ => rfl)) (pe_callB (kcall_len (K := K)) (by rfl) T.n_len (by decide +kernel) (pa_cons (pe_ix (kix_list (K := K)) (pv 0) pe_int (fun _ _ => rfl)) pa_nil))) (fun _ _ => rfl)))) pss_nil)
  (pss_cons (ps_if (PW.pt (pw_or (pt_cmpR op_ge (pe_ix (kix_list (K := K)) (pv 0) pe_int (fun _ _ => rfl)) (pe_callB (kcall_len (K := K)) (by rfl) T.n_len (by decide +kernel) (pa_cons (pe_ix (kix_list (K := K)) (pv 0) pe_int (fun _ _ => rfl)) pa_nil)) (nomark _)) (pw_or1 (pt_cmpR op_lt (pv 4) (pe_op op_pow pe_int pe_int) (nomark _))))) (pss_cons (ps_set (i := 4) sc_w_draw.nd rfl (.inl rfl) (pe_op op_mod (pe_op op_add (pv 4) (pe_op op_mul pe_int (pe_ix (kix_list (K := K)) (pv 0) pe_int (fun _ _ => rfl)))) (pv 2)))
  (pss_cons (ps_set (i := 4) sc_w_draw.nd rfl (.inl rfl) (pe_op op_mod (pe_op op_add (pe_op op_add (pe_op op_mul (pv 4) (pv 4)) (pe_op op_mul pe_int (pv 4))) pe_int) (pv 2)))
  (pss_one (ps_set (i := 4) sc_w_draw.nd rfl (.inl rfl) (pe_op op_mod (pe_op op_add (pe_op op_mul (pv 4) (pv 4)) pe_int) (pv 2)))))) pss_nil)
  (pss_cons (ps_asg (pe_op op_add (pe_ix (kix_list (K := K)) (pv 0) pe_int (fun _ _ => rfl)) pe_int) (pg_sub (pv 0) pe_int set_list))
  (pss_one (ps_asg (pv 4) (pg_sub (pv 0) pe_int set_list))))))) pss_nil)
  (pss_cons (ps_set (i := 3) sc_w_draw.nd rfl (.inl rfl) (pe_op op_mod (pe_ix (kix_list (K := K)) (pv 0) pe_int (fun _ _ => rfl)) (pv 1)))
  (pss_cons (ps_asg (pe_op op_fdivW (pe_ix (kix_list (K := K)) (pv 0) pe_int (fun _ _ => rfl)) (pv 1)) (pg_sub (pv 0) pe_int set_list))
  (pss_one (ps_ret (pv 3))))))), ?_⟩
    have hmI : (0 : Int) < (many : Nat) := by omega
    have E0 : Env F (L2.start N_w_draw [.ref tp, .int (many : Nat)]) [some (.ob (.ref tp)), some (.int (many : Nat)), none, none, none] := env_start (.cons (.ob _) (.cons (.int _) .nil))
    refine Sv.seq (sv_set (dv_int (i := primeI))) sm E0 fun σ1 F1 H1 g1 E1 => ?_
    -- the end
    have tail : ∀ (F3 H3 : Hp) (σ3 : LSt) (x4 : Option Da) (i c : Nat) (vs : List V), Gr [tp] F H F3 H3 → F3 tp = none → H3 tp = some (.lst vs) → DtA F3 vs [.lst (ns.map Da.int), .int (i : Nat), .int (c : Nat)] → Env F3 σ3 [some (.ob (.ref tp)), some (.int (many : Nat)), some (.int primeI), none, x4] →
        tSeq (tAsg (tOp (rI (fun _ j => 0 < j) fun i j => .int (i % j)) (tOp (rIxL K) (tVar 0) (tC (.int 2))) (tVar 1)) (gName 3)) (tSeq (tAsg (tOp (rI CDivW fun i j => .int (i / j)) (tOp (rIxL K) (tVar 0) (tC (.int 2))) (tVar 1)) (gSub (tVar 0) (tC (.int 2)) rSetL)) (tRet (tVar 3))) { nx := fun _ H' => Q .non H', rt := Q } σ3 H3 := fun F3 H3 σ3 x4 i c vs g3 n3 h3 d3 E3 => by
      have hx : ∀ {F4 H4 : Hp} {ρ : Rho}, H4 tp = some (.lst vs) → DtA F4 vs [.lst (ns.map Da.int), .int (i : Nat), .int (c : Nat)] → ρ[0]? = some (some (.ob (.ref tp))) → Dv F4 H4 (tOp (rIxL K) (tVar 0) (tC (.int 2))) ρ (.int (c : Nat)) := fun h d e => dv_op (dv_var e) dv_int (rd_ixLm h d rfl)
      refine Sv.seq (sv_set (dv_op (hx h3 d3 rfl) (dv_var rfl) (rd_I hmI))) g3.fh E3 fun σ4 F4 H4 g4 E4 => ?_
      have h4 := g4.same _ _ h3
      have d4 := d3.mono g4.ff
      have n4 : F4 tp = none := by rw [g4.nw tp _ h3 rfl]; exact n3
      refine setL_run (i := 2) (x := .int ((c / many : Nat) : Int)) (dv_to (dv_op (hx h4 d4 rfl) (dv_var rfl) (rd_I ⟨hmI, ?_⟩)) (by rw [Int.natCast_ediv])) (fun _ _ => dv_var rfl) (fun _ _ => dv_int) h4 d4 n4 (by simp) g4.fh E4 fun F5 H5 vs5 g5 h5 d5 n5 E5 => ?_
      · refine Nat.lt_of_lt_of_le (PySem.Flt.log2_lt_of (show 0 < 64 by decide) (?_ : _ < 2 ^ 64)) (by decide)
        rw [Int.natAbs_natCast]
        exact Nat.lt_of_le_of_lt hm1 (by decide)
      obtain ⟨v5, e5, hv5⟩ := E5.at_ 3 _ rfl
      refine ⟨v5, e5, ?_⟩
      rw [hv5.of_int]
      show Q (.int (((c : Nat) : Int) % ((many : Nat) : Int))) H5
      rw [← Int.natCast_emod]
      have gA : Gr [tp] F3 H3 F5 H5 := g4.after g5
      exact k F5 H5 (c % many) (Nat.mod_lt _ hm0) (g3.then1 gA h3 rfl) ⟨ns, i, c / many, n5, vs5, h5, d5⟩
    have h1 := g1.same _ _ htp
    have d1 := hvs.mono g1.ff
    have n1 : F1 tp = none := by rw [g1.nw tp _ htp rfl]; exact nF
    have ix0 : ∀ {F4 H4 : Hp} {ρ : Rho}, H4 tp = some (.lst vs) → DtA F4 vs [.lst (ns.map Da.int), .int (i : Nat), .int (c : Nat)] → ρ[0]? = some (some (.ob (.ref tp))) → Dv F4 H4 (tOp (rIxL K) (tVar 0) (tC (.int 0))) ρ (.lst (ns.map Da.int)) := fun h d e => dv_op (dv_var e) dv_int (rd_ixLm h d rfl)
    have ix1 : ∀ {F4 H4 : Hp} {ρ : Rho}, H4 tp = some (.lst vs) → DtA F4 vs [.lst (ns.map Da.int), .int (i : Nat), .int (c : Nat)] → ρ[0]? = some (some (.ob (.ref tp))) → Dv F4 H4 (tOp (rIxL K) (tVar 0) (tC (.int 1))) ρ (.int (i : Nat)) := fun h d e => dv_op (dv_var e) dv_int (rd_ixLm h d rfl)
    have ix2 : ∀ {F4 H4 : Hp} {ρ : Rho}, H4 tp = some (.lst vs) → DtA F4 vs [.lst (ns.map Da.int), .int (i : Nat), .int (c : Nat)] → ρ[0]? = some (some (.ob (.ref tp))) → Dv F4 H4 (tOp (rIxL K) (tVar 0) (tC (.int 2))) ρ (.int (c : Nat)) := fun h d e => dv_op (dv_var e) dv_int (rd_ixLm h d rfl)
    refine if_seq ?_
    refine (dt_test (dv_op (ix2 h1 d1 rfl) (dv_var rfl) rd_B0)).run g1.fh E1 fun F2 H2 g2 => ?_
    have E2 := E1.mono g2.ff
    have g02 := g1.trans0 g2
    have h2 := g2.same _ _ h1
    have d2 := d1.mono g2.ff
    have n2 : F2 tp = none := by rw [g2.nw tp _ h1 rfl]; exact n1
    by_cases hlt : ((c : Nat) : Int) < ((many : Nat) : Int)
    case neg => exact iteF' (decide_eq_false hlt) (nextS (tail F2 H2 _ _ i c vs g02.wide n2 h2 d2 E2))
    refine iteT' (decide_eq_true hlt) ?_
    refine Sv.seq (sv_set (dv_int (i := 0))) g2.fh E2 fun σ3 F3 H3 g3 E3 => ?_
    have h3 := g3.same _ _ h2
    have d3 := d2.mono g3.ff
    have n3 : F3 tp = none := by rw [g3.nw tp _ h2 rfl]; exact n2
    have lenD : (ns.map Da.int).length = ns.length := List.length_map _
    have dlen : ∀ {F4 H4 : Hp} {ρ : Rho}, H4 tp = some (.lst vs) → DtA F4 vs [.lst (ns.map Da.int), .int (i : Nat), .int (c : Nat)] → ρ[0]? = some (some (.ob (.ref tp))) → Dv F4 H4 (tCB (rLenQ K) (tCons (tOp (rIxL K) (tVar 0) (tC (.int 0))) tNil)) ρ (.int ((ns.length : Nat) : Int)) := fun h d e => dv_to (dv_cb (da_cons (ix0 h d e) da_nil) rc_lenL) (by rw [lenD])
    -- the cell that is read
    have cellS : ∃ cell : Int, Sv F3 H3 (tIfS (tTest (tOp (rI0 fun i j => .bl (decide (i > j))) (tCB (rLenQ K) (tCons (tOp (rIxL K) (tVar 0) (tC (.int 0))) tNil)) (tC (.int 0)))) (tAsg (tOp (rIxL K) (tOp (rIxL K) (tVar 0) (tC (.int 0))) (tOp (rI (fun _ j => 0 < j) fun i j => .int (i % j)) (tOp (rIxL K) (tVar 0) (tC (.int 1))) (tCB (rLenQ K) (tCons (tOp (rIxL K) (tVar 0) (tC (.int 0))) tNil)))) (gName 4)) tNext)
        [some (.ob (.ref tp)), some (.int (many : Nat)), some (.int primeI), none, some (.int 0)] (.nx [some (.ob (.ref tp)), some (.int (many : Nat)), some (.int primeI), none, some (.int cell)]) := by
      by_cases hl : 0 < ns.length
      · have hi : i % ns.length < ns.length := Nat.mod_lt _ hl
        refine ⟨ns[i % ns.length], sv_if (dt_test (dv_op (dlen h3 d3 rfl) dv_int rd_B0)) (fun _ => sv_set (dv_op (ix0 h3 d3 rfl) (dv_op (ix1 h3 d3 rfl) (dlen h3 d3 rfl) (rd_I (show (0 : Int) < (ns.length : Nat) by omega))) (rd_ixL ?_))) fun q => absurd (show ((ns.length : Nat) : Int) > 0 by omega) (of_decide_eq_false q)⟩
        rw [← Int.natCast_emod]
        exact at_map rfl (List.getElem?_eq_getElem hi)
      · refine ⟨0, sv_if (dt_test (dv_op (dlen h3 d3 rfl) dv_int rd_B0)) (fun q => absurd (of_decide_eq_true q) (by omega)) fun _ => sv_next⟩
    obtain ⟨cell, cellS⟩ := cellS
    refine Sv.seq cellS g3.fh E3 fun σ4 F4 H4 g4 E4 => ?_
    have h4 := g4.same _ _ h3
    have d4 := d3.mono g4.ff
    have n4 : F4 tp = none := by rw [g4.nw tp _ h3 rfl]; exact n3
    have r1 := mod_range (cell + 1000003 * ((i : Nat) : Int))
    have r2 := mod_range ((cell + 1000003 * ((i : Nat) : Int)) % primeI * ((cell + 1000003 * ((i : Nat) : Int)) % primeI) + 1181783497276652981 * ((cell + 1000003 * ((i : Nat) : Int)) % primeI) + 2049848353892358983)
    generalize e1 : (cell + 1000003 * ((i : Nat) : Int)) % primeI = a1 at r1 r2
    generalize e2 : (a1 * a1 + 1181783497276652981 * a1 + 2049848353892358983) % primeI = a2 at r2
    obtain ⟨cell2, hc2, hy, hn⟩ : ∃ cell2 : Int, 0 ≤ cell2 ∧ ((((i : Nat) : Int) ≥ ((ns.length : Nat) : Int) ∨ cell < 10 ^ 18) → cell2 = (a2 * a2 + 1442695040888963407) % primeI) ∧ (¬ (((i : Nat) : Int) ≥ ((ns.length : Nat) : Int) ∨ cell < 10 ^ 18) → cell2 = cell) := by
      by_cases hb : (((i : Nat) : Int) ≥ ((ns.length : Nat) : Int) ∨ cell < 10 ^ 18)
      · exact ⟨_, (mod_range _).1, fun _ => rfl, fun z => absurd hb z⟩
      · have hb2 : ¬ cell < 10 ^ 18 := fun z => hb (.inr z)
        have h18 : (0 : Int) ≤ 10 ^ 18 := by decide
        exact ⟨cell, by omega, fun z => absurd z hb, fun _ => rfl⟩
    refine Sv.seq (ρ' := [some (.ob (.ref tp)), some (.int (many : Nat)), some (.int primeI), none, some (.int cell2)]) ?_ g4.fh E4 fun σ5 F5 H5 g5 E5 => ?_
    · by_cases hb : (((i : Nat) : Int) ≥ ((ns.length : Nat) : Int) ∨ cell < 10 ^ 18)
      · rw [hy hb]
        refine sv_if (b := true) (dt_to (dt_or (c := decide (cell < 10 ^ 18)) (dt_test (dv_op (ix1 h4 d4 rfl) (dlen h4 d4 rfl) rd_B0)) fun _ => dt_test (dv_op (dv_var rfl) (dv_to (dv_op dv_int dv_int (rd_I ⟨by decide, by decide, by decide⟩)) rfl) rd_B0)) (by rw [Bool.or_eq_true, decide_eq_true_iff, decide_eq_true_iff]; exact hb)) (fun _ => sv_seq (sv_set (dv_to (dv_op (dv_op (dv_var rfl) (dv_op dv_int (ix1 h4 d4 rfl) (rd_I (.inl ⟨by decide, by decide⟩))) rd_I0) (dv_var rfl) (rd_I (by decide))) (congrArg Da.int e1)))
          (sv_seq (sv_set (dv_to (dv_op (dv_op (dv_op (dv_op (dv_var rfl) (dv_var rfl) (rd_I (sq_ok r1))) (dv_op dv_int (dv_var rfl) (rd_I (.inl ⟨by decide, by decide⟩))) rd_I0) dv_int rd_I0) (dv_var rfl) (rd_I (by decide))) (congrArg Da.int e2)))
          (sv_set (dv_op (dv_op (dv_op (dv_var rfl) (dv_var rfl) (rd_I (sq_ok r2))) dv_int rd_I0) (dv_var rfl) (rd_I (by decide)))))) fun q => by cases q
      · rw [hn hb]
        have hb1 : ¬ ((i : Nat) : Int) ≥ ((ns.length : Nat) : Int) := fun z => hb (.inl z)
        have hb2 : ¬ cell < 10 ^ 18 := fun z => hb (.inr z)
        exact sv_if (b := false) (dt_to (dt_or (c := decide (cell < 10 ^ 18)) (dt_test (dv_op (ix1 h4 d4 rfl) (dlen h4 d4 rfl) rd_B0)) fun _ => dt_test (dv_op (dv_var rfl) (dv_to (dv_op dv_int dv_int (rd_I ⟨by decide, by decide, by decide⟩)) rfl) rd_B0)) (by rw [Bool.or_eq_false_iff, decide_eq_false_iff_not, decide_eq_false_iff_not]; exact ⟨hb1, hb2⟩)) (fun q => by cases q) fun _ => sv_next
    have h5 := g5.same _ _ h4
    have d5 := d4.mono g5.ff
    have n5 : F5 tp = none := by rw [g5.nw tp _ h4 rfl]; exact n4
    refine setL_run (i := 1) (x := .int ((i + 1 : Nat) : Int)) (dv_op (ix1 h5 d5 rfl) dv_int (rd_I0 (by omega))) (fun _ _ => dv_var rfl) (fun _ _ => dv_int) h5 d5 n5 (by simp) g5.fh E5 fun F6 H6 vs6 g6 h6 d6 n6 E6 => ?_
    refine setL_run (i := 2) (x := .int (cell2.toNat : Nat)) (dv_to (dv_var rfl) (by rw [Int.toNat_of_nonneg hc2])) (fun _ _ => dv_var rfl) (fun _ _ => dv_int) h6 d6 n6 (by simp) g6.fh E6 fun F7 H7 vs7 g7 h7 d7 n7 E7 => ?_
    have gA : Gr [tp] F H F7 H7 := ((((g02.trans0 g3).trans0 g4).trans0 g5).after g6).then1 g7 h6 rfl
    exact tail F7 H7 _ _ (i + 1) cell2.toNat vs7 gA n7 h7 d7 E7
end
end Bb
/-! Bb31 -/
namespace Bb
open PySem PySem.Spec PyProof.Rows L2

/-! ### what is drawn: data within bounds, the tape goes on -/
theorem TapeE.trans {F H F1 H1 F2 H2 : Hp} {tp : Addr} (t : TapeE H1 F1 tp) (a : Gr [tp] F H F1 H1) (b : Gr [tp] F1 H1 F2 H2) : Gr [tp] F H F2 H2 := a.trans b fun m hm => by
  rw [show m = tp by simpa using hm]
  exact t.at_
section
variable (tp : Addr)
def Tv (te : TE) (ρ : Rho) (Z : Da → Prop) : Prop := ∀ σ F H, Same F H → TapeE H F tp → Env F σ ρ → ∀ Q : VK, (∀ v F' H' d, Gr [tp] F H F' H' → TapeE H' F' tp → Dt F' v d → Z d → Q v H') → te σ H Q
def TvA (ta : TA) (ρ : Rho) (Z : List Da → Prop) : Prop := ∀ σ F H, Same F H → TapeE H F tp → Env F σ ρ → ∀ Q : List V → Hp → Prop, (∀ vs F' H' ds, Gr [tp] F H F' H' → TapeE H' F' tp → DtA F' vs ds → Z ds → Q vs H') → ta σ H Q
end
/-- a def that draws: of data ds it gives what Z says -/
def spT (Pr : List Da → (Da → Prop) → Prop) : Sp := fun vs H Q _ => ∃ (F : Hp) (tp : Addr) (us : List V) (ds : List Da) (Z : Da → Prop), vs = .ref tp :: us ∧ Same F H ∧ TapeE H F tp ∧ DtA F us ds ∧ Pr ds Z ∧
  ∀ v F' H' d, Gr [tp] F H F' H' → TapeE H' F' tp → Dt F' v d → Z d → Q v H'
section
variable {tp : Addr} {ρ : Rho} {te ta tb tm : TE} {tr : TA} {tt : TT} {Z Z1 Z2 Z' : Da → Prop} {ZA ZB : List Da → Prop} {r : R2} {q : List V → Hp → VK → Prop} {d : Da} {ds : List Da} {i : Nat} {E : XK}
theorem tv_dv (h : ∀ F H, Dv F H te ρ d) : Tv tp te ρ (· = d) := fun σ F H s t En Q k => (h F H).run s En fun v F1 H1 g1 d1 => k v F1 H1 _ g1.wide (t.grow g1) d1 rfl
theorem tv_imp (h : Tv tp te ρ Z) (f : ∀ d, Z d → Z' d) : Tv tp te ρ Z' := fun σ F H s t En Q k => h σ F H s t En Q fun v F' H' d g t1 d1 z => k v F' H' d g t1 d1 (f d z)
theorem tva_imp (h : TvA tp tr ρ ZA) (f : ∀ d, ZA d → ZB d) : TvA tp tr ρ ZB := fun σ F H s t En Q k => h σ F H s t En Q fun v F' H' d g t1 d1 z => k v F' H' d g t1 d1 (f d z)
theorem tv_op (ha : Tv tp ta ρ Z1) (hb : Tv tp tb ρ Z2) (hr : ∀ x y, Z1 x → Z2 y → ∃ z, Z z ∧ ∀ F B, RD F B r x y z) : Tv tp (tOp r ta tb) ρ Z := fun σ F H s t En Q k =>
  ha σ F H s t En _ fun v F1 H1 d1 g1 t1 h1 z1 => hb σ F1 H1 g1.fh t1 (En.mono g1.ff) _ fun u F2 H2 d2 g2 t2 h2 z2 => by
    obtain ⟨z, hz, hrd⟩ := hr d1 d2 z1 z2
    have g12 := t1.trans g1 g2
    exact hrd F2 H2 F2 H2 v u (atC g2.fh) (h1.mono g2.ff) h2 Q fun w F3 H3 g3 d3 => k w F3 H3 z (t2.trans g12 g3.wide) (t2.grow g3) d3 hz
theorem tva_nil : TvA tp tNil ρ (· = []) := fun σ F H s t En Q k => k _ F H [] (.refl s) t .nil rfl
theorem tva_cons (h : Tv tp te ρ Z1) (hr : TvA tp tr ρ ZA) : TvA tp (tCons te tr) ρ (fun ds => ∃ d r, ds = d :: r ∧ Z1 d ∧ ZA r) := fun σ F H s t En Q k =>
  h σ F H s t En _ fun v F1 H1 d1 g1 t1 h1 z1 => hr σ F1 H1 g1.fh t1 (En.mono g1.ff) _ fun vs F2 H2 d2 g2 t2 h2 z2 => k _ F2 H2 _ (t1.trans g1 g2) t2 (.cons (h1.mono g2.ff) h2) ⟨_, _, rfl, z1, z2⟩
theorem tv_tup (h : TvA tp tr ρ ZA) (hl : ∀ ds, ZA ds → ds.length ≤ sizeLine) : Tv tp (tTup tr) ρ (fun d => ∃ ds, d = .tup ds ∧ ZA ds) := fun σ F H s t En Q k =>
  h σ F H s t En _ fun vs F1 H1 ds g1 t1 h1 z1 => ⟨by rw [h1.length]; exact hl ds z1, fun p hp => by
    have g := Gr.new (o := .tup vs) g1.fh hp
    exact k _ _ _ _ (t1.trans g1 g.wide) (t1.grow g) (.tup upd_same (h1.mono g.ff)) ⟨ds, rfl, z1⟩⟩
theorem tv_lst (h : TvA tp tr ρ ZA) (hl : ∀ ds, ZA ds → ds.length ≤ sizeLine) : Tv tp (tLst tr) ρ (fun d => ∃ ds, d = .lst ds ∧ ZA ds) := fun σ F H s t En Q k =>
  h σ F H s t En _ fun vs F1 H1 ds g1 t1 h1 z1 => ⟨by rw [h1.length]; exact hl ds z1, fun p hp => by
    have g := Gr.new (o := .lst vs) g1.fh hp
    exact k _ _ _ _ (t1.trans g1 g.wide) (t1.grow g) (.lst upd_same (h1.mono g.ff)) ⟨ds, rfl, z1⟩⟩
theorem tv_call {Pr : List Da → (Da → Prop) → Prop} (hi : ρ[i]? = some (some (.ob (.ref tp)))) (h : ∀ F H, DvA F H tr ρ ds) (p : Pr ds Z) : Tv tp (tCall (spT Pr) [] E (tCons (tVar i) tr)) ρ Z := fun σ F H s t En Q k => by
  obtain ⟨v0, e0, h0⟩ := En.at_ i _ hi
  rw [h0.of_ob] at e0
  refine ⟨_, e0, ?_⟩
  refine (h F H).run s En fun us F1 H1 g1 d1 => ?_
  show spT Pr ((V.ref tp :: us) ++ []) H1 Q E
  rw [List.append_nil]
  exact ⟨F1, tp, us, ds, Z, rfl, g1.fh, t.grow g1, d1, p, fun v F' H' d g t1 h1 z => k v F' H' d (g1.after g) t1 h1 z⟩
theorem tret (h : Tv tp te ρ Z) {D : Ends} {σ : LSt} {F H : Hp} (s : Same F H) (t : TapeE H F tp) (En : Env F σ ρ) (k : ∀ v F' H' d, Gr [tp] F H F' H' → TapeE H' F' tp → Dt F' v d → Z d → D.rt v H') : tRet te D σ H := h σ F H s t En D.rt k
theorem tset {u : TS} {j : Nat} (h : Tv tp te ρ Z) {D : Ends} {σ : LSt} {F H : Hp} (s : Same F H) (t : TapeE H F tp) (En : Env F σ ρ) (k : ∀ v F' H' d, Gr [tp] F H F' H' → TapeE H' F' tp → Z d → Env F' (σ.set j (some v)) (ρ.set j (some d)) → u D (σ.set j (some v)) H') : tSeq (tAsg te (gName j)) u D σ H :=
  h σ F H s t En _ fun v F' H' d g t1 h1 z => k v F' H' d g t1 z ((En.mono g.ff).set h1)
end
def R_draw (ds : List Da) (Z : Da → Prop) : Prop := ∃ many : Nat, ds = [.int (many : Nat)] ∧ 0 < many ∧ many ≤ 1000000000000 ∧ Z = fun d => ∃ r : Nat, r < many ∧ d = .int (r : Nat)
theorem draw_T {P : Program} {w : World} {K : PySem.W.Frag} {mg : Str → Option Value} {base : Heap} {k : Nat} (G : Ok P w K mg base CX0 k d_w_draw P_w_draw spDraw) : Ok P w K mg base CX0 k d_w_draw P_w_draw (spT R_draw) := G.imp fun vs H Q E h => by
  obtain ⟨F, tp, us, ds, Z, rfl, s, t, hd, ⟨many, rfl, h0, h1, rfl⟩, k⟩ := h
  obtain ⟨v, rfl, hv⟩ := hd.sole
  rw [hv.of_int]
  exact ⟨F, tp, many, rfl, s, t, h0, h1, fun F' H' r hr g t1 => k _ F' H' _ g t1 (.int _) ⟨r, hr, rfl⟩⟩
section
variable {tp : Addr} {ρ : Rho} {tm : TE} {i : Nat} {E : XK}
/-- draw(tape, many) -/
theorem tv_draw {many : Nat} (hi : ρ[i]? = some (some (.ob (.ref tp)))) (hm : ∀ F H, Dv F H tm ρ (.int (many : Nat))) (h0 : 0 < many) (h1 : many ≤ 1000000000000) : Tv tp (tCall (spT R_draw) [] E (tCons (tVar i) (tCons tm tNil))) ρ (fun d => ∃ r : Nat, r < many ∧ d = .int (r : Nat)) :=
  tv_call hi (fun F H => da_cons (hm F H) da_nil) ⟨many, rfl, h0, h1, rfl⟩
end
def R_tshape (ds : List Da) (Z : Da → Prop) : Prop := ∃ l c : Nat, ds = [.int (l : Nat), .int (c : Nat)] ∧ 0 < l ∧ l ≤ 1000 ∧ 0 < c ∧ c ≤ 1000 ∧ Z = fun d => ∃ m w : Nat, 1 ≤ m ∧ m ≤ l ∧ 1 ≤ w ∧ w ≤ c ∧ d = shD m w
def R_tspot (ds : List Da) (Z : Da → Prop) : Prop := ∃ m w : Nat, ds = [shD m w] ∧ 0 < m ∧ m ≤ 1000 ∧ 0 < w ∧ w ≤ 1000 ∧ Z = fun d => ∃ a b c : Nat, a < m ∧ b < 2 ∧ c < w ∧ d = triD ((a : Nat), (b : Nat), (c : Nat))
def R_tdeed (ds : List Da) (Z : Da → Prop) : Prop := ∃ m w : Nat, ds = [shD m w] ∧ 0 < m ∧ m ≤ 1000 ∧ 0 < w ∧ w ≤ 1000 ∧ Z = fun d => ∃ dd : Dd, dd.ok m ∧ d = ddD dd
abbrev N_w_shape : List Str := ["_law_tape", "_law_leaves", "_law_cells_here"]
abbrev P_w_shape : List Str := ["_law_tape", "_law_leaves", "_law_cells_here"]
theorem sc_w_shape : FnScope N_w_shape P_w_shape (defScope s_w_shape) := ⟨rfl, rfl, rfl, by decide +kernel, rfl, by decide +kernel, by decide +kernel⟩
theorem b_w_shape : BindsD d_w_shape P_w_shape := fun _ _ _ _ _ _ us hl => match us, hl with | [_, _, _], _ => rfl
abbrev N_w_spot : List Str := ["_law_tape", "_law_shape_here"]
abbrev P_w_spot : List Str := ["_law_tape", "_law_shape_here"]
theorem sc_w_spot : FnScope N_w_spot P_w_spot (defScope s_w_spot) := ⟨rfl, rfl, rfl, by decide +kernel, rfl, by decide +kernel, by decide +kernel⟩
theorem b_w_spot : BindsD d_w_spot P_w_spot := fun _ _ _ _ _ _ us hl => match us, hl with | [_, _], _ => rfl
abbrev N_w_a_deed : List Str := ["_law_tape", "_law_shape_here", "_law_course"]
abbrev P_w_a_deed : List Str := ["_law_tape", "_law_shape_here"]
theorem sc_w_a_deed : FnScope N_w_a_deed P_w_a_deed (defScope s_w_a_deed) := ⟨rfl, rfl, rfl, by decide +kernel, rfl, by decide +kernel, by decide +kernel⟩
theorem b_w_a_deed : BindsD d_w_a_deed P_w_a_deed := fun _ _ _ _ _ _ us hl => match us, hl with | [_, _], _ => rfl

section
variable {P : Program} {w : World} {K : PySem.W.Frag} {mg : Str → Option Value} {base : Heap}
theorem ok_w_shape (T : Txt K mg) (G_w_draw : Ok P w K mg base CX0 1 d_w_draw P_w_draw (spT R_draw)) : Ok P w K mg base CX0 2 d_w_shape P_w_shape (spT R_tshape) := by
  refine okN T.f_w_shape sc_w_shape b_w_shape (fun vs H Q E h => ?_) fun cdv A outer s H vs Q E hr h => ?_
  · obtain ⟨F, tp, us, ds, Z, rfl, s, t, hd, ⟨l, c, rfl, _⟩, k⟩ := h
    show us.length + 1 = 3
    rw [hd.length]
    rfl
  · obtain ⟨F, tp, us, ds, Z, rfl, sm, t, hd, ⟨l, c, rfl, l0, l1, c0, c1, rfl⟩, k⟩ := h
    refine ⟨_, (pss_one (ps_ret (pe_tup (pa_cons (pe_op op_add pe_int (pe_callO G_w_draw (hr.mono (by decide)) rfl T.g_w_draw pass0 (pa_cons (pv 0) (pa_cons (pv 1) pa_nil)))) (pa_cons (pe_op op_add pe_int (pe_callO G_w_draw (hr.mono (by decide)) rfl T.g_w_draw pass0 (pa_cons (pv 0) (pa_cons (pv 2) pa_nil)))) pa_nil))))), ?_⟩
    have E0 : Env F (L2.start N_w_shape (.ref tp :: us)) [some (.ob (.ref tp)), some (.int (l : Nat)), some (.int (c : Nat))] := env_start (.cons (.ob _) hd)
    have one : ∀ {j n : Nat}, ([some (.ob (.ref tp)), some (.int (l : Nat)), some (.int (c : Nat))] : Rho)[j]? = some (some (.int (n : Nat))) → 0 < n → n ≤ 1000 → Tv tp (tOp (rI0 fun i j => .int (i + j)) (tC (.int 1)) (tCall (spT R_draw) [] L2.E0 (tCons (tVar 0) (tCons (tVar j) tNil)))) [some (.ob (.ref tp)), some (.int (l : Nat)), some (.int (c : Nat))] (fun d => ∃ r : Nat, 1 ≤ r ∧ r ≤ n ∧ d = .int (r : Nat)) := fun {j n} e h0 h1 =>
      tv_op (tv_dv fun _ _ => dv_int) (tv_draw rfl (fun _ _ => dv_var e) h0 (by omega)) fun x y hx hy => by
        obtain ⟨r, hr, rfl⟩ := hy
        subst hx
        exact ⟨_, ⟨r + 1, by omega, by omega, rfl⟩, fun F B => rd_I0 (by omega)⟩
    refine tret (tv_tup (tva_cons (one (j := 1) rfl l0 l1) (tva_cons (one (j := 2) rfl c0 c1) tva_nil)) fun ds z => ?_) sm t E0 fun v F' H' d g t1 h1 z => k v F' H' d g t1 h1 ?_
    · obtain ⟨_, _, rfl, _, _, _, rfl, _, rfl⟩ := z
      exact small_ rfl
    · obtain ⟨_, rfl, _, _, rfl, ⟨m, m0, m1, rfl⟩, _, _, rfl, ⟨w, w0, w1, rfl⟩, rfl⟩ := z
      exact ⟨m, w, m0, m1, w0, w1, rfl⟩
theorem ok_w_spot (T : Txt K mg) (G_w_draw : Ok P w K mg base CX0 1 d_w_draw P_w_draw (spT R_draw)) : Ok P w K mg base CX0 2 d_w_spot P_w_spot (spT R_tspot) := by
  refine okN T.f_w_spot sc_w_spot b_w_spot (fun vs H Q E h => ?_) fun cdv A outer s H vs Q E hr h => ?_
  · obtain ⟨F, tp, us, ds, Z, rfl, s, t, hd, ⟨l, c, rfl, _⟩, k⟩ := h
    show us.length + 1 = 2
    rw [hd.length]
    rfl
  · obtain ⟨F, tp, us, ds, Z, rfl, sm, t, hd, ⟨m, w', rfl, l0, l1, c0, c1, rfl⟩, k⟩ := h
    refine ⟨_, (pss_one (ps_ret (pe_tup (pa_cons (pe_callO G_w_draw (hr.mono (by decide)) rfl T.g_w_draw pass0 (pa_cons (pv 0) (pa_cons (pe_ix (kix_tup (K := K)) (pv 1) pe_int (fun _ _ => rfl)) pa_nil))) (pa_cons (pe_callO G_w_draw (hr.mono (by decide)) rfl T.g_w_draw pass0 (pa_cons (pv 0) (pa_cons pe_int pa_nil))) (pa_cons (pe_callO G_w_draw (hr.mono (by decide)) rfl T.g_w_draw pass0 (pa_cons (pv 0) (pa_cons (pe_ix (kix_tup (K := K)) (pv 1) pe_int (fun _ _ => rfl)) pa_nil))) pa_nil)))))), ?_⟩
    have E0 : Env F (L2.start N_w_spot (.ref tp :: us)) [some (.ob (.ref tp)), some (shD m w')] := env_start (.cons (.ob _) hd)
    refine tret (tv_tup (tva_cons (tv_draw rfl (fun _ _ => dv_op (dv_var rfl) dv_int (rd_ixT (by rfl))) l0 (by omega)) (tva_cons (tv_draw (many := 2) rfl (fun _ _ => dv_int) (by omega) (by omega)) (tva_cons (tv_draw rfl (fun _ _ => dv_op (dv_var rfl) dv_int (rd_ixT (by rfl))) c0 (by omega)) tva_nil))) fun ds z => ?_) sm t E0 fun v F' H' d g t1 h1 z => k v F' H' d g t1 h1 ?_
    · obtain ⟨_, _, rfl, _, _, _, rfl, _, _, _, rfl, _, rfl⟩ := z
      exact small_ rfl
    · obtain ⟨_, rfl, _, _, rfl, ⟨a, ha, rfl⟩, _, _, rfl, ⟨b, hb, rfl⟩, _, _, rfl, ⟨c, hc, rfl⟩, rfl⟩ := z
      exact ⟨a, b, c, ha, hb, hc, rfl⟩
theorem ok_w_a_deed (T : Txt K mg) (G_w_draw : Ok P w K mg base CX0 1 d_w_draw P_w_draw (spT R_draw)) : Ok P w K mg base CX0 2 d_w_a_deed P_w_a_deed (spT R_tdeed) := by
  refine okN T.f_w_a_deed sc_w_a_deed b_w_a_deed (fun vs H Q E h => ?_) fun cdv A outer s H vs Q E hr h => ?_
  · obtain ⟨F, tp, us, ds, Z, rfl, s, t, hd, ⟨l, c, rfl, _⟩, k⟩ := h
    show us.length + 1 = 2
    rw [hd.length]
    rfl
  · obtain ⟨F, tp, us, ds, Z, rfl, sm, t, hd, ⟨m, w', rfl, l0, l1, c0, c1, rfl⟩, k⟩ := h
    refine ⟨_, (pss_cons (ps_set (i := 2) sc_w_a_deed.nd rfl (.inl rfl) (pe_callO G_w_draw (hr.mono (by decide)) rfl T.g_w_draw pass0 (pa_cons (pv 0) (pa_cons pe_int pa_nil))))
  (pss_cons (ps_if (PW.pt (pw_and (pt_cmpR op_lt (pv 2) pe_int (nomark _)) (pw_and1 (pt_cmpR op_gt (pe_ix (kix_tup (K := K)) (pv 1) pe_int (fun _ _ => rfl)) pe_int (nomark _))))) (pss_one (ps_ret (pe_tup (pa_cons (pe_ix (kix_list (K := K)) (pe_lst (pa_cons pe_str (pa_cons pe_str (pa_cons pe_str (pa_cons pe_str (pa_cons pe_str (pa_cons pe_str pa_nil))))))) (pv 2) (fun _ _ => rfl)) (pa_cons (pe_callO G_w_draw (hr.mono (by decide)) rfl T.g_w_draw pass0 (pa_cons (pv 0) (pa_cons (pe_op op_sub (pe_ix (kix_tup (K := K)) (pv 1) pe_int (fun _ _ => rfl)) pe_int) pa_nil))) pa_nil))))) pss_nil)
  (pss_cons (ps_if (pt_cmpR op_lt (pv 2) pe_int (nomark _)) (pss_one (ps_ret (pe_tup (pa_cons (pe_ix (kix_list (K := K)) (pe_lst (pa_cons pe_str (pa_cons pe_str pa_nil))) (pe_op op_mod (pv 2) pe_int) (fun _ _ => rfl)) (pa_cons (pe_callO G_w_draw (hr.mono (by decide)) rfl T.g_w_draw pass0 (pa_cons (pv 0) (pa_cons (pe_ix (kix_tup (K := K)) (pv 1) pe_int (fun _ _ => rfl)) pa_nil))) pa_nil))))) pss_nil)
  (pss_one (ps_ret (pe_tup (pa_cons pe_str (pa_cons (pe_ix (kix_list (K := K)) (pe_lst (pa_cons pe_int (pa_cons pe_int (pa_cons (pe_op op_add pe_int (pe_callO G_w_draw (hr.mono (by decide)) rfl T.g_w_draw pass0 (pa_cons (pv 0) (pa_cons pe_int pa_nil)))) pa_nil)))) (pe_callO G_w_draw (hr.mono (by decide)) rfl T.g_w_draw pass0 (pa_cons (pv 0) (pa_cons pe_int pa_nil))) (fun _ _ => rfl)) pa_nil)))))))), ?_⟩
    have E0 : Env F (L2.start N_w_a_deed (.ref tp :: us)) [some (.ob (.ref tp)), some (shD m w'), none] := env_start (.cons (.ob _) hd)
    refine tset (tv_draw (many := 9) rfl (fun _ _ => dv_int) (by omega) (by omega)) sm t E0 fun v F1 H1 d1 g1 t1 z1 E1 => ?_
    obtain ⟨r, hr, rfl⟩ := z1
    have sh0 : ∀ F H, Dv F H (tOp (rIxT K) (tVar 1) (tC (.int 0))) [some (.ob (.ref tp)), some (shD m w'), some (.int (r : Nat))] (.int (m : Nat)) := fun F H => dv_op (dv_var rfl) dv_int (rd_ixT (by rfl))
    have E1 : Env F1 _ [some (.ob (.ref tp)), some (shD m w'), some (.int (r : Nat))] := E1
    have two : ∀ ds : List Da, (∃ d r, ds = d :: r ∧ (∃ z, d = z) ∧ ∃ d2 r2, r = d2 :: r2 ∧ r2 = []) → ds.length ≤ sizeLine := fun ds z => by
      obtain ⟨_, _, rfl, _, _, _, rfl, rfl⟩ := z
      exact small_ rfl
    refine if_seq ?_
    refine (dt_and (c := decide (((m : Nat) : Int) > 1)) (dt_test (dv_op (dv_var rfl) dv_int rd_B0)) fun _ => dt_test (dv_op (sh0 F1 H1) dv_int rd_B0)).run g1.fh E1 fun F2 H2 g2 => ?_
    have E2 := E1.mono g2.ff
    have t2 := t1.grow g2
    have g12 := t1.trans g1 g2.wide
    by_cases hb : (decide (((r : Nat) : Int) < 6) && decide (((m : Nat) : Int) > 1)) = true
    · refine iteT' hb ?_
      rw [Bool.and_eq_true_iff] at hb
      have h6 : ((r : Nat) : Int) < 6 := of_decide_eq_true hb.1
      have hm1 : ((m : Nat) : Int) > 1 := of_decide_eq_true hb.2
      obtain ⟨z, hz, hat⟩ : ∃ z, (z = Da.str "press" ∨ z = Da.str "swap") ∧ atI [Da.str "press", .str "press", .str "press", .str "press", .str "swap", .str "swap"] ((r : Nat) : Int) = some z := by
        have : r = 0 ∨ r = 1 ∨ r = 2 ∨ r = 3 ∨ r = 4 ∨ r = 5 := by omega
        rcases this with rfl | rfl | rfl | rfl | rfl | rfl
        · exact ⟨_, .inl rfl, rfl⟩
        · exact ⟨_, .inl rfl, rfl⟩
        · exact ⟨_, .inl rfl, rfl⟩
        · exact ⟨_, .inl rfl, rfl⟩
        · exact ⟨_, .inr rfl, rfl⟩
        · exact ⟨_, .inr rfl, rfl⟩
      refine tret (tv_tup (tva_cons (tv_dv fun F H => dv_op (dv_lst (da_cons dv_str (da_cons dv_str (da_cons dv_str (da_cons dv_str (da_cons dv_str (da_cons dv_str da_nil)))))) (small_ rfl)) (dv_var rfl) (rd_ixL hat)) (tva_cons (tv_draw (many := m - 1) rfl (fun F H => dv_op (sh0 F H) dv_int (rd_I0 (by omega))) (by omega) (by omega)) tva_nil)) fun ds z => ?_) g2.fh t2 E2 fun v F' H' d g t3 h3 z3 => k v F' H' d (t2.trans g12 g) t3 h3 ?_
      · obtain ⟨_, _, rfl, _, _, _, rfl, _, rfl⟩ := z
        exact small_ rfl
      · obtain ⟨_, rfl, _, _, rfl, rfl, _, _, rfl, ⟨a, ha, rfl⟩, rfl⟩ := z3
        rcases hz with rfl | rfl
        · exact ⟨.press a, by show a + 1 < m; omega, rfl⟩
        · exact ⟨.swap a, by show a + 1 < m; omega, rfl⟩
    refine iteF' (Bool.eq_false_iff.mpr hb) (nextS ?_)
    refine if_seq ?_
    refine (dt_test (dv_op (dv_var rfl) dv_int rd_B0)).run g2.fh E2 fun F3 H3 g3 => ?_
    have E3 := E2.mono g3.ff
    have t3 := t2.grow g3
    have g13 := t2.trans g12 g3.wide
    by_cases hb8 : ((r : Nat) : Int) < 8
    · refine iteT' (decide_eq_true hb8) ?_
      obtain ⟨z, hz, hat⟩ : ∃ z, (z = Da.str "over" ∨ z = Da.str "about") ∧ atI [Da.str "over", .str "about"] (((r : Nat) : Int) % 2) = some z := by
        have : ((r : Nat) : Int) % 2 = 0 ∨ ((r : Nat) : Int) % 2 = 1 := by omega
        rcases this with h | h
        · rw [h]; exact ⟨_, .inl rfl, rfl⟩
        · rw [h]; exact ⟨_, .inr rfl, rfl⟩
      refine tret (tv_tup (tva_cons (tv_dv fun F H => dv_op (dv_lst (da_cons dv_str (da_cons dv_str da_nil)) (small_ rfl)) (dv_op (dv_var rfl) dv_int (rd_I (by decide))) (rd_ixL hat)) (tva_cons (tv_draw rfl sh0 l0 (by omega)) tva_nil)) fun ds z => ?_) g3.fh t3 E3 fun v F' H' d g t4 h4 z4 => k v F' H' d (t3.trans g13 g) t4 h4 ?_
      · obtain ⟨_, _, rfl, _, _, _, rfl, _, rfl⟩ := z
        exact small_ rfl
      · obtain ⟨_, rfl, _, _, rfl, rfl, _, _, rfl, ⟨a, ha, rfl⟩, rfl⟩ := z4
        rcases hz with rfl | rfl
        · exact ⟨.over a, ha, rfl⟩
        · exact ⟨.about a, ha, rfl⟩
    refine iteF' (decide_eq_false hb8) (nextS ?_)
    refine tret (tv_tup (tva_cons (tv_dv fun F H => dv_str) (tva_cons (tv_op (Z := fun d => ∃ t : Nat, 1 ≤ t ∧ t ≤ 9 ∧ d = .int (t : Nat)) (tv_lst (tva_cons (tv_dv fun F H => dv_int) (tva_cons (tv_dv fun F H => dv_int) (tva_cons (tv_op (Z := fun d => ∃ t : Nat, 1 ≤ t ∧ t ≤ 9 ∧ d = .int (t : Nat)) (tv_dv fun F H => dv_int) (tv_draw (many := 9) rfl (fun _ _ => dv_int) (by omega) (by omega)) fun x y hx hy => ?_) tva_nil))) fun ds z => ?_) (tv_draw (many := 3) rfl (fun _ _ => dv_int) (by omega) (by omega)) fun x y hx hy => ?_) tva_nil)) fun ds z => ?_) g3.fh t3 E3 fun v F' H' d g t4 h4 z4 => k v F' H' d (t3.trans g13 g) t4 h4 ?_
    · obtain ⟨a, ha, rfl⟩ := hy
      subst hx
      exact ⟨_, ⟨a + 1, by omega, by omega, rfl⟩, fun F B => rd_I0 (by omega)⟩
    · obtain ⟨_, _, rfl, _, _, _, rfl, _, _, _, rfl, _, rfl⟩ := z
      exact small_ rfl
    · obtain ⟨_, rfl, _, _, rfl, rfl, _, _, rfl, rfl, _, _, rfl, ⟨t, ht0, ht1, rfl⟩, rfl⟩ := hx
      obtain ⟨a, ha, rfl⟩ := hy
      have : a = 0 ∨ a = 1 ∨ a = 2 := by omega
      rcases this with rfl | rfl | rfl
      · exact ⟨_, ⟨1, by omega, by omega, rfl⟩, fun F B => rd_ixL rfl⟩
      · exact ⟨_, ⟨2, by omega, by omega, rfl⟩, fun F B => rd_ixL rfl⟩
      · exact ⟨_, ⟨t, ht0, ht1, rfl⟩, fun F B => rd_ixL rfl⟩
    · obtain ⟨_, _, rfl, _, _, _, rfl, _, rfl⟩ := z
      exact small_ rfl
    · obtain ⟨_, rfl, _, _, rfl, rfl, _, _, rfl, ⟨t, ht0, ht1, rfl⟩, rfl⟩ := z4
      exact ⟨.wait t, ⟨ht0, ht1⟩, rfl⟩
end
end Bb
/-! Bb32 -/
namespace Bb
open PySem PySem.Spec PyProof.Rows L2

/-! ### what the words and lists may be -/
def Da.tame (S : Str → Prop) (b : Nat) : Nat → Da → Prop
  | _, .non => True
  | _, .bl _ => True
  | _, .int _ => True
  | _, .str s => S s
  | _, .ob _ => False
  | 0, .lst _ => False
  | 0, .tup _ => False
  | n + 1, .lst xs => xs.length ≤ b ∧ ∀ x ∈ xs, x.tame S b n
  | n + 1, .tup xs => xs.length ≤ b ∧ ∀ x ∈ xs, x.tame S b n
def base0 : List Str := ["", " ", "a", "red", "blue", "press", "swap", "over", "0", "about", "wait", "A", "drop", "a\nb", "tick"]
def S0 (s : Str) : Prop := s ∈ base0
def S1B (s : Str) : Bool := decide (s.length ≤ 100) && (!decide (s = "back")) && s.cps.all (· < 0x110000)
def S1 (s : Str) : Prop := S1B s = true
theorem base_ok : (base0.all S1B) = true := by decide +kernel
theorem S1_base {s : Str} (h : S0 s) : S1 s := List.all_eq_true.mp base_ok s h
theorem tame_mono {S S' : Str → Prop} {b b' : Nat} (hS : ∀ s, S s → S' s) (hb : b ≤ b') : ∀ {n m : Nat} {d : Da}, n ≤ m → d.tame S b n → d.tame S' b' m
  | 0, m, d, hm, h => by
    cases d with
    | lst xs => exact h.elim
    | tup xs => exact h.elim
    | ob v => exact h.elim
    | str s => cases m <;> exact hS s h
    | _ => cases m <;> trivial
  | n + 1, 0, d, hm, h => absurd hm (by omega)
  | n + 1, m + 1, d, hm, h => by
    cases d with
    | lst xs => exact ⟨Nat.le_trans h.1 hb, fun x hx => tame_mono hS hb (Nat.le_of_succ_le_succ hm) (h.2 x hx)⟩
    | tup xs => exact ⟨Nat.le_trans h.1 hb, fun x hx => tame_mono hS hb (Nat.le_of_succ_le_succ hm) (h.2 x hx)⟩
    | ob v => exact h.elim
    | str s => exact hS s h
    | _ => trivial
theorem tame_int {S : Str → Prop} {b n : Nat} {i : Int} : (Da.int i).tame S b n := by cases n <;> trivial
theorem tame_bl {S : Str → Prop} {b n : Nat} {i : Bool} : (Da.bl i).tame S b n := by cases n <;> trivial
theorem tame_non {S : Str → Prop} {b n : Nat} : Da.non.tame S b n := by cases n <;> trivial
theorem tame_str {S : Str → Prop} {b n : Nat} {s : Str} (h : S s) : (Da.str s).tame S b n := by cases n <;> exact h
/-! ### statements that give back -/
section
variable (tp : Addr)
def Dn (t : TS) (ρ : Rho) (Z : Da → Prop) : Prop := ∀ σ F H, Same F H → TapeE H F tp → Env F σ ρ → ∀ D : Ends, (∀ v F' H' d, Gr [tp] F H F' H' → TapeE H' F' tp → Dt F' v d → Z d → D.rt v H') → t D σ H
def TvT (tt : TT) (ρ : Rho) (Z : Bool → Prop) : Prop := ∀ σ F H, Same F H → TapeE H F tp → Env F σ ρ → ∀ Q : Bool → Hp → Prop, (∀ b F' H', Gr [tp] F H F' H' → TapeE H' F' tp → Z b → Q b H') → tt σ H Q
end
section
variable {tp : Addr} {ρ : Rho} {te ta tb tm : TE} {tr : TA} {tt tu : TT} {t u rest : TS} {Z Z1 Z2 Z' : Da → Prop} {B B2 : Bool → Prop} {ZA ZB : List Da → Prop} {r : R2} {q : List V → Hp → VK → Prop} {d : Da} {ds : List Da} {i j : Nat} {E : XK} {K : PySem.W.Frag}
theorem dn_ret (h : Tv tp te ρ Z) : Dn tp (tRet te) ρ Z := fun σ F H s t En D k => h σ F H s t En D.rt k
theorem dn_seqR (h : Dn tp t ρ Z) : Dn tp (tSeq t u) ρ Z := fun σ F H s t En D k => h σ F H s t En { D with nx := u D } k
theorem dn_next (h : Dn tp t ρ Z) : Dn tp (tSeq tNext t) ρ Z := fun σ F H s t En D k => h σ F H s t En D k
theorem dn_set (h : Tv tp te ρ Z1) (k : ∀ d, Z1 d → Dn tp u (ρ.set j (some d)) Z) : Dn tp (tSeq (tAsg te (gName j)) u) ρ Z := fun σ F H s t En D kk =>
  h σ F H s t En _ fun v F1 H1 d g1 t1 h1 z1 => k d z1 _ F1 H1 g1.fh t1 ((En.mono g1.ff).set h1) D fun v F2 H2 d2 g2 t2 h2 z2 => kk v F2 H2 d2 (t1.trans g1 g2) t2 h2 z2
theorem dn_if (h : TvT tp tt ρ B) (h1 : B true → Dn tp (tSeq t rest) ρ Z) (h2 : B false → Dn tp (tSeq u rest) ρ Z) : Dn tp (tSeq (tIfS tt t u) rest) ρ Z := fun σ F H s t En D kk =>
  h σ F H s t En _ fun b F1 H1 g1 t1 z1 => by
    cases b with
    | true => exact iteT (h1 z1 σ F1 H1 g1.fh t1 (En.mono g1.ff) D fun v F2 H2 d2 g2 t2 h2 z2 => kk v F2 H2 d2 (t1.trans g1 g2) t2 h2 z2)
    | false => exact iteF (h2 z1 σ F1 H1 g1.fh t1 (En.mono g1.ff) D fun v F2 H2 d2 g2 t2 h2 z2 => kk v F2 H2 d2 (t1.trans g1 g2) t2 h2 z2)
theorem dn_imp (h : Dn tp t ρ Z) (f : ∀ d, Z d → Z' d) : Dn tp t ρ Z' := fun σ F H s t En D k => h σ F H s t En D fun v F' H' d g t1 d1 z => k v F' H' d g t1 d1 (f d z)
theorem tt_dv {b : Bool} (h : ∀ F H, DvT F H tt ρ b) : TvT tp tt ρ (· = b) := fun σ F H s t En Q k => (h F H).run s En fun F1 H1 g1 => k b F1 H1 g1.wide (t.grow g1) rfl
theorem tt_and {b : Bool} (h1 : ∀ F H, DvT F H tt ρ b) (h2 : b = true → TvT tp tu ρ B) : TvT tp (tAnd tt tu) ρ (fun c => (b = true ∧ B c) ∨ (b = false ∧ c = false)) := fun σ F H s t En Q k => (h1 F H).run s En fun F1 H1 g1 => by
  cases b with
  | true => exact iteT (h2 rfl σ F1 H1 g1.fh (t.grow g1) (En.mono g1.ff) Q fun c F2 H2 g2 t2 z2 => k c F2 H2 ((t.grow g1).trans g1.wide g2) t2 (.inl ⟨rfl, z2⟩))
  | false => exact iteF (k false F1 H1 g1.wide (t.grow g1) (.inr ⟨rfl, rfl⟩))
theorem tt_test (h : Tv tp te ρ fun d => ∃ b, d = .bl b) : TvT tp (tTest te) ρ fun _ => True := fun σ F H s t En Q k => h σ F H s t En _ fun v F1 H1 d g1 t1 h1 z1 => by
  obtain ⟨b, rfl⟩ := z1
  exact ⟨b, h1.of_bl, k b F1 H1 g1 t1 trivial⟩
theorem tt_imp (h : TvT tp tt ρ B) (f : ∀ b, B b → B2 b) : TvT tp tt ρ B2 := fun σ F H s t En Q k => h σ F H s t En Q fun b F' H' g t1 z => k b F' H' g t1 (f b z)
/-- draw(tape, many) > 0, < .. -/
theorem tt_draw {g : Int → Int → Bool} {many : Nat} {c : Int} (hi : ρ[i]? = some (some (.ob (.ref tp)))) (hm : ∀ F H, Dv F H tm ρ (.int (many : Nat))) (h0 : 0 < many) (h1 : many ≤ 1000000000000) : TvT tp (tTest (tOp (rI0 fun i j => .bl (g i j)) (tCall (spT R_draw) [] E (tCons (tVar i) (tCons tm tNil))) (tC (.int c)))) ρ fun _ => True :=
  tt_test (tv_op (tv_draw hi hm h0 h1) (tv_dv fun _ _ => dv_int) fun x y hx hy => by
    obtain ⟨r, _, rfl⟩ := hx
    subst hy
    exact ⟨_, ⟨_, rfl⟩, fun F B => rd_B0⟩)
end
/-! ### a list comprehension that draws -/
section
variable {M : List Addr} {F H F1 H1 : Hp} {D : Addr} {o : HO}
theorem Gr.mineM (g : Gr M F H F1 H1) (hD : H D = none) (hF : F1 D = none) : Gr M F H F1 (upd H1 D o) :=
  ⟨g.ff, fun b u e => by rw [upd_ne (ne_of_none e hF)]; exact g.fh b u e, fun b u n e => by rw [upd_ne (ne_of_none e hD)]; exact g.hh b u n e, g.nw⟩
theorem Gr.freezeM (g : Gr M F H F1 H1) (hD : H D = none) (hF : F1 D = none) (h : H1 D = some o) : Gr M F H (upd F1 D o) H1 where
  ff := fun b u e => by
    rw [upd_ne (ne_of_none (g.ff _ _ e) hF)]
    exact g.ff _ _ e
  fh := fun b u e => by
    by_cases q : b = D
    · subst q; rw [upd_same] at e; cases e; exact h
    · rw [upd_ne q] at e; exact g.fh _ _ e
  hh := g.hh
  nw := fun b u e t => by rw [upd_ne (ne_of_none e hD)]; exact g.nw b u e t
theorem same_upd (hF : F D = none) : Same F (upd F D o) := fun c u e => by rw [upd_ne (ne_of_none e hF)]; exact e
theorem TapeE.putH {tp : Addr} (t : TapeE H F tp) (h : D ≠ tp) : TapeE (upd H D o) F tp := by
  obtain ⟨ns, i, c, nF, vs, h1, h2⟩ := t
  exact ⟨ns, i, c, nF, vs, by rw [upd_ne (Ne.symm h)]; exact h1, h2⟩
theorem TapeE.putFz {tp : Addr} (t : TapeE H F tp) (h : D ≠ tp) (hF : F D = none) : TapeE H (upd F D o) tp := by
  obtain ⟨ns, i, c, nF, vs, h1, h2⟩ := t
  exact ⟨ns, i, c, by rw [upd_ne (Ne.symm h)]; exact nF, vs, h1, h2.mono (same_upd hF)⟩
theorem TapeE.ne {tp : Addr} (t : TapeE H F tp) (hD : H D = none) : D ≠ tp := fun z => by
  obtain ⟨o, e, _⟩ := t.at_
  rw [← z, hD] at e
  cases e
theorem Gr.old (g : Gr M F H F1 H1) (hM : ∀ m ∈ M, ∃ o, H1 m = some o ∧ HO.isTup o = false) (hD : H1 D = none) : H D = none := by
  cases e : H D with
  | none => rfl
  | some u =>
    by_cases hm : D ∈ M
    · obtain ⟨o, e2, _⟩ := hM D hm
      rw [hD] at e2
      cases e2
    · rw [g.hh D u hm e] at hD
      cases hD
end
theorem lcT {tp : Addr} {ρ : Rho} {te : TE} {tr : TA} {j n : Nat} {Z : Da → Prop} (hr : TvA tp tr ρ fun ds => ∃ r : Nat, r ≤ n ∧ ds = [.int (r : Nat)]) (hn : n ≤ 1000) (el : ∀ i : Nat, Tv tp te ((wipeR ρ [j]).set j (some (.int (i : Nat)))) Z) :
    Tv tp (tLc (iRng1 tr) (gName j) tYes te [j]) ρ (fun d => ∃ ds, d = .lst ds ∧ ds.length ≤ n ∧ ∀ x ∈ ds, Z x) := fun σ F H s t En Q k => hr σ F H s t En _ fun vs F1 H1 ds g1 t1 h1 z1 => by
  obtain ⟨r, hrn, rfl⟩ := z1
  obtain ⟨v, rfl, hv⟩ := h1.sole
  rw [hv.of_int]
  refine ⟨(r : Nat), rfl, by omega, by omega, fun D hD => ?_⟩
  have tM : ∀ {F' H' : Hp}, TapeE H' F' tp → ∀ m ∈ [tp], ∃ o, H' m = some o ∧ HO.isTup o = false := fun t m hm => by
    rw [show m = tp by simpa using hm]
    exact t.at_
  have hDt : D ≠ tp := t1.ne hD
  have nF1 : F1 D = none := none_of g1.fh hD
  have nH : H D = none := g1.old (tM t1) hD
  refine ⟨fun i m H' => m = r - i ∧ i ≤ r ∧ ∃ F', Gr [tp] F H F' H' ∧ TapeE H' F' tp ∧ F' D = none ∧ ∃ acc ds, H' D = some (.lst acc) ∧ DtA F' acc ds ∧ ds.length = i ∧ ∀ x ∈ ds, Z x,
    ⟨r, by simp, Nat.zero_le _, F1, g1.mineM nH nF1, t1.putH hDt, nF1, [], [], upd_same, .nil, rfl, fun x hx => (nomatch hx)⟩, ?_⟩
  rintro i m H' ⟨rfl, hle, F', g', t', nD, acc, ds, hacc, hd, hl, hz⟩
  by_cases hlt : i < r
  · refine .inr ⟨by show i < ((r : Nat) : Int).toNat; omega, fun H2 => i + 1 ≤ r ∧ ∃ F', Gr [tp] F H F' H2 ∧ TapeE H2 F' tp ∧ F' D = none ∧ ∃ acc ds, H2 D = some (.lst acc) ∧ DtA F' acc ds ∧ ds.length = i + 1 ∧ ∀ x ∈ ds, Z x, fun H2 ⟨h1, h2⟩ => ⟨r - (i + 1), by omega, rfl, h1, h2⟩, fun v H2 hy => ?_⟩
    obtain ⟨rfl, rfl⟩ := hy
    show wipe _ _ = wipe _ _ ∧ te _ _ _
    refine ⟨(wipe_set (by simp)).trans wipe_wipe, ?_⟩
    have E2 : Env F' ((wipe σ [j]).set j (some (.int (0 + (i : Nat))))) ((wipeR ρ [j]).set j (some (.int (i : Nat)))) := ((En.mono g'.ff).wipe [j]).set (by rw [Int.zero_add]; exact .int _)
    refine el i _ F' H2 g'.fh t' E2 _ fun y F3 H3 d3 g3 t3 h3 z3 => ?_
    have e3 : H3 D = some (.lst acc) := g3.hh D _ (by simpa using hDt) hacc
    have n3 : F3 D = none := by rw [g3.nw D _ hacc rfl]; exact nD
    refine ⟨acc, e3, by rw [hd.length, hl, sizeLine_eq]; omega, hlt, F3, (t'.trans g' g3).mineM nH n3, t3.putH hDt, n3, acc ++ [y], ds ++ [d3], upd_same, (hd.mono g3.ff).append (.cons h3 .nil), by simp [hl], fun x hx => ?_⟩
    rcases List.mem_append.mp hx with hx | hx
    · exact hz x hx
    · rw [show x = d3 by simpa using hx]
      exact z3
  · have e : i = r := by omega
    subst e
    refine .inl ⟨by show ((i : Nat) : Int).toNat ≤ i; omega, ?_⟩
    exact k _ _ _ (.lst ds) (g'.freezeM nH nD hacc) (t'.putFz hDt nD) (.lst upd_same (hd.mono (same_upd nD))) ⟨ds, rfl, by omega, hz⟩
def R_tany (n : Nat) (ds : List Da) (Z : Da → Prop) : Prop := ds = [.int (n : Nat)] ∧ Z = Da.tame S1 50 (n + 1)
abbrev N_w_any : List Str := ["_law_tape", "_law_deep", "_law_course", "_law_some", "_law_k"]
abbrev P_w_any : List Str := ["_law_tape", "_law_deep"]
theorem sc_w_any : FnScope N_w_any P_w_any (defScope s_w_any) := ⟨rfl, rfl, rfl, by decide +kernel, rfl, by decide +kernel, by decide +kernel⟩
theorem b_w_any : BindsD d_w_any P_w_any := fun _ _ _ _ _ _ us hl => match us, hl with | [_, _], _ => rfl

section
variable {P : Program} {w : World} {K : PySem.W.Frag} {mg : Str → Option Value} {base : Heap}
theorem any_step (T : Txt K mg) (G_w_draw : Ok P w K mg base CX0 1 d_w_draw P_w_draw (spT R_draw)) {j n : Nat} {sp : Sp} (hj : 1 ≤ j) (G_w_any : Ok P w K mg base CX0 j d_w_any P_w_any sp) (hsp : n > 0 → sp = spT (R_tany (n - 1))) (hn : n ≤ 100) : Ok P w K mg base CX0 (j + 1) d_w_any P_w_any (spT (R_tany n)) := by
  refine okN T.f_w_any sc_w_any b_w_any (fun vs H Q E h => ?_) fun cdv A outer s H vs Q E hr h => ?_
  · obtain ⟨F, tp, us, ds, Z, rfl, s, t, hd, ⟨rfl, _⟩, k⟩ := h
    show us.length + 1 = 2
    rw [hd.length]
    rfl
  · obtain ⟨F, tp, us, ds, Z, rfl, sm, t, hd, ⟨rfl, rfl⟩, k⟩ := h
    refine ⟨_, (pss_cons (ps_set (i := 2) sc_w_any.nd rfl (.inl rfl) (pe_callO G_w_draw (hr.mono hj) rfl T.g_w_draw pass0 (pa_cons (pv 0) (pa_cons pe_int pa_nil))))
  (pss_cons (ps_if (PW.pt (pw_and (pt_cmpR op_lt (pv 2) pe_int (nomark _)) (pw_and1 (pt_cmpR op_gt (pv 1) pe_int (nomark _))))) (pss_cons (ps_setLc (i := 3) (own := [("_law_k", 4)]) rfl sc_w_any.nd rfl rfl (sw_true rfl rfl rfl (by decide +kernel)) (pi_range1 (by rfl) T.n_range (pa_cons (pe_callO G_w_draw (hr.mono hj) rfl T.g_w_draw pass0 (pa_cons (pv 0) (pa_cons pe_int pa_nil))) pa_nil)) (blkOk_by (N := N_w_any) (sc := defScope s_w_any) (by decide +kernel)) (fun _ _ _ _ _ => (pg_name (i := 4) sc_w_any.nd rfl (.inl rfl))) (fun _ _ _ _ _ => pts_nil) (fun _ _ _ _ _ => (pe_callO G_w_any (hr.mono (Nat.le_refl _)) rfl T.g_w_any pass0 (pa_cons (pv 0) (pa_cons (pe_op op_sub (pv 1) pe_int) pa_nil)))))
  (pss_one (ps_ret (pe_ix (kix_list (K := K)) (pe_lst (pa_cons (pv 3) (pa_cons (pe_callTy (kcall_tuple (K := K)) (by rfl) T.n_tuple (by decide +kernel) (pa_cons (pv 3) pa_nil)) (pa_cons (pe_callTy (kcall_tuple (K := K)) (by rfl) T.n_tuple (by decide +kernel) (pa_cons (pv 3) pa_nil)) (pa_cons (pe_callTy (kcall_tuple (K := K)) (by rfl) T.n_tuple (by decide +kernel) (pa_cons (pv 3) pa_nil)) pa_nil))))) (pv 2) (fun _ _ => rfl))))) pss_nil)
  (pss_cons (ps_if (pt_cmpR op_lt (pv 2) pe_int (nomark _)) (pss_one (ps_ret (pe_ix (kix_list (K := K)) (pe_lst (pa_cons (pe_op op_sub (pe_callO G_w_draw (hr.mono hj) rfl T.g_w_draw pass0 (pa_cons (pv 0) (pa_cons pe_int pa_nil))) pe_int) (pa_cons (pe_callO G_w_draw (hr.mono hj) rfl T.g_w_draw pass0 (pa_cons (pv 0) (pa_cons (pe_op op_pow pe_int pe_int) pa_nil))) (pa_cons pe_int (pa_cons pe_int pa_nil))))) (pe_callB (call_max2 rfl) (by rfl) T.n_max (by decide +kernel) (pa_cons pe_int (pa_cons (pe_op op_sub (pv 2) pe_int) pa_nil))) (fun _ _ => rfl)))) pss_nil)
  (pss_cons (ps_set (i := 3) sc_w_any.nd rfl (.inl rfl) (pe_lst (pa_cons pe_str (pa_cons pe_str (pa_cons pe_str (pa_cons pe_str (pa_cons pe_str (pa_cons pe_str (pa_cons pe_str (pa_cons pe_str (pa_cons pe_str (pa_cons pe_str (pa_cons pe_str (pa_cons pe_str (pa_cons pe_str (pa_cons pe_str (pa_cons pe_str pa_nil)))))))))))))))))
  (pss_one (ps_ret (pe_ix (kix_list (K := K)) (pe_lst (pa_cons pe_bl (pa_cons pe_bl (pa_cons pe_non (pa_cons (pe_ix (kix_list (K := K)) (pv 3) (pe_callO G_w_draw (hr.mono hj) rfl T.g_w_draw pass0 (pa_cons (pv 0) (pa_cons pe_int pa_nil))) (fun _ _ => rfl)) (pa_cons (pe_tup (pa_cons pe_int (pa_cons pe_int pa_nil))) pa_nil)))))) (pe_op op_sub (pv 2) pe_int) (fun _ _ => rfl)))))))), ?_⟩
    have E0 : Env F (L2.start N_w_any (.ref tp :: us)) [some (.ob (.ref tp)), some (.int (n : Nat)), none, none, none] := env_start (.cons (.ob _) hd)
    refine (dn_set (tv_draw (many := 13) rfl (fun _ _ => dv_int) (by omega) (by omega)) fun d hd => ?_ : Dn tp _ _ (Da.tame S1 50 (n + 1))) _ F H sm t E0 _ k
    obtain ⟨r, hr13, rfl⟩ := hd
    refine dn_if (tt_dv (b := decide (((r : Nat) : Int) < 4) && decide (((n : Nat) : Int) > 0)) fun F H => dt_and (c := decide (((n : Nat) : Int) > 0)) (dt_test (dv_op (dv_var rfl) dv_int rd_B0)) fun _ => dt_test (dv_op (dv_var rfl) dv_int rd_B0)) (fun hb => ?_) fun _ => dn_next ?_
    · have hb := hb.symm
      rw [Bool.and_eq_true_iff] at hb
      have h4 : ((r : Nat) : Int) < 4 := of_decide_eq_true hb.1
      have hn0 : ((n : Nat) : Int) > 0 := of_decide_eq_true hb.2
      have hn1 : n > 0 := by omega
      rw [hsp hn1]
      refine dn_seqR ?_
      refine dn_set (lcT (n := 3) (Z := Da.tame S1 50 n) (tva_imp (tva_cons (tv_draw (many := 4) rfl (fun _ _ => dv_int) (by omega) (by omega)) tva_nil) fun ds z => ?_) (by omega) fun i => ?_) fun d hd => ?_
      · obtain ⟨_, _, rfl, ⟨a, ha, rfl⟩, rfl⟩ := z
        exact ⟨a, by omega, rfl⟩
      · refine tv_imp (tv_call (Pr := R_tany (n - 1)) rfl (fun F H => da_cons (dv_op (dv_var rfl) dv_int (rd_I0 (k := ((n - 1 : Nat) : Int)) (by omega))) da_nil) ⟨rfl, rfl⟩) fun d z => ?_
        rw [show n = (n - 1) + 1 by omega]
        exact z
      · obtain ⟨ds, rfl, hl, hz⟩ := hd
        have z1 : (Da.lst ds).tame S1 50 (n + 1) := ⟨by omega, hz⟩
        have z2 : (Da.tup ds).tame S1 50 (n + 1) := ⟨by omega, hz⟩
        have tu : ∀ F H, Dv F H (tCB (rTupOf K) (tCons (tVar 3) tNil)) [some (.ob (.ref tp)), some (.int (n : Nat)), some (.int (r : Nat)), some (.lst ds), none] (.tup ds) := fun F H => dv_cb (da_cons (dv_var rfl) da_nil) rc_tupL
        have hat : ∃ z, z.tame S1 50 (n + 1) ∧ atI [Da.lst ds, .tup ds, .tup ds, .tup ds] ((r : Nat) : Int) = some z := by
          have : r = 0 ∨ r = 1 ∨ r = 2 ∨ r = 3 := by omega
          rcases this with rfl | rfl | rfl | rfl
          · exact ⟨_, z1, rfl⟩
          · exact ⟨_, z2, rfl⟩
          · exact ⟨_, z2, rfl⟩
          · exact ⟨_, z2, rfl⟩
        obtain ⟨z, hz, hat⟩ := hat
        exact dn_ret (tv_imp (tv_dv fun F H => dv_op (dv_lst (da_cons (dv_var rfl) (da_cons (tu F H) (da_cons (tu F H) (da_cons (tu F H) da_nil)))) (small_ rfl)) (dv_var rfl) (rd_ixL hat)) fun d e => by rw [e]; exact hz)
    · refine dn_if (tt_dv (b := decide (((r : Nat) : Int) < 8)) fun F H => dt_test (dv_op (dv_var rfl) dv_int rd_B0)) (fun hb => ?_) fun hb => dn_next ?_
      · have h8 : ((r : Nat) : Int) < 8 := of_decide_eq_true hb.symm
        refine dn_seqR (dn_ret (tv_imp (tv_op (Z := fun d => ∃ i : Int, d = .int i) (tv_lst (tva_cons (tv_op (Z := fun d => ∃ i : Int, d = .int i) (tv_draw (many := 12) rfl (fun _ _ => dv_int) (by omega) (by omega)) (tv_dv fun _ _ => dv_int) fun x y hx hy => ?_) (tva_cons (tv_draw (many := 1000000000000) rfl (fun _ _ => dv_to (dv_op dv_int dv_int (rd_I ⟨by decide, by decide, by decide⟩)) rfl) (by omega) (by omega)) (tva_cons (tv_dv fun _ _ => dv_int) (tva_cons (tv_dv fun _ _ => dv_int) tva_nil)))) fun ds z => ?_) (tv_dv fun F H => dv_cb (da_cons dv_int (da_cons (dv_op (dv_var rfl) dv_int rd_I0) da_nil)) rc_max2) fun x y hx hy => ?_) fun d z => ?_))
        · obtain ⟨a, _, rfl⟩ := hx
          subst hy
          exact ⟨_, ⟨_, rfl⟩, fun F B => rd_I0⟩
        · obtain ⟨_, _, rfl, _, _, _, rfl, _, _, _, rfl, _, _, _, rfl, _, rfl⟩ := z
          exact small_ rfl
        · obtain ⟨_, rfl, _, _, rfl, ⟨a, rfl⟩, _, _, rfl, ⟨b, _, rfl⟩, _, _, rfl, rfl, _, _, rfl, rfl, rfl⟩ := hx
          subst hy
          have : ((if ((r : Nat) : Int) - 4 > 0 then ((r : Nat) : Int) - 4 else 0) : Int) = 0 ∨ ((if ((r : Nat) : Int) - 4 > 0 then ((r : Nat) : Int) - 4 else 0) : Int) = 1 ∨ ((if ((r : Nat) : Int) - 4 > 0 then ((r : Nat) : Int) - 4 else 0) : Int) = 2 ∨ ((if ((r : Nat) : Int) - 4 > 0 then ((r : Nat) : Int) - 4 else 0) : Int) = 3 := by split <;> omega
          rcases this with e | e | e | e
          · rw [e]; exact ⟨_, ⟨_, rfl⟩, fun F B => rd_ixL rfl⟩
          · rw [e]; exact ⟨_, ⟨_, rfl⟩, fun F B => rd_ixL rfl⟩
          · rw [e]; exact ⟨_, ⟨_, rfl⟩, fun F B => rd_ixL rfl⟩
          · rw [e]; exact ⟨_, ⟨_, rfl⟩, fun F B => rd_ixL rfl⟩
        · obtain ⟨i, rfl⟩ := z
          exact tame_int
      · have h8 : ¬ ((r : Nat) : Int) < 8 := of_decide_eq_false hb.symm
        refine dn_set (tv_dv (d := .lst (base0.map Da.str)) fun F H => dv_lst (da_cons dv_str (da_cons dv_str (da_cons dv_str (da_cons dv_str (da_cons dv_str (da_cons dv_str (da_cons dv_str (da_cons dv_str (da_cons dv_str (da_cons dv_str (da_cons dv_str (da_cons dv_str (da_cons dv_str (da_cons dv_str (da_cons dv_str da_nil))))))))))))))) (small_ rfl)) fun d hd => ?_
        subst hd
        refine dn_ret (tv_imp (tv_op (Z := Da.tame S1 50 (n + 1)) (tv_lst (tva_cons (tv_dv fun _ _ => dv_bl) (tva_cons (tv_dv fun _ _ => dv_bl) (tva_cons (tv_dv fun _ _ => dv_non) (tva_cons (tv_op (Z := fun d => ∃ s, S0 s ∧ d = .str s) (tv_dv fun _ _ => dv_var rfl) (tv_draw (many := 15) rfl (fun _ _ => dv_int) (by omega) (by omega)) fun x y hx hy => ?_) (tva_cons (tv_dv fun _ _ => dv_tup (da_cons dv_int (da_cons dv_int da_nil)) (small_ rfl)) tva_nil))))) fun ds z => ?_) (tv_dv fun F H => dv_op (dv_var rfl) dv_int rd_I0) fun x y hx hy => ?_) fun d z => z)
        · obtain ⟨a, ha, rfl⟩ := hy
          subst hx
          have hl : a < base0.length := ha
          exact ⟨_, ⟨base0[a], List.getElem_mem hl, rfl⟩, fun F B => rd_ixL (at_map rfl (List.getElem?_eq_getElem hl))⟩
        · obtain ⟨_, _, rfl, _, _, _, rfl, _, _, _, rfl, _, _, _, rfl, _, _, _, rfl, _, rfl⟩ := z
          exact small_ rfl
        · obtain ⟨_, rfl, _, _, rfl, rfl, _, _, rfl, rfl, _, _, rfl, rfl, _, _, rfl, ⟨s, hs, rfl⟩, _, _, rfl, rfl, rfl⟩ := hx
          subst hy
          have : r = 8 ∨ r = 9 ∨ r = 10 ∨ r = 11 ∨ r = 12 := by omega
          rcases this with rfl | rfl | rfl | rfl | rfl
          · exact ⟨_, tame_bl, fun F B => rd_ixL (z := .bl true) rfl⟩
          · exact ⟨_, tame_bl, fun F B => rd_ixL (z := .bl false) rfl⟩
          · exact ⟨_, tame_non, fun F B => rd_ixL (z := .non) rfl⟩
          · exact ⟨_, tame_str (S1_base hs), fun F B => rd_ixL (z := .str s) rfl⟩
          · refine ⟨_, ?_, fun F B => rd_ixL (z := .tup [.int 1, .int 2]) rfl⟩
            refine ⟨by simp, fun x hx => ?_⟩
            rcases List.mem_cons.mp hx with rfl | hx
            · exact tame_int
            · rw [show x = _ by simpa using hx]
              exact tame_int
theorem ok_w_any (T : Txt K mg) (G_w_draw : Ok P w K mg base CX0 1 d_w_draw P_w_draw (spT R_draw)) : ∀ n : Nat, n ≤ 100 → Ok P w K mg base CX0 (n + 2) d_w_any P_w_any (spT (R_tany n)) := by
  intro n
  induction n with
  | zero =>
    intro _
    have G_w_any : Ok P w K mg base CX0 1 d_w_any P_w_any (fun _ _ _ _ => False) := by
      obtain ⟨fd, F⟩ := T.f_w_any
      exact ⟨fd, ⟨fun _ _ _ _ h => h.elim, fun _ _ _ _ _ _ _ _ _ _ _ _ _ h => h.elim⟩, F.bindsN b_w_any, F.kp⟩
    exact any_step T G_w_draw (n := 0) (Nat.le_refl _) G_w_any (fun h => absurd h (by omega)) (by omega)
  | succ n ih =>
    intro hn
    exact any_step T G_w_draw (n := n + 1) (by omega) (ih (by omega)) (fun _ => rfl) hn
end
end Bb
/-! Bb33 -/
namespace Bb
open PySem PySem.Spec PyProof.Rows L2

section
variable {tp : Addr} {ρ : Rho} {tr : TA} {tm : TE} {Z : Da → Prop} {ds : List Da} {i : Nat} {E : XK} {F H : Hp} {σ : LSt}
theorem call_run {Pr : List Da → (Da → Prop) → Prop} (hi : ρ[i]? = some (some (.ob (.ref tp)))) (h : DvA F H tr ρ ds) (p : Pr ds Z) (s : Same F H) (t : TapeE H F tp) (En : Env F σ ρ) {Q : VK} (k : ∀ v F' H' d, Gr [tp] F H F' H' → TapeE H' F' tp → Dt F' v d → Z d → Q v H') : tCall (spT Pr) [] E (tCons (tVar i) tr) σ H Q := by
  obtain ⟨v0, e0, h0⟩ := En.at_ i _ hi
  rw [h0.of_ob] at e0
  refine ⟨_, e0, ?_⟩
  refine h.run s En fun us F1 H1 g1 d1 => ?_
  show spT Pr ((V.ref tp :: us) ++ []) H1 Q E
  rw [List.append_nil]
  exact ⟨F1, tp, us, ds, Z, rfl, g1.fh, t.grow g1, d1, p, fun v F' H' d g t1 h1 z => k v F' H' d (g1.after g) t1 h1 z⟩
theorem draw_run {many : Nat} (hi : ρ[i]? = some (some (.ob (.ref tp)))) (hm : Dv F H tm ρ (.int (many : Nat))) (h0 : 0 < many) (h1 : many ≤ 1000000000000) (s : Same F H) (t : TapeE H F tp) (En : Env F σ ρ) {Q : VK} (k : ∀ F' H' (r : Nat), r < many → Gr [tp] F H F' H' → TapeE H' F' tp → Q (.int (r : Nat)) H') : tCall (spT R_draw) [] E (tCons (tVar i) (tCons tm tNil)) σ H Q :=
  call_run hi (da_cons hm da_nil) ⟨many, rfl, h0, h1, rfl⟩ s t En fun v F' H' d g t1 h1 z => by
    obtain ⟨r, hr, rfl⟩ := z
    rw [h1.of_int]
    exact k F' H' r hr g t1
/-- xs = list(xs), to be changed -/
theorem newL_seq2 {K : PySem.W.Frag} {te : TE} {D : Ends} {u : TS} {j : Nat} {d : Da} (hd : d = .tup ds ∨ d = .lst ds) (h : Dv F H te ρ d) (sm : Same F H) (E : Env F σ ρ) (k : ∀ a F' H' ys, H a = none → F' a = none → Gr [] F H F' H' → H' a = some (.lst ys) → DtA F' ys ds → Env F' (σ.set j (some (.ref a))) (ρ.set j (some (.ob (.ref a)))) → u D (σ.set j (some (.ref a))) H') : tSeq (tAsg (tCB (rListOf K) (tCons te tNil)) (gName j)) u D σ H := by
  refine h.run sm E fun v F1 H1 g1 d1 => ?_
  have go : ∀ (a0 : Addr) (ys : List V), DtA F1 ys ds → (SqL K H1 a0 ys ∨ SqT K H1 a0 ys) → v = .ref a0 → _ := fun a0 ys hys hq ev => (⟨a0, ys, by rw [ev], hq, fun a ha => k a F1 _ ys (by
    cases e : H a with
    | none => rfl
    | some o => rw [g1.same _ _ e] at ha; cases ha) (none_of g1.fh ha) (g1.trans0 (Gr.newM g1.fh ha)) upd_same hys ((E.mono g1.ff).set (.ob _))⟩ : ∃ p ys, [v] = [V.ref p] ∧ (SqL K H1 p ys ∨ SqT K H1 p ys) ∧ ∀ l, H1 l = none → u D (σ.set j (some (.ref l))) (upd H1 l (.lst ys)))
  rcases hd with rfl | rfl
  · obtain ⟨a0, ys, rfl, ha0, hys⟩ := d1.of_tup
    exact go a0 ys hys (.inr (SqT.of (g1.fh _ _ ha0))) rfl
  · obtain ⟨a0, ys, rfl, ha0, hys⟩ := d1.of_lst
    exact go a0 ys hys (.inl (SqL.of (g1.fh _ _ ha0))) rfl
end
theorem rc_lenLm {F0 B : Hp} {K : PySem.W.Frag} {a : Addr} {vs : List V} {ds : List Da} (hB : B a = some (.lst vs)) (hd : DtA F0 vs ds) : RC F0 B (rLenQ K) [.ob (.ref a)] (.int ((ds.length : Nat) : Int)) := rc_val fun F H us at_ hu Q q => by
  obtain ⟨v, rfl, h1⟩ := hu.sole
  rw [h1.of_ob]
  exact ⟨a, vs, rfl, .inl (SqL.of (at_.b _ _ hB)), q _ (by rw [hd.length]; exact .int _)⟩
def insL : List Str := [" ", "z", "A", "|", "abcdefgh", ""]
def insB : Bool := base0.all fun s => (List.range (s.length + 1)).all fun (a : Nat) => insL.all fun i =>
  decide ((cutS s none (some ((a : Nat) : Int))).length + i.length ≤ 1000) && decide ((cutS s none (some ((a : Nat) : Int)) ++ i).length + (cutS s (some ((a : Nat) : Int)) none).length ≤ 1000) && S1B (cutS s none (some ((a : Nat) : Int)) ++ i ++ cutS s (some ((a : Nat) : Int)) none)
theorem ins_ok : insB = true := by decide +kernel
theorem ins_at {s i : Str} {a : Nat} (hs : S0 s) (ha : a < s.length + 1) (hi : i ∈ insL) : (cutS s none (some ((a : Nat) : Int))).length + i.length ≤ 1000 ∧ (cutS s none (some ((a : Nat) : Int)) ++ i).length + (cutS s (some ((a : Nat) : Int)) none).length ≤ 1000 ∧ S1 (cutS s none (some ((a : Nat) : Int)) ++ i ++ cutS s (some ((a : Nat) : Int)) none) := by
  have h := List.all_eq_true.mp (List.all_eq_true.mp (List.all_eq_true.mp ins_ok s hs) a (List.mem_range.mpr ha)) i hi
  rw [Bool.and_eq_true_iff, Bool.and_eq_true_iff] at h
  exact ⟨of_decide_eq_true h.1.1, of_decide_eq_true h.1.2, h.2⟩
def R_tspoil (n : Nat) (ds : List Da) (Z : Da → Prop) : Prop := ∃ d : Da, ds = [d] ∧ d.tame S0 20 n ∧ Z = Da.tame S1 50 (n + 3)
theorem tame_ob {S : Str → Prop} {b n : Nat} {d : Da} (h : d.tame S b n) : d.isOb = false := by
  cases d with
  | ob v => cases n <;> exact h.elim
  | _ => rfl
abbrev N_w_spoilt : List Str := ["_law_tape", "_law_item", "_law_k", "_law_rest", "_law_course", "_law_at"]
abbrev P_w_spoilt : List Str := ["_law_tape", "_law_item"]
theorem sc_w_spoilt : FnScope N_w_spoilt P_w_spoilt (defScope s_w_spoilt) := ⟨rfl, rfl, rfl, by decide +kernel, rfl, by decide +kernel, by decide +kernel⟩
theorem b_w_spoilt : BindsD d_w_spoilt P_w_spoilt := fun _ _ _ _ _ _ us hl => match us, hl with | [_, _], _ => rfl

section
variable {P : Program} {w : World} {K : PySem.W.Frag} {mg : Str → Option Value} {base : Heap}
theorem spoil_step (T : Txt K mg) (G_w_draw : Ok P w K mg base CX0 1 d_w_draw P_w_draw (spT R_draw)) (G_w_any1 : Ok P w K mg base CX0 3 d_w_any P_w_any (spT (R_tany 1))) (G_w_any2 : Ok P w K mg base CX0 4 d_w_any P_w_any (spT (R_tany 2))) (G_w_whole : Ok P w K mg base CX0 1 d_w_whole P_w_whole (spD R_whole))
    {j n : Nat} {sp : Sp} (hj : 4 ≤ j) (G_w_spoilt : Ok P w K mg base CX0 j d_w_spoilt P_w_spoilt sp) (hsp : n > 0 → sp = spT (R_tspoil (n - 1))) : Ok P w K mg base CX0 (j + 1) d_w_spoilt P_w_spoilt (spT (R_tspoil n)) := by
  refine okN T.f_w_spoilt sc_w_spoilt b_w_spoilt (fun vs H Q E h => ?_) fun cdv A outer s H vs Q E hr h => ?_
  · obtain ⟨F, tp, us, ds, Z, rfl, s, t, hd, ⟨d, rfl, _⟩, k⟩ := h
    show us.length + 1 = 2
    rw [hd.length]
    rfl
  · obtain ⟨F, tp, us, ds, Z, rfl, sm, t, hd, ⟨d, rfl, htm, rfl⟩, k⟩ := h
    refine ⟨_, (pss_cons (ps_if (PW.pt (pw_and (pt_val (pe_callB (kcall_isiT (K := K)) (by rfl) T.n_isinstance (by decide +kernel) (pa_cons (pv 1) (pa_cons (pe_tup (pa_cons (pe_bltn (v := .ty "tuple") (u := .type "tuple") rfl T.n_tuple (by decide +kernel) rfl) (pa_cons (pe_bltn (v := .ty "list") (u := .type "list") rfl T.n_list (by decide +kernel) rfl) pa_nil))) pa_nil)))) (pw_and (pt_cmpR op_gt (pe_callB (kcall_len (K := K)) (by rfl) T.n_len (by decide +kernel) (pa_cons (pv 1) pa_nil)) pe_int (nomark _)) (pw_and1 (pt_cmpR op_gt (pe_callO G_w_draw (hr.mono (by omega)) rfl T.g_w_draw pass0 (pa_cons (pv 0) (pa_cons pe_int pa_nil))) pe_int (nomark _)))))) (pss_cons (ps_set (i := 2) sc_w_spoilt.nd rfl (.inl rfl) (pe_callO G_w_draw (hr.mono (by omega)) rfl T.g_w_draw pass0 (pa_cons (pv 0) (pa_cons (pe_callB (kcall_len (K := K)) (by rfl) T.n_len (by decide +kernel) (pa_cons (pv 1) pa_nil)) pa_nil))))
  (pss_cons (ps_set (i := 3) sc_w_spoilt.nd rfl (.inl rfl) (pe_callTy (kcall_list (K := K)) (by rfl) T.n_list (by decide +kernel) (pa_cons (pv 1) pa_nil)))
  (pss_cons (ps_set (i := 4) sc_w_spoilt.nd rfl (.inl rfl) (pe_callO G_w_draw (hr.mono (by omega)) rfl T.g_w_draw pass0 (pa_cons (pv 0) (pa_cons pe_int pa_nil))))
  (pss_cons (ps_if (pt_cmpR op_lt (pv 4) pe_int (nomark _)) (pss_one (ps_asg (pe_callO G_w_spoilt (hr.mono (Nat.le_refl _)) rfl T.g_w_spoilt pass0 (pa_cons (pv 0) (pa_cons (pe_ix (kix_list (K := K)) (pv 3) (pv 2) (fun _ _ => rfl)) pa_nil))) (pg_sub (pv 3) (pv 2) set_list))) (pss_one (ps_if (pt_cmpR op_eq (pv 4) pe_int (nomark _)) (pss_one (ps_expr (kpe_bm (K := K) PySem.F.plainAttrs_list PySem.F.slot_list_pop PySem.F.type_list_pop mt_popAt (pv 3) (pa_cons (pv 2) pa_nil)))) (pss_one (ps_if (pt_cmpR op_eq (pv 4) pe_int (nomark _)) (pss_one (ps_expr (kpe_bm (K := K) PySem.F.plainAttrs_list PySem.F.slot_list_insert PySem.F.type_list_insert mt_insert (pv 3) (pa_cons (pv 2) (pa_cons (pe_ix (kix_list (K := K)) (pv 3) (pe_callO G_w_draw (hr.mono (by omega)) rfl T.g_w_draw pass0 (pa_cons (pv 0) (pa_cons (pe_callB (kcall_len (K := K)) (by rfl) T.n_len (by decide +kernel) (pa_cons (pv 3) pa_nil)) pa_nil))) (fun _ _ => rfl)) pa_nil))))) (pss_one (ps_if (pt_cmpR op_eq (pv 4) pe_int (nomark _)) (pss_one (ps_set (i := 3) sc_w_spoilt.nd rfl (.inl rfl) (kpe_revL (K := K) (pv 3)))) (pss_one (ps_expr (kpe_bm (K := K) PySem.F.plainAttrs_list PySem.F.slot_list_insert PySem.F.type_list_insert mt_insert (pv 3) (pa_cons (pv 2) (pa_cons (pe_callO G_w_any1 (hr.mono (by omega)) rfl T.g_w_any pass0 (pa_cons (pv 0) (pa_cons pe_int pa_nil))) pa_nil))))))))))))
  (pss_one (ps_ret (pe_ifExp (pt_val (pe_callB (kcall_isi (K := K)) (by rfl) T.n_isinstance (by decide +kernel) (pa_cons (pv 1) (pa_cons (pe_bltn (v := .ty "tuple") (u := .type "tuple") rfl T.n_tuple (by decide +kernel) rfl) pa_nil)))) (pe_callTy (kcall_tuple (K := K)) (by rfl) T.n_tuple (by decide +kernel) (pa_cons (pv 3) pa_nil)) (pv 3)))))))) pss_nil)
  (pss_cons (ps_if (PW.pt (pw_and (pt_val (pe_callO G_w_whole (hr.mono (by omega)) rfl T.g_w_whole pass0 (pa_cons (pv 1) pa_nil))) (pw_and1 (pt_cmpR op_gt (pe_callO G_w_draw (hr.mono (by omega)) rfl T.g_w_draw pass0 (pa_cons (pv 0) (pa_cons pe_int pa_nil))) pe_int (nomark _))))) (pss_one (ps_ret (pe_op op_add (pv 1) (pe_ix (kix_list (K := K)) (pe_lst (pa_cons pe_int (pa_cons (pe_un un_neg pe_int) (pa_cons pe_int (pa_cons (pe_un un_neg pe_int) (pa_cons pe_int (pa_cons pe_int pa_nil))))))) (pe_callO G_w_draw (hr.mono (by omega)) rfl T.g_w_draw pass0 (pa_cons (pv 0) (pa_cons pe_int pa_nil))) (fun _ _ => rfl))))) pss_nil)
  (pss_cons (ps_if (PW.pt (pw_and (pt_val (pe_callB (kcall_isi (K := K)) (by rfl) T.n_isinstance (by decide +kernel) (pa_cons (pv 1) (pa_cons (pe_bltn (v := .ty "str") (u := .type "str") rfl T.n_str (by decide +kernel) rfl) pa_nil)))) (pw_and1 (pt_cmpR op_gt (pe_callO G_w_draw (hr.mono (by omega)) rfl T.g_w_draw pass0 (pa_cons (pv 0) (pa_cons pe_int pa_nil))) pe_int (nomark _))))) (pss_cons (ps_set (i := 5) sc_w_spoilt.nd rfl (.inl rfl) (pe_callO G_w_draw (hr.mono (by omega)) rfl T.g_w_draw pass0 (pa_cons (pv 0) (pa_cons (pe_op op_add (pe_callB call_len_str (by rfl) T.n_len (by decide +kernel) (pa_cons (pv 1) pa_nil)) pe_int) pa_nil))))
  (pss_one (ps_ret (pe_op op_add_str (pe_op op_add_str (pe_slice sl_str (pv 1) po_none (po_some (pv 5))) (pe_ix (kix_list (K := K)) (pe_lst (pa_cons pe_str (pa_cons pe_str (pa_cons pe_str (pa_cons pe_str (pa_cons pe_str (pa_cons pe_str pa_nil))))))) (pe_callO G_w_draw (hr.mono (by omega)) rfl T.g_w_draw pass0 (pa_cons (pv 0) (pa_cons pe_int pa_nil))) (fun _ _ => rfl))) (pe_slice sl_str (pv 1) (po_some (pv 5)) po_none))))) pss_nil)
  (pss_cons (ps_if (PW.pt (pw_and (pt_val (pe_callB (kcall_isiT (K := K)) (by rfl) T.n_isinstance (by decide +kernel) (pa_cons (pv 1) (pa_cons (pe_tup (pa_cons (pe_bltn (v := .ty "tuple") (u := .type "tuple") rfl T.n_tuple (by decide +kernel) rfl) (pa_cons (pe_bltn (v := .ty "list") (u := .type "list") rfl T.n_list (by decide +kernel) rfl) pa_nil))) pa_nil)))) (pw_and1 (pt_cmpR op_eq (pe_callO G_w_draw (hr.mono (by omega)) rfl T.g_w_draw pass0 (pa_cons (pv 0) (pa_cons pe_int pa_nil))) pe_int (nomark _))))) (pss_one (ps_ret (pe_ifExp (pt_val (pe_callB (kcall_isi (K := K)) (by rfl) T.n_isinstance (by decide +kernel) (pa_cons (pv 1) (pa_cons (pe_bltn (v := .ty "tuple") (u := .type "tuple") rfl T.n_tuple (by decide +kernel) rfl) pa_nil)))) (pe_callTy (kcall_list (K := K)) (by rfl) T.n_list (by decide +kernel) (pa_cons (pv 1) pa_nil)) (pe_callTy (kcall_tuple (K := K)) (by rfl) T.n_tuple (by decide +kernel) (pa_cons (pv 1) pa_nil))))) pss_nil)
  (pss_one (ps_ret (pe_callO G_w_any2 (hr.mono (by omega)) rfl T.g_w_any pass0 (pa_cons (pv 0) (pa_cons pe_int pa_nil))))))))), ?_⟩
    have E0 : Env F (L2.start N_w_spoilt (.ref tp :: us)) [some (.ob (.ref tp)), some d, none, none, none, none] := env_start (.cons (.ob _) hd)
    have hob := tame_ob htm
    have up : ∀ {x : Da} {m : Nat}, m ≤ n → x.tame S0 20 m → x.tame S1 50 (n + 3) := fun hm h => tame_mono (fun s => S1_base) (by omega) (by omega) h
    refine (?_ : Dn tp _ [some (.ob (.ref tp)), some d, none, none, none, none] (Da.tame S1 50 (n + 3))) _ F H sm t E0 _ k
    refine dn_if (B := fun b => b = true → ∃ xs, xs ≠ [] ∧ (d = .tup xs ∨ d = .lst xs)) ?_ (fun hb => dn_seqR ?_) fun _ => dn_next ?_
    · -- is it a list or tuple with something in it
      have no : (d.isT "tuple" || d.isT "list") = false → TvT tp _ [some (.ob (.ref tp)), some d, none, none, none, none] (fun b => b = true → ∃ xs, xs ≠ [] ∧ (d = .tup xs ∨ d = .lst xs)) := fun e => tt_imp (tt_and (b := false) (tu := tAnd (tTest (tOp (rI0 fun i j => .bl (decide (i > j))) (tCB (rLenQ K) (tCons (tVar 1) tNil)) (tC (.int 0)))) (tTest (tOp (rI0 fun i j => .bl (decide (i > j))) (tCall (spT R_draw) [] L2.E0 (tCons (tVar 0) (tCons (tC (.int 7)) tNil))) (tC (.int 0))))) (B := fun _ => True)
        (fun F H => dt_to (dt_val (dv_cb (da_cons (dv_var (i := 1) rfl) (da_cons (dv_tup (da_cons (dv_ty (n := "tuple")) (da_cons (dv_ty (n := "list")) da_nil)) (small_ rfl)) da_nil)) (rc_isi2 (K := K) (n := hob)))) e) fun q => by cases q) fun b hb e => by
          rcases hb with ⟨q, _⟩ | ⟨_, q⟩
          · cases q
          · rw [q] at e; cases e
      have yes : ∀ xs, (d.isT "tuple" || d.isT "list") = true → (d = .tup xs ∨ d = .lst xs) → (∀ F0 B, RC F0 B (rLenQ K) [d] (.int ((xs.length : Nat) : Int))) → TvT tp _ [some (.ob (.ref tp)), some d, none, none, none, none] (fun b => b = true → ∃ xs, xs ≠ [] ∧ (d = .tup xs ∨ d = .lst xs)) := fun xs e hd hl => tt_imp (tt_and (b := true) (tu := tAnd (tTest (tOp (rI0 fun i j => .bl (decide (i > j))) (tCB (rLenQ K) (tCons (tVar 1) tNil)) (tC (.int 0)))) (tTest (tOp (rI0 fun i j => .bl (decide (i > j))) (tCall (spT R_draw) [] L2.E0 (tCons (tVar 0) (tCons (tC (.int 7)) tNil))) (tC (.int 0)))))
        (fun F H => dt_to (dt_val (dv_cb (da_cons (dv_var (i := 1) rfl) (da_cons (dv_tup (da_cons (dv_ty (n := "tuple")) (da_cons (dv_ty (n := "list")) da_nil)) (small_ rfl)) da_nil)) (rc_isi2 (K := K) (n := hob)))) e) fun _ => tt_and (b := decide (((xs.length : Nat) : Int) > 0)) (fun F H => dt_test (dv_op (dv_cb (da_cons (dv_var rfl) da_nil) (hl F H)) dv_int rd_B0)) fun _ => tt_draw (many := 7) rfl (fun _ _ => dv_int) (by omega) (by omega)) fun b hb e => by
          refine ⟨xs, fun z => ?_, hd⟩
          subst z
          rcases hb with ⟨_, ⟨q, _⟩ | ⟨_, q⟩⟩ | ⟨q, _⟩
          · cases q
          · rw [q] at e; cases e
          · cases q
      cases d with
      | tup xs => exact yes xs rfl (.inl rfl) fun _ _ => rc_lenT
      | lst xs => exact yes xs rfl (.inr rfl) fun _ _ => rc_lenL
      | ob v => cases hob
      | non => exact no rfl
      | bl b => exact no rfl
      | int i => exact no rfl
      | str s => exact no rfl
    · -- one thing otherwise within
      obtain ⟨xs, hne, hdx⟩ := hb rfl
      have hl0 : 0 < xs.length := List.length_pos_iff.mpr hne
      obtain ⟨m, rfl, hxl, hxt⟩ : ∃ m, n = m + 1 ∧ xs.length ≤ 20 ∧ ∀ x ∈ xs, x.tame S0 20 m := by
        rcases hdx with rfl | rfl
        · cases n with
          | zero => exact htm.elim
          | succ m => exact ⟨m, rfl, htm.1, htm.2⟩
        · cases n with
          | zero => exact htm.elim
          | succ m => exact ⟨m, rfl, htm.1, htm.2⟩
      have upx : ∀ x ∈ xs, x.tame S1 50 (m + 3) := fun x hx => tame_mono (fun s => S1_base) (by omega) (by omega) (hxt x hx)
      have lenI : ∀ F0 B, RC F0 B (rLenQ K) [d] (.int ((xs.length : Nat) : Int)) := fun F0 B => by
        rcases hdx with rfl | rfl
        · exact rc_lenT
        · exact rc_lenL
      refine dn_set (tv_draw (many := xs.length) rfl (fun F H => dv_cb (da_cons (dv_var rfl) da_nil) (lenI F H)) hl0 (by omega)) fun dk hk => ?_
      obtain ⟨i, hi, rfl⟩ := hk
      intro σ F H s t En D kk
      refine newL_seq2 hdx (dv_var rfl) s En fun a F1 H1 ys ha nF1 g1 h1 d1 E1 => ?_
      have hat : a ≠ tp := t.ne ha
      have nat : a ∉ [tp] := by simpa using hat
      have t1 := t.grow g1
      -- the end
      have fin : ∀ (F2 H2 : Hp) (σ2 : LSt) (x2 x4 : Option Da) (ys' : List V) (ds' : List Da), Gr [tp] F H F2 H2 → TapeE H2 F2 tp → H2 a = some (.lst ys') → F2 a = none → DtA F2 ys' ds' → Env F2 σ2 [some (.ob (.ref tp)), some d, x2, some (.ob (.ref a)), x4, none] → ds'.length ≤ 50 → (∀ x ∈ ds', x.tame S1 50 (m + 3)) →
          tRet (tIf (tB (tCB (rIsi K) (tCons (tVar 1) (tCons (tC (.ty "tuple")) tNil)))) (tCB (rTupOf K) (tCons (tVar 3) tNil)) (tVar 3)) D σ2 H2 := fun F2 H2 σ2 x2 x4 ys' ds' g2 t2 h2 n2 d2 E2 hl2 ht2 => by
        have go : ∀ (b : Bool) (F3 H3 : Hp), b = d.isT "tuple" → Gr [] F2 H2 F3 H3 → if b = true then tCB (rTupOf K) (tCons (tVar 3) tNil) σ2 H3 D.rt else tVar 3 σ2 H3 D.rt := fun b F3 H3 eb g3 => by
          have h3 := g3.same _ _ h2
          have n3 : F3 a = none := by rw [g3.nw a _ h2 rfl]; exact n2
          obtain ⟨v3, e3, hv3⟩ := (E2.mono g3.ff).at_ 3 _ rfl
          rw [hv3.of_ob] at e3
          have t3 := t2.grow g3
          have gA := t2.trans g2 g3.wide
          have d3 := d2.mono g3.ff
          rcases hdx with rfl | rfl
          · subst eb
            refine iteT ⟨_, e3, a, ys', rfl, .inl ⟨SqL.of h3, fun l hl => ?_⟩⟩
            have gN := Gr.new (o := .tup ys') g3.fh hl
            exact kk _ _ _ (.tup ds') (t3.trans gA gN.wide) (t3.grow gN) (.tup upd_same (d3.mono gN.ff)) ⟨hl2, ht2⟩
          · subst eb
            exact iteF ⟨_, e3, kk _ _ _ (.lst ds') (gA.freezeM ha n3 h3) (t3.putFz hat n3) (.lst upd_same (d3.mono (same_upd n3))) ⟨hl2, ht2⟩⟩
        exact (dt_val (dv_cb (da_cons (dv_var rfl) (da_cons dv_ty da_nil)) (rc_isi (n := hob)))).run g2.fh E2 fun F3 H3 g3 => go _ F3 H3 rfl g3
      -- the course
      refine set_seq ?_
      refine draw_run (many := 12) rfl dv_int (by omega) (by omega) g1.fh t1 E1 fun F2 H2 r hr g2 t2 => ?_
      show tSeq (tIfS _ _ _) _ _ _ _
      have h2 := g2.hh a _ nat h1
      have n2 : F2 a = none := by rw [g2.nw a _ h1 rfl]; exact nF1
      have d2 := d1.mono g2.ff
      have gF2 : Gr [tp] F H F2 H2 := g1.after g2
      have E2 : Env F2 _ [some (.ob (.ref tp)), some d, some (.int (i : Nat)), some (.ob (.ref a)), some (.int (r : Nat)), none] := (E1.mono g2.ff).set (i := 4) (.int (r : Nat))
      generalize List.set _ 4 _ = σ2 at E2 ⊢
      -- each course
      have at3 : ∀ {F3 : Hp}, Env F3 σ2 [some (.ob (.ref tp)), some d, some (.int (i : Nat)), some (.ob (.ref a)), some (.int (r : Nat)), none] → σ2[3]? = some (some (.ref a)) := fun e => by
        obtain ⟨v3, e3, hv3⟩ := e.at_ 3 _ rfl
        rw [hv3.of_ob] at e3
        exact e3
      have at2 : ∀ {F3 : Hp}, Env F3 σ2 [some (.ob (.ref tp)), some d, some (.int (i : Nat)), some (.ob (.ref a)), some (.int (r : Nat)), none] → σ2[2]? = some (some (.int (i : Nat))) := fun e => by
        obtain ⟨v3, e3, hv3⟩ := e.at_ 2 _ rfl
        rw [hv3.of_int] at e3
        exact e3
      have step : ∀ {F3 H3 : Hp}, Gr [] F2 H2 F3 H3 → TapeE H3 F3 tp ∧ H3 a = some (.lst ys) ∧ F3 a = none ∧ DtA F3 ys xs ∧ Gr [tp] F H F3 H3 := fun g3 => ⟨t2.grow g3, g3.same _ _ h2, by rw [g3.nw a _ h2 rfl]; exact n2, d2.mono g3.ff, t2.trans gF2 g3.wide⟩
      have ins : ∀ (F5 H5 : Hp) (y : V) (dy : Da), Gr [tp] F H F5 H5 → TapeE H5 F5 tp → H5 a = some (.lst ys) → F5 a = none → DtA F5 ys xs → Env F5 σ2 [some (.ob (.ref tp)), some d, some (.int (i : Nat)), some (.ob (.ref a)), some (.int (r : Nat)), none] → Dt F5 y dy → dy.tame S1 50 (m + 3) →
          ∃ (l : Addr) (zs : List V) (ii : Int) (y' : V), V.ref a = .ref l ∧ [V.int (i : Nat), y] = [.int ii, y'] ∧ H5 l = some (.lst zs) ∧ zs.length < sizeLine ∧ 0 ≤ ii ∧ ii < 2 ^ 63 ∧ tRet (tIf (tB (tCB (rIsi K) (tCons (tVar 1) (tCons (tC (.ty "tuple")) tNil)))) (tCB (rTupOf K) (tCons (tVar 3) tNil)) (tVar 3)) D σ2 (upd H5 l (.lst (zs.take ii.toNat ++ [y'] ++ zs.drop ii.toNat))) := fun F5 H5 y dy g5 t5 h5 n5 d5 E5 hy hty => by
        refine ⟨a, ys, (i : Nat), y, rfl, rfl, h5, by rw [d5.length, sizeLine_eq]; omega, by omega, by omega, ?_⟩
        rw [Int.toNat_natCast]
        have gP : Gr [a] F5 H5 F5 (upd H5 a (.lst (ys.take i ++ [y] ++ ys.drop i))) := Gr.put g5.fh n5
        refine fin F5 _ σ2 _ _ _ (xs.take i ++ [dy] ++ xs.drop i) (g5.transL gP (fun q hq => .inr (by rw [show q = a by simpa using hq]; exact ha)) fun q hq => by rw [show q = tp by simpa using hq]; exact t5.at_) (t5.putH hat) upd_same n5 (((d5.take i).append (.cons hy .nil)).append (d5.drop i)) E5 (by simp; omega) fun x hx => ?_
        rcases List.mem_append.mp hx with hx | hx
        · rcases List.mem_append.mp hx with hx | hx
          · exact upx x (List.mem_of_mem_take hx)
          · rw [show x = dy by simpa using hx]
            exact hty
        · exact upx x (List.mem_of_mem_drop hx)
      refine if_seq ?_
      refine (dt_test (dv_op (dv_var rfl) dv_int rd_B0)).run g2.fh E2 fun F3 H3 g3 => ?_
      obtain ⟨t3, h3, n3, d3, gF3⟩ := step g3
      have E3 := E2.mono g3.ff
      by_cases h8 : ((r : Nat) : Int) < 8
      · refine iteT' (decide_eq_true h8) ?_
        rw [hsp (by omega)]
        refine call_run (Pr := R_tspoil (m + 1 - 1)) rfl (da_cons (dv_op (dv_var rfl) (dv_var rfl) (rd_ixLm h3 d3 (atI_nat (List.getElem?_eq_getElem hi)))) da_nil) ⟨_, rfl, hxt _ (List.getElem_mem hi), rfl⟩ g3.fh t3 E3 fun v F4 H4 dv g4 t4 hv z4 => ?_
        have h4 := g4.hh a _ nat h3
        have n4 : F4 a = none := by rw [g4.nw a _ h3 rfl]; exact n3
        have d4 := d3.mono g4.ff
        have E4 := E3.mono g4.ff
        have gF4 := t3.trans gF3 g4
        refine ⟨_, at3 E4, _, at2 E4, a, ys, (i : Nat), i, rfl, rfl, h4, ixN_nat (by rw [d4.length]; exact hi), ?_⟩
        have gP : Gr [a] F4 H4 F4 (upd H4 a (.lst (ys.set i v))) := Gr.put g4.fh n4
        refine fin F4 _ σ2 _ _ _ (xs.set i dv) (gF4.transL gP (fun q hq => .inr (by rw [show q = a by simpa using hq]; exact ha)) fun q hq => by rw [show q = tp by simpa using hq]; exact t4.at_) (t4.putH hat) upd_same n4 (d4.set hv i) E4 (by rw [List.length_set]; omega) fun x hx => ?_
        rcases List.mem_or_eq_of_mem_set hx with hx | rfl
        · exact upx x hx
        · exact z4
      refine iteF' (decide_eq_false h8) ?_
      refine if_run ?_
      refine (dt_test (dv_op (dv_var rfl) dv_int rd_eqI)).run g3.fh E3 fun F4 H4 g4 => ?_
      have g24 := g3.trans0 g4
      obtain ⟨t4, h4, n4, d4, gF4⟩ := step g24
      have E4 := E2.mono g24.ff
      by_cases e8 : ((r : Nat) : Int) = 8
      · refine iteT' (decide_eq_true e8) ?_
        have hk : i < ys.length := by rw [d4.length]; exact hi
        refine ⟨_, at3 E4, .inl ⟨rfl, ys, SqL.of h4⟩, _, at2 E4, a, ys, (i : Nat), i, ys[i], rfl, rfl, h4, by omega, by omega, (ixN_seq (ixN_nat hk)).1, List.getElem?_eq_getElem hk, ?_⟩
        have gP : Gr [a] F4 H4 F4 (upd H4 a (.lst (ys.eraseIdx i))) := Gr.put g4.fh n4
        refine fin F4 _ σ2 _ _ _ (xs.eraseIdx i) (gF4.transL gP (fun q hq => .inr (by rw [show q = a by simpa using hq]; exact ha)) fun q hq => by rw [show q = tp by simpa using hq]; exact t4.at_) (t4.putH hat) upd_same n4 ?_ E4 ?_ fun x hx => upx x (List.mem_of_mem_eraseIdx hx)
        · rw [List.eraseIdx_eq_take_drop_succ, List.eraseIdx_eq_take_drop_succ]
          exact (d4.take i).append (d4.drop (i + 1))
        · have := List.length_eraseIdx_le xs i
          omega
      refine iteF' (decide_eq_false e8) ?_
      refine if_run ?_
      refine (dt_test (dv_op (dv_var rfl) dv_int rd_eqI)).run g4.fh E4 fun F5 H5 g5 => ?_
      have g25 := g24.trans0 g5
      obtain ⟨t5, h5, n5, d5, gF5⟩ := step g25
      have E5 := E2.mono g25.ff
      by_cases e9 : ((r : Nat) : Int) = 9
      · refine iteT' (decide_eq_true e9) ?_
        refine ⟨_, at3 E5, .inl ⟨rfl, ys, SqL.of h5⟩, _, at2 E5, _, at3 E5, ?_⟩
        refine draw_run (many := xs.length) rfl (dv_cb (da_cons (d := .ob (.ref a)) (dv_var rfl) da_nil) (rc_lenLm h5 d5)) hl0 (by omega) g5.fh t5 E5 fun F6 H6 q hq g6 t6 => ?_
        have h6 := g6.hh a _ nat h5
        have n6 : F6 a = none := by rw [g6.nw a _ h5 rfl]; exact n5
        have d6 := d5.mono g6.ff
        have E6 := E5.mono g6.ff
        have gF6 := t5.trans gF5 g6
        obtain ⟨y, ey, hy⟩ := d6.get (List.getElem?_eq_getElem hq)
        refine ⟨a, ys, (q : Nat), y, rfl, rfl, SqL.of h6, atI_nat ey, ?_⟩
        exact ins F6 H6 y _ gF6 t6 h6 n6 d6 E6 hy (upx _ (List.getElem_mem hq))
      refine iteF' (decide_eq_false e9) ?_
      refine if_run ?_
      refine (dt_test (dv_op (dv_var rfl) dv_int rd_eqI)).run g5.fh E5 fun F6 H6 g6 => ?_
      have g26 := g25.trans0 g6
      obtain ⟨t6, h6, n6, d6, gF6⟩ := step g26
      have E6 := E2.mono g26.ff
      by_cases e10 : ((r : Nat) : Int) = 10
      · refine iteT' (decide_eq_true e10) ?_
        refine set_run ?_
        refine ⟨_, at3 E6, a, ys, rfl, SqL.of h6, fun p hp => ?_⟩
        have gN := Gr.new (o := .lst ys.reverse) g6.fh hp
        have E7 : Env (upd F6 p (.lst ys.reverse)) (σ2.set 3 (some (.ref p))) [some (.ob (.ref tp)), some d, some (.int (i : Nat)), some (.lst xs.reverse), some (.int (r : Nat)), none] := (E6.mono gN.ff).set (i := 3) (.lst upd_same (d6.reverse.mono gN.ff))
        have t7 := t6.grow gN
        have gF7 := t6.trans gF6 gN.wide
        have htr : ∀ x ∈ xs.reverse, x.tame S1 50 (m + 3) := fun x hx => upx x (List.mem_reverse.mp hx)
        suffices fin3 : tRet (tIf (tB (tCB (rIsi K) (tCons (tVar 1) (tCons (tC (.ty "tuple")) tNil)))) (tCB (rTupOf K) (tCons (tVar 3) tNil)) (tVar 3)) D (σ2.set 3 (some (.ref p))) (upd H6 p (.lst ys.reverse)) from fin3
        refine (dn_ret (tv_imp (Z := fun z => z = .tup xs.reverse ∨ z = .lst xs.reverse) ?_ fun z hz => ?_) : Dn tp _ _ (Da.tame S1 50 (m + 1 + 3))) _ _ _ gN.fh t7 E7 D fun v F8 H8 d8 g8 t8 h8 z8 => kk v F8 H8 d8 (t7.trans gF7 g8) t8 h8 z8
        · rcases hdx with rfl | rfl
          · exact tv_imp (tv_dv (d := .tup xs.reverse) fun F H => dv_if (b := true) (dt_to (dt_val (dv_cb (da_cons (dv_var rfl) (da_cons dv_ty da_nil)) (rc_isi (n := rfl)))) rfl) (fun _ => dv_cb (da_cons (dv_var rfl) da_nil) rc_tupL) fun q => by cases q) fun z e => .inl e
          · exact tv_imp (tv_dv (d := .lst xs.reverse) fun F H => dv_if (b := false) (dt_to (dt_val (dv_cb (da_cons (dv_var rfl) (da_cons dv_ty da_nil)) (rc_isi (n := rfl)))) rfl) (fun q => by cases q) fun _ => dv_var rfl) fun z e => .inr e
        · rcases hz with rfl | rfl
          · exact ⟨by rw [List.length_reverse]; omega, htr⟩
          · exact ⟨by rw [List.length_reverse]; omega, htr⟩
      refine iteF' (decide_eq_false e10) ?_
      refine ⟨_, at3 E6, .inl ⟨rfl, ys, SqL.of h6⟩, _, at2 E6, ?_⟩
      refine call_run (Pr := R_tany 1) rfl (da_cons dv_int da_nil) ⟨rfl, rfl⟩ g6.fh t6 E6 fun v F7 H7 dv g7 t7 hv z7 => ?_
      exact ins F7 H7 v dv (t6.trans gF6 g7) t7 (g7.hh a _ nat h6) (by rw [g7.nw a _ h6 rfl]; exact n6) (d6.mono g7.ff) (E6.mono g7.ff) hv (tame_mono (fun s z => z) (Nat.le_refl _) (by omega) z7)
    · -- a whole number
      refine dn_if (B := fun b => b = true → wholeB d = true) (tt_imp (tt_and (b := wholeB d) (fun F H => dt_val (dv_call (da_cons (dv_var rfl) da_nil) ⟨d, rfl, hob, rfl⟩)) fun _ => tt_draw (many := 6) rfl (fun _ _ => dv_int) (by omega) (by omega)) fun b hb e => ?_) (fun hb => dn_seqR ?_) fun _ => dn_next ?_
      · rcases hb with ⟨q, _⟩ | ⟨_, q⟩
        · exact q
        · rw [q] at e; cases e
      · have hw := hb rfl
        cases d with
        | int i =>
          refine dn_ret (tv_imp (tv_op (Z := fun d => ∃ i : Int, d = .int i) (tv_dv fun F H => dv_var rfl) (tv_op (Z := fun d => ∃ i : Int, d = .int i) (tv_dv fun F H => dv_lst (da_cons dv_int (da_cons (dv_un dv_int ru_neg) (da_cons dv_int (da_cons (dv_un dv_int ru_neg) (da_cons dv_int (da_cons dv_int da_nil)))))) (small_ rfl)) (tv_draw (many := 6) rfl (fun _ _ => dv_int) (by omega) (by omega)) fun x y hx hy => ?_) fun x y hx hy => ?_) fun d z => ?_)
          · obtain ⟨q, hq, rfl⟩ := hy
            subst hx
            have : q = 0 ∨ q = 1 ∨ q = 2 ∨ q = 3 ∨ q = 4 ∨ q = 5 := by omega
            rcases this with rfl | rfl | rfl | rfl | rfl | rfl
            · exact ⟨_, ⟨_, rfl⟩, fun F B => rd_ixL rfl⟩
            · exact ⟨_, ⟨_, rfl⟩, fun F B => rd_ixL rfl⟩
            · exact ⟨_, ⟨_, rfl⟩, fun F B => rd_ixL rfl⟩
            · exact ⟨_, ⟨_, rfl⟩, fun F B => rd_ixL rfl⟩
            · exact ⟨_, ⟨_, rfl⟩, fun F B => rd_ixL rfl⟩
            · exact ⟨_, ⟨_, rfl⟩, fun F B => rd_ixL rfl⟩
          · obtain ⟨q, rfl⟩ := hy
            subst hx
            exact ⟨_, ⟨_, rfl⟩, fun F B => rd_I0⟩
          · obtain ⟨q, rfl⟩ := z
            exact tame_int
        | _ => cases hw
      · -- a text
        refine dn_if (B := fun b => b = true → d.isT "str" = true) (tt_imp (tt_and (b := d.isT "str") (fun F H => dt_val (dv_cb (da_cons (dv_var rfl) (da_cons dv_ty da_nil)) (rc_isi (n := hob)))) fun _ => tt_draw (many := 3) rfl (fun _ _ => dv_int) (by omega) (by omega)) fun b hb e => ?_) (fun hb => dn_seqR ?_) fun _ => dn_next ?_
        · rcases hb with ⟨q, _⟩ | ⟨_, q⟩
          · exact q
          · rw [q] at e; cases e
        · have hw := hb rfl
          cases d with
          | str z =>
            have hz : S0 z := by cases n <;> exact htm
            have hzl : z.length ≤ 100 := by
              have := S1_base hz
              unfold S1 S1B at this
              rw [Bool.and_eq_true_iff, Bool.and_eq_true_iff] at this
              exact of_decide_eq_true this.1.1
            have hzs : z.length ≤ sizeLine := by rw [sizeLine_eq]; omega
            refine dn_set (tv_draw (many := z.length + 1) rfl (fun F H => dv_op (dv_cb (da_cons (dv_var rfl) da_nil) (rc_lenS hzs)) dv_int (rd_I0 (by omega))) (by omega) (by omega)) fun dk hk => ?_
            obtain ⟨i, hi, rfl⟩ := hk
            refine dn_ret (tv_imp (tv_op (Z := fun d => ∃ s, S1 s ∧ d = .str s) (tv_op (Z := fun d => ∃ q ∈ insL, d = .str (cutS z none (some ((i : Nat) : Int)) ++ q)) (tv_dv fun F H => dv_slS (dv_var rfl) do_none (do_some (dv_var rfl)) hzs) (tv_op (Z := fun d => ∃ q ∈ insL, d = .str q) (tv_dv (d := .lst (insL.map Da.str)) fun F H => dv_lst (da_cons dv_str (da_cons dv_str (da_cons dv_str (da_cons dv_str (da_cons dv_str (da_cons dv_str da_nil)))))) (small_ rfl)) (tv_draw (many := 6) rfl (fun _ _ => dv_int) (by omega) (by omega)) fun x y hx hy => ?_) fun x y hx hy => ?_) (tv_dv fun F H => dv_slS (dv_var rfl) (do_some (dv_var rfl)) do_none hzs) fun x y hx hy => ?_) fun d z => ?_)
            · obtain ⟨q, hq, rfl⟩ := hy
              subst hx
              have hl : q < insL.length := hq
              exact ⟨_, ⟨insL[q], List.getElem_mem hl, rfl⟩, fun F B => rd_ixL (at_map rfl (List.getElem?_eq_getElem hl))⟩
            · obtain ⟨q, hq, rfl⟩ := hy
              subst hx
              exact ⟨_, ⟨q, hq, rfl⟩, fun F B => rd_addS (by rw [sizeLine_eq]; have := (ins_at hz hi hq).1; omega)⟩
            · obtain ⟨q, hq, rfl⟩ := hx
              subst hy
              exact ⟨_, ⟨_, (ins_at hz hi hq).2.2, rfl⟩, fun F B => rd_addS (by rw [sizeLine_eq]; have := (ins_at hz hi hq).2.1; omega)⟩
            · obtain ⟨q, hq, rfl⟩ := z
              exact tame_str hq
          | _ => simp [Da.isT] at hw
        · -- the other kind of row
          refine dn_if (B := fun b => b = true → (d.isT "tuple" || d.isT "list") = true) (tt_imp (tt_and (b := d.isT "tuple" || d.isT "list") (fun F H => dt_val (dv_cb (da_cons (dv_var rfl) (da_cons (dv_tup (da_cons dv_ty (da_cons dv_ty da_nil)) (small_ rfl)) da_nil)) (rc_isi2 (n := hob)))) fun _ => tt_test (tv_op (tv_draw (many := 2) rfl (fun _ _ => dv_int) (by omega) (by omega)) (tv_dv fun _ _ => dv_int) fun x y hx hy => ?_)) fun b hb e => ?_) (fun hb => dn_seqR ?_) fun _ => dn_next ?_
          · obtain ⟨q, _, rfl⟩ := hx
            subst hy
            exact ⟨_, ⟨_, rfl⟩, fun F B => rd_eqI⟩
          · rcases hb with ⟨q, _⟩ | ⟨_, q⟩
            · exact q
            · rw [q] at e; cases e
          · have hw := hb rfl
            cases d with
            | tup xs =>
              refine dn_ret (tv_imp (tv_dv (d := .lst xs) fun F H => dv_if (b := true) (dt_to (dt_val (dv_cb (da_cons (dv_var rfl) (da_cons dv_ty da_nil)) (rc_isi (n := rfl)))) rfl) (fun _ => dv_cb (da_cons (dv_var rfl) da_nil) rc_listT) fun q => by cases q) fun z e => ?_)
              subst e
              refine up (Nat.le_refl _) ?_
              cases n with
              | zero => exact htm
              | succ m => exact htm
            | lst xs =>
              refine dn_ret (tv_imp (tv_dv (d := .tup xs) fun F H => dv_if (b := false) (dt_to (dt_val (dv_cb (da_cons (dv_var rfl) (da_cons dv_ty da_nil)) (rc_isi (n := rfl)))) rfl) (fun q => by cases q) fun _ => dv_cb (da_cons (dv_var rfl) da_nil) rc_tupL) fun z e => ?_)
              subst e
              refine up (Nat.le_refl _) ?_
              cases n with
              | zero => exact htm
              | succ m => exact htm
            | _ => simp [Da.isT] at hw
          · exact dn_ret (tv_imp (tv_call (Pr := R_tany 2) rfl (fun _ _ => da_cons dv_int da_nil) ⟨rfl, rfl⟩) fun z hz => tame_mono (fun s q => q) (Nat.le_refl _) (by omega) hz)
theorem ok_w_spoilt (T : Txt K mg) (G_w_draw : Ok P w K mg base CX0 1 d_w_draw P_w_draw (spT R_draw)) (G_w_any1 : Ok P w K mg base CX0 3 d_w_any P_w_any (spT (R_tany 1))) (G_w_any2 : Ok P w K mg base CX0 4 d_w_any P_w_any (spT (R_tany 2))) (G_w_whole : Ok P w K mg base CX0 1 d_w_whole P_w_whole (spD R_whole)) : ∀ n : Nat, Ok P w K mg base CX0 (n + 5) d_w_spoilt P_w_spoilt (spT (R_tspoil n)) := by
  intro n
  induction n with
  | zero =>
    have G_w_spoilt : Ok P w K mg base CX0 4 d_w_spoilt P_w_spoilt (fun _ _ _ _ => False) := by
      obtain ⟨fd, F⟩ := T.f_w_spoilt
      exact ⟨fd, ⟨fun _ _ _ _ h => h.elim, fun _ _ _ _ _ _ _ _ _ _ _ _ _ h => h.elim⟩, F.bindsN b_w_spoilt, F.kp⟩
    exact spoil_step T G_w_draw G_w_any1 G_w_any2 G_w_whole (n := 0) (Nat.le_refl _) G_w_spoilt (fun h => absurd h (by omega))
  | succ n ih => exact spoil_step T G_w_draw G_w_any1 G_w_any2 G_w_whole (n := n + 1) (by omega) ih (fun _ => rfl)
end
end Bb
/-! Bb34 -/
namespace Bb
open PySem PySem.Spec PyProof.Rows L2

/-! ### what is drawn may be told -/
theorem S1_parts {s : Str} (h : S1 s) : s.length ≤ 100 ∧ s ≠ "back" ∧ s.cps.all (· < 0x110000) = true := by
  unfold S1 S1B at h
  rw [Bool.and_eq_true_iff, Bool.and_eq_true_iff] at h
  exact ⟨of_decide_eq_true h.1.1, by simpa using h.1.2, h.2⟩
theorem tame_lay {b : Nat} : ∀ (n : Nat) (d : Da), d.tame S1 b n → d.py.canLay0 = true ∧ d.py.depth ≤ n := by
  have all : ∀ (n : Nat), (∀ d : Da, d.tame S1 b n → d.py.canLay0 = true ∧ d.py.depth ≤ n) → ∀ xs : List Da, (∀ x ∈ xs, x.tame S1 b n) → PyData.canLayAll0 (xs.map Da.py) = true ∧ PyData.depthAll (xs.map Da.py) ≤ n := fun n ih xs => by
    induction xs with
    | nil => intro _; exact ⟨rfl, Nat.zero_le _⟩
    | cons x xs ihx =>
      intro h
      obtain ⟨a, b⟩ := ihx fun y hy => h y (.tail _ hy)
      obtain ⟨c, d⟩ := ih x (h x (.head _))
      refine ⟨?_, ?_⟩
      · show (x.py.canLay0 && PyData.canLayAll0 (xs.map Da.py)) = true
        rw [a, c]
        rfl
      · show max x.py.depth (PyData.depthAll (xs.map Da.py)) ≤ n
        omega
  intro n
  induction n with
  | zero =>
    intro d h
    cases d with
    | lst xs => exact h.elim
    | tup xs => exact h.elim
    | ob v => exact h.elim
    | str s => exact ⟨(S1_parts h).2.2, Nat.le_refl _⟩
    | _ => exact ⟨rfl, Nat.le_refl _⟩
  | succ n ih =>
    intro d h
    cases d with
    | lst xs =>
      obtain ⟨a, b⟩ := all n ih xs h.2
      rw [py_list]
      exact ⟨a, Nat.succ_le_succ b⟩
    | tup xs =>
      obtain ⟨a, b⟩ := all n ih xs h.2
      rw [py_tup]
      exact ⟨a, Nat.succ_le_succ b⟩
    | ob v => exact h.elim
    | str s => exact ⟨(S1_parts h).2.2, Nat.zero_le _⟩
    | _ => exact ⟨rfl, Nat.zero_le _⟩
theorem tame_shaped {b n : Nat} {d : Da} (h : d.tame S1 b n) (hn : n ≤ 64) : SeqAt.shaped d.py = true := by
  obtain ⟨a, c⟩ := tame_lay n d h
  unfold SeqAt.shaped
  rw [a, decide_eq_true (by omega)]
  rfl
theorem tame_fits {S : Str → Prop} {b : Nat} (hb : b ≤ 1000000) : ∀ (n : Nat) (d : Da), d.tame S b n → d.fits n
  | 0, d, h => by
    cases d with
    | lst xs => exact h.elim
    | tup xs => exact h.elim
    | ob v => exact h.elim
    | _ => trivial
  | n + 1, d, h => by
    cases d with
    | lst xs => exact ⟨Nat.le_trans h.1 hb, fun x hx => tame_fits hb n x (h.2 x hx)⟩
    | tup xs => exact ⟨Nat.le_trans h.1 hb, fun x hx => tame_fits hb n x (h.2 x hx)⟩
    | ob v => exact h.elim
    | _ => trivial
theorem tame_good {b n : Nat} {d : Da} (h : d.tame S1 b n) (hb : b ≤ 1000000) (hn : n ≤ 64) : Good d :=
  ⟨fits_plain n d (tame_fits hb n d h), ⟨tame_ob h, fun s e => by
    subst e
    have hs : S1 s := by cases n <;> exact h
    have := S1_parts hs
    exact ⟨by omega, this.2.2⟩⟩, tame_shaped h hn⟩
theorem tame_dok {n : Nat} {d : Da} (h : d.tame S1 50 n) (hn : n ≤ 6) : Dok d := by
  refine ⟨fits_plain n d (tame_fits (by decide) n d h), fits_le (tame_fits (by decide) n d h) hn, fun xs e x hx => ?_, fun xs e x hx ys e2 => ?_⟩
  · subst e
    cases n with
    | zero => exact h.elim
    | succ n => exact tame_good (h.2 x hx) (by decide) (by omega)
  · subst e
    cases n with
    | zero => exact h.elim
    | succ n =>
      have := h.2 x hx
      subst e2
      cases n with
      | zero => exact this.elim
      | succ n => exact Nat.le_trans this.1 (by decide)
theorem tame_back {b n : Nat} {d : Da} (h : d.tame S1 b n) : d ≠ backD := fun e => by
  subst e
  cases n with
  | zero => exact h.elim
  | succ n =>
    have h2 : (Da.str "back").tame S1 b n := h.2 _ (by simp)
    have hs : S1 "back" := by cases n <;> exact h2
    exact (S1_parts hs).2.1 rfl
theorem base_in {s : Str} (h : (base0.contains s) = true) : S0 s := by simpa [S0] using h
theorem tame_dd (dd : Dd) : (ddD dd).tame S0 20 2 := by
  have two : ∀ (s : Str) (i : Int), S0 s → (Da.tup [.str s, .int i]).tame S0 20 2 := fun s i h => ⟨by simp, fun x hx => by
    rcases List.mem_cons.mp hx with rfl | hx
    · exact tame_str h
    · rw [show x = _ by simpa using hx]
      exact tame_int⟩
  cases dd with
  | press g => exact two _ _ (base_in (by decide +kernel))
  | swap g => exact two _ _ (base_in (by decide +kernel))
  | over g => exact two _ _ (base_in (by decide +kernel))
  | about g => exact two _ _ (base_in (by decide +kernel))
  | wait g => exact two _ _ (base_in (by decide +kernel))
theorem tame_drop (s : Tri) (c : Str) (wet : Int) (h : S0 c) : (Da.tup [.str "drop", triD s, .str c, .int wet]).tame S0 20 2 := ⟨by simp, fun x hx => by
  rcases List.mem_cons.mp hx with rfl | hx
  · exact tame_str (base_in (by decide +kernel))
  rcases List.mem_cons.mp hx with rfl | hx
  · refine ⟨by simp, fun x hx => ?_⟩
    rcases List.mem_cons.mp hx with rfl | hx
    · exact tame_int
    rcases List.mem_cons.mp hx with rfl | hx
    · exact tame_int
    rw [show x = _ by simpa using hx]
    exact tame_int
  rcases List.mem_cons.mp hx with rfl | hx
  · exact tame_str h
  · rw [show x = _ by simpa using hx]
    exact tame_int⟩
/-! ### statements that go on -/
section
variable (tp : Addr)
def Nv (t : TS) (ρ : Rho) (P : Rho → Prop) : Prop := ∀ σ F H, Same F H → TapeE H F tp → Env F σ ρ → ∀ D : Ends, (∀ σ' F' H' ρ', Gr [tp] F H F' H' → TapeE H' F' tp → P ρ' → Env F' σ' ρ' → D.nx σ' H') → t D σ H
end
section
variable {tp : Addr} {ρ : Rho} {te : TE} {tr : TA} {tt : TT} {t u : TS} {Z : Da → Prop} {B : Bool → Prop} {ZA : List Da → Prop} {P P2 : Rho → Prop} {i j : Nat}
theorem nv_set (h : Tv tp te ρ Z) : Nv tp (tAsg te (gName j)) ρ (fun ρ' => ∃ d, Z d ∧ ρ' = ρ.set j (some d)) := fun σ F H s t En D k => h σ F H s t En _ fun v F' H' d g t1 h1 z => k _ F' H' _ g t1 ⟨d, z, rfl⟩ ((En.mono g.ff).set h1)
theorem nv_par (h : TvA tp tr ρ fun ds => ∃ x y, ds = [x, y] ∧ ZA [x, y]) : Nv tp (tPar i j tr) ρ (fun ρ' => ∃ x y, ZA [x, y] ∧ ρ' = (ρ.set i (some x)).set j (some y)) := fun σ F H s t En D k => h σ F H s t En _ fun vs F' H' ds g t1 h1 z => by
  obtain ⟨x, y, rfl, z⟩ := z
  obtain ⟨v, u, rfl, hv, hu⟩ := h1.two
  exact ⟨v, u, rfl, k _ F' H' _ g t1 ⟨x, y, z, rfl⟩ (((En.mono g.ff).set hv).set hu)⟩
theorem nv_next : Nv tp tNext ρ (· = ρ) := fun σ F H s t En D k => k σ F H ρ (.refl s) t rfl En
theorem nv_imp (h : Nv tp t ρ P) (f : ∀ ρ', P ρ' → P2 ρ') : Nv tp t ρ P2 := fun σ F H s t En D k => h σ F H s t En D fun σ' F' H' ρ' g t1 p e => k σ' F' H' ρ' g t1 (f ρ' p) e
theorem nv_seq (h : Nv tp t ρ P) (h2 : ∀ ρ', P ρ' → Nv tp u ρ' P2) : Nv tp (tSeq t u) ρ P2 := fun σ F H s t En D k => h σ F H s t En _ fun σ' F' H' ρ' g t1 p e => h2 ρ' p σ' F' H' g.fh t1 e D fun σ2 F2 H2 ρ2 g2 t2 p2 e2 => k σ2 F2 H2 ρ2 (t1.trans g g2) t2 p2 e2
theorem nv_if (h : TvT tp tt ρ B) (h1 : B true → Nv tp t ρ P) (h2 : B false → Nv tp u ρ P) : Nv tp (tIfS tt t u) ρ P := fun σ F H s t En D k => h σ F H s t En _ fun b F1 H1 g1 t1 z1 => by
  cases b with
  | true => exact iteT (h1 z1 σ F1 H1 g1.fh t1 (En.mono g1.ff) D fun σ' F' H' ρ' g t2 p e => k σ' F' H' ρ' (t1.trans g1 g) t2 p e)
  | false => exact iteF (h2 z1 σ F1 H1 g1.fh t1 (En.mono g1.ff) D fun σ' F' H' ρ' g t2 p e => k σ' F' H' ρ' (t1.trans g1 g) t2 p e)
/-- a slot is not asked for any more -/
theorem nv_forget (i : Nat) (h : Nv tp t ρ P) : Nv tp t ρ (fun ρ' => ∃ r, P r ∧ ρ' = r.set i Option.none) := fun σ F H s t En D k => h σ F H s t En D fun σ' F' H' ρ' g t1 p e => k σ' F' H' _ g t1 ⟨ρ', p, rfl⟩ (e.forget i)
theorem nv_go {D : Ends} {σ : LSt} {F H : Hp} (h : Nv tp t ρ P) (s : Same F H) (ht : TapeE H F tp) (En : Env F σ ρ) (k : ∀ σ' F' H' ρ', Gr [tp] F H F' H' → TapeE H' F' tp → P ρ' → Env F' σ' ρ' → u D σ' H') : tSeq t u D σ H := h σ F H s ht En { D with nx := u D } k
end
/-! ### the book and the records, carried on -/
section
variable {K : PySem.W.Frag} {M : List Addr} {F H F1 H1 : Hp} {kb : Addr} {m w : Nat} {L : Stt} {past : List Stt}
theorem BkO.go (r : BkO K H F kb m w L past) (g : Gr M F H F1 H1) (h : kb ∉ M) : BkO K H1 F1 kb m w L past := by
  obtain ⟨nF, dx, la, vp, las, hk, hl, hp, hn, hi⟩ := r
  exact ⟨by rw [g.nw kb _ hk rfl]; exact nF, dx, la, vp, las, g.hh kb _ h hk, hl.mono g.ff, hp.mono g.ff, hn, fun i a L' h1 h2 => (hi i a L' h1 h2).mono g.ff⟩
theorem BkO.at_ (r : BkO K H F kb m w L past) : ∃ o, H kb = some o ∧ HO.isTup o = false := by
  obtain ⟨nF, dx, la, vp, las, hk, _⟩ := r
  exact ⟨_, hk, rfl⟩
theorem BkO.all {F0 H0 : Hp} (r : BkO K H F kb m w L past) (g : Gr [] F0 H0 F H) (h0 : H0 kb ≠ none) : BkO K H (allF H0 F H) kb m w L past := by
  obtain ⟨nF, dx, la, vp, las, hk, hl, hp, hn, hi⟩ := r
  have s := allF_same (H := H0) g.fh
  refine ⟨?_, dx, la, vp, las, hk, hl.mono s, hp.mono s, hn, fun i a L' h1 h2 => (hi i a L' h1 h2).mono s⟩
  unfold allF
  cases e : H0 kb with
  | none => exact (h0 e).elim
  | some o => exact nF
theorem TapeE.all {F0 H0 : Hp} {tp : Addr} (t : TapeE H F tp) (g : Gr [] F0 H0 F H) (h0 : H0 tp ≠ none) : TapeE H (allF H0 F H) tp := by
  obtain ⟨ns, i, c, nF, vs, h1, h2⟩ := t
  refine ⟨ns, i, c, ?_, vs, h1, h2.mono (allF_same g.fh)⟩
  unfold allF
  cases e : H0 tp with
  | none => exact (h0 e).elim
  | some o => exact nF
/-- a list of things that stand -/
structure Lst (H F : Hp) (sa : Addr) (oas : List Addr) : Prop where
  nF : F sa = none
  at_ : H sa = some (.lst (oas.map V.ref))
theorem Lst.go {sa : Addr} {oas : List Addr} (r : Lst H F sa oas) (g : Gr M F H F1 H1) (h : sa ∉ M) : Lst H1 F1 sa oas := ⟨by rw [g.nw sa _ r.at_ rfl]; exact r.nF, g.hh sa _ h r.at_⟩
theorem Lst.all {F0 H0 : Hp} {sa : Addr} {oas : List Addr} (r : Lst H F sa oas) (h0 : H0 sa ≠ none) : Lst H (allF H0 F H) sa oas := ⟨by
  unfold allF
  cases e : H0 sa with
  | none => exact (h0 e).elim
  | some o => exact r.nF, r.at_⟩
theorem obs_of (F : Hp) : ∀ oas : List Addr, DtA F (oas.map V.ref) (obs oas)
  | [] => .nil
  | a :: r => .cons (.ob _) (obs_of F r)
theorem obs_len (oas : List Addr) : (obs oas).length = oas.length := List.length_map _
theorem obs_last {oas : List Addr} {a : Addr} (h : oas.getLast? = some a) : atI (obs oas) (-1) = some (.ob (.ref a)) := by
  have hne : oas ≠ [] := fun z => by rw [z] at h; cases h
  have hl : 0 < oas.length := List.length_pos_iff.mpr hne
  unfold atI
  have e : ixN (obs oas).length (-1) = some (oas.length - 1) := by
    rw [obs_len]
    unfold ixN
    rw [if_neg (by omega), if_pos (by omega)]
    congr 1
    omega
  rw [e]
  show (obs oas)[oas.length - 1]? = _
  unfold obs
  rw [List.getElem?_map]
  rw [List.getLast?_eq_getElem?] at h
  rw [h]
  rfl
end
theorem passN {P : Program} {w : World} {X : Cx} (hp : X.prog = P := by rfl) (hw : X.w = w := by rfl) : Passes (L2.CX P w) X (fun _ _ _ => False) := fun _ _ _ _ _ _ _ h => by
  obtain ⟨_, _, _, _, _, _, _, _, _, _, _, _, h⟩ := h
  exact h.elim
end Bb
/-! Bb35 -/
namespace Bb
open PySem PySem.Spec PyProof.Rows L2

/-! ### what stands at each turn of the law -/
structure StB (m w i : Nat) (L : Stt) : Prop where
  ok : SttOk m w L
  cs : L.cs.length ≤ i
  now : L.now ≤ 9 * i
  bk : L.bk.length ≤ i
  fit : ∀ e ∈ L.bk, e.fits 7
abbrev L0 (m : Nat) : Stt := ⟨firstSt m, 0, [], []⟩
theorem StB.up {m w i j : Nat} {L : Stt} (h : StB m w i L) (hij : i ≤ j) : StB m w j L := ⟨h.ok, Nat.le_trans h.cs hij, by have := h.now; omega, Nat.le_trans h.bk hij, h.fit⟩
theorem Tl.told {m w : Nat} {L L' : Stt} {d f : Da} (h : Tl m w L d L' f) : L'.bk = L.bk ++ [.tup [d, f]] ∧ (f = .non ∨ ∃ n, f = .int n) ∧ L'.now ≤ L.now + 9 := by
  cases h with
  | drop s c wet h1 h2 h3 h4 => exact ⟨rfl, .inl rfl, by show L.now ≤ L.now + 9; omega⟩
  | deed dd hok =>
    refine ⟨rfl, ?_, ?_⟩
    · cases dd with
      | press g => exact .inr ⟨_, rfl⟩
      | _ => exact .inl rfl
    · show L.now + (dd.takes : Nat) ≤ L.now + 9
      have : dd.takes ≤ 9 := by
        cases dd with
        | wait t => exact hok.2
        | _ => show 1 ≤ 9; decide
      omega
theorem Tl.stb {m w i : Nat} {L L' : Stt} {d f : Da} (h : Tl m w L d L' f) (hb : StB m w i L) (hd : d.fits 6) : StB m w (i + 1) L' := by
  obtain ⟨e, hf, hn⟩ := h.told
  refine ⟨h.ok hb.ok, Nat.le_trans h.len (Nat.succ_le_succ hb.cs), by have := hb.now; omega, by rw [e, List.length_append]; exact Nat.succ_le_succ hb.bk, fun x hx => ?_⟩
  rw [e] at hx
  rcases List.mem_append.mp hx with hx | hx
  · exact hb.fit x hx
  · rw [show x = _ by simpa using hx]
    refine ⟨by simp, fun y hy => ?_⟩
    rcases List.mem_cons.mp hy with rfl | hy
    · exact hd
    · rw [show y = f by simpa using hy]
      rcases hf with rfl | ⟨n, rfl⟩
      · exact fits_non
      · exact fits_int
structure LawI (K : PySem.W.Frag) (H F : Hp) (tp kb sa : Addr) (m w i : Nat) (oas : List Addr) (Ls : List Stt) (L : Stt) : Prop where
  s : Same F H
  t : TapeE H F tp
  b : BkO K H F kb m w L Ls
  l : Lst H F sa oas
  len : oas.length = Ls.length + 1
  own : ∀ (j : Nat) (a : Addr) (L' : Stt), oas[j]? = some a → (Ls ++ [L])[j]? = some L' → OwF F a m w L'
  st : ∀ L' ∈ Ls ++ [L], StB m w i L'
  zero : (Ls ++ [L])[0]? = some (L0 m)
  num : Ls.length ≤ i
  ne : sa ≠ tp
section
variable {K : PySem.W.Frag} {M : List Addr} {F H F1 H1 F0 H0 : Hp} {tp kb sa : Addr} {m w i : Nat} {oas : List Addr} {Ls : List Stt} {L : Stt}
theorem LawI.kt (I : LawI K H F tp kb sa m w i oas Ls L) : kb ≠ tp := by
  obtain ⟨ns, i, c, nF, vs, h1, h2⟩ := I.t
  obtain ⟨_, dx, la, vp, las, hk, _⟩ := I.b
  exact ne_of hk h1 (fun z => nomatch z)
theorem LawI.ks (I : LawI K H F tp kb sa m w i oas Ls L) : kb ≠ sa := by
  obtain ⟨_, dx, la, vp, las, hk, _⟩ := I.b
  exact ne_of hk I.l.at_ (fun z => nomatch z)
theorem LawI.last (I : LawI K H F tp kb sa m w i oas Ls L) : ∃ o, oas.getLast? = some o ∧ OwF F o m w L := by
  have hl : Ls.length < oas.length := by rw [I.len]; omega
  refine ⟨oas[Ls.length], ?_, I.own Ls.length _ L (List.getElem?_eq_getElem hl) (by simp)⟩
  rw [List.getLast?_eq_getElem?, I.len]
  exact List.getElem?_eq_getElem hl
theorem LawI.cur (I : LawI K H F tp kb sa m w i oas Ls L) : StB m w i L := I.st L (by simp)
theorem LawI.goM (I : LawI K H F tp kb sa m w i oas Ls L) (g : Gr M F H F1 H1) (t1 : TapeE H1 F1 tp) (b1 : BkO K H1 F1 kb m w L Ls) (hs : sa ∉ M) : LawI K H1 F1 tp kb sa m w i oas Ls L :=
  ⟨g.fh, t1, b1, I.l.go g hs, I.len, fun j a L' h1 h2 => (I.own j a L' h1 h2).mono g.ff, I.st, I.zero, I.num, I.ne⟩
theorem LawI.go (I : LawI K H F tp kb sa m w i oas Ls L) (g : Gr [tp] F H F1 H1) (t1 : TapeE H1 F1 tp) : LawI K H1 F1 tp kb sa m w i oas Ls L :=
  I.goM g t1 (I.b.go g (by simpa using I.kt)) (by simpa using I.ne)
theorem LawI.grow (I : LawI K H F tp kb sa m w i oas Ls L) (g : Gr [] F H F1 H1) : LawI K H1 F1 tp kb sa m w i oas Ls L :=
  I.goM g (I.t.grow g) (I.b.grow g) (by simp)
theorem LawI.old (I : LawI K H F tp kb sa m w i oas Ls L) : H tp ≠ none ∧ H kb ≠ none ∧ H sa ≠ none := by
  obtain ⟨o, e, _⟩ := I.t.at_
  obtain ⟨o2, e2, _⟩ := I.b.at_
  exact ⟨by rw [e]; simp, by rw [e2]; simp, by rw [I.l.at_]; simp⟩
/-- all that is new is frozen -/
theorem LawI.all (I0 : LawI K H0 F0 tp kb sa m w i oas Ls L) (g : Gr [] F0 H0 F1 H1) : LawI K H1 (allF H0 F1 H1) tp kb sa m w i oas Ls L := I0.grow g.all
end
/-! ### the end of a turn -/
abbrev tT7 (K : PySem.W.Frag) : TS := tIfS (tNot (tB (tCall (spD (R_like 1)) [] L2.E0 (tCons (tCall (spDone K) [] L2.E0 (tCons (tVar 4) (tCons (tVar 9) tNil))) (tCons (tVar 10) tNil))))) (tRet (tC (.bl false))) tNext
abbrev tT8 (K : PySem.W.Frag) : TS := tIfS (tTest (tOp rEq (tVar 8) (tC (.int 0)))) (tAsg (tOp rCat (tSl (rSlL K) (tVar 5) tNoPart (tPart (tC (.int 1)))) (tSl (rSlL K) (tVar 5) (tPart (tC (.int 1))) (tPart (tUn (rU fun i => .int (-i)) (tC (.int 1)))))) (gName 5))
  (tIfS (tNot (tB (tCB (rIsi K) (tCons (tVar 10) (tCons (tC (.ty "tuple")) tNil))))) (tDrop (tBM K "list" rAppend (tVar 5) (tCons (tVar 3) tNil))) tNext)
abbrev tT9 (K : PySem.W.Frag) : TS := tIfS (tNot (tB (tCall (spRight K) [] L2.E0 (tCons (tOp (rIxL K) (tVar 5) (tUn (rU fun i => .int (-i)) (tC (.int 1)))) (tCons (tVar 4) tNil))))) (tRet (tC (.bl false))) tNext
section
variable {K : PySem.W.Frag} {F H : Hp} {tp kb sa : Addr} {m w i : Nat} {oas : List Addr} {Ls Ln : List Stt} {L Lx : Stt} {σ : LSt} {ρ : Rho} {D : Ends} {u : TS} {D2 DU : Da}
theorem dv_negI {F0 B : Hp} : Dv F0 B (tUn (rU fun i => V.int (-i)) (tC (.int 1))) ρ (.int (-1)) := dv_un dv_int ru_neg
theorem run9 (I : LawI K H F tp kb sa m w i oas Ls L) (hi : i ≤ 36) (hm : m ≤ 4) (hw : w ≤ 3) (E : Env F σ ρ) (h4 : ρ[4]? = some (some (.ob (.ref kb)))) (h5 : ρ[5]? = some (some (.ob (.ref sa)))) (k : ∀ F' H', Gr [] F H F' H' → D.nx σ H') : tT9 K D σ H := by
  obtain ⟨ol, hlast, hol⟩ := I.last
  have hst := I.cur
  have hcall : Dv F H (tCall (spRight K) [] L2.E0 (tCons (tOp (rIxL K) (tVar 5) (tUn (rU fun i => .int (-i)) (tC (.int 1)))) (tCons (tVar 4) tNil))) ρ (.bl true) := fun σ F1 H1 aa En Q k => by
    refine (da_cons (dv_op (dv_var h5) dv_negI (rd_ixLm I.l.at_ (obs_of F oas) (obs_last hlast))) (da_cons (dv_var h4) da_nil) : DvA F H _ ρ [.ob (.ref ol), .ob (.ref kb)]) σ F1 H1 aa En _ fun vs F5 H5 g5 d5 => ?_
    obtain ⟨v, u, rfl, hv, hu⟩ := d5.two
    rw [hv.of_ob, hu.of_ob]
    have ag := aa.go g5
    exact ⟨F5, ol, kb, m, w, L, Ls, rfl, g5.fh, hol.mono ag.f, I.b.rd.mono ag.f ag.b, hst.ok, hm, hw, by have := hst.cs; omega, by have := hst.now; omega, by have := hst.bk; omega, hst.fit, fun v F' H' g d => k v F' H' (g5.trans0 g) d⟩
  exact (dt_not (dt_val hcall)).run I.s E fun F1 H1 g1 => iteF' rfl (k F1 H1 g1)
theorem run7 (E : Env F σ ρ) (s : Same F H) (h4 : ρ[4]? = some (some (.ob (.ref kb)))) (h9 : ρ[9]? = some (some D2)) (h10 : ρ[10]? = some (some DU)) (fit : DU.fits 1)
    (hd : ∀ F1 H1 vd, Gr [] F H F1 H1 → Dt F1 vd D2 → ∀ Q : VK, (∀ v F' H', Gr [kb] F1 H1 F' H' → BkO K H' F' kb m w Lx Ln → Dt F' v DU → Q v H') → spDone K [.ref kb, vd] H1 Q L2.E0)
    (k : ∀ F' H', Gr [kb] F H F' H' → BkO K H' F' kb m w Lx Ln → Env F' σ ρ → u D σ H') : tSeq (tT7 K) u D σ H := by
  refine if_seq ?_
  show tCall (spDone K) [] L2.E0 (tCons (tVar 4) (tCons (tVar 9) tNil)) σ H _
  refine (da_cons (dv_var h4) (da_cons (dv_var h9) da_nil) : DvA F H _ ρ [.ob (.ref kb), D2]).run s E fun vs F1 H1 g1 d1 => ?_
  obtain ⟨v, vd, rfl, hv, hvd⟩ := d1.two
  rw [hv.of_ob]
  refine hd F1 H1 vd g1 hvd _ fun v2 F2 H2 g2 hB2 d2 => ?_
  have E2 := (E.mono g1.ff).mono g2.ff
  obtain ⟨v10, e10, hv10⟩ := E2.at_ 10 _ h10
  refine ⟨v10, e10, ?_⟩
  refine ⟨F2, [DU, DU], .bl true, g2.fh, .cons d2 (.cons hv10 .nil), ⟨DU, DU, rfl, fit, fit, by rw [likeB_refl 1 _ fit]⟩, fun v3 F3 H3 g3 d3 => ⟨true, d3.of_bl, ?_⟩⟩
  refine iteF' rfl (nextS (k F3 H3 ((g1.after g2).transL g3 (fun n hn => (nomatch hn)) fun mm hmm => ?_) (hB2.grow g3) (E2.mono g3.ff)))
  rw [show mm = kb by simpa using hmm]
  exact hB2.at_
theorem obs_refs {F : Hp} : ∀ {as : List Addr} {vs : List V}, DtA F vs (obs as) → vs = as.map V.ref
  | [], _, h => by cases h; rfl
  | a :: r, _, h => by
    cases h with
    | cons h1 h2 =>
      rw [obs_refs h2, h1.of_ob]
      rfl
theorem dv_slLm {F0 B : Hp} {te : TE} {tl th : TO} {lo hi : Option Int} {vs : List V} {ds : List Da} (h : Dv F0 B te ρ (.ob (.ref sa))) (hB : B sa = some (.lst vs)) (hd : DtA F0 vs ds) (h1 : DvO F0 B tl ρ lo) (h2 : DvO F0 B th ρ hi) : Dv F0 B (tSl (rSlL K) te tl th) ρ (.lst (cutD ds lo hi)) := fun σ F H a E Q k =>
  h σ F H a E _ fun v F1 H1 g1 d1 => h1 σ F1 H1 (a.go g1) (E.mono g1.ff) _ fun F2 H2 g2 => h2 σ F2 H2 ((a.go g1).go g2) ((E.mono g1.ff).mono g2.ff) _ fun F3 H3 g3 => by
    have aa := ((a.go g1).go g2).go g3
    refine ⟨sa, vs, d1.of_ob, SqL.of (aa.b _ _ hB), fun r hr => ?_⟩
    have g := Gr.new (o := .lst (cutV vs lo hi)) g3.fh hr
    exact k _ _ _ (((g1.trans0 g2).trans0 g3).trans0 g) (.lst upd_same (((hd.mono aa.f).cut lo hi).mono g.ff))
theorem cut_ends {α : Type} (f : α → Da) (xs : List α) (h : 1 ≤ xs.length) : cutD (xs.map f) none (some 1) ++ cutD (xs.map f) (some 1) (some (-1)) = (if xs.length = 1 then xs else xs.dropLast).map f := by
  have e1 : cutD (xs.map f) none (some 1) = (xs.take 1).map f := by
    unfold cutD
    rw [List.length_map, List.map_take]
    show List.take (min 1 xs.length - 0) (List.drop 0 (xs.map f)) = _
    rw [Nat.min_eq_left h]
    rfl
  have e2 : cutD (xs.map f) (some 1) (some (-1)) = ((xs.drop 1).take (xs.length - 1 - 1)).map f := by
    unfold cutD
    rw [List.length_map, List.map_take, List.map_drop]
    have a1 : HT.sIx xs.length 0 (some 1) = 1 := (HT.sIx_nat xs.length 0 1).trans (Nat.min_eq_left h)
    have a2 : HT.sIx xs.length xs.length (some (-1)) = xs.length - 1 := by
      show (if (-1 : Int) < 0 then ((-1 : Int) + (xs.length : Int)).toNat else min (-1 : Int).toNat xs.length) = _
      rw [if_pos (by decide)]
      omega
    rw [a1, a2]
  rw [e1, e2, ← List.map_append]
  congr 1
  by_cases h1 : xs.length = 1
  · rw [if_pos h1, h1]
    simp
    rw [List.take_of_length_le (by omega)]
  · rw [if_neg h1, ← List.take_add, List.dropLast_eq_take]
    congr 1
    omega
/-- what a deed is, and what is due, at the end of a turn -/
inductive Case (m w : Nat) (Ls : List Stt) (L : Stt) (F : Hp) (o : Addr) : Nat → Da → Da → Prop
  | back (Ls' : List Stt) (Lp : Stt) : Ls = Ls' ++ [Lp] → Case m w Ls L F o 0 backD .non
  | left : Ls = [] → Case m w Ls L F o 0 backD (.tup [.str "word", .str "left"])
  | told {r : Nat} {d f : Da} {L' : Stt} : 0 < r → d ≠ backD → Dok d → SeqAt.shaped d.py = true → Tl m w L d L' f → OwF F o m w L' → Case m w Ls L F o r d f
  | nope {r : Nat} {d : Da} {word : Str} : 0 < r → d ≠ backD → Dok d → SeqAt.shaped d.py = true → Nope m w d word → Case m w Ls L F o r d (.tup [.str "word", .str word])
abbrev rhoE (tp kb sa o : Addr) (m w r : Nat) (D2 DU : Da) : Rho := [none, some (.ob (.ref tp)), some (shD m w), some (.ob (.ref o)), some (.ob (.ref kb)), some (.ob (.ref sa)), none, none, some (.int (r : Nat)), some D2, some DU, none, none]
abbrev rhoL (tp kb sa : Addr) (m w : Nat) : Rho := [none, some (.ob (.ref tp)), some (shD m w), none, some (.ob (.ref kb)), some (.ob (.ref sa)), none, none, none, none, none, none, none]
theorem rho_forget {F : Hp} {σ : LSt} {o : Addr} {r : Nat} (e : Env F σ (rhoE tp kb sa o m w r D2 DU)) : Env F σ (rhoL tp kb sa m w) := (((e.forget 3).forget 8).forget 9).forget 10
theorem end_turn {o : Addr} {r : Nat} (I : LawI K H F tp kb sa m w i oas Ls L) (hi : i + 1 ≤ 36) (hm : m ≤ 4) (hw : w ≤ 3) (E : Env F σ (rhoE tp kb sa o m w r D2 DU)) (C : Case m w Ls L F o r D2 DU)
    (k : ∀ sa' oas' Ls' L' F' H' σ', Same F F' → LawI K H' F' tp kb sa' m w (i + 1) oas' Ls' L' → Env F' σ' (rhoL tp kb sa' m w) → D.nx σ' H') : tSeq (tT7 K) (tSeq (tT8 K) (tT9 K)) D σ H := by
  have hst := I.cur
  have hnum := I.num
  have nks : sa ∉ [kb] := by simpa using I.ks.symm
  have nkt : tp ∉ [kb] := by simpa using I.kt.symm
  -- the last row, then the next turn
  have fin : ∀ (sa' : Addr) (oas' : List Addr) (Ls' : List Stt) (L' : Stt) (F' H' : Hp) (σ' : LSt), Same F F' → LawI K H' F' tp kb sa' m w (i + 1) oas' Ls' L' → Env F' σ' (rhoE tp kb sa' o m w r D2 DU) → tT9 K D σ' H' := fun sa' oas' Ls' L' F' H' σ' s' I' E' =>
    run9 I' hi hm hw E' rfl rfl fun F2 H2 g2 => k sa' oas' Ls' L' F2 H2 σ' (s'.trans g2.ff) (I'.grow g2) (rho_forget (E'.mono g2.ff))
  -- stands = stands[:1] + stands[1:-1]
  have cut : ∀ (F1 H1 : Hp) (Lx : Stt) (Ln : List Stt), r = 0 → Gr [kb] F H F1 H1 → BkO K H1 F1 kb m w Lx Ln → Env F1 σ (rhoE tp kb sa o m w r D2 DU) →
      (∀ L' ∈ Ln ++ [Lx], L' ∈ Ls ++ [L]) → (∀ (j : Nat) (L' : Stt), (Ln ++ [Lx])[j]? = some L' → (Ls ++ [L])[j]? = some L') → Ln.length ≤ Ls.length → (if oas.length = 1 then oas else oas.dropLast).length = Ln.length + 1 → tSeq (tT8 K) (tT9 K) D σ H1 := fun F1 H1 Lx Ln hr g1 hB1 E1 hsub hat hle hlen => by
    refine if_seq ?_
    refine (dt_test (dv_op (dv_var rfl) dv_int rd_eqI)).run g1.fh E1 fun F2 H2 g2 => ?_
    refine iteT' (decide_eq_true (by rw [hr]; rfl)) (set_run ?_)
    have hl1 := I.l.go g1 nks
    have hl2 := hl1.go g2 (by simp)
    have E2 := E1.mono g2.ff
    refine (dv_slLm (K := K) (dv_var rfl) hl2.at_ (obs_of F2 oas) do_none (do_some dv_int)).run g2.fh E2 fun v3 F3 H3 g3 d3 => ?_
    have hl3 := hl2.go g3 (by simp)
    have E3 := E2.mono g3.ff
    refine (dv_slLm (K := K) (dv_var rfl) hl3.at_ (obs_of F3 oas) (do_some dv_int) (do_some dv_negI)).run g3.fh E3 fun v4 F4 H4 g4 d4 => ?_
    obtain ⟨p, xs, rfl, hp, hx⟩ := (d3.mono g4.ff).of_lst
    obtain ⟨p', ys, rfl, hp', hy⟩ := d4.of_lst
    have exy : xs ++ ys = (if oas.length = 1 then oas else oas.dropLast).map V.ref := by
      refine obs_refs (F := F4) ?_
      have e := cut_ends (fun a : Addr => Da.ob (.ref a)) oas (by rw [I.len]; omega)
      have h := hx.append hy
      unfold obs at h ⊢
      rw [e] at h
      exact h
    have hlxy : xs.length + ys.length = Ln.length + 1 := by rw [← List.length_append, exy, List.length_map, hlen]
    refine ⟨p, p', xs, ys, rfl, rfl, g4.fh _ _ hp, g4.fh _ _ hp', by rw [hlxy, sizeLine_eq]; omega, fun q hq => ?_⟩
    have gP : Gr [] F4 H4 F4 (upd H4 q (.lst (xs ++ ys))) := Gr.newM g4.fh hq
    have g24 := ((g2.trans0 g3).trans0 g4).trans0 gP
    have gA : Gr [kb] F H F4 (upd H4 q (.lst (xs ++ ys))) := g1.transL g24 (fun n hn => (nomatch hn)) fun mm hmm => by
      rw [show mm = kb by simpa using hmm]
      exact hB1.at_
    have E4 : Env F4 (σ.set 5 (some (.ref q))) (rhoE tp kb q o m w r D2 DU) := (E3.mono g4.ff).set (i := 5) (.ob (.ref q))
    have t4 : TapeE H4 F4 tp := (I.t.go g1 nkt).grow ((g2.trans0 g3).trans0 g4)
    refine fin q (if oas.length = 1 then oas else oas.dropLast) Ln Lx F4 _ _ gA.ff ⟨gA.fh, I.t.go gA nkt, hB1.grow g24, ⟨none_of g4.fh hq, by rw [upd_same, exy]⟩, hlen, fun j a L' h1 h2 => ?_, fun L' hL' => (I.st L' (hsub L' hL')).up (Nat.le_succ _), ?_, by omega, t4.ne hq⟩ E4
    · refine (I.own j a L' ?_ (hat j L' h2)).mono gA.ff
      by_cases h1' : oas.length = 1
      · rw [if_pos h1'] at h1
        exact h1
      · rw [if_neg h1', List.dropLast_eq_take] at h1
        have hj : j < oas.length - 1 := by
          have := (List.getElem?_eq_some_iff.mp h1).1
          rw [List.length_take] at this
          omega
        rw [List.getElem?_take_of_lt hj] at h1
        exact h1
    · have h0 : (Ln ++ [Lx])[0]? = some ((Ln ++ [Lx])[0]'(by simp)) := List.getElem?_eq_getElem _
      rw [h0, ← hat 0 _ h0, I.zero]
  cases C with
  | back Ls' Lp e =>
    subst e
    refine run7 (m := m) (w := w) (Lx := Lp) (Ln := Ls') E I.s rfl rfl rfl fits_non (fun F1 H1 vd g1 hvd Q kk => ?_) fun F1 H1 g1 hB1 E1 => cut F1 H1 Lp Ls' rfl g1 hB1 E1 ?_ ?_ (by simp) ?_
    · exact ⟨F1, kb, m, w, L, Ls' ++ [Lp], vd, backD, rfl, g1.fh, I.b.grow g1, hvd, by omega, .inl ⟨rfl, .inl ⟨Ls', Lp, rfl, fun v F' H' g hB hv => kk v F' H' g hB hv⟩⟩⟩
    · exact fun L' h => List.mem_append_left _ h
    · intro j L' h
      rw [List.getElem?_append_left (List.getElem?_eq_some_iff.mp h).1]
      exact h
    · have hl := I.len
      rw [List.length_append] at hl
      simp at hl
      rw [if_neg (by omega), List.length_dropLast]
      omega
  | left e =>
    subst e
    have fw : (Da.tup [.str "word", .str "left"]).fits 1 := ⟨by simp, fun x hx => by
      rcases List.mem_cons.mp hx with rfl | hx
      · exact fits_str
      · rw [show x = _ by simpa using hx]
        exact fits_str⟩
    refine run7 (m := m) (w := w) (Lx := L) (Ln := []) E I.s rfl rfl rfl fw (fun F1 H1 vd g1 hvd Q kk => ?_) fun F1 H1 g1 hB1 E1 => cut F1 H1 L [] rfl g1 hB1 E1 (fun L' h => h) (fun j L' h => h) (Nat.le_refl _) ?_
    · exact ⟨F1, kb, m, w, L, [], vd, backD, rfl, g1.fh, I.b.grow g1, hvd, by simp, .inl ⟨rfl, .inr ⟨rfl, fun v F' H' g hv => kk v F' H' g.wide ((I.b.grow g1).grow g) hv⟩⟩⟩
    · have hl := I.len
      simp at hl
      rw [if_pos hl, hl]
      rfl
  | told hr hne hd hsh hT hO =>
    rename_i L'
    obtain ⟨ebk, hf, hnow⟩ := hT.told
    have ff : DU.fits 1 := by
      rcases hf with rfl | ⟨n, rfl⟩
      · exact fits_non
      · exact fits_int
    have nt : DU.isT "tuple" = false := by
      rcases hf with rfl | ⟨n, rfl⟩ <;> rfl
    have nob : DU.isOb = false := by
      rcases hf with rfl | ⟨n, rfl⟩ <;> rfl
    refine run7 (m := m) (w := w) (Lx := L') (Ln := Ls ++ [L]) E I.s rfl rfl rfl ff (fun F1 H1 vd g1 hvd Q kk => ?_) fun F1 H1 g1 hB1 E1 => ?_
    · exact ⟨F1, kb, m, w, L, Ls, vd, D2, rfl, g1.fh, I.b.grow g1, hvd, by omega, .inr ⟨hne, hd, hsh, hst.ok, hm, hw, by have := hst.cs; omega, by have := hst.bk; omega, .inl ⟨L', DU, hT, fun v F' H' g hB hv => kk v F' H' g hB hv⟩⟩⟩
    · refine if_seq ?_
      refine (dt_test (dv_op (dv_var rfl) dv_int rd_eqI)).run g1.fh E1 fun F2 H2 g2 => ?_
      refine iteF' (decide_eq_false (by omega)) (if_run ?_)
      have E2 := E1.mono g2.ff
      refine (dt_not (dt_val (dv_cb (da_cons (dv_var rfl) (da_cons dv_ty da_nil)) (rc_isi (n := nob))))).run g2.fh E2 fun F3 H3 g3 => ?_
      refine iteT' (by rw [nt]; rfl) ?_
      have E3 := E2.mono g3.ff
      have g23 := g2.trans0 g3
      have hl3 := (I.l.go g1 nks).go g23 (by simp)
      have g13 : Gr [kb] F H F3 H3 := g1.transL g23 (fun n hn => (nomatch hn)) fun mm hmm => by
        rw [show mm = kb by simpa using hmm]
        exact hB1.at_
      refine append_seqG (D := D) (u := fun _ => tT9 K D) (d := .ob (.ref o)) (fun F4 H4 g4 => dv_var rfl) (fun F4 H4 g4 => da_cons (dv_var rfl) da_nil) hl3.at_ hl3.nF (by rw [List.length_map, I.len, sizeLine_eq]; omega) g3.fh E3 fun F4 H4 y g4 h4 d4 n4 E4 => ?_
      have gA : Gr [kb, sa] F H F4 H4 := (g13.mono (by simp)).transL g4 (fun n hn => .inl (by rw [show n = sa by simpa using hn]; simp)) fun mm hmm => by
        rcases List.mem_cons.mp hmm with rfl | hmm
        · exact (hB1.grow g23).at_
        · rw [show mm = sa by simpa using hmm]
          exact ⟨_, hl3.at_, rfl⟩
      have nkS : kb ∉ [sa] := by simpa using I.ks
      refine fin sa (oas ++ [o]) (Ls ++ [L]) L' F4 H4 σ gA.ff ⟨gA.fh, I.t.go gA (by simp [I.kt.symm, I.ne.symm]), (hB1.grow g23).go g4 nkS, ⟨n4, ?_⟩, by simp [I.len], fun j a L1 h1 h2 => ?_, fun L1 h1 => ?_, ?_, by simp; omega, I.ne⟩ E4
      · rw [h4, d4.of_ob, List.map_append]
        rfl
      · by_cases hj : j < oas.length
        · rw [List.getElem?_append_left hj] at h1
          rw [List.getElem?_append_left (by simp; rw [I.len] at hj; exact hj)] at h2
          exact (I.own j a L1 h1 h2).mono gA.ff
        · rw [List.getElem?_append_right (by omega)] at h1
          rw [List.getElem?_append_right (by simp; rw [I.len] at hj; omega)] at h2
          have hj0 : j - oas.length = 0 := by
            have := (List.getElem?_eq_some_iff.mp h1).1
            simp at this
            omega
          have hj1 : j - (Ls ++ [L]).length = 0 := by
            simp
            rw [I.len] at hj0
            omega
          rw [hj0] at h1
          rw [hj1] at h2
          cases h1
          cases h2
          exact hO.mono gA.ff
      · rcases List.mem_append.mp h1 with h1 | h1
        · exact (I.st L1 h1).up (Nat.le_succ _)
        · rw [show L1 = L' by simpa using h1]
          exact hT.stb hst hd.fits
      · rw [List.getElem?_append_left (by simp)]
        exact I.zero
  | nope hr hne hd hsh hN =>
    rename_i word
    have fw : (Da.tup [.str "word", .str word]).fits 1 := ⟨by simp, fun x hx => by
      rcases List.mem_cons.mp hx with rfl | hx
      · exact fits_str
      · rw [show x = _ by simpa using hx]
        exact fits_str⟩
    refine run7 (m := m) (w := w) (Lx := L) (Ln := Ls) E I.s rfl rfl rfl fw (fun F1 H1 vd g1 hvd Q kk => ?_) fun F1 H1 g1 hB1 E1 => ?_
    · exact ⟨F1, kb, m, w, L, Ls, vd, D2, rfl, g1.fh, I.b.grow g1, hvd, by omega, .inr ⟨hne, hd, hsh, hst.ok, hm, hw, by have := hst.cs; omega, by have := hst.bk; omega, .inr ⟨word, hN, fun v F' H' g hv => kk v F' H' g.wide ((I.b.grow g1).grow g) hv⟩⟩⟩
    · refine if_seq ?_
      refine (dt_test (dv_op (dv_var rfl) dv_int rd_eqI)).run g1.fh E1 fun F2 H2 g2 => ?_
      refine iteF' (decide_eq_false (by omega)) (if_run ?_)
      have E2 := E1.mono g2.ff
      refine (dt_not (dt_val (dv_cb (da_cons (dv_var rfl) (da_cons dv_ty da_nil)) (rc_isi (n := rfl))))).run g2.fh E2 fun F3 H3 g3 => ?_
      refine iteF' (by simp [Da.isT]) (nextS ?_)
      have g23 := g2.trans0 g3
      have g13 : Gr [kb] F H F3 H3 := g1.transL g23 (fun n hn => (nomatch hn)) fun mm hmm => by
        rw [show mm = kb by simpa using hmm]
        exact hB1.at_
      have I3 := I.goM g13 (I.t.go g13 nkt) (hB1.grow g23) nks
      exact fin sa oas Ls L F3 H3 σ g13.ff ⟨I3.s, I3.t, I3.b, I3.l, I3.len, I3.own, fun L1 h1 => (I3.st L1 h1).up (Nat.le_succ _), I3.zero, by omega, I3.ne⟩ (E2.mono g3.ff)
end
end Bb
/-! Bb36 -/
namespace Bb
open PySem PySem.Spec PyProof.Rows L2

abbrev tDr (n : Int) : TE := tCall (spT R_draw) [] L2.E0 (tCons (tVar 1) (tCons (tC (.int n)) tNil))
abbrev tT1 : TS := tPar 8 9 (tCons (tDr 14) (tCons (tCall (spT R_tdeed) [] L2.E0 (tCons (tVar 1) (tCons (tVar 2) tNil))) tNil))
abbrev tT2 (K : PySem.W.Frag) : TS := tIfS (tTest (tOp rEq (tDr 3) (tC (.int 0))))
  (tSeq (tPar 11 12 (tCons (tOp (rIxL K) (tLst (tCons (tC (.str "red")) (tCons (tC (.str "blue")) (tCons (tC (.str "a")) tNil)))) (tDr 3)) (tCons (tOp (rIxL K) (tLst (tCons (tC (.int 1)) (tCons (tC (.int 5)) (tCons (tC (.int 400)) tNil)))) (tDr 3)) tNil)))
    (tAsg (tTup (tCons (tC (.str "drop")) (tCons (tCall (spT R_tspot) [] L2.E0 (tCons (tVar 1) (tCons (tVar 2) tNil))) (tCons (tVar 11) (tCons (tVar 12) tNil))))) (gName 9))) tNext
abbrev tT3 (K : PySem.W.Frag) : TS := tIfS (tTest (tChain (rI0 fun i j => .bl (decide (i < j))) (rI0 fun i j => .bl (decide (i < j))) (tC (.int 0)) (tVar 8) (tC (.int 4))))
  (tAsg (tOp (rIxL K) (tLst (tCons (tCall (spT (R_tspoil 2)) [] L2.E0 (tCons (tVar 1) (tCons (tVar 9) tNil))) (tCons (tCall (spT (R_tspoil 2)) [] L2.E0 (tCons (tVar 1) (tCons (tVar 9) tNil))) (tCons (tCall (spT (R_tany 2)) [] L2.E0 (tCons (tVar 1) (tCons (tC (.int 2)) tNil))) tNil)))) (tOp (rI0 fun i j => .int (i - j)) (tVar 8) (tC (.int 1)))) (gName 9)) tNext
abbrev tT4 : TS := tAsg (tIf (tTest (tOp (rI0 fun i j => .bl (decide (j < i))) (tVar 8) (tC (.int 0)))) (tVar 9) (tTup (tCons (tC (.str "back")) tNil))) (gName 9)
abbrev tT5 (K : PySem.W.Frag) : TS := tPar 3 10 (tCons (tCall spCopied [] L2.E0 (tCons (tOp (rIxL K) (tVar 5) (tUn (rU fun i => .int (-i)) (tC (.int 1)))) tNil))
  (tCons (tIf (tTest (tOp (rI0 fun i j => .bl (decide (j < i))) (tCB (rLenQ K) (tCons (tVar 5) tNil)) (tC (.int 1)))) (tC .non) (tTup (tCons (tC (.str "word")) (tCons (tC (.str "left")) tNil)))) tNil))
abbrev tT6 : TS := tIfS (tTest (tOp (rI0 fun i j => .bl (decide (j < i))) (tVar 8) (tC (.int 0)))) (tAsg (tCall spDue [] L2.E0 (tCons (tVar 3) (tCons (tVar 9) tNil))) (gName 10)) tNext
abbrev rhoA (tp kb sa : Addr) (m w r : Nat) (D2 : Da) : Rho := [none, some (.ob (.ref tp)), some (shD m w), none, some (.ob (.ref kb)), some (.ob (.ref sa)), none, none, some (.int (r : Nat)), some D2, none, none, none]
theorem par_seq {i j : Nat} {tr : TA} {u : TS} {D : Ends} {σ : LSt} {H : Hp} (h : tr σ H fun vs H1 => ∃ v w, vs = [v, w] ∧ u D ((σ.set i (some v)).set j (some w)) H1) : tSeq (tPar i j tr) u D σ H := h
theorem Gr.old0 {F H F1 H1 : Hp} {x : Addr} (g : Gr [] F H F1 H1) (h : H1 x = none) : H x = none := by
  cases e : H x with
  | none => rfl
  | some o => rw [g.same _ _ e] at h; cases h
section
variable {K : PySem.W.Frag} {F H : Hp} {tp kb sa : Addr} {m w i : Nat} {oas : List Addr} {Ls : List Stt} {L : Stt} {σ : LSt} {D : Ends} {u : TS}
/-- the deed of a turn is drawn -/
theorem turn1 (I : LawI K H F tp kb sa m w i oas Ls L) (hm0 : 1 ≤ m) (hm : m ≤ 4) (hw0 : 1 ≤ w) (hw : w ≤ 3) (E : Env F σ (rhoL tp kb sa m w))
    (k : ∀ r D2 F' H' σ', Same F F' → LawI K H' F' tp kb sa m w i oas Ls L → ((r = 0 ∧ D2 = backD) ∨ (0 < r ∧ D2.tame S1 50 5)) → Env F' σ' (rhoA tp kb sa m w r D2) → u D σ' H') : tSeq tT1 (tSeq (tT2 K) (tSeq (tT3 K) (tSeq tT4 u))) D σ H := by
  refine nv_go (nv_par (tp := tp) (ZA := fun ds => ∃ (r : Nat) (dd : Dd), ds = [.int (r : Nat), ddD dd]) (tva_imp (tva_cons (tv_draw (many := 14) rfl (fun _ _ => dv_int) (by omega) (by omega)) (tva_cons (tv_call (Pr := R_tdeed) rfl (fun F H => da_cons (dv_var rfl) da_nil) ⟨m, w, rfl, by omega, by omega, by omega, by omega, rfl⟩) tva_nil)) fun ds z => ?_)) I.s I.t E fun σ1 F1 H1 ρ1 g1 t1 p1 E1 => ?_
  · obtain ⟨_, _, rfl, ⟨r, hr, rfl⟩, _, _, rfl, ⟨dd, hdd, rfl⟩, rfl⟩ := z
    exact ⟨_, _, rfl, r, dd, rfl⟩
  obtain ⟨x, y, ⟨r, dd, e⟩, rfl⟩ := p1
  cases e
  have E1 : Env F1 σ1 (rhoA tp kb sa m w r (ddD dd)) := E1
  refine nv_go (P := fun ρ' => ∃ D0 : Da, D0.tame S0 20 2 ∧ ρ' = rhoA tp kb sa m w r D0) (nv_if (tt_test (tv_op (tv_draw (many := 3) rfl (fun _ _ => dv_int) (by omega) (by omega)) (tv_dv fun _ _ => dv_int) fun x y hx hy => ?_)) (fun _ => ?_) fun _ => nv_imp nv_next fun ρ' e => ⟨_, tame_dd dd, e⟩) g1.fh t1 E1 fun σ2 F2 H2 ρ2 g2 t2 p2 E2 => ?_
  · obtain ⟨q, _, rfl⟩ := hx
    subst hy
    exact ⟨_, ⟨_, rfl⟩, fun F B => rd_eqI⟩
  · refine nv_seq (nv_par (ZA := fun ds => ∃ (c : Str) (wet : Int), S0 c ∧ ds = [.str c, .int wet]) (tva_imp (tva_cons (tv_op (Z := fun d => ∃ c, S0 c ∧ d = .str c) (tv_dv fun _ _ => dv_lst (da_cons dv_str (da_cons dv_str (da_cons dv_str da_nil))) (small_ rfl)) (tv_draw (many := 3) rfl (fun _ _ => dv_int) (by omega) (by omega)) fun x y hx hy => ?_) (tva_cons (tv_op (Z := fun d => ∃ i : Int, d = .int i) (tv_dv fun _ _ => dv_lst (da_cons dv_int (da_cons dv_int (da_cons dv_int da_nil))) (small_ rfl)) (tv_draw (many := 3) rfl (fun _ _ => dv_int) (by omega) (by omega)) fun x y hx hy => ?_) tva_nil)) fun ds z => ?_)) fun ρ' hρ => ?_
    · obtain ⟨q, hq, rfl⟩ := hy
      subst hx
      have : q = 0 ∨ q = 1 ∨ q = 2 := by omega
      rcases this with rfl | rfl | rfl
      · exact ⟨_, ⟨_, base_in (by decide +kernel), rfl⟩, fun F B => rd_ixL (z := .str "red") rfl⟩
      · exact ⟨_, ⟨_, base_in (by decide +kernel), rfl⟩, fun F B => rd_ixL (z := .str "blue") rfl⟩
      · exact ⟨_, ⟨_, base_in (by decide +kernel), rfl⟩, fun F B => rd_ixL (z := .str "a") rfl⟩
    · obtain ⟨q, hq, rfl⟩ := hy
      subst hx
      have : q = 0 ∨ q = 1 ∨ q = 2 := by omega
      rcases this with rfl | rfl | rfl
      · exact ⟨_, ⟨_, rfl⟩, fun F B => rd_ixL (z := .int 1) rfl⟩
      · exact ⟨_, ⟨_, rfl⟩, fun F B => rd_ixL (z := .int 5) rfl⟩
      · exact ⟨_, ⟨_, rfl⟩, fun F B => rd_ixL (z := .int 400) rfl⟩
    · obtain ⟨_, _, rfl, ⟨c, hc, rfl⟩, _, _, rfl, ⟨wet, rfl⟩, rfl⟩ := z
      exact ⟨_, _, rfl, c, wet, hc, rfl⟩
    · obtain ⟨x, y, ⟨c, wet, hc, e⟩, rfl⟩ := hρ
      cases e
      refine nv_imp (nv_forget 11 (nv_forget 12 (nv_set (tv_tup (tva_cons (tv_dv fun _ _ => dv_str) (tva_cons (tv_call (Pr := R_tspot) rfl (fun F H => da_cons (dv_var rfl) da_nil) ⟨m, w, rfl, by omega, by omega, by omega, by omega, rfl⟩) (tva_cons (tv_dv fun _ _ => dv_var rfl) (tva_cons (tv_dv fun _ _ => dv_var rfl) tva_nil)))) fun ds z => ?_)))) fun ρ' hρ => ?_
      · obtain ⟨_, _, rfl, _, _, _, rfl, _, _, _, rfl, _, _, _, rfl, _, rfl⟩ := z
        exact small_ rfl
      · obtain ⟨_, ⟨_, ⟨d, ⟨ds, rfl, _, _, rfl, rfl, _, _, rfl, ⟨a, b, c', ha, hb, hc', rfl⟩, _, _, rfl, rfl, _, _, rfl, rfl, rfl⟩, rfl⟩, rfl⟩, rfl⟩ := hρ
        exact ⟨_, tame_drop ((a : Nat), (b : Nat), (c' : Nat)) c wet hc, rfl⟩
  obtain ⟨D0, hD0, rfl⟩ := p2
  have g12 := t1.trans g1 g2
  refine nv_go (P := fun ρ' => ∃ D1 : Da, D1.tame S1 50 5 ∧ ρ' = rhoA tp kb sa m w r D1) (nv_if (tt_dv (b := decide ((0 : Int) < (r : Nat)) && decide (((r : Nat) : Int) < 4)) fun F H => dt_test (dv_chain dv_int (dv_var rfl) rd_B0 (fun _ => dv_int) fun _ => rd_B0)) (fun hb => ?_) fun _ => nv_imp nv_next fun ρ' e => ⟨_, tame_mono (fun s => S1_base) (by omega) (by omega) hD0, e⟩) g2.fh t2 E2 fun σ3 F3 H3 ρ3 g3 t3 p3 E3 => ?_
  · have hb := hb.symm
    rw [Bool.and_eq_true_iff] at hb
    have h0 : (0 : Int) < (r : Nat) := of_decide_eq_true hb.1
    have h4 : ((r : Nat) : Int) < 4 := of_decide_eq_true hb.2
    refine nv_imp (nv_set (tv_op (Z := Da.tame S1 50 5) (tv_lst (tva_cons (tv_call (Pr := R_tspoil 2) rfl (fun F H => da_cons (dv_var rfl) da_nil) ⟨D0, rfl, hD0, rfl⟩) (tva_cons (tv_call (Pr := R_tspoil 2) rfl (fun F H => da_cons (dv_var rfl) da_nil) ⟨D0, rfl, hD0, rfl⟩) (tva_cons (tv_call (Pr := R_tany 2) rfl (fun F H => da_cons dv_int da_nil) ⟨rfl, rfl⟩) tva_nil))) fun ds z => ?_) (tv_dv fun F H => dv_op (dv_var rfl) dv_int rd_I0) fun x y hx hy => ?_)) fun ρ' hρ => ?_
    · obtain ⟨_, _, rfl, _, _, _, rfl, _, _, _, rfl, _, rfl⟩ := z
      exact small_ rfl
    · obtain ⟨_, rfl, a, _, rfl, ka, b, _, rfl, kb', c, _, rfl, kc, rfl⟩ := hx
      subst hy
      have : r = 1 ∨ r = 2 ∨ r = 3 := by omega
      rcases this with rfl | rfl | rfl
      · exact ⟨a, ka, fun F B => rd_ixL rfl⟩
      · exact ⟨b, kb', fun F B => rd_ixL rfl⟩
      · exact ⟨c, tame_mono (fun s z => z) (Nat.le_refl _) (by omega) kc, fun F B => rd_ixL rfl⟩
    · obtain ⟨d, hd, rfl⟩ := hρ
      exact ⟨d, hd, rfl⟩
  obtain ⟨D1, hD1, rfl⟩ := p3
  have g13 := t2.trans g12 g3
  refine nv_go (P := fun ρ' => ∃ D2 : Da, ((r = 0 ∧ D2 = backD) ∨ (0 < r ∧ D2.tame S1 50 5)) ∧ ρ' = rhoA tp kb sa m w r D2) ?_ g3.fh t3 E3 fun σ4 F4 H4 ρ4 g4 t4 p4 E4 => ?_
  · rcases Nat.eq_zero_or_pos r with h | h
    · refine nv_imp (nv_set (tv_dv (d := backD) fun F H => dv_if (b := false) (dt_to (dt_test (dv_op (dv_var rfl) dv_int rd_B0)) (decide_eq_false (by omega))) (fun q => by cases q) fun _ => dv_tup (da_cons dv_str da_nil) (small_ rfl))) fun ρ' hρ => ?_
      obtain ⟨d, rfl, rfl⟩ := hρ
      exact ⟨_, .inl ⟨h, rfl⟩, rfl⟩
    · refine nv_imp (nv_set (tv_dv (d := D1) fun F H => dv_if (b := true) (dt_to (dt_test (dv_op (dv_var rfl) dv_int rd_B0)) (decide_eq_true (by omega))) (fun _ => dv_var rfl) fun q => by cases q)) fun ρ' hρ => ?_
      obtain ⟨d, rfl, rfl⟩ := hρ
      exact ⟨_, .inr ⟨h, hD1⟩, rfl⟩
  obtain ⟨D2, hD2, rfl⟩ := p4
  have g14 := t3.trans g13 g4
  exact k r D2 F4 H4 σ4 g14.ff (I.go g14 t4) hD2 E4
/-- the record is copied, and what is due is said -/
theorem turn2 {r : Nat} {D2 : Da} (I : LawI K H F tp kb sa m w i oas Ls L) (hi : i ≤ 36) (hm : m ≤ 4) (hw : w ≤ 3) (hD : (r = 0 ∧ D2 = backD) ∨ (0 < r ∧ D2.tame S1 50 5)) (E : Env F σ (rhoA tp kb sa m w r D2))
    (k : ∀ o DU F' H' σ', Same F F' → LawI K H' F' tp kb sa m w i oas Ls L → Case m w Ls L F' o r D2 DU → Env F' σ' (rhoE tp kb sa o m w r D2 DU) → u D σ' H') : tSeq (tT5 K) (tSeq tT6 u) D σ H := by
  obtain ⟨ol, hlast, hol⟩ := I.last
  have hst := I.cur
  have hcs := hst.cs
  have hbk := hst.bk
  refine par_seq ?_
  show tCall spCopied [] L2.E0 (tCons (tOp (rIxL K) (tVar 5) (tUn (rU fun i => .int (-i)) (tC (.int 1)))) tNil) σ H _
  refine (da_cons (dv_op (dv_var rfl) dv_negI (rd_ixLm I.l.at_ (obs_of F oas) (obs_last hlast))) da_nil : DvA F H _ _ [.ob (.ref ol)]).run I.s E fun vs F1 H1 g1 d1 => ?_
  obtain ⟨v, rfl, hv⟩ := d1.sole
  rw [hv.of_ob]
  refine ⟨F1, ol, m, w, L, rfl, g1.fh, hol.mono g1.ff, hm, hw, hst.ok, by omega, fun F2 H2 o q b ps g2 hO2 no nq nb nps fo fq fb fps => ?_⟩
  have g02 := g1.trans0 g2
  have I2 := I.grow g02
  have E2 := E.mono g02.ff
  have E2 : Env F2 σ (rhoA tp kb sa m w r D2) := E2
  let DU0 : Da := if Ls = [] then .tup [.str "word", .str "left"] else .non
  have hlen := I.len
  have hdu : Dv F2 H2 (tIf (tTest (tOp (rI0 fun i j => .bl (decide (j < i))) (tCB (rLenQ K) (tCons (tVar 5) tNil)) (tC (.int 1)))) (tC .non) (tTup (tCons (tC (.str "word")) (tCons (tC (.str "left")) tNil)))) (rhoA tp kb sa m w r D2) DU0 := by
    refine dv_if (b := decide ((1 : Int) < ((obs oas).length : Nat))) (dt_test (dv_op (dv_cb (da_cons (d := .ob (.ref sa)) (dv_var rfl) da_nil) (rc_lenLm I2.l.at_ (obs_of F2 oas))) dv_int rd_B0)) (fun e => ?_) fun e => ?_
    · have e := of_decide_eq_true e
      rw [obs_len, hlen] at e
      have hne : Ls ≠ [] := fun z => by
        rw [z] at e
        simp at e
      show Dv F2 H2 _ _ (if Ls = [] then _ else _)
      rw [if_neg hne]
      exact dv_non
    · have e := of_decide_eq_false e
      rw [obs_len, hlen] at e
      have hn : Ls = [] := List.eq_nil_of_length_eq_zero (by omega)
      show Dv F2 H2 _ _ (if Ls = [] then _ else _)
      rw [if_pos hn]
      exact dv_tup (da_cons dv_str (da_cons dv_str da_nil)) (small_ rfl)
  refine (da_cons hdu da_nil).run g2.fh E2 fun us F3 H3 g3 d3 => ?_
  obtain ⟨v10, rfl, hv10⟩ := d3.sole
  refine ⟨_, _, rfl, ?_⟩
  have g03 := g02.trans0 g3
  have E3 : Env F3 ((σ.set 3 (some (.ref o))).set 10 (some v10)) (rhoE tp kb sa o m w r D2 DU0) := ((E2.mono g3.ff).set (i := 3) (.ob (.ref o))).set (i := 10) hv10
  generalize (σ.set 3 (some (V.ref o))).set 10 (some v10) = σ3 at E3 ⊢
  have I3 := I2.grow g3
  refine if_seq ?_
  refine (dt_test (dv_op (dv_var rfl) dv_int rd_B0)).run g3.fh E3 fun F4 H4 g4 => ?_
  have E4 := E3.mono g4.ff
  have g04 := g03.trans0 g4
  have I4 := I3.grow g4
  rcases hD with ⟨hr, e⟩ | ⟨hr, htm⟩
  · subst e
    refine iteF' (decide_eq_false (by omega)) (nextS (k o DU0 F4 H4 σ3 g04.ff I4 ?_ E4))
    subst hr
    show Case m w Ls L F4 o 0 backD (if Ls = [] then _ else _)
    by_cases hn : Ls = []
    · rw [if_pos hn]
      exact .left hn
    · rw [if_neg hn]
      exact .back Ls.dropLast (Ls.getLast hn) (List.dropLast_concat_getLast hn).symm
  · refine iteT' (decide_eq_true (by omega)) (set_run ?_)
    have hdok := tame_dok htm (by omega)
    have hne := tame_back htm
    have hsh := tame_shaped htm (by omega)
    have g34 := g3.trans0 g4
    have hO4 := (hO2.mono g34.ff).grow g34.same
    obtain ⟨vsh2, vst2, bs2, ho2, _, _, hb2, _⟩ := hO2.ins
    have fo4 : F4 o = none := by rw [g34.nw o _ ho2 rfl]; exact fo
    have fq4 : F4 q = none := by rw [g34.nw q _ hO2.O.d rfl]; exact fq
    have fb4 : F4 b = none := by rw [g34.nw b _ hb2 rfl]; exact fb
    have fp4 : ∀ p ∈ ps, F4 p = none := fun p hp => by
      obtain ⟨tks, e⟩ := hO2.O.at_ hp
      rw [g34.nw p _ e rfl]
      exact fps p hp
    refine (da_cons (dv_var rfl) (da_cons (dv_var rfl) da_nil) : DvA F4 H4 _ (rhoE tp kb sa o m w r D2 DU0) [.ob (.ref o), D2]).run g4.fh E4 fun vs F5 H5 g5 d5 => ?_
    obtain ⟨v1, v2, rfl, h1, h2⟩ := d5.two
    rw [h1.of_ob]
    have g05 := g04.trans0 g5
    have hO5 := (hO4.mono g5.ff).grow g5.same
    have E5 := E4.mono g5.ff
    obtain ⟨vsh4, vst4, bs4, ho4, _, _, hb4, _⟩ := hO4.ins
    have n1 : ∀ x, H1 x = none → H x = none := fun x h => g1.old0 h
    refine ⟨F5, o, q, b, ps, m, w, L, v2, D2, rfl, g5.fh, hO5, by rw [g5.nw o _ ho4 rfl]; exact fo4, by rw [g5.nw q _ hO4.O.d rfl]; exact fq4, by rw [g5.nw b _ hb4 rfl]; exact fb4, fun p hp => ?_, h2, hdok, hst.ok, hm, hw, by omega, by omega, ?_⟩
    · obtain ⟨tks, e⟩ := hO4.O.at_ hp
      rw [g5.nw p _ e rfl]
      exact fp4 p hp
    rcases tell_or m w L D2 with ⟨L', f, hT⟩ | ⟨word, hN⟩
    · refine .inl ⟨L', f, hT, fun F6 H6 ps' v6 g6 hO6 fo6 fq6 fb6 fp6 d6 => ?_⟩
      have gA : Gr [] F H F6 H6 := g05.fresh g6 fun x hx => by
        rcases List.mem_cons.mp hx with rfl | hx
        · exact n1 _ no
        rcases List.mem_cons.mp hx with rfl | hx
        · exact n1 _ nq
        rcases List.mem_cons.mp hx with rfl | hx
        · exact n1 _ nb
        · exact n1 _ (nps x hx)
      have hOf : OwF (allF H F6 H6) o m w L' := hO6.all gA (n1 _ no) (n1 _ nq) (n1 _ nb) fun p hp => by
        rcases (fp6 p hp).2 with h | h
        · exact n1 _ (nps p h)
        · exact g05.old0 h
      have s6 : Same F6 (allF H F6 H6) := allF_same g6.fh
      exact k o f (allF H F6 H6) H6 _ gA.all.ff (I.all gA) (.told hr hne hdok hsh hT hOf) (((E5.mono g6.ff).mono s6).set (i := 10) (d6.mono s6))
    · refine .inr ⟨word, hN, fun F6 H6 v6 g6 d6 => ?_⟩
      have g06 := g05.trans0 g6
      exact k o _ F6 H6 _ g06.ff (I.grow g06) (.nope hr hne hdok hsh hN) ((E5.mono g6.ff).set (i := 10) d6)
end
abbrev tTurn (K : PySem.W.Frag) : TS := tSeq tT1 (tSeq (tT2 K) (tSeq (tT3 K) (tSeq tT4 (tSeq (tT5 K) (tSeq tT6 (tSeq (tT7 K) (tSeq (tT8 K) (tT9 K))))))))
theorem turn_all {K : PySem.W.Frag} {F H : Hp} {tp kb sa : Addr} {m w i : Nat} {oas : List Addr} {Ls : List Stt} {L : Stt} {σ : LSt} {D : Ends} (I : LawI K H F tp kb sa m w i oas Ls L) (hi : i + 1 ≤ 36) (hm0 : 1 ≤ m) (hm : m ≤ 4) (hw0 : 1 ≤ w) (hw : w ≤ 3) (E : Env F σ (rhoL tp kb sa m w))
    (k : ∀ sa' oas' Ls' L' F' H' σ', Same F F' → LawI K H' F' tp kb sa' m w (i + 1) oas' Ls' L' → Env F' σ' (rhoL tp kb sa' m w) → D.nx σ' H') : tTurn K D σ H :=
  turn1 I hm0 hm hw0 hw E fun r D2 F1 H1 σ1 s1 I1 hD E1 => turn2 I1 (by omega) hm hw hD E1 fun o DU F2 H2 σ2 s2 I2 C E2 => end_turn I2 hi hm hw E2 C fun sa' oas' Ls' L' F3 H3 σ3 s3 I3 E3 => k sa' oas' Ls' L' F3 H3 σ3 ((s1.trans s2).trans s3) I3 E3
end Bb
/-! Bb37 -/
namespace Bb
open PySem PySem.Spec PyProof.Rows L2

def spLaw (K : PySem.W.Frag) : Sp := fun vs H Q _ => ∃ (a : Addr) (ns : List Int), vs = [.ref a] ∧ SqL K H a (ns.map V.int) ∧ ∀ H', Q (.bl true) H'
/-- Book(shape) -/
theorem bkMake {F H : Hp} {σ : LSt} {ρ : Rho} {K : PySem.W.Frag} {te : TE} {m w : Nat} {E : XK} {Q : VK} (hv : Dv F H te ρ (shD m w)) (sm : Same F H) (En : Env F σ ρ) (hm0 : 1 ≤ m) (hm : m ≤ 4) (hw0 : 1 ≤ w) (hw : w ≤ 3)
    (k : ∀ F' H' b, Gr [] F H F' H' → H b = none → BkO K H' F' b m w (L0 m) [] → Q (.ref b) H') : tMake (He.ga K "Book") (spBkInit K) [] E (tCons te tNil) σ H Q := by
  refine (da_cons hv da_nil).run sm En fun vs1 F1 H1 g1 d1 => ?_
  obtain ⟨vs', rfl, hs1⟩ := d1.sole
  intro b dx hb hdx hne
  have hbn := g1.old0 hb
  have n1b := none_of g1.fh hb
  have gd : Gr [] F1 H1 F1 (upd H1 dx (.own b)) := Gr.newM g1.fh hdx
  have gb : Gr [] F1 (upd H1 dx (.own b)) F1 (upd (upd H1 dx (.own b)) b (.ins (He.ga K "Book") dx [])) := Gr.newM gd.fh (by rw [upd_ne (Ne.symm hne)]; exact hb)
  have gdb := gd.trans0 gb
  refine ⟨F1, b, dx, m, w, vs', rfl, gdb.fh, upd_same, n1b, hs1, hm0, hm, hw0, hw, fun F2 H2 g2 hB => ⟨rfl, ?_⟩⟩
  exact k F2 H2 b ((g1.trans0 gdb).fresh g2 fun x hx => by rw [show x = b by simpa using hx]; exact hbn) hbn hB
theorem first_ok (m : Nat) : StdOk m (firstSt m) := by
  refine ⟨by simp [firstSt], ?_, fun p hp => ?_⟩
  · have e : (firstSt m).map (·.1) = (List.range m).map fun (i : Nat) => (i : Int) := by
      unfold firstSt
      rw [List.map_map]
      rfl
    rw [e]
    exact List.pairwise_map.mpr (List.nodup_range.imp fun h z => h (by omega))
  · obtain ⟨i, hi, rfl⟩ := List.mem_map.mp hp
    have := List.mem_range.mp hi
    exact ⟨⟨by show (0 : Int) ≤ (i : Nat); omega, by show ((i : Nat) : Int) < m; omega⟩, .inl rfl, .inl rfl⟩
theorem L0_ok (m w : Nat) : StB m w 0 (L0 m) := ⟨⟨first_ok m, Int.le_refl _, fun c hc => (nomatch hc), fun c hc => (nomatch hc), List.nodup_nil⟩, Nat.le_refl _, Int.le_refl _, Nat.le_refl _, fun e he => (nomatch he)⟩
theorem cons_run {te : TE} {tr : TA} {σ : LSt} {H : Hp} {Q : List V → Hp → Prop} (h : te σ H fun v H1 => tr σ H1 fun vs H2 => Q (v :: vs) H2) : tCons te tr σ H Q := h
theorem call_run2 {sp sp1 : Sp} {E E1 : XK} {t1 tr : TA} {σ : LSt} {H : Hp} {Q : VK} (h : t1 σ H fun vs H1 => sp1 (vs ++ []) H1 (fun v H2 => tr σ H2 fun us H3 => sp ((v :: us) ++ []) H3 Q E) E1) : tCall sp [] E (tCons (tCall sp1 [] E1 t1) tr) σ H Q := h
theorem tg_run {i : Nat} {v : V} {σ : LSt} {H : Hp} {Q : LSt → Hp → Prop} (h : Q (σ.set i (some v)) H) : gName i v σ H Q := h
/-! ### the law's rows behind the turns -/
abbrev tLast (K : PySem.W.Frag) : TS := tSeq (tFor (iRng1 (tCons (tOp (rI0 fun i j => .int (i - j)) (tCB (rLenQ K) (tCons (tVar 5) tNil)) (tC (.int 1))) tNil)) (gName 7) (tDrop (tMeth (He.ga K "Book") "back" (spBkBack K) [] (fun _ _ _ => False) (tVar 4) tNil)))
  (tRet (tAndV (tOp (rEqG (DIns (He.ga K "Book") (EqB K))) (tVar 4) (tMake (He.ga K "Book") (spBkInit K) [] L2.E0 (tCons (tVar 2) tNil)))
    (tCall (spD (R_like 1)) [] L2.E0 (tCons (tCall (spDone K) [] L2.E0 (tCons (tVar 4) (tCons (tTup (tCons (tC (.str "back")) tNil)) tNil))) (tCons (tTup (tCons (tC (.str "word")) (tCons (tC (.str "left")) tNil))) tNil)))))
abbrev tMain (K : PySem.W.Frag) : TS := tSeq (tFor (iRng1 (tCons (tC (.int 36)) tNil)) (gName 6) (tTurn K)) (tLast K)
section
variable {K : PySem.W.Frag} {F H : Hp} {tp kb sa : Addr} {m w i : Nat} {oas : List Addr} {Ls : List Stt} {L : Stt} {σ : LSt} {D : Ends}
theorem last_rows (I : LawI K H F tp kb sa m w i oas Ls L) (hi : i ≤ 36) (hm0 : 1 ≤ m) (hm : m ≤ 4) (hw0 : 1 ≤ w) (hw : w ≤ 3) (E : Env F σ (rhoL tp kb sa m w)) (k : ∀ H', D.rt (.bl true) H') : tLast K D σ H := by
  have hnum := I.num
  have hlen := I.len
  have hdi : DvI F H (iRng1 (tCons (tOp (rI0 fun i j => .int (i - j)) (tCB (rLenQ K) (tCons (tVar 5) tNil)) (tC (.int 1))) tNil)) (rhoL tp kb sa m w) (rangeD Ls.length) := by
    have hl : Dv F H (tCB (rLenQ K) (tCons (tVar 5) tNil)) (rhoL tp kb sa m w) (.int (((obs oas).length : Nat) : Int)) := dv_cb (da_cons (d := .ob (.ref sa)) (dv_var (i := 5) rfl) da_nil) (rc_lenLm I.l.at_ (obs_of F oas))
    rw [obs_len, hlen] at hl
    have hs : Dv F H (tOp (rI0 fun i j => .int (i - j)) (tCB (rLenQ K) (tCons (tVar 5) tNil)) (tC (.int 1))) (rhoL tp kb sa m w) (.int ((Ls.length : Nat) : Int)) := dv_op hl dv_int (rd_I0 (g := fun i j => i - j) (by omega))
    have h := di_range (n := ((Ls.length : Nat) : Int)) (da_cons hs da_nil) (by omega) (by omega)
    rw [Int.toNat_natCast] at h
    exact h
  have hrl : (rangeD Ls.length).length = Ls.length := rangeD_len
  refine forSeq (fun j σ' F' H' => ∃ Lj Lsj, BkO K H' F' kb m w Lj Lsj ∧ Lsj ++ [Lj] = (Ls ++ [L]).take (Ls.length + 1 - j) ∧ Env F' σ' (rhoL tp kb sa m w)) hdi I.s E (fun F1 H1 g1 => ⟨L, Ls, I.b.grow g1, by rw [List.take_of_length_le (by simp)], E.mono g1.ff⟩) (fun j x hx σ1 F1 H1 s1 s2 hI v F2 H2 g2 d2 Nx hNx => ?_) (fun σ1 F1 H1 s1 s2 hI => ?_)
  · obtain ⟨Lj, Lsj, hB, hj, E1⟩ := hI
    have hjl : j < Ls.length := by
      have := (List.getElem?_eq_some_iff.mp hx).1
      omega
    have hll : Lsj.length = Ls.length - j := by
      have := congrArg List.length hj
      simp at this
      omega
    have hB2 := hB.grow g2
    have E2 : Env F2 (σ1.set 7 (some v)) (rhoL tp kb sa m w) := (E1.mono g2.ff).none (i := 7) (some v)
    refine tg_run ?_
    obtain ⟨v4, e4, h4⟩ := E2.at_ 4 _ rfl
    rw [h4.of_ob] at e4
    have hB3 := hB2
    obtain ⟨_, dx, la, vp, las, hk, _⟩ := hB3
    refine ⟨.ref kb, e4, kb, dx, _, rfl, hk, by rfl, ?_⟩
    have hne : Lsj ≠ [] := fun z => by
      rw [z] at hll
      simp at hll
      omega
    have hsp := (List.dropLast_concat_getLast hne).symm
    refine ⟨F2, kb, m, w, Lj, Lsj, rfl, g2.fh, hB2, by omega, .inl ⟨Lsj.dropLast, Lsj.getLast hne, hsp, fun F3 H3 g3 hB4 => ?_⟩⟩
    refine hNx _ F3 H3 g3.ff g3.fh ⟨_, _, hB4, ?_, E2.mono g3.ff⟩
    rw [← hsp]
    have e := congrArg (List.take (Ls.length - j)) hj
    rw [List.take_take, Nat.min_eq_left (by omega), List.take_append_of_le_length (by omega), List.take_of_length_le (by omega)] at e
    rw [e]
    congr 1
    omega
  · obtain ⟨Lj, Lsj, hB, hj, E1⟩ := hI
    rw [hrl, show Ls.length + 1 - Ls.length = 1 by omega] at hj
    have hll : Lsj = [] := by
      have := congrArg List.length hj
      rw [List.length_append, List.length_take, List.length_append] at this
      simp only [List.length_singleton] at this
      exact List.eq_nil_of_length_eq_zero (by omega)
    subst hll
    have hz : Lj = L0 m := by
      have z := I.zero
      have h1 : ([] ++ [Lj] : List Stt)[0]? = some (L0 m) := by
        rw [hj, List.getElem?_take_of_lt (by omega)]
        exact z
      simpa using h1
    subst hz
    -- the last row
    obtain ⟨v4, e4, h4⟩ := E1.at_ 4 _ rfl
    rw [h4.of_ob] at e4
    refine ⟨.ref kb, e4, ?_⟩
    refine bkMake (dv_var rfl) s2 E1 hm0 hm hw0 hw fun F2 H2 b2 g2 hb2 hB2 => ?_
    have hBk := hB.grow g2
    have hBk2 := hBk
    have hB22 := hB2
    obtain ⟨_, dx1, la1, vp1, las1, hk1, _⟩ := hBk2
    obtain ⟨_, dx2, la2, vp2, las2, hk2, _⟩ := hB22
    refine ⟨⟨kb, b2, dx1, dx2, _, _, rfl, rfl, hk1, hk2, F2, m, w, L0 m, [], [], g2.fh, hBk, hB2, rfl⟩, fun H3 hext => ⟨true, rfl, iteT ?_⟩⟩
    have g3 : Gr [] F2 H2 F2 H3 := Gr.of_same g2.fh hext
    have E3 := (E1.mono g2.ff).mono g3.ff
    have hBk3 := hBk.grow g3
    refine call_run2 ?_
    refine (da_cons (dv_var (i := 4) rfl) (da_cons (dv_tup (da_cons dv_str da_nil) (small_ rfl)) da_nil) : DvA F2 H3 (tCons (tVar 4) (tCons (tTup (tCons (tC (.str "back")) tNil)) tNil)) (rhoL tp kb sa m w) [.ob (.ref kb), backD]).run g3.fh E3 fun vs F4 H4 g4 d4 => ?_
    obtain ⟨v5, vd, rfl, h5, hvd⟩ := d4.two
    rw [h5.of_ob]
    refine ⟨F4, kb, m, w, L0 m, [], vd, backD, rfl, g4.fh, hBk3.grow g4, hvd, by simp, .inl ⟨rfl, .inr ⟨rfl, fun v6 F6 H6 g6 d6 => ?_⟩⟩⟩
    refine (da_cons (dv_tup (da_cons dv_str (da_cons dv_str da_nil)) (small_ rfl)) da_nil : DvA F6 H6 _ (rhoL tp kb sa m w) [.tup [.str "word", .str "left"]]).run g6.fh ((E3.mono g4.ff).mono g6.ff) fun vs F7 H7 g7 d7 => ?_
    obtain ⟨v7, rfl, h7⟩ := d7.sole
    have fw : (Da.tup [.str "word", .str "left"]).fits 1 := ⟨by simp, fun x hx => by
      rcases List.mem_cons.mp hx with rfl | hx
      · exact fits_str
      · rw [show x = _ by simpa using hx]
        exact fits_str⟩
    refine ⟨F7, [.tup [.str "word", .str "left"], .tup [.str "word", .str "left"]], .bl true, g7.fh, .cons (d6.mono g7.ff) (.cons h7 .nil), ⟨_, _, rfl, fw, fw, by rw [likeB_refl 1 _ fw]⟩, fun v8 F8 H8 g8 d8 => ?_⟩
    rw [d8.of_bl]
    exact k H8
theorem main_rows (I : LawI K H F tp kb sa m w 0 oas Ls L) (hm0 : 1 ≤ m) (hm : m ≤ 4) (hw0 : 1 ≤ w) (hw : w ≤ 3) (E : Env F σ (rhoL tp kb sa m w)) (k : ∀ H', D.rt (.bl true) H') : tMain K D σ H := by
  have hdi : DvI F H (iRng1 (tCons (tC (.int 36)) tNil)) (rhoL tp kb sa m w) (rangeD 36) := di_range (n := 36) (da_cons dv_int da_nil) (by decide) (by decide)
  refine forSeq (fun j σ' F' H' => ∃ sa' oas' Ls' L', LawI K H' F' tp kb sa' m w j oas' Ls' L' ∧ Env F' σ' (rhoL tp kb sa' m w)) hdi I.s E (fun F1 H1 g1 => ⟨sa, oas, Ls, L, I.grow g1, E.mono g1.ff⟩) (fun j x hx σ1 F1 H1 s1 s2 hI v F2 H2 g2 d2 Nx hNx => ?_) (fun σ1 F1 H1 s1 s2 hI => ?_)
  · obtain ⟨sa', oas', Ls', L', I1, E1⟩ := hI
    have hjl : j < 36 := by
      have := (List.getElem?_eq_some_iff.mp hx).1
      rw [rangeD_len] at this
      exact this
    have E2 : Env F2 (σ1.set 6 (some v)) (rhoL tp kb sa' m w) := (E1.mono g2.ff).none (i := 6) (some v)
    refine tg_run ?_
    exact turn_all (D := { D with nx := Nx, ct := Nx, bk := tLast K D }) (I1.grow g2) (by omega) hm0 hm hw0 hw E2 fun sa3 oas3 Ls3 L3 F3 H3 σ3 s3 I3 E3 => hNx σ3 F3 H3 s3 I3.s ⟨sa3, oas3, Ls3, L3, I3, E3⟩
  · obtain ⟨sa', oas', Ls', L', I1, E1⟩ := hI
    rw [rangeD_len] at I1
    exact last_rows I1 (Nat.le_refl _) hm0 hm hw0 hw E1 k
end
abbrev N_law : List Str := ["_law_script", "_law_tape", "_law_shape_here", "_law_own", "_law_kept", "_law_stands", "_law_turn", "_law_k", "_law_course", "_law_deed", "_law_due_here", "_law_colour", "_law_wet"]
abbrev P_law : List Str := ["_law_script"]
theorem sc_law : FnScope N_law P_law (defScope s_law) := ⟨rfl, rfl, rfl, by decide +kernel, rfl, by decide +kernel, by decide +kernel⟩
theorem b_law : BindsD d_law P_law := fun _ _ _ _ _ _ us hl => match us, hl with | [_], _ => rfl

section
variable {P : Program} {w : World} {K : PySem.W.Frag} {mg : Str → Option Value} {base : Heap}
theorem kop_book {X : Cx} (G : Ok X.prog X.w X.K X.mg X.base CX0 4 d_bk_eq P_bk_eq (spEq (EqB K))) (T : Txt X.K X.mg) (hr : Room 4 X.A) (hK : X.K = K := by rfl) : OpR X (compareOp .Eq) (rEqG (DIns (He.ga K "Book") (EqB K))) := by
  subst hK
  obtain ⟨fd, F, b, _⟩ := G
  exact op_eqG (rcG_ins F T.m_bk_eq.at_ T.m_bk_eq.fn b pass0) hr
theorem okNF {k : Nat} {d : He.DefD} {N ps : List Str} {fd : FuncData} {sp : Sp} (F : FunD K d.name d.qual d.params d.body d.scope [] [] (He.fAd K d.at_) fd) (S : FnScope N ps d.scope) (len : ∀ vs H Q E, sp vs H Q E → vs.length = ps.length)
    (hbody : ∀ (cdv : Value) (A : Around) (outer : List PySem.Env) (s : Shared) (H : Hp) (vs : List V) (Q : VK) (E : XK), Room k (A.deeper (envOfC d.qual d.scope s.heap.objs.size (He.fAd K d.at_) cdv)) → sp vs H Q E →
      ∃ t, PSs (cxOf CX0 P w K mg base N d.qual d.scope (He.fAd K d.at_) cdv A outer s H E).nox d.body t ∧ t { nx := fun _ H' => Q .non H', rt := Q } (L2.start N vs) H) : FnOk P w K mg base CX0 (k + 1) (He.fAd K d.at_) fd ps sp :=
  F.ok S len fun cdv A outer s H vs Q E hr h => by
    obtain ⟨t, h1, h2⟩ := hbody cdv A outer s H vs Q E hr h
    exact ⟨t, h1.nox, h2⟩
theorem ok_law (T : Txt K mg) {fd : FuncData} (F : FunD K d_law.name d_law.qual d_law.params d_law.body d_law.scope [] [] (He.fAd K d_law.at_) fd) (G_first_stand : Ok P w K mg base CX0 1 d_first_stand P_first_stand (spD R_first_stand)) (G_bk_init : Ok P w K mg base CX0 4 d_bk_init P_bk_init (spBkInit K)) (G_bk_back : Ok P w K mg base (L2.CX P w) 1 d_bk_back P_bk_back (spBkBack K)) (G_bk_eq : Ok P w K mg base CX0 4 d_bk_eq P_bk_eq (spEq (EqB K))) (G_w_draw : Ok P w K mg base CX0 1 d_w_draw P_w_draw (spT R_draw)) (G_w_shape : Ok P w K mg base CX0 2 d_w_shape P_w_shape (spT R_tshape)) (G_w_spot : Ok P w K mg base CX0 2 d_w_spot P_w_spot (spT R_tspot)) (G_w_a_deed : Ok P w K mg base CX0 2 d_w_a_deed P_w_a_deed (spT R_tdeed)) (G_w_any : Ok P w K mg base CX0 4 d_w_any P_w_any (spT (R_tany 2))) (G_w_spoilt : Ok P w K mg base CX0 7 d_w_spoilt P_w_spoilt (spT (R_tspoil 2))) (G_w_copied : Ok P w K mg base CX0 3 d_w_copied P_w_copied spCopied) (G_w_due : Ok P w K mg base CX0 6 d_w_due P_w_due spDue) (G_w_like : Ok P w K mg base CX0 2 d_w_like P_w_like (spD (R_like 1))) (G_w_done : Ok P w K mg base CX0 7 d_w_done P_w_done (spDone K)) (G_w_right : Ok P w K mg base CX0 11 d_w_right P_w_right (spRight K)) : FnOk P w K mg base CX0 12 (He.fAd K d_law.at_) fd P_law (spLaw K) := by
  refine okNF F sc_law (fun vs H Q E h => ?_) fun cdv A outer s H vs Q E hr h => ?_
  · obtain ⟨_, _, rfl, _⟩ := h
    rfl
  · obtain ⟨a, ns, rfl, hS, hQ⟩ := h
    refine ⟨_, (pss_cons (ps_set (i := 1) sc_law.nd rfl (.inl rfl) (pe_lst (pa_cons (pe_callTy (kcall_list (K := K)) (by rfl) T.n_list (by decide +kernel) (pa_cons (pv 0) pa_nil)) (pa_cons pe_int (pa_cons pe_int pa_nil)))))
  (pss_cons (ps_set (i := 2) sc_law.nd rfl (.inl rfl) (pe_callO G_w_shape (hr.mono (by decide)) rfl T.g_w_shape pass0 (pa_cons (pv 1) (pa_cons pe_int (pa_cons pe_int pa_nil)))))
  (pss_cons (ps_set (i := 3) sc_law.nd rfl (.inl rfl) (pe_disp (pps_cons pe_str (pv 2) (pps_cons pe_str (pe_callO G_first_stand (hr.mono (by decide)) rfl T.g_first_stand pass0 (pa_cons (pv 2) pa_nil)) (pps_cons pe_str pe_int (pps_cons pe_str pe_dnewK (pps_cons pe_str (pe_lst pa_nil) pps_nil))))) (by rfl) (by rfl) (fun z => by cases z) (by decide)))
  (pss_cons (ps_par (i := 4) (j := 5) rfl sc_law.nd rfl rfl (by decide) rfl rfl (pa_cons (pe_makeO T.k_Book G_bk_init (hr.mono (by decide)) rfl T.g_Book pass0 (pa_cons (pv 2) pa_nil)) (pa_cons (pe_lst (pa_cons (pv 3) pa_nil)) pa_nil)) (by rfl))
  (pss_cons (ps_for PassesOwn.never rfl (pi_range1 (by rfl) T.n_range (pa_cons pe_int pa_nil)) (pg_name (i := 6) sc_law.nd rfl (.inl rfl)) (pss_cons (ps_par (i := 8) (j := 9) rfl sc_law.nd rfl rfl (by decide) rfl rfl (pa_cons (pe_callO G_w_draw (hr.mono (by decide)) rfl T.g_w_draw pass0 (pa_cons (pv 1) (pa_cons pe_int pa_nil))) (pa_cons (pe_callO G_w_a_deed (hr.mono (by decide)) rfl T.g_w_a_deed pass0 (pa_cons (pv 1) (pa_cons (pv 2) pa_nil))) pa_nil)) (by rfl))
  (pss_cons (ps_if (pt_cmpR op_eq (pe_callO G_w_draw (hr.mono (by decide)) rfl T.g_w_draw pass0 (pa_cons (pv 1) (pa_cons pe_int pa_nil))) pe_int (nomark _)) (pss_cons (ps_par (i := 11) (j := 12) rfl sc_law.nd rfl rfl (by decide) rfl rfl (pa_cons (pe_ix (kix_list (K := K)) (pe_lst (pa_cons pe_str (pa_cons pe_str (pa_cons pe_str pa_nil)))) (pe_callO G_w_draw (hr.mono (by decide)) rfl T.g_w_draw pass0 (pa_cons (pv 1) (pa_cons pe_int pa_nil))) (fun _ _ => rfl)) (pa_cons (pe_ix (kix_list (K := K)) (pe_lst (pa_cons pe_int (pa_cons pe_int (pa_cons pe_int pa_nil)))) (pe_callO G_w_draw (hr.mono (by decide)) rfl T.g_w_draw pass0 (pa_cons (pv 1) (pa_cons pe_int pa_nil))) (fun _ _ => rfl)) pa_nil)) (by rfl))
  (pss_one (ps_set (i := 9) sc_law.nd rfl (.inl rfl) (pe_tup (pa_cons pe_str (pa_cons (pe_callO G_w_spot (hr.mono (by decide)) rfl T.g_w_spot pass0 (pa_cons (pv 1) (pa_cons (pv 2) pa_nil))) (pa_cons (pv 11) (pa_cons (pv 12) pa_nil)))))))) pss_nil)
  (pss_cons (ps_if (pt_chain op_lt op_lt pe_int (pv 8) pe_int) (pss_one (ps_set (i := 9) sc_law.nd rfl (.inl rfl) (pe_ix (kix_list (K := K)) (pe_lst (pa_cons (pe_callO G_w_spoilt (hr.mono (by decide)) rfl T.g_w_spoilt pass0 (pa_cons (pv 1) (pa_cons (pv 9) pa_nil))) (pa_cons (pe_callO G_w_spoilt (hr.mono (by decide)) rfl T.g_w_spoilt pass0 (pa_cons (pv 1) (pa_cons (pv 9) pa_nil))) (pa_cons (pe_callO G_w_any (hr.mono (by decide)) rfl T.g_w_any pass0 (pa_cons (pv 1) (pa_cons pe_int pa_nil))) pa_nil)))) (pe_op op_sub (pv 8) pe_int) (fun _ _ => rfl)))) pss_nil)
  (pss_cons (ps_set (i := 9) sc_law.nd rfl (.inl rfl) (pe_ifExp (pt_cmpR op_gt (pv 8) pe_int (nomark _)) (pv 9) (pe_tup (pa_cons pe_str pa_nil))))
  (pss_cons (ps_par (i := 3) (j := 10) rfl sc_law.nd rfl rfl (by decide) rfl rfl (pa_cons (pe_callO G_w_copied (hr.mono (by decide)) rfl T.g_w_copied pass0 (pa_cons (pe_ix (kix_list (K := K)) (pv 5) (pe_un un_neg pe_int) (fun _ _ => rfl)) pa_nil)) (pa_cons (pe_ifExp (pt_cmpR op_gt (pe_callB (kcall_len (K := K)) (by rfl) T.n_len (by decide +kernel) (pa_cons (pv 5) pa_nil)) pe_int (nomark _)) pe_non (pe_tup (pa_cons pe_str (pa_cons pe_str pa_nil)))) pa_nil)) (by rfl))
  (pss_cons (ps_if (pt_cmpR op_gt (pv 8) pe_int (nomark _)) (pss_one (ps_set (i := 10) sc_law.nd rfl (.inl rfl) (pe_callO G_w_due (hr.mono (by decide)) rfl T.g_w_due pass0 (pa_cons (pv 3) (pa_cons (pv 9) pa_nil))))) pss_nil)
  (pss_cons (ps_if (pt_not (pt_val (pe_callO G_w_like (hr.mono (by decide)) rfl T.g_w_like pass0 (pa_cons (pe_callO G_w_done (hr.mono (by decide)) rfl T.g_w_done pass0 (pa_cons (pv 4) (pa_cons (pv 9) pa_nil))) (pa_cons (pv 10) pa_nil))))) (pss_one (ps_ret pe_bl)) pss_nil)
  (pss_cons (ps_if (pt_cmpR op_eq (pv 8) pe_int (nomark _)) (pss_one (ps_set (i := 5) sc_law.nd rfl (.inl rfl) (pe_op op_cat (pe_slice (ksl_list (K := K)) (pv 5) po_none (po_some pe_int)) (pe_slice (ksl_list (K := K)) (pv 5) (po_some pe_int) (po_some (pe_un un_neg pe_int)))))) (pss_one (ps_if (pt_not (pt_val (pe_callB (kcall_isi (K := K)) (by rfl) T.n_isinstance (by decide +kernel) (pa_cons (pv 10) (pa_cons (pe_bltn (v := .ty "tuple") (u := .type "tuple") rfl T.n_tuple (by decide +kernel) rfl) pa_nil))))) (pss_one (ps_expr (kpe_bm (K := K) PySem.F.plainAttrs_list PySem.F.slot_list_append PySem.F.type_list_append mt_append (pv 5) (pa_cons (pv 3) pa_nil)))) pss_nil)))
  (pss_one (ps_if (pt_not (pt_val (pe_callO G_w_right (hr.mono (by decide)) rfl T.g_w_right pass0 (pa_cons (pe_ix (kix_list (K := K)) (pv 5) (pe_un un_neg pe_int) (fun _ _ => rfl)) (pa_cons (pv 4) pa_nil))))) (pss_one (ps_ret pe_bl)) pss_nil)))))))))))
  (pss_cons (ps_for PassesOwn.never rfl (pi_range1 (by rfl) T.n_range (pa_cons (pe_op op_sub (pe_callB (kcall_len (K := K)) (by rfl) T.n_len (by decide +kernel) (pa_cons (pv 5) pa_nil)) pe_int) pa_nil)) (pg_name (i := 7) sc_law.nd rfl (.inl rfl)) (pss_one (ps_expr (pe_methO0 (pv 4) T.c_Book T.m_bk_back G_bk_back (hr.mono (by decide)) (passN (P := P) (w := w))))))
  (pss_one (ps_ret (pe_and (pe_cmpR (kop_book (K := K) G_bk_eq T (hr.mono (by decide))) (pv 4) (pe_makeO T.k_Book G_bk_init (hr.mono (by decide)) rfl T.g_Book pass0 (pa_cons (pv 2) pa_nil)) (nomark _)) (pe_one (pe_callO G_w_like (hr.mono (by decide)) rfl T.g_w_like pass0 (pa_cons (pe_callO G_w_done (hr.mono (by decide)) rfl T.g_w_done pass0 (pa_cons (pv 4) (pa_cons (pe_tup (pa_cons pe_str pa_nil)) pa_nil))) (pa_cons (pe_tup (pa_cons pe_str (pa_cons pe_str pa_nil))) pa_nil))))))))))))), ?_⟩
    have E0 : Env noH (L2.start N_law [.ref a]) [some (.ob (.ref a)), none, none, none, none, none, none, none, none, none, none, none, none] := env_start (.cons (.ob _) .nil)
    have e0 : (L2.start N_law [.ref a])[0]? = some (some (.ref a)) := rfl
    generalize L2.start N_law [V.ref a] = σ0 at E0 e0 ⊢
    -- the tape
    refine set_seq ?_
    refine ⟨.ref a, e0, a, ns.map V.int, rfl, .inl hS, fun l hl => ?_⟩
    have g1 : Gr [] noH H (upd noH l (.lst (ns.map V.int))) (upd H l (.lst (ns.map V.int))) := Gr.new (fun _ _ e => (nomatch e)) hl
    have f1 : upd noH l (.lst (ns.map V.int)) l = some (.lst (ns.map V.int)) := upd_same
    generalize upd noH l (.lst (ns.map V.int)) = F1 at g1 f1
    generalize upd H l (.lst (ns.map V.int)) = H1 at g1 ⊢
    refine ⟨small_ rfl, fun p hp => ?_⟩
    show tSeq (tAsg (tCall (spT R_tshape) [] L2.E0 (tCons (tVar 1) (tCons (tC (.int 4)) (tCons (tC (.int 3)) tNil)))) (gName 2)) _ _ (σ0.set 1 (some (.ref p))) (upd H1 p (.lst [.ref l, .int 0, .int 0]))
    have g2 : Gr [] F1 H1 F1 (upd H1 p (.lst [.ref l, .int 0, .int 0])) := Gr.newM g1.fh hp
    have t2 : TapeE (upd H1 p (.lst [.ref l, .int 0, .int 0])) F1 p := ⟨ns, 0, 0, none_of g1.fh hp, [.ref l, .int 0, .int 0], upd_same, .cons (.lst f1 (DtA.of_ints ns)) (.cons (.int _) (.cons (.int _) .nil))⟩
    have E2 : Env F1 (σ0.set 1 (some (.ref p))) [none, some (.ob (.ref p)), none, none, none, none, none, none, none, none, none, none, none] := ((E0.mono g1.ff).set (i := 1) (.ob (.ref p))).forget 0
    generalize upd H1 p (.lst [.ref l, .int 0, .int 0]) = H2 at g2 t2 ⊢
    generalize σ0.set 1 (some (.ref p)) = σ2 at E2 ⊢
    -- the shape
    refine tset (tv_call (Pr := R_tshape) rfl (fun _ _ => da_cons dv_int (da_cons dv_int da_nil)) ⟨4, 3, rfl, by omega, by omega, by omega, by omega, rfl⟩) g2.fh t2 E2 fun v3 F3 H3 d3 g3 t3 z3 E3 => ?_
    obtain ⟨m, w', hm0, hm, hw0, hw, rfl⟩ := z3
    have E3 : Env F3 (σ2.set 2 (some v3)) [none, some (.ob (.ref p)), some (shD m w'), none, none, none, none, none, none, none, none, none, none] := E3
    generalize σ2.set 2 (some v3) = σ3 at E3 ⊢
    -- the first record
    refine set_seq ?_
    intro ow how
    have gW : Gr [] F3 H3 F3 (upd H3 ow (.dK [])) := Gr.newM g3.fh how
    have now : F3 ow = none := none_of g3.fh how
    have eW : upd H3 ow (.dK []) ow = some (.dK []) := upd_same
    generalize upd H3 ow (.dK []) = H4 at gW eW ⊢
    obtain ⟨vsh, e2, hvsh⟩ := E3.at_ 2 _ rfl
    refine ⟨vsh, e2, ?_⟩
    refine (dv_call (da_cons (dv_var rfl) da_nil) ⟨m, w', rfl, by omega, rfl⟩ : Dv F3 H4 (tCall (spD R_first_stand) [] L2.E0 (tCons (tVar 2) tNil)) _ (stD (firstSt m))).run gW.fh E3 fun vst F5 H5 g5 hvst => ?_
    intro q hq
    have gQ : Gr [] F5 H5 F5 (upd H5 q (.dK [])) := Gr.newM g5.fh hq
    have nq5 : F5 q = none := none_of g5.fh hq
    have eQ : upd H5 q (.dK []) q = some (.dK []) := upd_same
    have gWQ := g5.trans0 gQ
    have eW6 : upd H5 q (.dK []) ow = some (.dK []) := gWQ.same _ _ eW
    have hqH3 : H3 q = none := gW.old0 (g5.old0 hq)
    generalize upd H5 q (.dK []) = H6 at gQ eQ gWQ eW6 ⊢
    refine ⟨Nat.zero_le _, fun bl hbl => ?_⟩
    have gB : Gr [] F5 H6 F5 (upd H6 bl (.lst [])) := Gr.newM gQ.fh hbl
    have nb5 : F5 bl = none := none_of gQ.fh hbl
    have eB : upd H6 bl (.lst []) bl = some (.lst []) := upd_same
    have eW7 : upd H6 bl (.lst []) ow = some (.dK []) := gB.same _ _ eW6
    have eQ7 : upd H6 bl (.lst []) q = some (.dK []) := gB.same _ _ eQ
    have hbH3 : H3 bl = none := gW.old0 (gWQ.old0 hbl)
    have g57 := gW.trans0 (gWQ.trans0 gB)
    generalize upd H6 bl (.lst []) = H7 at gB eB eW7 eQ7 g57 ⊢
    have nW5 : F5 ow = none := by rw [g5.nw ow _ eW rfl]; exact now
    refine ⟨eW7, ownK vsh vst 0 q bl, rfl, (by show 5 ≤ 15; decide), ?_⟩
    have em : mergeK [] (ownK vsh vst 0 q bl) = ownK vsh vst 0 q bl := mergeK_new _ _ (by
      show ([Sum.inr "shape", .inr "stand", .inr "tick", .inr "marks", .inr "book"] : List Key).Nodup
      exact inr_nodup (l := ["shape", "stand", "tick", "marks", "book"]) (by decide +kernel))
    rw [em]
    have g8 : Gr [] F3 H3 F5 (upd H7 ow (.dK (ownK vsh vst 0 q bl))) := g57.mine how nW5
    have hqw : q ≠ ow := fun z => by rw [z] at hq; rw [g5.same _ _ eW] at hq; cases hq
    have hbw : bl ≠ ow := fun z => by rw [z] at hbl; rw [eW6] at hbl; cases hbl
    have hO8 : OwO (upd H7 ow (.dK (ownK vsh vst 0 q bl))) F5 ow m w' (L0 m) q bl [] := ⟨⟨vsh, vst, [], upd_same, hvsh.mono g8.ff, hvst, by rw [upd_ne hbw]; exact eB, .nil⟩, RepO.nil (by rw [upd_ne hqw]; exact eQ7)⟩
    generalize upd H7 ow (.dK (ownK vsh vst 0 q bl)) = H8 at g8 hO8 ⊢
    have hOf : OwF (allF H3 F5 H8) ow m w' (L0 m) := hO8.all g8 how hqH3 hbH3 (fun x hx => (nomatch hx))
    have g8a := g8.all
    have t8 : TapeE H8 (allF H3 F5 H8) p := t3.grow g8a
    have E8 : Env (allF H3 F5 H8) (σ3.set 3 (some (.ref ow))) [none, some (.ob (.ref p)), some (shD m w'), some (.ob (.ref ow)), none, none, none, none, none, none, none, none, none] := (E3.mono g8a.ff).set (i := 3) (.ob (.ref ow))
    have s8 := g8a.fh
    generalize allF H3 F5 H8 = F8 at hOf g8a t8 E8 s8
    show tSeq (tPar 4 5 (tCons (tMake (He.ga K "Book") (spBkInit K) [] L2.E0 (tCons (tVar 2) tNil)) (tCons (tLst (tCons (tVar 3) tNil)) tNil))) (tMain K) _ (σ3.set 3 (some (.ref ow))) H8
    generalize σ3.set 3 (some (V.ref ow)) = σ8 at E8 ⊢
    -- the book, the records
    refine par_seq ?_
    refine cons_run ?_
    refine bkMake (dv_var rfl) s8 E8 hm0 hm hw0 hw fun F9 H9 kb g9 hkb hB9 => ?_
    have E9 := E8.mono g9.ff
    obtain ⟨v9, e9, h9⟩ := E9.at_ 3 _ rfl
    rw [h9.of_ob] at e9
    refine ⟨.ref ow, e9, small_ rfl, fun sa hsa => ?_⟩
    show ∃ v w, _ = [v, w] ∧ tMain K _ _ (upd H9 sa (.lst [.ref ow]))
    refine ⟨.ref kb, .ref sa, rfl, ?_⟩
    have gS : Gr [] F9 H9 F9 (upd H9 sa (.lst [.ref ow])) := Gr.newM g9.fh hsa
    have t9 := t8.grow g9
    have E10 : Env F9 ((σ8.set 4 (some (.ref kb))).set 5 (some (.ref sa))) (rhoL p kb sa m w') := ((E9.forget 3).set (i := 4) (.ob (.ref kb))).set (i := 5) (.ob (.ref sa))
    refine main_rows (oas := [ow]) (Ls := []) (L := L0 m) ⟨gS.fh, t9.grow gS, hB9.grow gS, ⟨none_of g9.fh hsa, upd_same⟩, rfl, fun j a' L' h1 h2 => ?_, fun L' hL => ?_, rfl, Nat.le_refl _, t9.ne hsa⟩ hm0 hm hw0 hw E10 hQ
    · cases j with
      | zero =>
        cases h1
        cases h2
        exact hOf.mono g9.ff
      | succ j => simp at h1
    · rw [show L' = L0 m by simpa using hL]
      exact L0_ok m w'
end
end Bb
/-! Bb38 -/
namespace Bb
open PySem PySem.Spec PyProof.Rows L2
abbrev R : PySem.W.OpenRow := PySem.W.OpenLaw.row PySem.Challenge.rw_blotbook_k17_whole_kept_books
abbrev hk : PySem.W.Hook := He.hookX 5 fa fn [] [] exB
def ob (s : PySem.W.SharedT) : He.AlX := He.obsX 5 fa fn [] [] exB (HandSHeadRun.getT s)
theorem ob_eq (s : PySem.W.SharedT) : ob s = hk.obs s.abs := He.obsX_eq (HandSHeadRun.getT_eq s)
def lo1 : List Str := ["__name__", "BlotError", "ToldError", "AskedError", "NoShape", "NoDeed", "NoSpot", "NoColour", "NoWet", "TooMany", "NothingLeft", "LETTERS", "MOST_LEAVES", "MOST_CELLS", "is_within", "is_name", "is_shape", "is_spot", "first_stand", "far_from_back", "touched", "pairs_at", "is_deed", "takes", "moved", "put_on", "pressed", "MOST_WET", "Lying", "Book"]
def lo2 : List Str := ["_law_draw", "_law_whole", "_law_within", "_law_like", "_law_spoilt", "_law_is_name", "_law_any", "_law_shape", "_law_spots", "_law_spot", "_law_a_deed", "_law_cells", "_law_pairs", "_law_moved", "_law_due", "_law_pressed", "_law_no_drop", "_law_is_deed", "_law_right", "_law_copied", "_law_done", "_law_word"]
theorem run (w : World) : HandSHeadRun.RunEq R (PySem.W.view R.prog [56]) hk ob 4500 (lo1 ++ lo2) w := by
  intro os
  kernel_rfl
end Bb
/-! Bb39 -/
namespace Bb
open PySem PySem.Spec PyProof.Rows L2
/-- all defs keep their promises, the law too -/
theorem all_ok {P : Program} {w : World} {K : PySem.W.Frag} {mg : Str → Option Value} {base : Heap} (T : Txt K mg) {fd : FuncData} (F : FunD K d_law.name d_law.qual d_law.params d_law.body d_law.scope [] [] (He.fAd K d_law.at_) fd) : FnOk P w K mg base CX0 12 (He.fAd K d_law.at_) fd P_law (spLaw K) := by
  have G_is_within := ok_is_within (P := P) (w := w) (base := base) T
  have G_is_name := ok_is_name (P := P) (w := w) (base := base) T
  have G_is_shape := ok_is_shape (P := P) (w := w) (base := base) T G_is_within
  have G_is_spot := ok_is_spot (P := P) (w := w) (base := base) T G_is_within
  have G_first_stand := ok_first_stand (P := P) (w := w) (base := base) T
  have G_far_from_back := ok_far_from_back (P := P) (w := w) (base := base) T
  have G_touched := ok_touched (P := P) (w := w) (base := base) T G_far_from_back
  have G_pairs_at := ok_pairs_at (P := P) (w := w) (base := base) T G_touched
  have G_is_deed := ok_is_deed (P := P) (w := w) (base := base) T G_is_within
  have G_takes := ok_takes (P := P) (w := w) (base := base) T
  have G_moved := ok_moved (P := P) (w := w) (base := base) T
  have G_put_on := ok_put_on (P := P) (w := w) (base := base) T
  have G_pressed := ok_pressed (P := P) (w := w) (base := base) T G_put_on
  have G_ly_init := ok_ly_init (P := P) (w := w) (base := base) T G_first_stand
  have G_ly_twin := ok_ly_twin (P := P) (w := w) (base := base) T G_ly_init
  have G_ly_shown := ok_ly_shown (P := P) (w := w) (base := base) T
  have G_ly_drop := ok_ly_drop (P := P) (w := w) (base := base) T G_is_spot G_is_name G_is_within G_put_on
  have G_ly_press := ok_ly_press (P := P) (w := w) (base := base) T G_pairs_at G_pressed
  have G_ly_tells := ok_ly_tells (P := P) (w := w) (base := base) T G_ly_drop G_is_deed G_ly_press G_moved G_takes
  have G_ly_spots := ok_ly_spots (P := P) (w := w) (base := base) T
  have G_bk_init := ok_bk_init (P := P) (w := w) (base := base) T G_is_shape G_ly_init
  have G_bk_do := ok_bk_do (P := P) (w := w) (base := base) T G_ly_twin G_ly_tells
  have G_bk_back := ok_bk_back (P := P) (w := w) (base := base) T
  have G_bk_stand := ok_bk_stand (P := P) (w := w) (base := base) T
  have G_bk_tick := ok_bk_tick (P := P) (w := w) (base := base) T
  have G_bk_marks := ok_bk_marks (P := P) (w := w) (base := base) T G_is_name
  have G_bk_colours := ok_bk_colours (P := P) (w := w) (base := base) T G_is_spot
  have G_bk_book := ok_bk_book (P := P) (w := w) (base := base) T
  have G_bk_eq := ok_bk_eq (P := P) (w := w) (base := base) T G_ly_shown
  have G_bk_len := ok_bk_len (P := P) (w := w) (base := base) T G_ly_spots
  have G_bk_str := ok_bk_str (P := P) (w := w) (base := base) T G_ly_spots
  have G_w_whole := ok_w_whole (P := P) (w := w) (base := base) T
  have G_w_within := ok_w_within (P := P) (w := w) (base := base) T G_w_whole
  have G_w_like := ok_w_like (P := P) (w := w) (base := base) T
  have G_w_is_name := ok_w_is_name (P := P) (w := w) (base := base) T
  have G_w_spots := ok_w_spots (P := P) (w := w) (base := base) T
  have G_w_cells := ok_w_cells (P := P) (w := w) (base := base) T
  have G_w_pairs := ok_w_pairs (P := P) (w := w) (base := base) T G_w_cells
  have G_w_moved := ok_w_moved (P := P) (w := w) (base := base) T
  have G_w_is_deed := ok_w_is_deed (P := P) (w := w) (base := base) T G_w_within
  have G_w_no_drop := ok_w_no_drop (P := P) (w := w) (base := base) T G_w_spots G_w_whole G_w_is_name G_w_within
  have G_w_pressed := ok_w_pressed (P := P) (w := w) (base := base) T G_w_pairs
  have G_w_due := ok_w_due (P := P) (w := w) (base := base) T G_w_no_drop G_w_is_deed G_w_pressed G_w_moved
  have G_w_copied := ok_w_copied (P := P) (w := w) (base := base) T
  have G_w_right := ok_w_right (P := P) (w := w) (base := base) T G_w_like G_bk_book G_bk_tick G_bk_stand G_bk_marks G_w_spots G_bk_colours G_bk_len G_bk_str
  have G_w_word := ok_w_word (P := P) (w := w) (base := base) T
  have G_w_done := ok_w_done (P := P) (w := w) (base := base) T G_bk_back G_bk_do G_w_word
  have G_w_draw := draw_T (ok_w_draw (P := P) (w := w) (base := base) T)
  have G_w_shape := ok_w_shape T G_w_draw
  have G_w_spot := ok_w_spot T G_w_draw
  have G_w_a_deed := ok_w_a_deed T G_w_draw
  have G_any1 := ok_w_any T G_w_draw 1 (by decide)
  have G_any2 := ok_w_any T G_w_draw 2 (by decide)
  have G_spoilt := ok_w_spoilt T G_w_draw G_any1 G_any2 G_w_whole 2
  exact ok_law T F G_first_stand G_bk_init G_bk_back G_bk_eq G_w_draw G_w_shape G_w_spot G_w_a_deed G_any2 G_spoilt G_w_copied G_w_due (G_w_like 1) G_w_done G_w_right
theorem facts {P : Program} {w : World} {K : PySem.W.Frag} {h : Heap} {mg : Str → Option Value} {f : Addr} (X : K.In h) (G : h.Ns mainGlobals mg) (hfa : mg ("law" : Str) = some (.ref f)) (c : He.SaysX fa fn [] [] exB w h K) :
    ∃ fd : FuncData, (∀ (s : Shared) (v : Value), BindsTo s fd ⟨[v], []⟩ [("_law_script", v)]) ∧ ∀ base : Heap, K.In base → base.Ns mainGlobals mg → FnOk P w K mg base CX0 12 f fd ["_law_script"] (spLaw K) := by
  have T : Txt K mg := ⟨c.t.d, ⟨h, X, G⟩, c.more⟩
  obtain ⟨fd, F⟩ := T.f_law
  have e := hfa.symm.trans T.g_law
  cases e
  have b := FunD.bindsA (ps := ["_law_script"]) F fun _ _ _ _ _ _ us hl => match us, hl with | [_], _ => rfl
  exact ⟨fd, fun s v => b s [v] rfl, fun base _ _ => all_ok T F⟩
end Bb
open PySem PySem.W PySem.Calls PyProof.Rows
theorem PySem.Challenge.cw_blotbook_k17_whole_kept_books_holds : PySem.Challenge.rw_blotbook_k17_whole_kept_books.Holds := by
  w_on; o_law
  refine HandSHeadRun.head_any (r := OpenLaw.row PySem.Challenge.rw_blotbook_k17_whole_kept_books) (q := view (OpenLaw.row PySem.Challenge.rw_blotbook_k17_whole_kept_books).prog [56]) (H := Bb.hk) (ob := Bb.ob) (M := 4500) (loose := Bb.lo1 ++ Bb.lo2) (d := HandSHeadRun.topDef (OpenLaw.row PySem.Challenge.rw_blotbook_k17_whole_kept_books).prog 56) (kwd := []) Bb.ob_eq
    (by kernel_rfl) (fun s => by kernel_rfl) Bb.run (by kernel_rfl) (by kernel_rfl) (by kernel_rfl) (by rfl) (by first | assumption | decide +kernel) (by decide +kernel) ⟨rfl, rfl, rfl, rfl, rfl, by decide +kernel⟩ ?hw ?hc
  case hw => w_witness2
  case hc =>
    refine L2.walk_ofE (l := PySem.Challenge.rw_blotbook_k17_whole_kept_books) (n := 63) (k := 12) (x := "_law_script") (CX := L2.CX0) rfl (by decide) (by kernel_rfl) ⟨rfl, by decide, by decide⟩ ?F (fun _ _ _ _ z => z)
    intro w mg fa h Y G hmg0
    obtain ⟨K, KX, c⟩ := Y
    have hmg : mg ("law" : PySem.Str) = some (.ref fa) := by
      have e : (HandSHeadRun.topDef (OpenLaw.row PySem.Challenge.rw_blotbook_k17_whole_kept_books).prog 56).name = ("law" : PySem.Str) := by kernel_rfl
      rw [← e]
      exact hmg0
    obtain ⟨fd, hb, hF⟩ := Bb.facts (P := (PySem.Challenge.rw_blotbook_k17_whole_kept_books).prog) (w := w) KX G hmg c
    exact ⟨K, fd, Bb.spLaw K, KX, hb, fun H a ns hl _ hS => ⟨a, ns, rfl, hS, fun _ => rfl⟩, hF⟩

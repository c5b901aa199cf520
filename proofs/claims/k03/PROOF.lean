import PyProof.Rows.All
import Wide.All
import OpenK.AllK
import Wide.FinOn
import HandS.ForMost
import HandS.TupAny
import HandS.TupMul
import HandS.TupLen
import HandS.IsInst
import HandS.Walk
import HandS.Conv
import KE.GoesNew
import HandS.Style
import HandS.Defaults
import HandS.Exc
import HandS.ExcOwn
import HandS.WordsExc
import HandS.ExcIs
import HandS.ExcInit
import HandS.ExcField
import HandS.HeadHook2
import PyProof.ExcBaseAll.ValueError
import KE.GoesMore
import HandS.Head0
import HandS.Head1
import HandS.Head2
import HandS.HeadEnd
import PySem.Challenge.RW_mergetables_k03_several_fields
set_option Elab.async false
set_option linter.all false
set_option maxRecDepth 100000
namespace Dl
open PySem PySem.Spec L2

/-- plain data -/
inductive D where
  | non | bl (b : Bool) | int (i : Int) | str (x : Str)
  | tup (xs : List D) | lst (xs : List D)
  | kt (xs : List D)
  | fz (xs : List D)
  | dk (kvs : List (Key × D))
  | obj (C : Addr) (fs : List (Str × D))

/-- in the stable heap S the value v is the data d -/
inductive Den (K : PySem.W.Frag) (S : Hp) : V → D → Prop where
  | non : Den K S .non .non
  | bl (b : Bool) : Den K S (.bl b) (.bl b)
  | int (i : Int) : Den K S (.int i) (.int i)
  | str (x : Str) : Den K S (.str x) (.str x)
  | tup {a : Addr} {xs : List V} {ds : List D} (h : S a = some (.tup xs)) (hl : xs.length = ds.length) (hx : ∀ (i : Nat) (x : V) (d : D), xs[i]? = some x → ds[i]? = some d → Den K S x d) : Den K S (.ref a) (.tup ds)
  | lst {a : Addr} {xs : List V} {ds : List D} (h : S a = some (.lst xs)) (hl : xs.length = ds.length) (hx : ∀ (i : Nat) (x : V) (d : D), xs[i]? = some x → ds[i]? = some d → Den K S x d) : Den K S (.ref a) (.lst ds)
  | kt {a : Addr} {xs : List V} {ds : List D} (h : ∀ H, SqT K H a xs) (hl : xs.length = ds.length) (hx : ∀ (i : Nat) (x : V) (d : D), xs[i]? = some x → ds[i]? = some d → Den K S x d) : Den K S (.ref a) (.kt ds)
  | fz {a : Addr} {xs : List V} {ds : List D} (h : SqL K S a xs) (hl : xs.length = ds.length) (hx : ∀ (i : Nat) (x : V) (d : D), xs[i]? = some x → ds[i]? = some d → Den K S x d) : Den K S (.ref a) (.fz ds)
  | dk {a : Addr} {kvs : List (Key × V)} {ds : List (Key × D)} (h : S a = some (.dK kvs)) (hl : kvs.map (·.1) = ds.map (·.1)) (hx : ∀ (i : Nat) (x : Key × V) (d : Key × D), kvs[i]? = some x → ds[i]? = some d → Den K S x.2 d.2) : Den K S (.ref a) (.dk ds)
  | obj {a C dx : Addr} {vs : List (Str × V)} {fs : List (Str × D)} (h : S a = some (.ins C dx vs)) (hl : vs.map (·.1) = fs.map (·.1)) (hx : ∀ (i : Nat) (x : Str × V) (d : Str × D), vs[i]? = some x → fs[i]? = some d → Den K S x.2 d.2) : Den K S (.ref a) (.obj C fs)

theorem sqT_mono {K : PySem.W.Frag} {H H' : Hp} {a : Addr} {xs : List V} (e : Same H H') (h : SqT K H a xs) : SqT K H' a xs := by
  rcases h with (h | ⟨o, h⟩) | h
  · exact .inl (.inl (e _ _ h))
  · exact .inl (.inr ⟨o, e _ _ h⟩)
  · exact .inr h
theorem Den.mono {K : PySem.W.Frag} {S S' : Hp} {v : V} {d : D} (e : Same S S') (h : Den K S v d) : Den K S' v d := by
  induction h with
  | non => exact .non
  | bl b => exact .bl b
  | int i => exact .int i
  | str x => exact .str x
  | tup h hl hx ih => exact .tup (e _ _ h) hl ih
  | kt h hl hx ih => exact .kt h hl ih
  | fz h hl hx ih => exact .fz (e.seq h) hl ih
  | lst h hl hx ih => exact .lst (e _ _ h) hl ih
  | dk h hl hx ih => exact .dk (e _ _ h) hl ih
  | obj h hl hx ih => exact .obj (e _ _ h) hl ih

def Dens (K : PySem.W.Frag) (S : Hp) (vs : List V) (ds : List D) : Prop := vs.length = ds.length ∧ ∀ (i : Nat) (x : V) (d : D), vs[i]? = some x → ds[i]? = some d → Den K S x d
theorem Dens.mono {K : PySem.W.Frag} {S S' : Hp} {vs : List V} {ds : List D} (e : Same S S') (h : Dens K S vs ds) : Dens K S' vs ds := ⟨h.1, fun i x d a b => (h.2 i x d a b).mono e⟩
theorem Dens.nil {K : PySem.W.Frag} {S : Hp} : Dens K S [] [] := ⟨rfl, fun i x d a b => by simp at a⟩
theorem Dens.cons {K : PySem.W.Frag} {S : Hp} {v : V} {d : D} {vs : List V} {ds : List D} (h : Den K S v d) (t : Dens K S vs ds) : Dens K S (v :: vs) (d :: ds) :=
  ⟨by simp [t.1], fun i x e a b => by
    cases i with
    | zero => simp at a b; subst a; subst b; exact h
    | succ i => simp at a b; exact t.2 i x e a b⟩
theorem Dens.head {K : PySem.W.Frag} {S : Hp} {v : V} {d : D} {vs : List V} {ds : List D} (h : Dens K S (v :: vs) (d :: ds)) : Den K S v d := h.2 0 v d rfl rfl
theorem Dens.tail {K : PySem.W.Frag} {S : Hp} {v : V} {d : D} {vs : List V} {ds : List D} (h : Dens K S (v :: vs) (d :: ds)) : Dens K S vs ds :=
  ⟨by simpa using h.1, fun i x e a b => h.2 (i + 1) x e (by simpa using a) (by simpa using b)⟩
theorem Dens.append {K : PySem.W.Frag} {S : Hp} : ∀ {vs us : List V} {ds es : List D}, Dens K S vs ds → Dens K S us es → Dens K S (vs ++ us) (ds ++ es)
  | [], us, [], es, _, h => h
  | [], _, _ :: _, _, h, _ => by have := h.1; simp at this
  | _ :: _, _, [], _, h, _ => by have := h.1; simp at this
  | v :: vs, us, d :: ds, es, h, h2 => Dens.cons h.head (Dens.append h.tail h2)
theorem Dens.get {K : PySem.W.Frag} {S : Hp} {vs : List V} {ds : List D} (h : Dens K S vs ds) {i : Nat} {d : D} (e : ds[i]? = some d) : ∃ v, vs[i]? = some v ∧ Den K S v d := by
  have hi : i < vs.length := by rw [h.1]; exact (List.getElem?_eq_some_iff.mp e).1
  exact ⟨vs[i], List.getElem?_eq_getElem hi, h.2 i _ d (List.getElem?_eq_getElem hi) e⟩
theorem Dens.getV {K : PySem.W.Frag} {S : Hp} {vs : List V} {ds : List D} (h : Dens K S vs ds) {i : Nat} {v : V} (e : vs[i]? = some v) : ∃ d, ds[i]? = some d ∧ Den K S v d := by
  have hi : i < ds.length := by rw [← h.1]; exact (List.getElem?_eq_some_iff.mp e).1
  exact ⟨ds[i], List.getElem?_eq_getElem hi, h.2 i v _ e (List.getElem?_eq_getElem hi)⟩
theorem Dens.take {K : PySem.W.Frag} {S : Hp} {vs : List V} {ds : List D} (n : Nat) (h : Dens K S vs ds) : Dens K S (vs.take n) (ds.take n) :=
  ⟨by simp [h.1], fun i x d a b => by
    rw [List.getElem?_take] at a b
    split at a
    · rename_i hi
      rw [if_pos hi] at b
      exact h.2 i x d a b
    · cases a⟩
theorem Dens.drop {K : PySem.W.Frag} {S : Hp} {vs : List V} {ds : List D} (n : Nat) (h : Dens K S vs ds) : Dens K S (vs.drop n) (ds.drop n) :=
  ⟨by simp [h.1], fun i x d a b => by
    rw [List.getElem?_drop] at a b
    exact h.2 (n + i) x d a b⟩
theorem Dens.set {K : PySem.W.Frag} {S : Hp} {vs : List V} {ds : List D} {v : V} {d : D} (n : Nat) (hd : Den K S v d) (h : Dens K S vs ds) : Dens K S (vs.set n v) (ds.set n d) :=
  ⟨by simp [h.1], fun i x e a b => by
    rw [List.getElem?_set] at a b
    by_cases hn : n = i
    · rw [if_pos hn] at a b
      split at a
      · rename_i h1
        rw [if_pos (by rw [← h.1]; exact h1)] at b
        cases a; cases b; exact hd
      · cases a
    · rw [if_neg hn] at a b
      exact h.2 i x e a b⟩
theorem Den.tup_inv {K : PySem.W.Frag} {S : Hp} {v : V} {ds : List D} (h : Den K S v (.tup ds)) : ∃ a xs, v = .ref a ∧ SqT K S a xs ∧ Dens K S xs ds := by
  cases h with
  | tup h hl hx => exact ⟨_, _, rfl, .of h, hl, hx⟩
theorem Den.tup_at {K : PySem.W.Frag} {S : Hp} {v : V} {ds : List D} (h : Den K S v (.tup ds)) : ∃ a xs, v = .ref a ∧ S a = some (.tup xs) ∧ Dens K S xs ds := by
  cases h with
  | tup h hl hx => exact ⟨_, _, rfl, h, hl, hx⟩
theorem Den.kt_inv {K : PySem.W.Frag} {S : Hp} {v : V} {ds : List D} (h : Den K S v (.kt ds)) : ∃ a xs, v = .ref a ∧ (∀ H, SqT K H a xs) ∧ Dens K S xs ds := by
  cases h with
  | kt h hl hx => exact ⟨_, _, rfl, h, hl, hx⟩
theorem Den.fz_inv {K : PySem.W.Frag} {S : Hp} {v : V} {ds : List D} (h : Den K S v (.fz ds)) : ∃ a xs, v = .ref a ∧ SqL K S a xs ∧ Dens K S xs ds := by
  cases h with
  | fz h hl hx => exact ⟨_, _, rfl, h, hl, hx⟩
theorem Den.lst_inv {K : PySem.W.Frag} {S : Hp} {v : V} {ds : List D} (h : Den K S v (.lst ds)) : ∃ a xs, v = .ref a ∧ S a = some (.lst xs) ∧ Dens K S xs ds := by
  cases h with
  | lst h hl hx => exact ⟨_, _, rfl, h, hl, hx⟩
theorem Den.mkT {K : PySem.W.Frag} {S : Hp} {a : Addr} {xs : List V} {ds : List D} (h : S a = some (.tup xs)) (x : Dens K S xs ds) : Den K S (.ref a) (.tup ds) := .tup h x.1 x.2
theorem Den.mkL {K : PySem.W.Frag} {S : Hp} {a : Addr} {xs : List V} {ds : List D} (h : S a = some (.lst xs)) (x : Dens K S xs ds) : Den K S (.ref a) (.lst ds) := .lst h x.1 x.2
theorem same_upd {H : Hp} {p : Addr} {o : HO} (h : H p = none) : Same H (upd H p o) := fun b x e => by
  rw [upd_ne (ne_of_none e h)]
  exact e

/-! ### owned objects, slots -/
/-- an owned object whose content is told by a predicate that leans on the objects of F alone -/
structure Pred where
  φ : PySem.W.Frag → Hp → Hp → Addr → List Addr → Prop
  stay : ∀ {K : PySem.W.Frag} {H S H' S' : Hp} {p : Addr} {F : List Addr}, φ K H S p F → (∀ a ∈ F, H' a = H a) → Same S S' → φ K H' S' p F
inductive OD where
  | lst (xs : List D)
  | dk (kvs : List (Key × D))
  | dt (kvs : List (List Key × D))
  | ins (C : Addr) (fs : List (Str × D))
  | ab (P : Pred)
def KvOk {κ : Type} (K : PySem.W.Frag) (S : Hp) (kvs : List (κ × V)) (ds : List (κ × D)) : Prop := kvs.map (·.1) = ds.map (·.1) ∧ ∀ (i : Nat) (x : κ × V) (d : κ × D), kvs[i]? = some x → ds[i]? = some d → Den K S x.2 d.2
theorem KvOk.mono {κ : Type} {K : PySem.W.Frag} {S S' : Hp} {kvs : List (κ × V)} {ds : List (κ × D)} (e : Same S S') (h : KvOk K S kvs ds) : KvOk K S' kvs ds := ⟨h.1, fun i x d a b => (h.2 i x d a b).mono e⟩
def OwnOk (K : PySem.W.Frag) (H S : Hp) (p : Addr) (F : List Addr) : OD → Prop
  | .lst ds => F = [p] ∧ ∃ xs, H p = some (.lst xs) ∧ Dens K S xs ds
  | .dk ds => F = [p] ∧ ∃ kvs, H p = some (.dK kvs) ∧ KvOk K S kvs ds
  | .dt ds => F = [p] ∧ ∃ kvs, H p = some (.dT kvs) ∧ KvOk K S kvs ds
  | .ins C ds => F = [p] ∧ ∃ dx fs, H p = some (.ins C dx fs) ∧ KvOk K S fs ds
  | .ab P => P.φ K H S p F
theorem OwnOk.stay {K : PySem.W.Frag} {H S H' S' : Hp} {p : Addr} {F : List Addr} {o : OD} (h : OwnOk K H S p F o) (k : ∀ a ∈ F, H' a = H a) (e : Same S S') : OwnOk K H' S' p F o := by
  cases o with
  | lst ds => obtain ⟨rfl, xs, h1, h2⟩ := h; exact ⟨rfl, xs, by rw [k p (by simp)]; exact h1, h2.mono e⟩
  | dk ds => obtain ⟨rfl, xs, h1, h2⟩ := h; exact ⟨rfl, xs, by rw [k p (by simp)]; exact h1, h2.mono e⟩
  | dt ds => obtain ⟨rfl, xs, h1, h2⟩ := h; exact ⟨rfl, xs, by rw [k p (by simp)]; exact h1, h2.mono e⟩
  | ins C ds => obtain ⟨rfl, dx, xs, h1, h2⟩ := h; exact ⟨rfl, dx, xs, by rw [k p (by simp)]; exact h1, h2.mono e⟩
  | ab P => exact P.stay h k e
inductive Sl where
  | no
  | d (x : D)
  | own (p : Addr) (o : OD)
def SlOk (K : PySem.W.Frag) (H S : Hp) (v : Option V) (F : List Addr) : Sl → Prop
  | .no => F = []
  | .d x => F = [] ∧ ∃ u, v = some u ∧ Den K S u x
  | .own p o => v = some (.ref p) ∧ OwnOk K H S p F o
theorem SlOk.stay {K : PySem.W.Frag} {H S H' S' : Hp} {v : Option V} {F : List Addr} {s : Sl} (h : SlOk K H S v F s) (k : ∀ a ∈ F, H' a = H a) (e : Same S S') : SlOk K H' S' v F s := by
  cases s with
  | no => exact h
  | d x => obtain ⟨h1, u, h2, h3⟩ := h; exact ⟨h1, u, h2, h3.mono e⟩
  | own p o => exact ⟨h.1, h.2.stay k e⟩
/-- the world: the heap, its stable part, the footprints of the owned objects by slot -/
structure Wd where
  H : Hp
  S : Hp
  Fs : List (List Addr)
def Wd.fp (W : Wd) (a : Addr) : Prop := ∃ (i : Nat) (F : List Addr), W.Fs[i]? = some F ∧ a ∈ F
structure Cnf0 (K : PySem.W.Frag) (W : Wd) (σ : St) (sd : List Sl) : Prop where
  sub : Same W.S W.H
  l1 : σ.length = sd.length
  l2 : W.Fs.length = sd.length
  ok : ∀ (i : Nat) (s : Sl) (v : Option V) (F : List Addr), sd[i]? = some s → σ[i]? = some v → W.Fs[i]? = some F → SlOk K W.H W.S v F s
  there : ∀ a, W.fp a → W.H a ≠ none
  out : ∀ a, W.fp a → W.S a = none
  dj : ∀ (i j : Nat) (F G : List Addr) (a : Addr), i ≠ j → W.Fs[i]? = some F → W.Fs[j]? = some G → a ∈ F → a ∉ G
/-- from a world to a later one -/
structure Stp (W W' : Wd) : Prop where
  big : ∀ a o, ¬ W.fp a → W.H a = some o → W'.H a = some o
  st : Same W.S W'.S
  fr : ∀ a, ¬ W.fp a → W.H a ≠ none → W.S a = none → W'.S a = none
  fs : ∀ a, W'.fp a → W.fp a ∨ W.H a = none
  dom : ∀ a, W.H a ≠ none → W'.H a ≠ none
theorem Stp.refl (W : Wd) : Stp W W := ⟨fun _ _ _ h => h, fun _ _ h => h, fun _ _ _ h => h, fun _ h => .inl h, fun _ h => h⟩
theorem Stp.trans {W W1 W2 : Wd} (a : Stp W W1) (b : Stp W1 W2) : Stp W W2 := by
  have nf : ∀ c, ¬ W.fp c → W.H c ≠ none → ¬ W1.fp c := fun c h1 h2 h3 => by
    rcases a.fs c h3 with z | z
    · exact h1 z
    · exact h2 z
  refine ⟨fun c o h1 h2 => b.big c o (nf c h1 (by rw [h2]; simp)) (a.big c o h1 h2), a.st.trans b.st, fun c h1 h2 h3 => b.fr c (nf c h1 h2) (a.dom c h2) (a.fr c h1 h2 h3), fun c h => ?_, fun c h => b.dom c (a.dom c h)⟩
  rcases b.fs c h with z | z
  · exact a.fs c z
  · refine .inr ?_
    cases q : W.H c with
    | none => rfl
    | some o => exact absurd z (a.dom c (by rw [q]; simp))
/-- a new stable object -/
def Wd.lay (W : Wd) (p : Addr) (o : HO) : Wd := ⟨upd W.H p o, upd W.S p o, W.Fs⟩
theorem Wd.lay_fp {W : Wd} {p : Addr} {o : HO} {a : Addr} : (W.lay p o).fp a ↔ W.fp a := Iff.rfl
theorem Stp.lay {K : PySem.W.Frag} {W : Wd} {σ : St} {sd : List Sl} {p : Addr} {o : HO} (C : Cnf0 K W σ sd) (h : W.H p = none) : Stp W (W.lay p o) := by
  have hS : W.S p = none := by
    cases q : W.S p with
    | none => rfl
    | some u => rw [C.sub _ _ q] at h; cases h
  exact ⟨fun a u _ e => same_upd h a u e, same_upd hS, fun a _ h1 h2 => by
    show upd W.S p o a = none
    rw [upd_ne (fun z => h1 (by rw [z]; exact h))]; exact h2, fun a h => .inl h, fun a h1 => by
    show upd W.H p o a ≠ none
    rw [upd_ne (fun z => h1 (by rw [z]; exact h))]; exact h1⟩
theorem Cnf0.lay {K : PySem.W.Frag} {W : Wd} {σ : St} {sd : List Sl} {p : Addr} {o : HO} (C : Cnf0 K W σ sd) (h : W.H p = none) : Cnf0 K (W.lay p o) σ sd := by
  have hf : ∀ a, W.fp a → a ≠ p := fun a ha z => C.there a ha (by rw [z]; exact h)
  have st := Stp.lay (o := o) C h
  refine ⟨fun a u e => ?_, C.l1, C.l2, fun i s v F h1 h2 h3 => (C.ok i s v F h1 h2 h3).stay (fun a ha => ?_) st.st, fun a ha => st.dom a (C.there a ha), fun a ha => ?_, C.dj⟩
  · show upd W.H p o a = some u
    by_cases z : a = p
    · subst z
      have e' : upd W.S a o a = some u := e
      rw [upd_same] at e' ⊢
      exact e'
    · rw [upd_ne z]
      have e' : upd W.S p o a = some u := e
      rw [upd_ne z] at e'
      exact C.sub a u e'
  · show upd W.H p o a = W.H a
    exact upd_ne (hf a ⟨i, F, h3, ha⟩)
  · show upd W.S p o a = none
    rw [upd_ne (hf a ha)]
    exact C.out a ha
/-- the world at the def's start -/
class Amb where
  z : Wd
structure Cnf [Amb] (K : PySem.W.Frag) (W : Wd) (σ : St) (sd : List Sl) : Prop extends Cnf0 K W σ sd where
  past : Stp Amb.z W
theorem Cnf.lay [Amb] {K : PySem.W.Frag} {W : Wd} {σ : St} {sd : List Sl} {p : Addr} {o : HO} (C : Cnf K W σ sd) (h : W.H p = none) : Cnf K (W.lay p o) σ sd := ⟨C.toCnf0.lay h, C.past.trans (Stp.lay C.toCnf0 h)⟩
theorem Cnf.then [Amb] {K : PySem.W.Frag} {W W' : Wd} {σ σ' : St} {sd sd' : List Sl} (C : Cnf K W σ sd) (s : Stp W W') (C' : Cnf0 K W' σ' sd') : Cnf K W' σ' sd' := ⟨C', C.past.trans s⟩
theorem stp_none {W W1 : Wd} (s : Stp W W1) {a : Addr} (h : W1.H a = none) : W.H a = none := by
  cases q : W.H a with
  | none => rfl
  | some o => exact absurd h (s.dom a (by rw [q]; simp))
theorem Cnf.newz [Amb] {K : PySem.W.Frag} {W : Wd} {σ : St} {sd : List Sl} (C : Cnf K W σ sd) {a : Addr} (h : W.fp a ∨ W.H a = none) : Amb.z.fp a ∨ Amb.z.H a = none := by
  rcases h with h | h
  · exact C.past.fs a h
  · exact .inr (stp_none C.past h)
end Dl
set_option Elab.async false
set_option linter.all false
set_option maxRecDepth 100000
namespace Dl
open PySem PySem.Spec L2

abbrev DK := D → List Sl → Prop
abbrev DTE := List Sl → DK → Prop
abbrev DTT := List Sl → (Bool → List Sl → Prop) → Prop
abbrev DTL := List Sl → (List D → List Sl → Prop) → Prop
abbrev DTX := List Sl → (Sl → List Sl → Prop) → Prop
/-- an argument: data, or an owned object by its slot -/
inductive Ar where
  | dat (d : D)
  | sl (i : Nat)
abbrev DTA := List Sl → (List Ar → List Sl → Prop) → Prop

section
variable [Amb] (K : PySem.W.Frag)
/-- the reading te gives data of which k holds -/
def ED (te : TE) (sd : List Sl) (k : DK) : Prop := ∀ (W : Wd) (σ : L2.St), Cnf K W σ sd → ∀ Q : VK, (∀ v d sd' W', Stp W W' → Cnf K W' σ sd' → Den K W'.S v d → k d sd' → Q v W'.H) → te σ W.H Q
def ET (te : TT) (sd : List Sl) (k : Bool → List Sl → Prop) : Prop := ∀ (W : Wd) (σ : L2.St), Cnf K W σ sd → ∀ Q : Bool → Hp → Prop, (∀ b sd' W', Stp W W' → Cnf K W' σ sd' → k b sd' → Q b W'.H) → te σ W.H Q
def EL (ta : TA) (sd : List Sl) (k : List D → List Sl → Prop) : Prop := ∀ (W : Wd) (σ : L2.St), Cnf K W σ sd → ∀ Q : List V → Hp → Prop, (∀ vs ds sd' W', Stp W W' → Cnf K W' σ sd' → Dens K W'.S vs ds → k ds sd' → Q vs W'.H) → ta σ W.H Q
/-- a new owned object's footprint -/
structure NewF (W W' : Wd) (F : List Addr) : Prop where
  out : ∀ a ∈ F, ¬ W'.fp a
  there : ∀ a ∈ F, W'.H a ≠ none
  un : ∀ a ∈ F, W'.S a = none
  new : ∀ a ∈ F, W.fp a ∨ W.H a = none
/-- .. gives what a slot may hold -/
def EX (te : TE) (sd : List Sl) (k : Sl → List Sl → Prop) : Prop := ∀ (W : Wd) (σ : L2.St), Cnf K W σ sd → ∀ Q : VK, (∀ v s F sd' W', Stp W W' → Cnf K W' σ sd' → SlOk K W'.H W'.S (some v) F s → NewF W W' F → k s sd' → Q v W'.H) → te σ W.H Q
def ArOk (W : Wd) (σ : L2.St) (v : V) : Ar → Prop
  | .dat d => Den K W.S v d
  | .sl i => σ[i]? = some (some v)
def ArsOk (W : Wd) (σ : L2.St) (vs : List V) (as : List Ar) : Prop := vs.length = as.length ∧ ∀ (i : Nat) (v : V) (a : Ar), vs[i]? = some v → as[i]? = some a → ArOk K W σ v a
def EA (ta : TA) (sd : List Sl) (k : List Ar → List Sl → Prop) : Prop := ∀ (W : Wd) (σ : L2.St), Cnf K W σ sd → ∀ Q : List V → Hp → Prop, (∀ vs as sd' W', Stp W W' → Cnf K W' σ sd' → ArsOk K W' σ vs as → k as sd' → Q vs W'.H) → ta σ W.H Q
def EAr (te : TE) (sd : List Sl) (k : Ar → List Sl → Prop) : Prop := ∀ (W : Wd) (σ : L2.St), Cnf K W σ sd → ∀ Q : VK, (∀ v a sd' W', Stp W W' → Cnf K W' σ sd' → ArOk K W' σ v a → k a sd' → Q v W'.H) → te σ W.H Q

class LE (te : TE) (de : outParam DTE) : Prop where
  up : ∀ {sd : List Sl} {k : DK}, de sd k → ED K te sd k
class LT (te : TT) (de : outParam DTT) : Prop where
  up : ∀ {sd : List Sl} {k : Bool → List Sl → Prop}, de sd k → ET K te sd k
class LL (te : TA) (de : outParam DTL) : Prop where
  up : ∀ {sd : List Sl} {k : List D → List Sl → Prop}, de sd k → EL K te sd k
class LX (te : TE) (de : outParam DTX) : Prop where
  up : ∀ {sd : List Sl} {k : Sl → List Sl → Prop}, de sd k → EX K te sd k
class LA (te : TA) (de : outParam DTA) : Prop where
  up : ∀ {sd : List Sl} {k : List Ar → List Sl → Prop}, de sd k → EA K te sd k
class LAr (te : TE) (de : outParam (List Sl → (Ar → List Sl → Prop) → Prop)) : Prop where
  up : ∀ {sd : List Sl} {k : Ar → List Sl → Prop}, de sd k → EAr K te sd k
/-- a value that is the data d whatever the heap -/
class LV (v : V) (d : outParam D) : Prop where
  up : ∀ S, Den K S v d
/-- an operation on two values, on one, on a list of them -/
def RD2 (r : R2) (x y : D) (k : D → Prop) : Prop := ∀ (W : Wd) (σ : L2.St) (sd : List Sl) (v u : V), Cnf K W σ sd → Den K W.S v x → Den K W.S u y → ∀ Q : VK, (∀ w d W', Stp W W' → Cnf K W' σ sd → Den K W'.S w d → k d → Q w W'.H) → r v u W.H Q
def RD1 (r : V → Hp → VK → Prop) (x : D) (k : D → Prop) : Prop := ∀ (W : Wd) (σ : L2.St) (sd : List Sl) (v : V), Cnf K W σ sd → Den K W.S v x → ∀ Q : VK, (∀ w d W', Stp W W' → Cnf K W' σ sd → Den K W'.S w d → k d → Q w W'.H) → r v W.H Q
def RDL (r : List V → Hp → VK → Prop) (xs : List D) (k : D → Prop) : Prop := ∀ (W : Wd) (σ : L2.St) (sd : List Sl) (vs : List V), Cnf K W σ sd → Dens K W.S vs xs → ∀ Q : VK, (∀ w d W', Stp W W' → Cnf K W' σ sd → Den K W'.S w d → k d → Q w W'.H) → r vs W.H Q
class LR2 (r : R2) (f : outParam (D → D → (D → Prop) → Prop)) : Prop where
  up : ∀ {x y : D} {k : D → Prop}, f x y k → RD2 K r x y k
class LR1 (r : V → Hp → VK → Prop) (f : outParam (D → (D → Prop) → Prop)) : Prop where
  up : ∀ {x : D} {k : D → Prop}, f x k → RD1 K r x k
class LRL (r : List V → Hp → VK → Prop) (f : outParam (List D → (D → Prop) → Prop)) : Prop where
  up : ∀ {xs : List D} {k : D → Prop}, f xs k → RDL K r xs k
end

section
variable [Amb] {K : PySem.W.Frag}
omit [Amb] in
theorem Cnf0.at {K : PySem.W.Frag} {W : Wd} {σ : L2.St} {sd : List Sl} {i : Nat} {s : Sl} (C : Cnf0 K W σ sd) (h : sd[i]? = some s) : ∃ v F, σ[i]? = some v ∧ W.Fs[i]? = some F ∧ SlOk K W.H W.S v F s := by
  have hi : i < sd.length := (List.getElem?_eq_some_iff.mp h).1
  have h1 : i < σ.length := by rw [C.l1]; exact hi
  have h2 : i < W.Fs.length := by rw [C.l2]; exact hi
  exact ⟨σ[i], W.Fs[i], List.getElem?_eq_getElem h1, List.getElem?_eq_getElem h2, C.ok i s _ _ h (List.getElem?_eq_getElem h1) (List.getElem?_eq_getElem h2)⟩
theorem Cnf.dat {W : Wd} {σ : L2.St} {sd : List Sl} {i : Nat} {x : D} (C : Cnf K W σ sd) (h : sd[i]? = some (.d x)) : ∃ v, σ[i]? = some (some v) ∧ Den K W.S v x := by
  obtain ⟨v, F, h1, _, _, u, rfl, h2⟩ := C.at h
  exact ⟨u, h1, h2⟩
/-! ### names, constants -/
def dVar (i : Nat) : DTE := fun sd k => ∃ x, sd[i]? = some (.d x) ∧ k x sd
instance le_var {i : Nat} : LE K (tVar i) (dVar i) := ⟨fun ⟨x, h, hk⟩ W σ C Q q => by
  obtain ⟨v, h1, h2⟩ := C.dat h
  exact ⟨v, h1, q v x _ W (Stp.refl W) C h2 hk⟩⟩
def dC (d : D) : DTE := fun sd k => k d sd
instance le_c {v : V} {d : D} [l : LV K v d] : LE K (tC v) (dC d) := ⟨fun h W σ C Q q => q v d _ W (Stp.refl W) C (l.up W.S) h⟩
instance lv_non : LV K .non .non := ⟨fun _ => .non⟩
instance lv_bl {b : Bool} : LV K (.bl b) (.bl b) := ⟨fun _ => .bl b⟩
instance lv_int {i : Int} : LV K (.int i) (.int i) := ⟨fun _ => .int i⟩
instance lv_str {x : Str} : LV K (.str x) (.str x) := ⟨fun _ => .str x⟩
/-! ### operators -/
def dOp (f : D → D → (D → Prop) → Prop) (da db : DTE) : DTE := fun sd k => da sd fun x sd1 => db sd1 fun y sd2 => f x y fun z => k z sd2
instance le_op {r : R2} {f : D → D → (D → Prop) → Prop} {ta tb : TE} {da db : DTE} [a : LE K ta da] [b : LE K tb db] [o : LR2 K r f] : LE K (tOp r ta tb) (dOp f da db) := ⟨fun h W σ C Q q =>
  a.up h W σ C _ fun v x sd1 W1 s1 C1 n1 h1 => b.up h1 W1 σ C1 _ fun u y sd2 W2 s2 C2 n2 h2 => o.up h2 W2 σ sd2 v u C2 (n1.mono s2.st) n2 Q fun w d W3 s3 C3 n3 h3 => q w d sd2 W3 (s1.trans (s2.trans s3)) C3 n3 h3⟩
def dUn (f : D → (D → Prop) → Prop) (da : DTE) : DTE := fun sd k => da sd fun x sd1 => f x fun z => k z sd1
instance le_un {r : V → Hp → VK → Prop} {f : D → (D → Prop) → Prop} {ta : TE} {da : DTE} [a : LE K ta da] [o : LR1 K r f] : LE K (tUn r ta) (dUn f da) := ⟨fun h W σ C Q q =>
  a.up h W σ C _ fun v x sd1 W1 s1 C1 n1 h1 => o.up h1 W1 σ sd1 v C1 n1 Q fun w d W3 s3 C3 n3 h3 => q w d sd1 W3 (s1.trans s3) C3 n3 h3⟩
/-! ### argument lists of data; displays -/
def dNil : DTL := fun sd k => k [] sd
def dCons (da : DTE) (dr : DTL) : DTL := fun sd k => da sd fun x sd1 => dr sd1 fun xs sd2 => k (x :: xs) sd2
instance ll_nil : LL K tNil dNil := ⟨fun h W σ C Q q => q [] [] _ W (Stp.refl W) C .nil h⟩
instance ll_cons {ta : TE} {tr : TA} {da : DTE} {dr : DTL} [a : LE K ta da] [r : LL K tr dr] : LL K (tCons ta tr) (dCons da dr) := ⟨fun h W σ C Q q =>
  a.up h W σ C _ fun v x sd1 W1 s1 C1 n1 h1 => r.up h1 W1 σ C1 _ fun vs xs sd2 W2 s2 C2 n2 h2 => q (v :: vs) (x :: xs) sd2 W2 (s1.trans s2) C2 (.cons (n1.mono s2.st) n2) h2⟩
omit [Amb] in
theorem sz_ok {n : Nat} (h : n ≤ 1000000) : n ≤ sizeLine := Nat.le_trans h (by decide)
omit [Amb] in
theorem sz_lt {n : Nat} (h : n < 1000000) : n < sizeLine := Nat.lt_of_lt_of_le h (by decide)
theorem free_S {W : Wd} {σ : L2.St} {sd : List Sl} (C : Cnf K W σ sd) {p : Addr} (h : W.H p = none) : W.S p = none := by
  cases q : W.S p with
  | none => rfl
  | some u => rw [C.sub _ _ q] at h; cases h
/-- a new tuple, a new list, of data -/
theorem new_tup {W : Wd} {σ : L2.St} {sd : List Sl} (C : Cnf K W σ sd) {p : Addr} {vs : List V} {ds : List D} (hp : W.H p = none) (n : Dens K W.S vs ds) : Den K (W.lay p (.tup vs)).S (.ref p) (.tup ds) :=
  .mkT upd_same (n.mono (same_upd (free_S C hp)))
theorem new_lst {W : Wd} {σ : L2.St} {sd : List Sl} (C : Cnf K W σ sd) {p : Addr} {vs : List V} {ds : List D} (hp : W.H p = none) (n : Dens K W.S vs ds) : Den K (W.lay p (.lst vs)).S (.ref p) (.lst ds) :=
  .mkL upd_same (n.mono (same_upd (free_S C hp)))
def dTup (dl : DTL) : DTE := fun sd k => dl sd fun xs sd1 => xs.length ≤ 1000000 ∧ k (.tup xs) sd1
instance le_tup {ta : TA} {dl : DTL} [a : LL K ta dl] : LE K (tTup ta) (dTup dl) := ⟨fun h W σ C Q q =>
  a.up h W σ C _ fun vs xs sd1 W1 s1 C1 n1 ⟨hz, h1⟩ => ⟨by rw [n1.1]; exact sz_ok hz, fun p hp => q (.ref p) _ sd1 (W1.lay p (.tup vs)) (s1.trans (Stp.lay C1.toCnf0 hp)) (C1.lay hp) (new_tup C1 hp n1) h1⟩⟩
def dLst (dl : DTL) : DTE := fun sd k => dl sd fun xs sd1 => xs.length ≤ 1000000 ∧ k (.lst xs) sd1
instance le_lst {ta : TA} {dl : DTL} [a : LL K ta dl] : LE K (tLst ta) (dLst dl) := ⟨fun h W σ C Q q =>
  a.up h W σ C _ fun vs xs sd1 W1 s1 C1 n1 ⟨hz, h1⟩ => ⟨by rw [n1.1]; exact sz_ok hz, fun p hp => q (.ref p) _ sd1 (W1.lay p (.lst vs)) (s1.trans (Stp.lay C1.toCnf0 hp)) (C1.lay hp) (new_lst C1 hp n1) h1⟩⟩
/-! ### a new owned object -/
/-- a new object, not stable -/
def Wd.put (W : Wd) (p : Addr) (o : HO) : Wd := ⟨upd W.H p o, W.S, W.Fs⟩
omit [Amb] in
theorem Stp.put {W : Wd} {p : Addr} {o : HO} (h : W.H p = none) : Stp W (W.put p o) :=
  ⟨fun a u _ e => same_upd h a u e, fun _ _ e => e, fun a _ _ h2 => h2, fun a h => .inl h, fun a h1 => by
    show upd W.H p o a ≠ none
    rw [upd_ne (fun z => h1 (by rw [z]; exact h))]; exact h1⟩
omit [Amb] in
theorem Cnf0.put {K : PySem.W.Frag} {W : Wd} {σ : L2.St} {sd : List Sl} {p : Addr} {o : HO} (C : Cnf0 K W σ sd) (h : W.H p = none) : Cnf0 K (W.put p o) σ sd := by
  have hf : ∀ a, W.fp a → a ≠ p := fun a ha z => C.there a ha (by rw [z]; exact h)
  refine ⟨fun a u e => same_upd h a u (C.sub a u e), C.l1, C.l2, fun i s v F h1 h2 h3 => (C.ok i s v F h1 h2 h3).stay (fun a ha => upd_ne (hf a ⟨i, F, h3, ha⟩)) (fun _ _ e => e), fun a ha => (Stp.put h).dom a (C.there a ha), C.out, C.dj⟩
theorem Cnf.put {W : Wd} {σ : L2.St} {sd : List Sl} {p : Addr} {o : HO} (C : Cnf K W σ sd) (h : W.H p = none) : Cnf K (W.put p o) σ sd := C.then (Stp.put h) (C.toCnf0.put h)
theorem newF_put {W W1 : Wd} {σ : L2.St} {sd : List Sl} {p : Addr} {o : HO} (s : Stp W W1) (C : Cnf K W1 σ sd) (h : W1.H p = none) : NewF W (W1.put p o) [p] := by
  have e0 : W.H p = none := by
    cases q : W.H p with
    | none => rfl
    | some u => exact absurd h (s.dom p (by rw [q]; simp))
  refine ⟨fun a ha hf => ?_, fun a ha => ?_, fun a ha => ?_, fun a ha => ?_⟩
  all_goals
    have e : a = p := by simpa using ha
    subst e
  · exact C.there a hf h
  · show upd W1.H a o a ≠ none
    rw [upd_same]; simp
  · exact free_S C h
  · exact .inr e0
/-- [..], to be kept as data or as an owned list -/
def xLst (dl : DTL) : DTX := fun sd k => dl sd fun xs sd1 => xs.length ≤ 1000000 ∧ (k (.d (.lst xs)) sd1 ∨ ∀ p, k (.own p (.lst xs)) sd1)
omit [Amb] in
theorem newF_nil {W W' : Wd} : NewF W W' [] := ⟨fun _ h => (by simp at h), fun _ h => (by simp at h), fun _ h => (by simp at h), fun _ h => (by simp at h)⟩
theorem fresh_lst {W W1 : Wd} {σ : L2.St} {sd1 : List Sl} {Q : VK} {k : Sl → List Sl → Prop} {vs : List V} {xs : List D} {p : Addr} (s1 : Stp W W1) (C1 : Cnf K W1 σ sd1) (n1 : Dens K W1.S vs xs) (hp : W1.H p = none)
    (q : ∀ v s F sd' W', Stp W W' → Cnf K W' σ sd' → SlOk K W'.H W'.S (some v) F s → NewF W W' F → k s sd' → Q v W'.H) (h1 : k (.d (.lst xs)) sd1 ∨ ∀ p, k (.own p (.lst xs)) sd1) : Q (.ref p) (upd W1.H p (.lst vs)) := by
  rcases h1 with h1 | h1
  · exact q (.ref p) (.d (.lst xs)) [] sd1 (W1.lay p (.lst vs)) (s1.trans (Stp.lay C1.toCnf0 hp)) (C1.lay hp) ⟨rfl, _, rfl, new_lst C1 hp n1⟩ newF_nil h1
  · exact q (.ref p) (.own p (.lst xs)) [p] sd1 (W1.put p (.lst vs)) (s1.trans (Stp.put hp)) (C1.put hp) ⟨rfl, rfl, vs, upd_same, n1⟩ (newF_put s1 C1 hp) (h1 p)
instance lx_lst {ta : TA} {dl : DTL} [a : LL K ta dl] : LX K (tLst ta) (xLst dl) := ⟨fun h W σ C Q q =>
  a.up h W σ C _ fun vs xs sd1 W1 s1 C1 n1 ⟨hz, h1⟩ => ⟨by rw [n1.1]; exact sz_ok hz, fun p hp => fresh_lst s1 C1 n1 hp q h1⟩⟩
/-! ### tests -/
def dTest (da : DTE) : DTT := fun sd k => da sd fun x sd1 => ∃ b, x = .bl b ∧ k b sd1
omit [Amb] in
theorem den_bl {S : Hp} {v : V} {b : Bool} (h : Den K S v (.bl b)) : v = .bl b := by cases h; rfl
omit [Amb] in
theorem den_int {S : Hp} {v : V} {b : Int} (h : Den K S v (.int b)) : v = .int b := by cases h; rfl
omit [Amb] in
theorem den_str {S : Hp} {v : V} {b : Str} (h : Den K S v (.str b)) : v = .str b := by cases h; rfl
instance lt_test {ta : TE} {da : DTE} [a : LE K ta da] : LT K (tTest ta) (dTest da) := ⟨fun h W σ C Q q =>
  a.up h W σ C _ fun v x sd1 W1 s1 C1 n1 ⟨b, e, h1⟩ => by
    subst e
    exact ⟨b, den_bl n1, q b sd1 W1 s1 C1 h1⟩⟩
instance lt_B {ta : TE} {da : DTE} [a : LE K ta da] : LT K (tB ta) (dTest da) := ⟨fun h W σ C Q q =>
  a.up h W σ C _ fun v x sd1 W1 s1 C1 n1 ⟨b, e, h1⟩ => by
    subst e
    exact ⟨b, den_bl n1, q b sd1 W1 s1 C1 h1⟩⟩
def dAnd (t u : DTT) : DTT := fun sd k => t sd fun c sd1 => if c = true then u sd1 k else k false sd1
def dOr (t u : DTT) : DTT := fun sd k => t sd fun c sd1 => if c = true then k true sd1 else u sd1 k
def dNot (t : DTT) : DTT := fun sd k => t sd fun c sd1 => k (!c) sd1
instance lt_and {t u : TT} {dt du : DTT} [a : LT K t dt] [b : LT K u du] : LT K (tAnd t u) (dAnd dt du) := ⟨fun h W σ C Q q =>
  a.up h W σ C _ fun c sd1 W1 s1 C1 h1 => by
    cases c with
    | true => exact b.up h1 W1 σ C1 Q fun c2 sd2 W2 s2 C2 h2 => q c2 sd2 W2 (s1.trans s2) C2 h2
    | false => exact q false sd1 W1 s1 C1 h1⟩
instance lt_or {t u : TT} {dt du : DTT} [a : LT K t dt] [b : LT K u du] : LT K (tOr t u) (dOr dt du) := ⟨fun h W σ C Q q =>
  a.up h W σ C _ fun c sd1 W1 s1 C1 h1 => by
    cases c with
    | false => exact b.up h1 W1 σ C1 Q fun c2 sd2 W2 s2 C2 h2 => q c2 sd2 W2 (s1.trans s2) C2 h2
    | true => exact q true sd1 W1 s1 C1 h1⟩
instance lt_not {t : TT} {dt : DTT} [a : LT K t dt] : LT K (tNot t) (dNot dt) := ⟨fun h W σ C Q q => a.up h W σ C _ fun c sd1 W1 s1 C1 h1 => q _ sd1 W1 s1 C1 h1⟩
def dAndV (da db : DTE) : DTE := fun sd k => da sd fun x sd1 => ∃ c, x = .bl c ∧ if c = true then db sd1 k else k (.bl false) sd1
def dOrV (da db : DTE) : DTE := fun sd k => da sd fun x sd1 => ∃ c, x = .bl c ∧ if c = true then k (.bl true) sd1 else db sd1 k
def dNotV (da : DTE) : DTE := fun sd k => da sd fun x sd1 => ∃ c, x = .bl c ∧ k (.bl (!c)) sd1
instance le_andV {ta tb : TE} {da db : DTE} [a : LE K ta da] [b : LE K tb db] : LE K (tAndV ta tb) (dAndV da db) := ⟨fun h W σ C Q q =>
  a.up h W σ C _ fun v x sd1 W1 s1 C1 n1 ⟨c, e, h1⟩ => by
    subst e
    refine ⟨c, den_bl n1, ?_⟩
    cases c with
    | true => exact b.up h1 W1 σ C1 Q fun u y sd2 W2 s2 C2 n2 h2 => q u y sd2 W2 (s1.trans s2) C2 n2 h2
    | false => exact q _ _ sd1 W1 s1 C1 (.bl false) h1⟩
instance le_orV {ta tb : TE} {da db : DTE} [a : LE K ta da] [b : LE K tb db] : LE K (tOrV ta tb) (dOrV da db) := ⟨fun h W σ C Q q =>
  a.up h W σ C _ fun v x sd1 W1 s1 C1 n1 ⟨c, e, h1⟩ => by
    subst e
    refine ⟨c, den_bl n1, ?_⟩
    cases c with
    | false => exact b.up h1 W1 σ C1 Q fun u y sd2 W2 s2 C2 n2 h2 => q u y sd2 W2 (s1.trans s2) C2 n2 h2
    | true => exact q _ _ sd1 W1 s1 C1 (.bl true) h1⟩
instance le_notV {ta : TE} {da : DTE} [a : LE K ta da] : LE K (tNotV ta) (dNotV da) := ⟨fun h W σ C Q q =>
  a.up h W σ C _ fun v x sd1 W1 s1 C1 n1 ⟨c, e, h1⟩ => by
    subst e
    exact ⟨c, den_bl n1, q _ _ sd1 W1 s1 C1 (.bl _) h1⟩⟩
def dIf (dt : DTT) (da db : DTE) : DTE := fun sd k => dt sd fun c sd1 => if c = true then da sd1 k else db sd1 k
instance le_if {t : TT} {ta tb : TE} {dt : DTT} {da db : DTE} [c : LT K t dt] [a : LE K ta da] [b : LE K tb db] : LE K (tIf t ta tb) (dIf dt da db) := ⟨fun h W σ C Q q =>
  c.up h W σ C _ fun c sd1 W1 s1 C1 h1 => by
    cases c with
    | true => exact a.up h1 W1 σ C1 Q fun u y sd2 W2 s2 C2 n2 h2 => q u y sd2 W2 (s1.trans s2) C2 n2 h2
    | false => exact b.up h1 W1 σ C1 Q fun u y sd2 W2 s2 C2 n2 h2 => q u y sd2 W2 (s1.trans s2) C2 n2 h2⟩
def isNon : D → Bool
  | .non => true
  | _ => false
omit [Amb] in
theorem isNon_den {S : Hp} {v : V} {x : D} (h : Den K S v x) : decide (v = .non) = isNon x := by
  cases h <;> first | rfl | simp [isNon]
def dIsN (da : DTE) : DTE := fun sd k => da sd fun x sd1 => k (.bl (isNon x)) sd1
def dNotN (da : DTE) : DTE := fun sd k => da sd fun x sd1 => k (.bl (!isNon x)) sd1
instance le_isN {ta : TE} {da : DTE} [a : LE K ta da] : LE K (tIsN ta) (dIsN da) := ⟨fun h W σ C Q q =>
  a.up h W σ C _ fun v x sd1 W1 s1 C1 n1 h1 => q _ _ sd1 W1 s1 C1 (by rw [isNon_den n1]; exact .bl _) h1⟩
instance le_notN {ta : TE} {da : DTE} [a : LE K ta da] : LE K (tNotN ta) (dNotN da) := ⟨fun h W σ C Q q =>
  a.up h W σ C _ fun v x sd1 W1 s1 C1 n1 h1 => q _ _ sd1 W1 s1 C1 (by rw [isNon_den n1]; exact .bl _) h1⟩
/-- a < b < c -/
def dChain (f f' : D → D → (D → Prop) → Prop) (da db dc : DTE) : DTE := fun sd k => da sd fun x sd1 => db sd1 fun y sd2 => f x y fun z => ∃ b, z = .bl b ∧ if b = true then dc sd2 fun w sd3 => f' y w fun z2 => k z2 sd3 else k (.bl false) sd2
instance le_chain {r r' : R2} {f f' : D → D → (D → Prop) → Prop} {ta tb tc : TE} {da db dc : DTE} [a : LE K ta da] [b : LE K tb db] [c : LE K tc dc] [o : LR2 K r f] [o' : LR2 K r' f'] : LE K (tChain r r' ta tb tc) (dChain f f' da db dc) := ⟨fun h W σ C Q q =>
  a.up h W σ C _ fun v x sd1 W1 s1 C1 n1 h1 => b.up h1 W1 σ C1 _ fun u y sd2 W2 s2 C2 n2 h2 => o.up h2 W2 σ sd2 v u C2 (n1.mono s2.st) n2 _ fun z d W3 s3 C3 n3 ⟨kb, e, h3⟩ => by
    subst e
    refine ⟨kb, den_bl n3, ?_⟩
    cases kb with
    | false => exact q _ _ sd2 W3 (s1.trans (s2.trans s3)) C3 (.bl false) h3
    | true => exact c.up h3 W3 σ C3 _ fun w' y' sd4 W4 s4 C4 n4 h4 => o'.up h4 W4 σ sd4 u w' C4 (n2.mono (s3.st.trans s4.st)) n4 Q fun w d W5 s5 C5 n5 h5 => q w d sd4 W5 (s1.trans (s2.trans (s3.trans (s4.trans s5)))) C5 n5 h5⟩
end
end Dl
set_option Elab.async false
set_option linter.all false
set_option maxRecDepth 100000
namespace Dl
open PySem PySem.Spec L2

/-! ### data as PyData; == -/
mutual
def py : D → PyData
  | .non => .none
  | .bl b => .bool b
  | .int i => .int i
  | .str x => .str x
  | .tup xs => .tuple (pyL xs)
  | .lst xs => .list (pyL xs)
  | .kt xs => .tuple (pyL xs)
  | .fz _ => .dict []
  | .dk _ => .dict []
  | .obj _ _ => .dict []
def pyL : List D → List PyData
  | [] => []
  | x :: xs => py x :: pyL xs
end
theorem pyL_get : ∀ (xs : List D) (i : Nat), (pyL xs)[i]? = xs[i]?.map py
  | [], i => by simp [pyL]
  | x :: xs, 0 => by simp [pyL]
  | x :: xs, i + 1 => by simp [pyL, pyL_get xs i]
theorem pyL_map (xs : List D) : pyL xs = xs.map py := by
  induction xs with
  | nil => rfl
  | cons x xs ih => rw [pyL, ih]; rfl
theorem canLayAll_get : ∀ {ds : List PyData} {i : Nat} {d : PyData}, PyData.canLayAll0 ds = true → ds[i]? = some d → d.canLay0 = true
  | [], i, d, h, e => by simp at e
  | x :: xs, 0, d, h, e => by
    simp at e; subst e
    simp [PyData.canLayAll0] at h
    exact h.1
  | x :: xs, i + 1, d, h, e => by
    simp [PyData.canLayAll0] at h
    exact canLayAll_get h.2 (by simpa using e)
theorem dpAll_of {K : PySem.W.Frag} {H : Hp} : ∀ (vs : List V) (ds : List PyData), vs.length = ds.length → (∀ (i : Nat) v d, vs[i]? = some v → ds[i]? = some d → Dp K H v d) → DpAll K H vs ds
  | [], [], _, _ => .nil
  | [], _ :: _, h, _ => by simp at h
  | _ :: _, [], h, _ => by simp at h
  | v :: vs, d :: ds, h, k => .cons (k 0 v d rfl rfl) (dpAll_of vs ds (by simpa using h) fun i x y a b => k (i + 1) x y (by simpa using a) (by simpa using b))
theorem den_dp {K : PySem.W.Frag} {S H : Hp} {v : V} {d : D} (e : Same S H) (h : Den K S v d) : (py d).canLay0 = true → Dp K H v (py d) := by
  induction h with
  | non => intro _; simp only [py]; exact .non
  | bl b => intro _; simp only [py]; exact .bl b
  | int i => intro _; simp only [py]; exact .int i
  | str x => intro _; simp only [py]; exact .str x
  | @tup a xs ds h hl hx ih =>
    intro c
    simp only [py] at c ⊢
    simp only [PyData.canLay0] at c
    refine .tup (.of (e _ _ h)) (dpAll_of xs _ (by rw [pyL_map, List.length_map]; exact hl) fun i v y h1 h2 => ?_)
    have h3 := h2
    rw [pyL_get] at h2
    cases q : ds[i]? with
    | none => rw [q] at h2; cases h2
    | some d =>
      rw [q] at h2
      have h2' : py d = y := Option.some.inj h2
      subst h2'
      exact ih i v d h1 q (canLayAll_get c h3)
  | @lst a xs ds h hl hx ih =>
    intro c
    simp only [py] at c ⊢
    simp only [PyData.canLay0] at c
    refine .lst (.of (e _ _ h)) (dpAll_of xs _ (by rw [pyL_map, List.length_map]; exact hl) fun i v y h1 h2 => ?_)
    have h3 := h2
    rw [pyL_get] at h2
    cases q : ds[i]? with
    | none => rw [q] at h2; cases h2
    | some d =>
      rw [q] at h2
      have h2' : py d = y := Option.some.inj h2
      subst h2'
      exact ih i v d h1 q (canLayAll_get c h3)
  | @kt a xs ds h hl hx ih =>
    intro c
    simp only [py] at c ⊢
    simp only [PyData.canLay0] at c
    refine .tup (h H) (dpAll_of xs _ (by rw [pyL_map, List.length_map]; exact hl) fun i v y h1 h2 => ?_)
    have h3 := h2
    rw [pyL_get] at h2
    cases q : ds[i]? with
    | none => rw [q] at h2; cases h2
    | some d =>
      rw [q] at h2
      have h2' : py d = y := Option.some.inj h2
      subst h2'
      exact ih i v d h1 q (canLayAll_get c h3)
  | dk h hl hx ih => intro c; simp only [py] at c; simp [PyData.canLay0] at c
  | fz h hl hx ih => intro c; simp only [py] at c; simp [PyData.canLay0] at c
  | obj h hl hx ih => intro c; simp only [py] at c; simp [PyData.canLay0] at c
def shp (d : D) : Prop := SeqAt.shaped (py d) = true
def eqD (x y : D) : Bool := PyData.eqv (py x) (py y)
def scalD : D → Bool
  | .non => true
  | .bl _ => true
  | .int _ => true
  | .str _ => true
  | _ => false
/-- the scalars whose == is plain: not a bool beside an int -/
def scal2 : D → D → Bool
  | .bl _, .int _ => false
  | .int _, .bl _ => false
  | x, y => scalD x && scalD y
def okEq (x y : D) : Prop := scal2 x y = true ∨ (shp x ∧ shp y)
def rEqX (K : PySem.W.Frag) : R2 := fun x y H Q => rEq x y H Q ∨ rEqD K x y H Q
def rNeX (K : PySem.W.Frag) : R2 := fun x y H Q => rNe x y H Q ∨ rNeD K x y H Q
theorem op_eqX {X : Cx} (hu : X.A.units + 64 < cLine) : OpR X (compareOp .Eq) (rEqX X.K) := op_eq.or (op_eqD hu)
theorem op_neX {X : Cx} (hu : X.A.units + 64 < cLine) : OpR X (compareOp .NotEq) (rNeX X.K) := op_ne.or (op_neD hu)
section
variable [Amb] {K : PySem.W.Frag}
omit [Amb] in
theorem scal_of {S : Hp} {v u : V} {x y : D} (a : Den K S v x) (b : Den K S u y) (h : scal2 x y = true) : scal v u = true ∧ decide (v = u) = eqD x y := by
  cases a <;> cases b <;> simp [scal2, scalD] at h <;> refine ⟨by simp [scal], ?_⟩ <;> simp [eqD, py, PyData.eqv] <;> first | rfl | (try (rw [Bool.eq_iff_iff]; simp))
def fEq : D → D → (D → Prop) → Prop := fun x y k => okEq x y ∧ k (.bl (eqD x y))
def fNe : D → D → (D → Prop) → Prop := fun x y k => okEq x y ∧ k (.bl (!eqD x y))
instance lr_eq : LR2 K (rEqX K) fEq := ⟨fun ⟨h, hk⟩ W σ sd v u C a b Q q => by
  rcases h with h | ⟨h1, h2⟩
  · obtain ⟨e1, e2⟩ := scal_of a b h
    exact .inl ⟨e1, by rw [e2]; exact q _ _ W (Stp.refl W) C (.bl _) hk⟩
  · exact .inr ⟨_, _, den_dp C.sub a (SeqAt.canLay_of_shaped h1), den_dp C.sub b (SeqAt.canLay_of_shaped h2), h1, h2, q _ _ W (Stp.refl W) C (.bl _) hk⟩⟩
instance lr_ne : LR2 K (rNeX K) fNe := ⟨fun ⟨h, hk⟩ W σ sd v u C a b Q q => by
  rcases h with h | ⟨h1, h2⟩
  · obtain ⟨e1, e2⟩ := scal_of a b h
    exact .inl ⟨e1, by rw [e2]; exact q _ _ W (Stp.refl W) C (.bl _) hk⟩
  · exact .inr ⟨_, _, den_dp C.sub a (SeqAt.canLay_of_shaped h1), den_dp C.sub b (SeqAt.canLay_of_shaped h2), h1, h2, q _ _ W (Stp.refl W) C (.bl _) hk⟩⟩
/-! ### ints -/
def fI0 (g : Int → Int → D) : D → D → (D → Prop) → Prop
  | .int i, .int j, k => k (g i j)
  | _, _, _ => False
def fI (c : Int → Int → Prop) (g : Int → Int → D) : D → D → (D → Prop) → Prop
  | .int i, .int j, k => c i j ∧ k (g i j)
  | _, _, _ => False
omit [Amb] in
theorem fI0_inv {g : Int → Int → D} {x y : D} {k : D → Prop} (h : fI0 g x y k) : ∃ i j, x = .int i ∧ y = .int j ∧ k (g i j) := by
  cases x <;> cases y <;> first | exact ⟨_, _, rfl, rfl, h⟩ | exact h.elim
omit [Amb] in
theorem fI_inv {c : Int → Int → Prop} {g : Int → Int → D} {x y : D} {k : D → Prop} (h : fI c g x y k) : ∃ i j, x = .int i ∧ y = .int j ∧ c i j ∧ k (g i j) := by
  cases x <;> cases y <;> first | exact ⟨_, _, rfl, rfl, h⟩ | exact h.elim
instance lr_I0 {g : Int → Int → V} {gd : Int → Int → D} [l : ∀ i j, LV K (g i j) (gd i j)] : LR2 K (rI0 g) (fI0 gd) := ⟨fun h W σ sd v u C a b Q q => by
  obtain ⟨i, j, rfl, rfl, hk⟩ := fI0_inv h
  exact ⟨i, j, den_int a, den_int b, q _ _ W (Stp.refl W) C ((l i j).up _) hk⟩⟩
instance lr_I {c : Int → Int → Prop} {g : Int → Int → V} {gd : Int → Int → D} [l : ∀ i j, LV K (g i j) (gd i j)] : LR2 K (rI c g) (fI c gd) := ⟨fun h W σ sd v u C a b Q q => by
  obtain ⟨i, j, rfl, rfl, hc, hk⟩ := fI_inv h
  exact ⟨i, j, den_int a, den_int b, hc, q _ _ W (Stp.refl W) C ((l i j).up _) hk⟩⟩
def fU (g : Int → D) : D → (D → Prop) → Prop
  | .int i, k => k (g i)
  | _, _ => False
instance lr_U {g : Int → V} {gd : Int → D} [l : ∀ i, LV K (g i) (gd i)] : LR1 K (rU g) (fU gd) := ⟨fun {x k} h W σ sd v C a Q q => by
  cases x <;> first | exact h.elim | exact ⟨_, den_int a, q _ _ W (Stp.refl W) C ((l _).up _) h⟩⟩
/-! ### + of ints, tuples, lists, texts -/
def rAddX (K : PySem.W.Frag) : R2 := fun x y H Q => rI0 (fun i j => .int (i + j)) x y H Q ∨ rCatA K x y H Q ∨ rCat x y H Q ∨ (∃ i j, x = .str i ∧ y = .str j ∧ i.length + j.length ≤ sizeLine ∧ Q (.str (i ++ j)) H)
omit [Amb] in
theorem op_addX {X : Cx} : OpR X (binaryOp .Add) (rAddX X.K) := op_add.or (op_catA.or (op_cat.or op_add_str))
def fAdd : D → D → (D → Prop) → Prop
  | .int i, .int j, k => k (.int (i + j))
  | .tup xs, .tup ys, k => xs.length + ys.length ≤ 1000000 ∧ k (.tup (xs ++ ys))
  | .lst xs, .lst ys, k => xs.length + ys.length ≤ 1000000 ∧ k (.lst (xs ++ ys))
  | .str x, .str y, k => x.length + y.length ≤ 1000000 ∧ k (.str (x ++ y))
  | _, _, _ => False
instance lr_add : LR2 K (rAddX K) fAdd := ⟨fun {x y k} h W σ sd v u C a b Q q => by
  cases x <;> cases y <;> try exact h.elim
  case int.int i j => exact .inl ⟨i, j, den_int a, den_int b, q _ _ W (Stp.refl W) C (.int _) h⟩
  case tup.tup ds es =>
    obtain ⟨a1, xs, rfl, h1, n1⟩ := a.tup_inv
    obtain ⟨b1, ys, rfl, h2, n2⟩ := b.tup_inv
    obtain ⟨hz, hk⟩ := h
    refine .inr (.inl ⟨a1, b1, xs, ys, rfl, rfl, sqT_mono C.sub h1, sqT_mono C.sub h2, by rw [n1.1, n2.1]; exact sz_ok hz, fun e => ?_, fun _ e => ?_, fun _ _ p hp => ?_⟩)
    · subst e
      have e2 : ds = [] := List.length_eq_zero_iff.mp n1.1.symm
      subst e2
      exact q _ _ W (Stp.refl W) C b hk
    · subst e
      have e2 : es = [] := List.length_eq_zero_iff.mp n2.1.symm
      subst e2
      rw [List.append_nil] at hk
      exact q _ _ W (Stp.refl W) C a hk
    · exact q (.ref p) _ (W.lay p (.tup (xs ++ ys))) (Stp.lay C.toCnf0 hp) (C.lay hp) (new_tup C hp (n1.append n2)) hk
  case lst.lst ds es =>
    obtain ⟨a1, xs, rfl, h1, n1⟩ := a.lst_inv
    obtain ⟨b1, ys, rfl, h2, n2⟩ := b.lst_inv
    obtain ⟨hz, hk⟩ := h
    exact .inr (.inr (.inl ⟨a1, b1, xs, ys, rfl, rfl, C.sub _ _ h1, C.sub _ _ h2, by rw [n1.1, n2.1]; exact sz_ok hz, fun p hp => q (.ref p) _ (W.lay p (.lst (xs ++ ys))) (Stp.lay C.toCnf0 hp) (C.lay hp) (new_lst C hp (n1.append n2)) hk⟩))
  case str.str x y =>
    obtain ⟨hz, hk⟩ := h
    exact .inr (.inr (.inr ⟨x, y, den_str a, den_str b, sz_ok hz, q _ _ W (Stp.refl W) C (.str _) hk⟩))⟩
/-! ### * -/
def rMulX (K : PySem.W.Frag) : R2 := fun x y H Q => rI CMul (fun i j => .int (i * j)) x y H Q ∨ rRepT K x y H Q ∨ rRep x y H Q
omit [Amb] in
theorem op_mulX {X : Cx} : OpR X (binaryOp .Mult) (rMulX X.K) := op_mul.or (op_repT.or op_rep)
def fMul : D → D → (D → Prop) → Prop
  | .int i, .int j, k => CMul i j ∧ k (.int (i * j))
  | .tup xs, .int j, k => xs ≠ [] ∧ 2 ≤ j ∧ j ≤ 1000 ∧ xs.length ≤ 1000 ∧ k (.tup (List.replicate j.toNat xs).flatten)
  | .lst xs, .int j, k => -1000 ≤ j ∧ j ≤ 1000 ∧ xs.length ≤ 1000 ∧ k (.lst (List.replicate j.toNat xs).flatten)
  | _, _, _ => False
omit [Amb] in
theorem dens_rep {S : Hp} {vs : List V} {ds : List D} (h : Dens K S vs ds) : ∀ n : Nat, Dens K S (List.replicate n vs).flatten (List.replicate n ds).flatten
  | 0 => Dens.nil
  | n + 1 => by
    rw [List.replicate_succ, List.replicate_succ, List.flatten_cons, List.flatten_cons]
    exact h.append (dens_rep h n)
instance lr_mul : LR2 K (rMulX K) fMul := ⟨fun {x y k} h W σ sd v u C a b Q q => by
  cases x <;> cases y <;> try exact h.elim
  case int.int i j => exact .inl ⟨i, j, den_int a, den_int b, h.1, q _ _ W (Stp.refl W) C (.int _) h.2⟩
  case tup.int ds j =>
    obtain ⟨a1, xs, rfl, h1, n1⟩ := a.tup_inv
    obtain ⟨c0, c1, c2, c3, hk⟩ := h
    refine .inr (.inl ⟨a1, j, xs, rfl, den_int b, sqT_mono C.sub h1, fun e => ?_, c1, c2, by rw [n1.1]; exact c3, fun p hp => q (.ref p) _ (W.lay p _) (Stp.lay C.toCnf0 hp) (C.lay hp) (new_tup C hp (dens_rep n1 _)) hk⟩)
    subst e
    exact c0 (List.length_eq_zero_iff.mp n1.1.symm)
  case lst.int ds j =>
    obtain ⟨a1, xs, rfl, h1, n1⟩ := a.lst_inv
    obtain ⟨c1, c2, c3, hk⟩ := h
    refine .inr (.inr ⟨a1, j, xs, rfl, den_int b, C.sub _ _ h1, by omega, by omega, ?_, fun p hp => q (.ref p) _ (W.lay p _) (Stp.lay C.toCnf0 hp) (C.lay hp) (new_lst C hp (dens_rep n1 _)) hk⟩)
    rw [n1.1]
    exact Nat.le_trans (Nat.mul_le_mul c3 (by omega : j.toNat ≤ 1000)) (by decide)⟩
/-! ### subscripts -/
def fIx : D → D → (D → Prop) → Prop
  | .tup xs, .int i, k => ∃ z, atI xs i = some z ∧ k z
  | .lst xs, .int i, k => ∃ z, atI xs i = some z ∧ k z
  | .str x, .int i, k => x.length ≤ 1000000 ∧ ∃ c, atI x.cps.toList i = some c ∧ k (.str ⟨#[c]⟩)
  | _, _, _ => False
omit [Amb] in
theorem atI_dens {S : Hp} {vs : List V} {ds : List D} (h : Dens K S vs ds) {i : Int} {z : D} (e : atI ds i = some z) : ∃ v, atI vs i = some v ∧ Den K S v z := by
  unfold atI at e ⊢
  rw [h.1]
  cases q : ixN ds.length i with
  | none => rw [q] at e; cases e
  | some j =>
    rw [q] at e
    obtain ⟨v, h1, h2⟩ := h.get (show ds[j]? = some z from e)
    exact ⟨v, h1, h2⟩
instance lr_ix : LR2 K (rIx K) fIx := ⟨fun {x y k} h W σ sd v u C a b Q q => by
  cases x <;> cases y <;> try exact h.elim
  case tup.int ds i =>
    obtain ⟨a1, xs, rfl, h1, n1⟩ := a.tup_inv
    obtain ⟨z, hz, hk⟩ := h
    obtain ⟨w, e, n⟩ := atI_dens n1 hz
    exact .inr (.inl ⟨a1, xs, i, w, rfl, den_int b, sqT_mono C.sub h1, e, q _ _ W (Stp.refl W) C n hk⟩)
  case lst.int ds i =>
    obtain ⟨a1, xs, rfl, h1, n1⟩ := a.lst_inv
    obtain ⟨z, hz, hk⟩ := h
    obtain ⟨w, e, n⟩ := atI_dens n1 hz
    exact .inl ⟨a1, xs, i, w, rfl, den_int b, .of (C.sub _ _ h1), e, q _ _ W (Stp.refl W) C n hk⟩
  case str.int x i =>
    obtain ⟨hz, c, hc, hk⟩ := h
    exact .inr (.inr ⟨x, i, c, den_str a, den_int b, sz_ok hz, hc, q _ _ W (Stp.refl W) C (.str _) hk⟩)⟩
/-! ### in, flat -/
def rInX (K : PySem.W.Frag) (neg : Bool) : R2 := rIn K neg
def flatD : D → Bool := scalD
omit [Amb] in
theorem flat_den {S : Hp} {v : V} {x : D} (h : Den K S v x) : flatV v = flatD x := by cases h <;> rfl
omit [Amb] in
theorem eqV_den {S : Hp} {v u : V} {x y : D} (a : Den K S v x) (b : Den K S u y) : eqV v u = (flatD x && flatD y && eqD x y) := by
  cases a <;> cases b <;> first | rfl | simp [eqV, flatD, scalD, eqD, py, PyData.eqv]
def inD (x : D) (xs : List D) : Bool := xs.any fun y => eqD y x
omit [Amb] in
theorem inV_den {S : Hp} {v : V} {x : D} (a : Den K S v x) (fx : flatD x = true) : ∀ {vs : List V} {ds : List D}, Dens K S vs ds → ds.all flatD = true → inV v vs = inD x ds
  | [], [], _, _ => rfl
  | [], _ :: _, h, _ => by have := h.1; simp at this
  | _ :: _, [], h, _ => by have := h.1; simp at this
  | u :: vs, d :: ds, h, hf => by
    rw [List.all_cons, Bool.and_eq_true] at hf
    have ih := inV_den a fx h.tail hf.2
    unfold inV at ih
    unfold inD at ih
    unfold inV inD
    rw [List.any_cons, List.any_cons, ih, eqV_den h.head a, hf.1, fx]
    simp
omit [Amb] in
theorem flats_den {S : Hp} : ∀ {vs : List V} {ds : List D}, Dens K S vs ds → ds.all flatD = true → vs.all flatV = true
  | [], [], _, _ => rfl
  | [], _ :: _, h, _ => by have := h.1; simp at this
  | _ :: _, [], h, _ => by have := h.1; simp at this
  | u :: vs, d :: ds, h, hf => by
    rw [List.all_cons, Bool.and_eq_true] at hf
    rw [List.all_cons, flat_den h.head, hf.1, flats_den h.tail hf.2]
    rfl
def fIn (neg : Bool) : D → D → (D → Prop) → Prop
  | x, .kt ys, k => flatD x = true ∧ ys.all flatD = true ∧ k (.bl (if neg then !inD x ys else inD x ys))
  | x, .tup ys, k => flatD x = true ∧ ys.all flatD = true ∧ k (.bl (if neg then !inD x ys else inD x ys))
  | x, .lst ys, k => flatD x = true ∧ ys.all flatD = true ∧ k (.bl (if neg then !inD x ys else inD x ys))
  | _, _, _ => False
instance lr_in {neg : Bool} : LR2 K (rIn K neg) (fIn neg) := ⟨fun {x y k} h W σ sd v u C a b Q q => by
  cases y <;> try exact h.elim
  case kt ys =>
    obtain ⟨b1, us, rfl, h1, n1⟩ := b.kt_inv
    obtain ⟨f1, f2, hk⟩ := (show flatD x = true ∧ ys.all flatD = true ∧ k (.bl (if neg then !inD x ys else inD x ys)) from h)
    refine ⟨b1, us, rfl, .inr (h1 _), by rw [flat_den a]; exact f1, flats_den n1 f2, ?_⟩
    rw [inV_den a f1 n1 f2]
    exact q _ _ W (Stp.refl W) C (.bl _) hk
  case tup ys =>
    obtain ⟨b1, us, rfl, h1, n1⟩ := b.tup_inv
    obtain ⟨f1, f2, hk⟩ := (show flatD x = true ∧ ys.all flatD = true ∧ k (.bl (if neg then !inD x ys else inD x ys)) from h)
    refine ⟨b1, us, rfl, .inr (sqT_mono C.sub h1), by rw [flat_den a]; exact f1, flats_den n1 f2, ?_⟩
    rw [inV_den a f1 n1 f2]
    exact q _ _ W (Stp.refl W) C (.bl _) hk
  case lst ys =>
    obtain ⟨b1, us, rfl, h1, n1⟩ := b.lst_inv
    obtain ⟨f1, f2, hk⟩ := (show flatD x = true ∧ ys.all flatD = true ∧ k (.bl (if neg then !inD x ys else inD x ys)) from h)
    refine ⟨b1, us, rfl, .inl (.of (C.sub _ _ h1)), by rw [flat_den a]; exact f1, flats_den n1 f2, ?_⟩
    rw [inV_den a f1 n1 f2]
    exact q _ _ W (Stp.refl W) C (.bl _) hk⟩
/-! ### calls of built-ins on data -/
def dCB (f : List D → (D → Prop) → Prop) (dl : DTL) : DTE := fun sd k => dl sd fun xs sd1 => f xs fun z => k z sd1
instance le_CB {r : List V → Hp → VK → Prop} {f : List D → (D → Prop) → Prop} {ta : TA} {dl : DTL} [a : LL K ta dl] [o : LRL K r f] : LE K (tCB r ta) (dCB f dl) := ⟨fun h W σ C Q q =>
  a.up h W σ C _ fun vs xs sd1 W1 s1 C1 n1 h1 => o.up h1 W1 σ sd1 vs C1 n1 Q fun w d W3 s3 C3 n3 h3 => q w d sd1 W3 (s1.trans s3) C3 n3 h3⟩
omit [Amb] in
theorem dens1 {S : Hp} {vs : List V} {d : D} (h : Dens K S vs [d]) : ∃ v, vs = [v] ∧ Den K S v d := by
  match vs, h with
  | [v], h => exact ⟨v, rfl, h.head⟩
  | [], h => have := h.1; simp at this
  | _ :: _ :: _, h => have := h.1; simp at this
omit [Amb] in
theorem dens2 {S : Hp} {vs : List V} {d e : D} (h : Dens K S vs [d, e]) : ∃ v u, vs = [v, u] ∧ Den K S v d ∧ Den K S u e := by
  match vs, h with
  | [v, u], h => exact ⟨v, u, rfl, h.head, h.tail.head⟩
  | [], h => have := h.1; simp at this
  | [_], h => have := h.1; simp at this
  | _ :: _ :: _ :: _, h => have := h.1; simp at this
/-- len -/
def rLenX (K : PySem.W.Frag) : List V → Hp → VK → Prop := fun xs H Q => (∃ x n, xs = [x] ∧ LenV K x H n ∧ Q (.int n) H) ∨ (∃ a kvs, xs = [V.ref a] ∧ H a = some (.dK kvs) ∧ Q (.int kvs.length) H) ∨ rLenT xs H Q
omit [Amb] in
theorem call_lenX {X : Cx} : CallR X (.builtin "len") (rLenX X.K) := call_len.or (call_lenD.or call_len_dT)
def fLen : List D → (D → Prop) → Prop
  | [.kt xs], k => k (.int xs.length)
  | [.tup xs], k => k (.int xs.length)
  | [.lst xs], k => k (.int xs.length)
  | [.dk xs], k => k (.int xs.length)
  | [.str x], k => x.length ≤ 1000000 ∧ k (.int x.length)
  | _, _ => False
instance lr_len : LRL K (rLenX K) fLen := ⟨fun {xs k} h W σ sd vs C n Q q => by
  match xs, h with
  | [.kt ds], h =>
    obtain ⟨v, rfl, hv⟩ := dens1 n
    obtain ⟨a, ws, rfl, h1, n1⟩ := hv.kt_inv
    exact .inl ⟨_, ws.length, rfl, .inr ⟨ws, h1 _, rfl⟩, q _ _ W (Stp.refl W) C (.int _) (by rw [n1.1]; exact h)⟩
  | [.tup ds], h =>
    obtain ⟨v, rfl, hv⟩ := dens1 n
    obtain ⟨a, ws, rfl, h1, n1⟩ := hv.tup_inv
    exact .inl ⟨_, ws.length, rfl, .inr ⟨ws, sqT_mono C.sub h1, rfl⟩, q _ _ W (Stp.refl W) C (.int _) (by rw [n1.1]; exact h)⟩
  | [.lst ds], h =>
    obtain ⟨v, rfl, hv⟩ := dens1 n
    obtain ⟨a, ws, rfl, h1, n1⟩ := hv.lst_inv
    exact .inl ⟨_, ws.length, rfl, .inl ⟨ws, .of (C.sub _ _ h1), rfl⟩, q _ _ W (Stp.refl W) C (.int _) (by rw [n1.1]; exact h)⟩
  | [.dk ds], h =>
    obtain ⟨v, rfl, hv⟩ := dens1 n
    cases hv with
    | @dk a kvs _ h1 hl hx =>
      have e : kvs.length = ds.length := by have := congrArg List.length hl; simpa using this
      exact .inr (.inl ⟨a, kvs, rfl, C.sub _ _ h1, q _ _ W (Stp.refl W) C (.int _) (by rw [e]; exact h)⟩)
  | [.str x], h =>
    obtain ⟨v, rfl, hv⟩ := dens1 n
    have e := den_str hv
    subst e
    exact .inl ⟨_, x.length, rfl, ⟨sz_ok h.1, rfl⟩, q _ _ W (Stp.refl W) C (.int _) h.2⟩⟩
/-- int(i), int(b) -/
def rInt1 : List V → Hp → VK → Prop := fun xs H Q => (∃ i, xs = [.int i] ∧ Q (.int i) H) ∨ ∃ k, xs = [.bl k] ∧ Q (.int (if k then 1 else 0)) H
omit [Amb] in
theorem call_intX {X : Cx} : CallR X (.type "int") rInt1 := call_int1
def fInt1 : List D → (D → Prop) → Prop
  | [.int i], k => k (.int i)
  | [.bl b], k => k (.int (if b then 1 else 0))
  | _, _ => False
instance lr_int1 : LRL K rInt1 fInt1 := ⟨fun {xs k} h W σ sd vs C n Q q => by
  match xs, h with
  | [.int i], h =>
    obtain ⟨v, rfl, hv⟩ := dens1 n
    exact .inl ⟨i, by rw [den_int hv], q _ _ W (Stp.refl W) C (.int _) h⟩
  | [.bl b], h =>
    obtain ⟨v, rfl, hv⟩ := dens1 n
    exact .inr ⟨b, by rw [den_bl hv], q _ _ W (Stp.refl W) C (.int _) h⟩⟩
/-- max, min of two ints -/
def rMax2 : List V → Hp → VK → Prop := fun xs H Q => ∃ i j, xs = [.int i, .int j] ∧ Q (.int (if j > i then j else i)) H
def rMin2 : List V → Hp → VK → Prop := fun xs H Q => ∃ i j, xs = [.int i, .int j] ∧ Q (.int (if j < i then j else i)) H
omit [Amb] in
theorem call_maxX {X : Cx} (hc : X.calm = true) : CallR X (.builtin "max") rMax2 := call_max2 hc
omit [Amb] in
theorem call_minX {X : Cx} (hc : X.calm = true) : CallR X (.builtin "min") rMin2 := call_min2 hc
def fMax2 : List D → (D → Prop) → Prop
  | [.int i, .int j], k => k (.int (if j > i then j else i))
  | _, _ => False
def fMin2 : List D → (D → Prop) → Prop
  | [.int i, .int j], k => k (.int (if j < i then j else i))
  | _, _ => False
instance lr_max2 : LRL K rMax2 fMax2 := ⟨fun {xs k} h W σ sd vs C n Q q => by
  match xs, h with
  | [.int i, .int j], h =>
    obtain ⟨v, u, rfl, hv, hu⟩ := dens2 n
    exact ⟨i, j, by rw [den_int hv, den_int hu], q _ _ W (Stp.refl W) C (.int _) h⟩⟩
instance lr_min2 : LRL K rMin2 fMin2 := ⟨fun {xs k} h W σ sd vs C n Q q => by
  match xs, h with
  | [.int i, .int j], h =>
    obtain ⟨v, u, rfl, hv, hu⟩ := dens2 n
    exact ⟨i, j, by rw [den_int hv, den_int hu], q _ _ W (Stp.refl W) C (.int _) h⟩⟩
/-- tuple(xs), list(xs) -/
def rTupOf (K : PySem.W.Frag) : List V → Hp → VK → Prop := fun xs H Q => ∃ p ys, xs = [.ref p] ∧ ((SqL K H p ys ∧ ∀ l, H l = none → Q (.ref l) (upd H l (.tup ys))) ∨ (SqT K H p ys ∧ Q (.ref p) H))
omit [Amb] in
theorem call_tupX {X : Cx} : CallR X (.type "tuple") (rTupOf X.K) := call_tuple_of
def fTupOf : List D → (D → Prop) → Prop
  | [.tup xs], k => k (.tup xs)
  | [.lst xs], k => k (.tup xs)
  | _, _ => False
instance lr_tupOf : LRL K (rTupOf K) fTupOf := ⟨fun {xs k} h W σ sd vs C n Q q => by
  match xs, h with
  | [.tup ds], h =>
    obtain ⟨v, rfl, hv⟩ := dens1 n
    obtain ⟨a, ws, rfl, h1, n1⟩ := hv.tup_inv
    exact ⟨a, ws, rfl, .inr ⟨sqT_mono C.sub h1, q _ _ W (Stp.refl W) C hv h⟩⟩
  | [.lst ds], h =>
    obtain ⟨v, rfl, hv⟩ := dens1 n
    obtain ⟨a, ws, rfl, h1, n1⟩ := hv.lst_inv
    exact ⟨a, ws, rfl, .inl ⟨.of (C.sub _ _ h1), fun l hl => q (.ref l) _ (W.lay l (.tup ws)) (Stp.lay C.toCnf0 hl) (C.lay hl) (new_tup C hl n1) h⟩⟩⟩
def rLstOf (K : PySem.W.Frag) : List V → Hp → VK → Prop := fun xs H Q => ∃ p ys, xs = [.ref p] ∧ (SqL K H p ys ∨ SqT K H p ys) ∧ ∀ l, H l = none → Q (.ref l) (upd H l (.lst ys))
omit [Amb] in
theorem call_lstX {X : Cx} : CallR X (.type "list") (rLstOf X.K) := call_list_of
def fLstOf : List D → (List D → Prop) → Prop
  | [.fz xs], k => k xs
  | [.tup xs], k => k xs
  | [.lst xs], k => k xs
  | _, _ => False
theorem seq_den {W : Wd} {σ : L2.St} {sd : List Sl} {vs : List V} {xs : List D} {k : List D → Prop} (C : Cnf K W σ sd) (n : Dens K W.S vs xs) (h : fLstOf xs k) : ∃ p ws ds, vs = [.ref p] ∧ (SqL K W.H p ws ∨ SqT K W.H p ws) ∧ Dens K W.S ws ds ∧ k ds := by
  match xs, h with
  | [.fz ds], h =>
    obtain ⟨v, rfl, hv⟩ := dens1 n
    obtain ⟨a, ws, rfl, h1, n1⟩ := hv.fz_inv
    exact ⟨a, ws, ds, rfl, .inl (C.sub.seq h1), n1, h⟩
  | [.tup ds], h =>
    obtain ⟨v, rfl, hv⟩ := dens1 n
    obtain ⟨a, ws, rfl, h1, n1⟩ := hv.tup_inv
    exact ⟨a, ws, ds, rfl, .inr (sqT_mono C.sub h1), n1, h⟩
  | [.lst ds], h =>
    obtain ⟨v, rfl, hv⟩ := dens1 n
    obtain ⟨a, ws, rfl, h1, n1⟩ := hv.lst_inv
    exact ⟨a, ws, ds, rfl, .inl (.of (C.sub _ _ h1)), n1, h⟩
instance lr_lstOf : LRL K (rLstOf K) (fun xs k => fLstOf xs fun ys => k (.lst ys)) := ⟨fun {xs k} h W σ sd vs C n Q q => by
  obtain ⟨p, ws, ds, rfl, hs, n1, hk⟩ := seq_den C n h
  exact ⟨p, ws, rfl, hs, fun l hl => q (.ref l) _ (W.lay l (.lst ws)) (Stp.lay C.toCnf0 hl) (C.lay hl) (new_lst C hl n1) hk⟩⟩
def xLstOf (dl : DTL) : DTX := fun sd k => dl sd fun xs sd1 => fLstOf xs fun ys => k (.d (.lst ys)) sd1 ∨ ∀ p, k (.own p (.lst ys)) sd1
instance lx_lstOf {ta : TA} {dl : DTL} [a : LL K ta dl] : LX K (tCB (rLstOf K) ta) (xLstOf dl) := ⟨fun h W σ C Q q =>
  a.up h W σ C _ fun vs xs sd1 W1 s1 C1 n1 h1 => by
    obtain ⟨p, ws, ds, rfl, hs, n2, hk⟩ := seq_den C1 n1 h1
    exact ⟨p, ws, rfl, hs, fun l hl => fresh_lst s1 C1 n2 hl q hk⟩⟩
/-- all, any of bools -/
def bools : List D → Option (List Bool)
  | [] => some []
  | .bl b :: r => (bools r).map (b :: ·)
  | _ :: _ => none
omit [Amb] in
theorem bools_den {S : Hp} : ∀ {vs : List V} {ds : List D} {bs : List Bool}, Dens K S vs ds → bools ds = some bs → vs = bs.map V.bl
  | [], [], _, _, h => by simp [bools] at h; subst h; rfl
  | [], _ :: _, _, h, _ => by have := h.1; simp at this
  | _ :: _, [], _, h, _ => by have := h.1; simp at this
  | v :: vs, d :: ds, bs, n, h => by
    cases d <;> simp [bools] at h
    obtain ⟨r, h1, rfl⟩ := h
    rw [den_bl n.head, bools_den n.tail h1]
    rfl
def fAll : List D → (D → Prop) → Prop
  | [.lst xs], k => ∃ bs, bools xs = some bs ∧ k (.bl (bs.all id))
  | _, _ => False
instance lr_all : LRL K (rAll K) fAll := ⟨fun {xs k} h W σ sd vs C n Q q => by
  match xs, h with
  | [.lst ds], ⟨bs, hb, hk⟩ =>
    obtain ⟨v, rfl, hv⟩ := dens1 n
    obtain ⟨a, ws, rfl, h1, n1⟩ := hv.lst_inv
    have e := bools_den n1 hb
    subst e
    exact ⟨a, bs, rfl, .of (C.sub _ _ h1), q _ _ W (Stp.refl W) C (.bl _) hk⟩⟩
/-! ### slices -/
abbrev DTO := List Sl → (Option Int → List Sl → Prop) → Prop
class LO (K : PySem.W.Frag) (t : TO) (d : outParam DTO) : Prop where
  up : ∀ {sd : List Sl} {k : Option Int → List Sl → Prop}, d sd k → ∀ (W : Wd) (σ : L2.St), Cnf K W σ sd → ∀ Q : Option Int → Hp → Prop, (∀ o sd' W', Stp W W' → Cnf K W' σ sd' → k o sd' → Q o W'.H) → t σ W.H Q
def dNoPart : DTO := fun sd k => k none sd
def dPart (da : DTE) : DTO := fun sd k => da sd fun x sd1 => ∃ i, x = .int i ∧ k (some i) sd1
instance lo_none : LO K tNoPart dNoPart := ⟨fun h W σ C Q q => q none _ W (Stp.refl W) C h⟩
instance lo_some {ta : TE} {da : DTE} [a : LE K ta da] : LO K (tPart ta) (dPart da) := ⟨fun h W σ C Q q => a.up h W σ C _ fun v x sd1 W1 s1 C1 n1 ⟨i, e, h1⟩ => by
  subst e
  exact ⟨i, den_int n1, q (some i) sd1 W1 s1 C1 h1⟩⟩
def cutD {α : Type} (xs : List α) (lo hi : Option Int) : List α := (xs.drop (HT.sIx xs.length 0 lo)).take (HT.sIx xs.length xs.length hi - HT.sIx xs.length 0 lo)
omit [Amb] in
theorem cut_dens {S : Hp} {vs : List V} {ds : List D} (h : Dens K S vs ds) (lo hi : Option Int) : Dens K S (cutV vs lo hi) (cutD ds lo hi) := by
  unfold cutV cutD
  rw [h.1]
  exact (h.drop _).take _
def rSlX (K : PySem.W.Frag) : V → Option Int → Option Int → Hp → VK → Prop := fun x lo hi H Q => rSlA K x lo hi H Q ∨ rSlL K x lo hi H Q
omit [Amb] in
theorem sl_X {X : Cx} : SlR X (rSlX X.K) := sl_tupA.or sl_list
def fSl : D → Option Int → Option Int → (D → Prop) → Prop
  | .tup xs, lo, hi, k => k (.tup (cutD xs lo hi))
  | .lst xs, lo, hi, k => k (.lst (cutD xs lo hi))
  | _, _, _, _ => False
omit [Amb] in
theorem cutD_whole {α : Type} {xs : List α} {lo hi : Option Int} (h : HT.sIx xs.length 0 lo = 0 ∧ HT.sIx xs.length xs.length hi = xs.length) : cutD xs lo hi = xs := by
  unfold cutD
  rw [h.1, h.2]
  simp
def dSl (da : DTE) (dl dh : DTO) : DTE := fun sd k => da sd fun x sd1 => dl sd1 fun l sd2 => dh sd2 fun u sd3 => fSl x l u fun z => k z sd3
instance le_sl {ta : TE} {tl th : TO} {da : DTE} {dl dh : DTO} [a : LE K ta da] [b : LO K tl dl] [c : LO K th dh] : LE K (tSl (rSlX K) ta tl th) (dSl da dl dh) := ⟨fun {sd0 k0} h W σ C Q q =>
  a.up h W σ C _ fun v x sd1 W1 s1 C1 n1 h1 => b.up h1 W1 σ C1 _ fun l sd2 W2 s2 C2 h2 => c.up h2 W2 σ C2 _ fun u sd3 W3 s3 C3 h3 => by
    have n3 := (n1.mono s2.st).mono s3.st
    have s := s1.trans (s2.trans s3)
    cases x <;> try exact (show False from h3).elim
    case tup ds =>
      obtain ⟨a1, xs, rfl, hx, n4⟩ := n3.tup_inv
      refine .inl ⟨a1, xs, rfl, sqT_mono C3.sub hx, fun e => ?_, fun _ p hp => ?_⟩
      · have e' := e
        rw [n4.1] at e'
        have h3' : k0 (.tup (cutD ds l u)) sd3 := h3
        rw [cutD_whole e'] at h3'
        exact q _ _ sd3 W3 s C3 n3 h3'
      · exact q (.ref p) _ sd3 (W3.lay p _) (s.trans (Stp.lay C3.toCnf0 hp)) (C3.lay hp) (new_tup C3 hp (cut_dens n4 l u)) h3
    case lst ds =>
      obtain ⟨a1, xs, rfl, hx, n4⟩ := n3.lst_inv
      exact .inr ⟨a1, xs, rfl, .of (C3.sub _ _ hx), fun p hp => q (.ref p) _ sd3 (W3.lay p _) (s.trans (Stp.lay C3.toCnf0 hp)) (C3.lay hp) (new_lst C3 hp (cut_dens n4 l u)) h3⟩⟩
end
end Dl
set_option Elab.async false
set_option linter.all false
set_option maxRecDepth 100000
namespace Dl
open PySem PySem.Spec L2

structure DEnds where
  nx : List Sl → Prop
  rt : Sl → List Sl → Prop
  bk : List Sl → Prop := fun _ => False
  ct : List Sl → Prop := fun _ => False
abbrev DTS := DEnds → List Sl → Prop
abbrev DTG := D → List Sl → (List Sl → Prop) → Prop
abbrev NewR := NewF
theorem NewR.nil {W W' : Wd} : NewR W W' [] := ⟨(fun _ h => nomatch h), (fun _ h => nomatch h), (fun _ h => nomatch h), (fun _ h => nomatch h)⟩
theorem none_back {W W1 : Wd} (s : Stp W W1) {a : Addr} (h : W1.H a = none) : W.H a = none := by
  cases q : W.H a with
  | none => rfl
  | some o => exact absurd h (s.dom a (by rw [q]; simp))
theorem NewF.back {W W1 W' : Wd} {F : List Addr} (s : Stp W W1) (h : NewR W1 W' F) : NewR W W' F := ⟨h.out, h.there, h.un, fun a ha => by
  rcases h.new a ha with z | z
  · exact s.fs a z
  · exact .inr (none_back s z)⟩
section
variable [Amb] (K : PySem.W.Frag)
structure SK (E : DEnds) (W : Wd) (Dn : Ends) : Prop where
  nx : ∀ σ' sd' W', Stp W W' → Cnf K W' σ' sd' → E.nx sd' → Dn.nx σ' W'.H
  rt : ∀ v s F σ' sd' W', Stp W W' → Cnf K W' σ' sd' → SlOk K W'.H W'.S (some v) F s → NewR W W' F → E.rt s sd' → Dn.rt v W'.H
  bk : ∀ σ' sd' W', Stp W W' → Cnf K W' σ' sd' → E.bk sd' → Dn.bk σ' W'.H
  ct : ∀ σ' sd' W', Stp W W' → Cnf K W' σ' sd' → E.ct sd' → Dn.ct σ' W'.H
def SD (ts : TS) (E : DEnds) (sd : List Sl) : Prop := ∀ (W : Wd) (σ : L2.St), Cnf K W σ sd → ∀ Dn : Ends, SK K E W Dn → ts Dn σ W.H
class LS (ts : TS) (ds : outParam DTS) : Prop where
  up : ∀ {E : DEnds} {sd : List Sl}, ds E sd → SD K ts E sd
def GD (g : TG) (x : D) (sd : List Sl) (k : List Sl → Prop) : Prop := ∀ (W : Wd) (σ : L2.St) (v : V), Cnf K W σ sd → Den K W.S v x → ∀ Q : L2.St → Hp → Prop, (∀ σ' sd' W', Stp W W' → Cnf K W' σ' sd' → k sd' → Q σ' W'.H) → g v σ W.H Q
class LG (g : TG) (dg : outParam DTG) : Prop where
  up : ∀ {x : D} {sd : List Sl} {k : List Sl → Prop}, dg x sd k → GD K g x sd k
class LGs (g : TGs) (dg : outParam (List D → List Sl → (List Sl → Prop) → Prop)) : Prop where
  up : ∀ {xs : List D} {sd : List Sl} {k : List Sl → Prop}, dg xs sd k → ∀ (W : Wd) (σ : L2.St) (vs : List V), Cnf K W σ sd → Dens K W.S vs xs → ∀ Q : L2.St → Hp → Prop, (∀ σ' sd' W', Stp W W' → Cnf K W' σ' sd' → k sd' → Q σ' W'.H) → g vs σ W.H Q
end
section
variable [Amb] {K : PySem.W.Frag}
theorem SK.mono {E : DEnds} {W W1 : Wd} {Dn : Ends} (s : Stp W W1) (k : SK K E W Dn) : SK K E W1 Dn :=
  ⟨fun σ' sd' W' s' C h => k.nx σ' sd' W' (s.trans s') C h, fun v r F σ' sd' W' s' C a b h => k.rt v r F σ' sd' W' (s.trans s') C a (b.back s) h, fun σ' sd' W' s' C h => k.bk σ' sd' W' (s.trans s') C h, fun σ' sd' W' s' C h => k.ct σ' sd' W' (s.trans s') C h⟩
/-! ### a slot set -/
def Wd.fs (W : Wd) (i : Nat) (F : List Addr) : Wd := { W with Fs := W.Fs.set i F }
omit [Amb] in
theorem fp_fs {W : Wd} {i : Nat} {F : List Addr} {a : Addr} (h : (W.fs i F).fp a) : W.fp a ∨ a ∈ F := by
  obtain ⟨j, G, hG, ha⟩ := h
  have hG' : (W.Fs.set i F)[j]? = some G := hG
  rw [List.getElem?_set] at hG'
  split at hG'
  · split at hG'
    · cases hG'; exact .inr ha
    · cases hG'
  · exact .inl ⟨j, G, hG', ha⟩
omit [Amb] in
theorem Cnf0.set {K : PySem.W.Frag} {W : Wd} {σ : L2.St} {sd : List Sl} {i : Nat} {v : Option V} {F : List Addr} {s : Sl} (C : Cnf0 K W σ sd) (h : SlOk K W.H W.S v F s) (h1 : ∀ a ∈ F, ¬ W.fp a) (h2 : ∀ a ∈ F, W.H a ≠ none) (h3 : ∀ a ∈ F, W.S a = none) :
    Cnf0 K (W.fs i F) (σ.set i v) (sd.set i s) := by
  refine ⟨C.sub, by simp [C.l1], by simp [Wd.fs, C.l2], fun j s' v' F' e1 e2 e3 => ?_, fun a ha => ?_, fun a ha => ?_, fun j j' G G' a hj e1 e2 ha => ?_⟩
  · have e3' : (W.Fs.set i F)[j]? = some F' := e3
    rw [List.getElem?_set] at e1 e2 e3'
    by_cases hij : i = j
    · rw [if_pos hij] at e1 e2 e3'
      split at e1
      · split at e2
        · split at e3'
          · cases e1; cases e2; cases e3'; exact h
          · cases e3'
        · cases e2
      · cases e1
    · rw [if_neg hij] at e1 e2 e3'
      exact C.ok j s' v' F' e1 e2 e3'
  · rcases fp_fs ha with z | z
    · exact C.there a z
    · exact h2 a z
  · rcases fp_fs ha with z | z
    · exact C.out a z
    · exact h3 a z
  · have e1' : (W.Fs.set i F)[j]? = some G := e1
    have e2' : (W.Fs.set i F)[j']? = some G' := e2
    rw [List.getElem?_set] at e1' e2'
    by_cases hij : i = j
    · rw [if_pos hij] at e1'
      rw [if_neg (fun z => hj (hij.symm.trans z))] at e2'
      split at e1'
      · cases e1'
        exact fun z => h1 a ha ⟨j', G', e2', z⟩
      · cases e1'
    · rw [if_neg hij] at e1'
      by_cases hij' : i = j'
      · rw [if_pos hij'] at e2'
        split at e2'
        · cases e2'
          exact fun z => h1 a z ⟨j, G, e1', ha⟩
        · cases e2'
      · rw [if_neg hij'] at e2'
        exact C.dj j j' G G' a hj e1' e2' ha
theorem Cnf.set {W : Wd} {σ : L2.St} {sd : List Sl} {i : Nat} {v : Option V} {F : List Addr} {s : Sl} (C : Cnf K W σ sd) (h : SlOk K W.H W.S v F s) (h1 : ∀ a ∈ F, ¬ W.fp a) (h2 : ∀ a ∈ F, W.H a ≠ none) (h3 : ∀ a ∈ F, W.S a = none) (h4 : ∀ a ∈ F, Amb.z.fp a ∨ Amb.z.H a = none) : Cnf K (W.fs i F) (σ.set i v) (sd.set i s) :=
  ⟨C.toCnf0.set h h1 h2 h3, ⟨C.past.big, C.past.st, C.past.fr, fun a ha => by
    rcases fp_fs ha with z | z
    · exact C.past.fs a z
    · exact h4 a z, C.past.dom⟩⟩
theorem Cnf.setN {W : Wd} {σ : L2.St} {sd : List Sl} {i : Nat} {v : Option V} {s : Sl} (C : Cnf K W σ sd) (h : SlOk K W.H W.S v [] s) : Cnf K (W.fs i []) (σ.set i v) (sd.set i s) :=
  C.set h (fun _ h => by simp at h) (fun _ h => by simp at h) (fun _ h => by simp at h) (fun _ h => by simp at h)
omit [Amb] in
theorem Stp.fsNil {W : Wd} {i : Nat} : Stp W (W.fs i []) := ⟨fun _ _ _ h => h, fun _ _ h => h, fun _ _ _ h => h, fun a h => by
  rcases fp_fs h with z | z
  · exact .inl z
  · simp at z, fun _ h => h⟩
omit [Amb] in
theorem Stp.fsNew {W W1 : Wd} {i : Nat} {F : List Addr} (s : Stp W W1) (n : NewF W W1 F) : Stp W (W1.fs i F) := ⟨s.big, s.st, s.fr, fun a h => by
  rcases fp_fs h with z | z
  · exact s.fs a z
  · exact n.new a z, s.dom⟩
theorem Cnf.setD {W : Wd} {σ : L2.St} {sd : List Sl} {i : Nat} {v : V} {x : D} (C : Cnf K W σ sd) (h : Den K W.S v x) : Cnf K (W.fs i []) (σ.set i (some v)) (sd.set i (.d x)) :=
  C.setN ⟨rfl, v, rfl, h⟩
/-! ### statements -/
abbrev dNext : DTS := fun E sd => E.nx sd
def dNever : DTS := fun _ _ => False
def dBreak : DTS := fun E sd => E.bk sd
def dCont : DTS := fun E sd => E.ct sd
def dRetN : DTS := fun E sd => E.rt (.d .non) sd
abbrev dSeq (t u : DTS) : DTS := fun E sd => t { E with nx := fun sd1 => u E sd1 } sd
abbrev dDrop (da : DTE) : DTS := fun E sd => da sd fun _ sd1 => E.nx sd1
def dIfS (dt : DTT) (a b : DTS) : DTS := fun E sd => dt sd fun c sd1 => if c = true then a E sd1 else b E sd1
instance ls_next : LS K tNext dNext := ⟨fun h W σ C Dn k => k.nx σ _ W (Stp.refl W) C h⟩
instance ls_never : LS K tNever dNever := ⟨fun h => h.elim⟩
instance ls_break : LS K tBreak dBreak := ⟨fun h W σ C Dn k => k.bk σ _ W (Stp.refl W) C h⟩
instance ls_cont : LS K tCont dCont := ⟨fun h W σ C Dn k => k.ct σ _ W (Stp.refl W) C h⟩
instance ls_retN : LS K tRetN dRetN := ⟨fun h W σ C Dn k => k.rt .non (.d .non) [] σ _ W (Stp.refl W) C ⟨rfl, _, rfl, .non⟩ NewR.nil h⟩
instance ls_seq {t u : TS} {dt du : DTS} [a : LS K t dt] [b : LS K u du] : LS K (tSeq t u) (dSeq dt du) := ⟨fun {E sd} h W σ C Dn k =>
  a.up h W σ C { Dn with nx := u Dn } ⟨fun σ' sd' W' s' C' h' => b.up h' W' σ' C' Dn (k.mono s'), k.rt, k.bk, k.ct⟩⟩
instance ls_drop {ta : TE} {da : DTE} [a : LE K ta da] : LS K (tDrop ta) (dDrop da) := ⟨fun h W σ C Dn k => a.up h W σ C _ fun v x sd1 W1 s1 C1 n1 h1 => k.nx σ sd1 W1 s1 C1 h1⟩
instance ls_if {c : TT} {t u : TS} {dc : DTT} {dt du : DTS} [x : LT K c dc] [a : LS K t dt] [b : LS K u du] : LS K (tIfS c t u) (dIfS dc dt du) := ⟨fun h W σ C Dn k =>
  x.up h W σ C _ fun c sd1 W1 s1 C1 h1 => by
    cases c with
    | true => exact a.up h1 W1 σ C1 Dn (k.mono s1)
    | false => exact b.up h1 W1 σ C1 Dn (k.mono s1)⟩
/-- return e -/
def dRet (da : DTE) : DTS := fun E sd => da sd fun x sd1 => E.rt (.d x) sd1
instance (priority := low) ls_ret {ta : TE} {da : DTE} [a : LE K ta da] : LS K (tRet ta) (dRet da) := ⟨fun h W σ C Dn k => a.up h W σ C _ fun v x sd1 W1 s1 C1 n1 h1 => k.rt v (.d x) [] σ sd1 W1 s1 C1 ⟨rfl, v, rfl, n1⟩ NewR.nil h1⟩
/-- an owned object made stable -/
def froz : OD → D → Prop
  | .lst xs, d => d = .lst xs
  | .dk kvs, d => d = .dk kvs
  | .ins C fs, d => d = .obj C fs
  | _, _ => False
def dRetV (i : Nat) : DTS := fun E sd => ∃ s, sd[i]? = some s ∧ match s with
  | .no => False
  | .d x => E.rt (.d x) sd
  | .own p o => (∃ d, froz o d ∧ E.rt (.d d) (sd.set i .no)) ∨ E.rt (.own p o) (sd.set i .no)
/-- the world with the object at p made stable -/
def Wd.fix (W : Wd) (p : Addr) (o : HO) : Wd := ⟨W.H, upd W.S p o, W.Fs⟩
omit [Amb] in
theorem froz_den {W : Wd} {p : Addr} {F : List Addr} {o : OD} {d : D} (h : OwnOk K W.H W.S p F o) (hS : ∀ a ∈ F, W.S a = none) (e : froz o d) : F = [p] ∧ ∃ u, W.H p = some u ∧ Den K (upd W.S p u) (.ref p) d := by
  cases o with
  | lst xs =>
    obtain ⟨rfl, vs, h1, h2⟩ := h
    cases (show d = _ from e)
    exact ⟨rfl, _, h1, .mkL upd_same (h2.mono (same_upd (hS p (by simp))))⟩
  | dk xs =>
    obtain ⟨rfl, vs, h1, h2⟩ := h
    cases (show d = _ from e)
    have m := h2.mono (same_upd (o := .dK vs) (hS p (by simp)))
    exact ⟨rfl, _, h1, .dk upd_same m.1 m.2⟩
  | dt _ => exact (show False from e).elim
  | ins C xs =>
    obtain ⟨rfl, dx, vs, h1, h2⟩ := h
    cases (show d = _ from e)
    have m := h2.mono (same_upd (o := .ins C dx vs) (hS p (by simp)))
    exact ⟨rfl, _, h1, .obj upd_same m.1 m.2⟩
  | ab _ => exact (show False from e).elim
/-- the slot i, owned, is given up: its object is told stable | handed on -/
theorem Cnf.give {W : Wd} {σ : L2.St} {sd : List Sl} {i : Nat} {p : Addr} {o : OD} (C : Cnf K W σ sd) (h : sd[i]? = some (.own p o)) : ∃ F, W.Fs[i]? = some F ∧ OwnOk K W.H W.S p F o ∧ Cnf K (W.fs i []) (σ.set i (some (.ref p))) (sd.set i .no) ∧ σ.set i (some (.ref p)) = σ ∧ (∀ a ∈ F, ¬ (W.fs i []).fp a) := by
  obtain ⟨v, F, h1, h2, rfl, h3⟩ := C.at h
  refine ⟨F, h2, h3, C.setN rfl, ?_, fun a ha z => ?_⟩
  · refine List.ext_getElem? fun j => ?_
    rw [List.getElem?_set]
    split
    · rename_i e
      subst e
      rw [if_pos (List.getElem?_eq_some_iff.mp h1).1, h1]
    · rfl
  · obtain ⟨j, G, hG, hb⟩ := z
    have hG' : (W.Fs.set i [])[j]? = some G := hG
    rw [List.getElem?_set] at hG'
    split at hG'
    · split at hG'
      · cases hG'; simp at hb
      · cases hG'
    · rename_i hij
      exact C.dj i j F G a hij h2 hG' ha hb
omit [Amb] in
theorem Cnf0.fix {K : PySem.W.Frag} {W : Wd} {σ : L2.St} {sd : List Sl} {p : Addr} {u : HO} (C : Cnf0 K W σ sd) (h : W.H p = some u) (hS : W.S p = none) (hf : ¬ W.fp p) : Cnf0 K (W.fix p u) σ sd := by
  refine ⟨fun a o e => ?_, C.l1, C.l2, fun i s v F h1 h2 h3 => (C.ok i s v F h1 h2 h3).stay (fun _ _ => rfl) (same_upd hS), C.there, fun a ha => ?_, C.dj⟩
  · have e' : upd W.S p u a = some o := e
    by_cases z : a = p
    · subst z
      rw [upd_same] at e'
      cases e'
      exact h
    · rw [upd_ne z] at e'
      exact C.sub a o e'
  · show upd W.S p u a = none
    rw [upd_ne (fun z => hf (by rw [← z]; exact ha))]
    exact C.out a ha
instance ls_retV {i : Nat} : LS K (tRet (tVar i)) (dRetV i) := ⟨fun {E sd} ⟨s, hs, h⟩ W σ C Dn k => by
  cases s with
  | no => exact h.elim
  | d x =>
    obtain ⟨v, h1, h2⟩ := C.dat hs
    exact ⟨v, h1, k.rt v (.d x) [] σ sd W (Stp.refl W) C ⟨rfl, v, rfl, h2⟩ NewR.nil h⟩
  | own p o =>
    obtain ⟨F, hF, ho, C1, hσ, hn⟩ := C.give hs
    obtain ⟨v, F', h1, h2, hv, _⟩ := C.at hs
    cases hv
    rw [hσ] at C1
    have fpF : ∀ a ∈ F, W.fp a := fun a ha => ⟨i, F, hF, ha⟩
    refine ⟨.ref p, h1, ?_⟩
    rcases h with ⟨d, hd, h⟩ | h
    · obtain ⟨rfl, u, hu, n⟩ := froz_den ho (fun a ha => C.out a (fpF a ha)) hd
      have hp : W.S p = none := C.out p (fpF p (by simp))
      have s1 : Stp W ((W.fs i []).fix p u) := ⟨fun _ _ _ e => e, same_upd hp, fun a hna _ e => by
        show upd W.S p u a = none
        rw [upd_ne (fun z => hna (by rw [z]; exact fpF p (by simp)))]
        exact e, fun a ha => Stp.fsNil.fs a ha, fun _ e => e⟩
      exact k.rt (.ref p) (.d d) [] σ _ ((W.fs i []).fix p u) s1 (C.then s1 (C1.toCnf0.fix hu hp (hn p (by simp)))) ⟨rfl, _, rfl, n⟩ NewR.nil h
    · exact k.rt (.ref p) (.own p o) F σ _ (W.fs i []) Stp.fsNil C1 ⟨rfl, ho⟩ ⟨hn, fun a ha => C.there a (fpF a ha), fun a ha => C.out a (fpF a ha), fun a ha => .inl (fpF a ha)⟩ h⟩
/-! ### targets, assignments -/
abbrev gdName (i : Nat) : DTG := fun x sd k => k (sd.set i (.d x))
instance lg_name {i : Nat} : LG K (gName i) (gdName i) := ⟨fun h W σ v C n Q q => q _ _ (W.fs i []) Stp.fsNil (C.setD n) h⟩
def gdNil : List D → List Sl → (List Sl → Prop) → Prop := fun xs sd k => xs = [] ∧ k sd
def gdCons (dg : DTG) (du : List D → List Sl → (List Sl → Prop) → Prop) : List D → List Sl → (List Sl → Prop) → Prop
  | x :: xs, sd, k => dg x sd fun sd1 => du xs sd1 k
  | [], _, _ => False
instance lgs_nil : LGs K gNil gdNil := ⟨fun ⟨e, h⟩ W σ vs C n Q q => by
  subst e
  have : vs = [] := List.length_eq_zero_iff.mp n.1
  subst this
  exact ⟨rfl, q σ _ W (Stp.refl W) C h⟩⟩
instance lgs_cons {t : TG} {u : TGs} {dg : DTG} {du : List D → List Sl → (List Sl → Prop) → Prop} [a : LG K t dg] [b : LGs K u du] : LGs K (gCons t u) (gdCons dg du) := ⟨fun {xs sd k} h W σ vs C n Q q => by
  match xs, vs, h, n with
  | [], _, h, _ => exact (show False from h).elim
  | x :: xs, [], _, n => have := n.1; simp at this
  | x :: xs, v :: vs, h, n => exact ⟨v, vs, rfl, a.up h W σ v C n.head _ fun σ' sd' W' s' C' h' => b.up h' W' σ' vs C' (n.tail.mono s'.st) Q fun σ2 sd2 W2 s2 C2 h2 => q σ2 sd2 W2 (s'.trans s2) C2 h2⟩⟩
def gdTup (n : Nat) (du : List D → List Sl → (List Sl → Prop) → Prop) : DTG
  | .tup xs, sd, k => xs.length = n ∧ du xs sd k
  | _, _, _ => False
instance lg_tup {n : Nat} {u : TGs} {du : List D → List Sl → (List Sl → Prop) → Prop} [a : LGs K u du] : LG K (gTup K n u) (gdTup n du) := ⟨fun {x sd k} h W σ v C nn Q q => by
  cases x <;> try exact (show False from h).elim
  case tup xs =>
    obtain ⟨a1, vs, rfl, h1, n1⟩ := nn.tup_inv
    exact ⟨a1, vs, rfl, sqT_mono C.sub h1, n1.1.trans h.1, a.up h.2 W σ vs C n1 Q q⟩⟩
abbrev dAsg (da : DTE) (dg : DTG) : DTS := fun E sd => da sd fun x sd1 => dg x sd1 E.nx
instance (priority := low) ls_asg {ta : TE} {g : TG} {da : DTE} {dg : DTG} [a : LE K ta da] [b : LG K g dg] : LS K (tAsg ta g) (dAsg da dg) := ⟨fun h W σ C Dn k =>
  a.up h W σ C _ fun v x sd1 W1 s1 C1 n1 h1 => b.up h1 W1 σ v C1 n1 _ fun σ' sd' W' s' C' h' => k.nx σ' sd' W' (s1.trans s') C' h'⟩
/-- x = e, e a new object: data, or owned -/
abbrev dAsgX (dx : DTX) (i : Nat) : DTS := fun E sd => dx sd fun s sd1 => E.nx (sd1.set i s)
instance ls_asgX {ta : TE} {i : Nat} {dx : DTX} [a : LX K ta dx] : LS K (tAsg ta (gName i)) (dAsgX dx i) := ⟨fun h W σ C Dn k =>
  a.up h W σ C _ fun v s F sd1 W1 s1 C1 n1 f1 h1 => k.nx _ _ (W1.fs i F) (s1.fsNew f1) (C1.set n1 f1.out f1.there f1.un fun a ha => C.newz (f1.new a ha)) h1⟩
/-- a, b = e1, e2 -/
def dPar (i j : Nat) (dl : DTL) : DTS := fun E sd => dl sd fun xs sd1 => ∃ x y, xs = [x, y] ∧ E.nx ((sd1.set i (.d x)).set j (.d y))
instance ls_par {i j : Nat} {ta : TA} {dl : DTL} [a : LL K ta dl] : LS K (tPar i j ta) (dPar i j dl) := ⟨fun h W σ C Dn k =>
  a.up h W σ C _ fun vs xs sd1 W1 s1 C1 n1 ⟨x, y, e, h1⟩ => by
    subst e
    obtain ⟨v, u, rfl, a1, a2⟩ := dens2 n1
    exact ⟨v, u, rfl, k.nx _ _ ((W1.fs i []).fs j []) (s1.trans (Stp.fsNil.trans Stp.fsNil)) ((C1.setD a1).setD a2) h1⟩⟩
/-! ### calls -/
def keepP : List Sl → List Sl → Prop
  | .own p _ :: as, .own q _ :: ss => p = q ∧ keepP as ss
  | .own _ _ :: _, _ => False
  | _ :: as, _ :: ss => keepP as ss
  | _ :: _, [] => False
  | [], _ => True
def outsOf : List Sl → List Sl → List Sl
  | .own _ _ :: as, s :: ss => s :: outsOf as ss
  | a :: as, _ :: ss => a :: outsOf as ss
  | _, _ => []
/-- a def's promise over data and owned arguments -/
def spD (K : PySem.W.Frag) (Φ : List Sl → (Sl → List Sl → Prop) → Prop) : Sp := fun vs H Q _ => ∃ (W : Wd) (args : List Sl) (k : Sl → List Sl → Prop), W.H = H ∧ Cnf0 K W (vs.map some) args ∧ Φ args k ∧
  ∀ v s F outs W', Stp W W' → Cnf0 K W' (vs.map some) outs → SlOk K W'.H W'.S (some v) F s → NewR W W' F → k s outs → Q v W'.H
def arSl (sd : List Sl) : Ar → Sl
  | .dat d => .d d
  | .sl i => sd.getD i .no
def arFs (Fs : List (List Addr)) : Ar → List Addr
  | .dat _ => []
  | .sl i => Fs.getD i []
def ownIx (as : List Ar) : List Nat := as.filterMap fun a => match a with
  | .sl i => some i
  | .dat _ => none
def putB {α : Type} : List α → List Ar → List α → List α
  | l, .sl i :: as, o :: os => putB (l.set i o) as os
  | l, .dat _ :: as, _ :: os => putB l as os
  | l, _, _ => l
omit [Amb] in
theorem putB_len {α : Type} : ∀ (l : List α) (as : List Ar) (os : List α), (putB l as os).length = l.length
  | l, [], _ => by unfold putB; rfl
  | l, .sl i :: as, [] => rfl
  | l, .dat _ :: as, [] => rfl
  | l, .sl i :: as, o :: os => by unfold putB; rw [putB_len, List.length_set]
  | l, .dat _ :: as, o :: os => by unfold putB; rw [putB_len]
omit [Amb] in
theorem putB_out {α : Type} {i : Nat} : ∀ {l : List α} {as : List Ar} {os : List α}, i ∉ ownIx as → (putB l as os)[i]? = l[i]?
  | l, [], _, _ => by unfold putB; rfl
  | l, .sl j :: as, [], _ => rfl
  | l, .dat _ :: as, [], _ => rfl
  | l, .sl j :: as, o :: os, h => by
    have h' : i ∉ j :: ownIx as := h
    unfold putB
    rw [putB_out (fun z => h' (List.mem_cons_of_mem _ z)), List.getElem?_set_ne (fun z => h' (by rw [z]; exact List.mem_cons_self))]
  | l, .dat _ :: as, o :: os, h => by
    unfold putB
    exact putB_out (as := as) h
omit [Amb] in
theorem putB_in {α : Type} {i : Nat} : ∀ {l : List α} {as : List Ar} {os : List α} {j : Nat}, (ownIx as).Nodup → as.length = os.length → as[j]? = some (.sl i) → i < l.length → (putB l as os)[i]? = os[j]?
  | l, [], _, j, _, _, h, _ => by simp at h
  | l, _ :: as, [], j, _, hl, _, _ => by simp at hl
  | l, .sl k :: as, o :: os, 0, hn, hl, h, hi => by
    have e : k = i := by simpa using h
    subst e
    have hn' : (k :: ownIx as).Nodup := hn
    unfold putB
    rw [putB_out (List.nodup_cons.mp hn').1, List.getElem?_set_self hi]
    rfl
  | l, .dat _ :: as, o :: os, 0, hn, hl, h, hi => by simp at h
  | l, .sl k :: as, o :: os, j + 1, hn, hl, h, hi => by
    have hn' : (k :: ownIx as).Nodup := hn
    unfold putB
    rw [putB_in (j := j) (List.nodup_cons.mp hn').2 (by simpa using hl) (by simpa using h) (by rw [List.length_set]; exact hi)]
    rfl
  | l, .dat _ :: as, o :: os, j + 1, hn, hl, h, hi => by
    have hn' : (ownIx as).Nodup := hn
    unfold putB
    rw [putB_in (j := j) hn' (by simpa using hl) (by simpa using h) hi]
    rfl
omit [Amb] in
theorem mem_ownIx {as : List Ar} {i : Nat} : i ∈ ownIx as ↔ ∃ j : Nat, as[j]? = some (Ar.sl i) := by
  unfold ownIx
  rw [List.mem_filterMap]
  constructor
  · rintro ⟨a, h1, h2⟩
    cases a with
    | dat d => simp at h2
    | sl k =>
      have e : k = i := by simpa using h2
      subst e
      obtain ⟨j, hj⟩ := List.mem_iff_getElem?.mp h1
      exact ⟨j, hj⟩
  · rintro ⟨j, hj⟩
    exact ⟨.sl i, List.mem_of_getElem? hj, rfl⟩
omit [Amb] in
theorem ownIx_inj : ∀ {as : List Ar} {i j k : Nat}, (ownIx as).Nodup → as[j]? = some (.sl i) → as[k]? = some (.sl i) → j = k
  | [], _, _, _, _, h, _ => by simp at h
  | .dat d :: as, i, 0, _, _, h, _ => by simp at h
  | .dat d :: as, i, _ + 1, 0, _, _, h => by simp at h
  | .dat d :: as, i, j + 1, k + 1, hn, h1, h2 => by
    have hn' : (ownIx as).Nodup := hn
    exact congrArg (· + 1) (ownIx_inj hn' (show as[j]? = some (Ar.sl i) by simpa using h1) (show as[k]? = some (Ar.sl i) by simpa using h2))
  | .sl m :: as, i, 0, 0, _, _, _ => rfl
  | .sl m :: as, i, 0, k + 1, hn, h1, h2 => by
    have hn' : (m :: ownIx as).Nodup := hn
    have e : m = i := by simpa using h1
    subst e
    exact absurd (mem_ownIx.mpr ⟨k, by simpa using h2⟩) (List.nodup_cons.mp hn').1
  | .sl m :: as, i, j + 1, 0, hn, h1, h2 => by
    have hn' : (m :: ownIx as).Nodup := hn
    have e : m = i := by simpa using h2
    subst e
    exact absurd (mem_ownIx.mpr ⟨j, by simpa using h1⟩) (List.nodup_cons.mp hn').1
  | .sl m :: as, i, j + 1, k + 1, hn, h1, h2 => by
    have hn' : (m :: ownIx as).Nodup := hn
    exact congrArg (· + 1) (ownIx_inj (List.nodup_cons.mp hn').2 (show as[j]? = some (Ar.sl i) by simpa using h1) (show as[k]? = some (Ar.sl i) by simpa using h2))
def okIx (sd : List Sl) (as : List Ar) : Prop := (ownIx as).Nodup ∧ ∀ i ∈ ownIx as, i < sd.length
/-- the arguments' own world -/
def Wd.args (W : Wd) (as : List Ar) : Wd := ⟨W.H, W.S, as.map (arFs W.Fs)⟩
omit [Amb] in
theorem args_fp {W : Wd} {as : List Ar} {a : Addr} (h : (W.args as).fp a) : ∃ i, i ∈ ownIx as ∧ ∃ F, W.Fs[i]? = some F ∧ a ∈ F := by
  obtain ⟨j, F, hF, ha⟩ := h
  have hF' : (as.map (arFs W.Fs))[j]? = some F := hF
  rw [List.getElem?_map] at hF'
  cases q : as[j]? with
  | none => rw [q] at hF'; cases hF'
  | some ar =>
    rw [q] at hF'
    have hF2 : arFs W.Fs ar = F := Option.some.inj hF'
    cases ar with
    | dat d => rw [← hF2] at ha; simp [arFs] at ha
    | sl i =>
      refine ⟨i, mem_ownIx.mpr ⟨j, q⟩, ?_⟩
      have hF3 : W.Fs.getD i [] = F := hF2
      rw [List.getD_eq_getElem?_getD] at hF3
      cases z : W.Fs[i]? with
      | none => rw [z] at hF3; rw [← hF3] at ha; simp at ha
      | some G => rw [z] at hF3; exact ⟨F, by rw [← hF3]; rfl, ha⟩
omit [Amb] in
theorem args_fp' {W : Wd} {as : List Ar} {a : Addr} {i : Nat} {F : List Addr} (hi : i ∈ ownIx as) (hF : W.Fs[i]? = some F) (ha : a ∈ F) : (W.args as).fp a := by
  obtain ⟨j, hj⟩ := mem_ownIx.mp hi
  refine ⟨j, F, ?_, ha⟩
  show (as.map (arFs W.Fs))[j]? = some F
  rw [List.getElem?_map, hj]
  show some (W.Fs.getD i []) = some F
  rw [List.getD_eq_getElem?_getD, hF]
  rfl
theorem Cnf.args {W : Wd} {σ : L2.St} {sd : List Sl} {vs : List V} {as : List Ar} (C : Cnf K W σ sd) (h : ArsOk K W σ vs as) (ok : okIx sd as) : Cnf0 K (W.args as) (vs.map some) (as.map (arSl sd)) := by
  refine ⟨C.sub, by simp [h.1], by simp [Wd.args], fun j s v F e1 e2 e3 => ?_, fun a ha => ?_, fun a ha => ?_, fun j j' F G a hj e1 e2 ha hb => ?_⟩
  · have e3' : (as.map (arFs W.Fs))[j]? = some F := e3
    rw [List.getElem?_map] at e1 e2 e3'
    cases q : as[j]? with
    | none => rw [q] at e1; cases e1
    | some ar =>
      rw [q] at e1 e3'
      cases qv : vs[j]? with
      | none => rw [qv] at e2; cases e2
      | some u =>
        rw [qv] at e2
        cases e1; cases e2; cases e3'
        have z := h.2 j u ar qv q
        cases ar with
        | dat d => exact ⟨rfl, u, rfl, z⟩
        | sl i =>
          have hi : i < sd.length := ok.2 i (mem_ownIx.mpr ⟨j, q⟩)
          have hiF : i < W.Fs.length := by rw [C.l2]; exact hi
          show SlOk K W.H W.S (some u) (W.Fs.getD i []) (sd.getD i .no)
          rw [List.getD_eq_getElem?_getD, List.getD_eq_getElem?_getD, List.getElem?_eq_getElem hi, List.getElem?_eq_getElem hiF]
          exact C.ok i _ _ _ (List.getElem?_eq_getElem hi) z (List.getElem?_eq_getElem hiF)
  · obtain ⟨i, _, F, hF, hb⟩ := args_fp ha
    exact C.there a ⟨i, F, hF, hb⟩
  · obtain ⟨i, _, F, hF, hb⟩ := args_fp ha
    exact C.out a ⟨i, F, hF, hb⟩
  · have e1' : (as.map (arFs W.Fs))[j]? = some F := e1
    have e2' : (as.map (arFs W.Fs))[j']? = some G := e2
    rw [List.getElem?_map] at e1' e2'
    cases q : as[j]? with
    | none => rw [q] at e1'; cases e1'
    | some ar =>
      cases q' : as[j']? with
      | none => rw [q'] at e2'; cases e2'
      | some ar' =>
        rw [q] at e1'
        rw [q'] at e2'
        cases e1'; cases e2'
        cases ar with
        | dat d => simp [arFs] at ha
        | sl i =>
          cases ar' with
          | dat d => simp [arFs] at hb
          | sl i' =>
            have hne : i ≠ i' := fun z => hj (ownIx_inj ok.1 q (by rw [z]; exact q'))
            have ha' : a ∈ W.Fs.getD i [] := ha
            have hb' : a ∈ W.Fs.getD i' [] := hb
            rw [List.getD_eq_getElem?_getD] at ha' hb'
            cases z1 : W.Fs[i]? with
            | none => rw [z1] at ha'; simp at ha'
            | some F1 =>
              cases z2 : W.Fs[i']? with
              | none => rw [z2] at hb'; simp at hb'
              | some F2 =>
                rw [z1] at ha'
                rw [z2] at hb'
                exact C.dj i i' F1 F2 a hne z1 z2 ha' hb'
/-- behind a call: the owned arguments' slots as they are now -/
def Wd.back (W W' : Wd) (as : List Ar) : Wd := ⟨W'.H, W'.S, putB W.Fs as W'.Fs⟩
omit [Amb] in
theorem back_fp {W W' : Wd} {as : List Ar} {a : Addr} (hn : (ownIx as).Nodup) (hl : as.length = W'.Fs.length) (hx : ∀ i ∈ ownIx as, i < W.Fs.length) (h : (W.back W' as).fp a) : W'.fp a ∨ ∃ i F, i ∉ ownIx as ∧ W.Fs[i]? = some F ∧ a ∈ F := by
  obtain ⟨i, F, hF, ha⟩ := h
  have hF' : (putB W.Fs as W'.Fs)[i]? = some F := hF
  by_cases hi : i ∈ ownIx as
  · obtain ⟨j, hj⟩ := mem_ownIx.mp hi
    rw [putB_in hn hl hj (hx i hi)] at hF'
    exact .inl ⟨j, F, hF', ha⟩
  · rw [putB_out hi] at hF'
    exact .inr ⟨i, F, hi, hF', ha⟩
theorem Cnf.back {W W' : Wd} {σ : L2.St} {sd : List Sl} {vs : List V} {as : List Ar} {outs : List Sl} (C : Cnf K W σ sd) (h : ArsOk K W σ vs as) (ok : okIx sd as) (s : Stp (W.args as) W') (C' : Cnf0 K W' (vs.map some) outs) :
    Cnf K (W.back W' as) σ (putB sd as outs) ∧ Stp W (W.back W' as) := by
  suffices hh : Cnf0 K (W.back W' as) σ (putB sd as outs) ∧ Stp W (W.back W' as) from ⟨C.then hh.2 hh.1, hh.2⟩
  have lv : vs.length = outs.length := by have := C'.l1; simpa using this
  have lo : as.length = outs.length := by rw [← h.1]; exact lv
  have lF : as.length = W'.Fs.length := by rw [C'.l2]; exact lo
  have hx : ∀ i ∈ ownIx as, i < W.Fs.length := fun i hi => by rw [C.l2]; exact ok.2 i hi
  have un : ∀ i F a, i ∉ ownIx as → W.Fs[i]? = some F → a ∈ F → ¬ (W.args as).fp a := fun i F a hi hF ha z => by
    obtain ⟨i', hi', F', hF', ha'⟩ := args_fp z
    exact C.dj i i' F F' a (fun e => hi (e ▸ hi')) hF hF' ha ha'
  have fpW : ∀ {a}, (W.args as).fp a → W.fp a := fun {a} z => by
    obtain ⟨i', hi', F', hF', ha'⟩ := args_fp z
    exact ⟨i', F', hF', ha'⟩
  have keep : ∀ i F a, i ∉ ownIx as → W.Fs[i]? = some F → a ∈ F → W'.H a = W.H a := fun i F a hi hF ha => by
    cases q : W.H a with
    | none => exact absurd q (C.there a ⟨i, F, hF, ha⟩)
    | some o => exact s.big a o (un i F a hi hF ha) q
  refine ⟨⟨C'.sub, by rw [putB_len]; exact C.l1, by show (putB W.Fs as W'.Fs).length = _; rw [putB_len, putB_len]; exact C.l2, fun i r v F e1 e2 e3 => ?_, fun a ha => ?_, fun a ha => ?_, fun i j F G a hij e1 e2 ha hb => ?_⟩, ⟨fun a o hn e => s.big a o (fun z => hn (fpW z)) e, s.st, fun a hn h1 h2 => s.fr a (fun z => hn (fpW z)) h1 h2, fun a ha => ?_, s.dom⟩⟩
  · have e3' : (putB W.Fs as W'.Fs)[i]? = some F := e3
    by_cases hi : i ∈ ownIx as
    · obtain ⟨j, hj⟩ := mem_ownIx.mp hi
      rw [putB_in ok.1 lo hj (ok.2 i hi)] at e1
      rw [putB_in ok.1 lF hj (hx i hi)] at e3'
      have hjv : j < vs.length := by rw [h.1]; exact (List.getElem?_eq_some_iff.mp hj).1
      have z := h.2 j vs[j] _ (List.getElem?_eq_getElem hjv) hj
      have z' : σ[i]? = some (some vs[j]) := z
      rw [z'] at e2
      cases e2
      exact C'.ok j r (some vs[j]) F e1 (by rw [List.getElem?_map, List.getElem?_eq_getElem hjv]; rfl) e3'
    · rw [putB_out hi] at e1 e3'
      exact (C.ok i r v F e1 e2 e3').stay (fun a ha => keep i F a hi e3' ha) s.st
  · rcases back_fp ok.1 lF hx ha with z | ⟨i, F, hi, hF, hb⟩
    · exact C'.there a z
    · show W'.H a ≠ none
      rw [keep i F a hi hF hb]
      exact C.there a ⟨i, F, hF, hb⟩
  · rcases back_fp ok.1 lF hx ha with z | ⟨i, F, hi, hF, hb⟩
    · exact C'.out a z
    · exact s.fr a (un i F a hi hF hb) (C.there a ⟨i, F, hF, hb⟩) (C.out a ⟨i, F, hF, hb⟩)
  · have e1' : (putB W.Fs as W'.Fs)[i]? = some F := e1
    have e2' : (putB W.Fs as W'.Fs)[j]? = some G := e2
    have cross : ∀ i F j G, i ∈ ownIx as → j ∉ ownIx as → (putB W.Fs as W'.Fs)[i]? = some F → (putB W.Fs as W'.Fs)[j]? = some G → a ∈ F → a ∈ G → False := fun i F j G hi hj e1 e2 ha hb => by
      obtain ⟨m, hm⟩ := mem_ownIx.mp hi
      rw [putB_in ok.1 lF hm (hx i hi)] at e1
      rw [putB_out hj] at e2
      rcases s.fs a ⟨m, F, e1, ha⟩ with z | z
      · exact un j G a hj e2 hb z
      · exact C.there a ⟨j, G, e2, hb⟩ z
    by_cases hi : i ∈ ownIx as
    · by_cases hj : j ∈ ownIx as
      · obtain ⟨m, hm⟩ := mem_ownIx.mp hi
        obtain ⟨m', hm'⟩ := mem_ownIx.mp hj
        rw [putB_in ok.1 lF hm (hx i hi)] at e1'
        rw [putB_in ok.1 lF hm' (hx j hj)] at e2'
        exact C'.dj m m' F G a (fun z => hij (by subst z; rw [hm] at hm'; cases hm'; rfl)) e1' e2' ha hb
      · exact cross i F j G hi hj e1' e2' ha hb
    · by_cases hj : j ∈ ownIx as
      · exact cross j G i F hj hi e2' e1' hb ha
      · rw [putB_out hi] at e1'
        rw [putB_out hj] at e2'
        exact C.dj i j F G a hij e1' e2' ha hb
  · rcases back_fp ok.1 lF hx ha with z | ⟨i, F, hi, hF, hb⟩
    · rcases s.fs a z with z | z
      · exact .inl (fpW z)
      · exact .inr z
    · exact .inl ⟨i, F, hF, hb⟩
end
end Dl
set_option Elab.async false
set_option linter.all false
set_option maxRecDepth 100000
namespace Dl
open PySem PySem.Spec L2
section
variable [Amb] {K : PySem.W.Frag}
/-! ### arguments -/
omit [Amb] in
theorem ArOk.mono {W W' : Wd} {σ : L2.St} {v : V} {a : Ar} (s : Stp W W') (h : ArOk K W σ v a) : ArOk K W' σ v a := by
  cases a with
  | dat d => exact Den.mono s.st h
  | sl i => exact h
omit [Amb] in
theorem ArsOk.mono {W W' : Wd} {σ : L2.St} {vs : List V} {as : List Ar} (s : Stp W W') (h : ArsOk K W σ vs as) : ArsOk K W' σ vs as := ⟨h.1, fun i v a e1 e2 => (h.2 i v a e1 e2).mono s⟩
omit [Amb] in
theorem ArsOk.cons {W : Wd} {σ : L2.St} {v : V} {a : Ar} {vs : List V} {as : List Ar} (h : ArOk K W σ v a) (t : ArsOk K W σ vs as) : ArsOk K W σ (v :: vs) (a :: as) := ⟨by simp [t.1], fun i x b e1 e2 => by
  cases i with
  | zero => simp at e1 e2; subst e1; subst e2; exact h
  | succ i => simp at e1 e2; exact t.2 i x b e1 e2⟩
def aVar (i : Nat) : List Sl → (Ar → List Sl → Prop) → Prop := fun sd k => ∃ s, sd[i]? = some s ∧ match s with
  | .no => False
  | .d x => k (.dat x) sd
  | .own _ _ => k (.sl i) sd
instance lar_var {i : Nat} : LAr K (tVar i) (aVar i) := ⟨fun {sd k} ⟨s, hs, h⟩ W σ C Q q => by
  cases s with
  | no => exact h.elim
  | d x =>
    obtain ⟨v, h1, h2⟩ := C.dat hs
    exact ⟨v, h1, q v (.dat x) sd W (Stp.refl W) C h2 h⟩
  | own p o =>
    obtain ⟨v, F, h1, _, rfl, _⟩ := C.at hs
    exact ⟨.ref p, h1, q (.ref p) (.sl i) sd W (Stp.refl W) C h1 h⟩⟩
def aDat (da : DTE) : List Sl → (Ar → List Sl → Prop) → Prop := fun sd k => da sd fun x sd1 => k (.dat x) sd1
instance (priority := low) lar_dat {ta : TE} {da : DTE} [a : LE K ta da] : LAr K ta (aDat da) := ⟨fun h W σ C Q q => a.up h W σ C Q fun v x sd1 W1 s1 C1 n1 h1 => q v (.dat x) sd1 W1 s1 C1 n1 h1⟩
def aNil : DTA := fun sd k => k [] sd
def aCons (da : List Sl → (Ar → List Sl → Prop) → Prop) (dr : DTA) : DTA := fun sd k => da sd fun a sd1 => dr sd1 fun as sd2 => k (a :: as) sd2
instance la_nil : LA K tNil aNil := ⟨fun h W σ C Q q => q [] [] _ W (Stp.refl W) C ⟨rfl, fun i v a e => by simp at e⟩ h⟩
instance la_cons {ta : TE} {tr : TA} {da : List Sl → (Ar → List Sl → Prop) → Prop} {dr : DTA} [a : LAr K ta da] [r : LA K tr dr] : LA K (tCons ta tr) (aCons da dr) := ⟨fun h W σ C Q q =>
  a.up h W σ C _ fun v x sd1 W1 s1 C1 n1 h1 => r.up h1 W1 σ C1 _ fun vs xs sd2 W2 s2 C2 n2 h2 => q (v :: vs) (x :: xs) sd2 W2 (s1.trans s2) C2 (.cons (n1.mono s2) n2) h2⟩
/-! ### calls -/
def dCall (Φ : List Sl → (Sl → List Sl → Prop) → Prop) (da : DTA) : DTX := fun sd k => da sd fun as sd1 => okIx sd1 as ∧ Φ (as.map (arSl sd1)) fun s outs => k s (putB sd1 as outs)
theorem call_up {Φ : List Sl → (Sl → List Sl → Prop) → Prop} {ta : TA} {da : DTA} {E : XK} [a : LA K ta da] {sd : List Sl} {k : Sl → List Sl → Prop} (h : dCall Φ da sd k) {W : Wd} {σ : L2.St} (C : Cnf K W σ sd) {Q : VK}
    (q : ∀ v s F sd' W', Stp W W' → Cnf K W' σ sd' → SlOk K W'.H W'.S (some v) F s → NewF W W' F → k s sd' → Q v W'.H) : tCall (spD K Φ) [] E ta σ W.H Q :=
  a.up h W σ C _ fun vs as sd1 W1 s1 C1 n1 ⟨ok, h1⟩ => by
    rw [List.append_nil]
    refine ⟨W1.args as, _, _, rfl, C1.args n1 ok, h1, fun v s F outs W' s' C' hs hr hk => ?_⟩
    obtain ⟨C2, s2⟩ := C1.back n1 ok s' C'
    have fpb : ∀ a, (W1.back W' as).fp a → W'.fp a ∨ (W1.fp a ∧ ¬ (W1.args as).fp a) := fun a ha => by
      have lv : vs.length = outs.length := by have := C'.l1; simpa using this
      have lF : as.length = W'.Fs.length := by rw [C'.l2, ← lv]; exact n1.1.symm
      rcases back_fp ok.1 lF (fun i hi => by rw [C1.l2]; exact ok.2 i hi) ha with z | ⟨i, G, hi, hG, hb⟩
      · exact .inl z
      · refine .inr ⟨⟨i, G, hG, hb⟩, fun z => ?_⟩
        obtain ⟨i', hi', F', hF', ha'⟩ := args_fp z
        exact C1.dj i i' G F' a (fun e => hi (by rw [e]; exact hi')) hG hF' hb ha'
    have nr : NewR W (W1.back W' as) F := by
      refine ⟨fun a ha z => ?_, hr.there, hr.un, fun a ha => ?_⟩
      · rcases fpb a z with z | ⟨z1, z2⟩
        · exact hr.out a ha z
        · rcases hr.new a ha with y | y
          · exact z2 y
          · exact C1.there a z1 y
      · rcases hr.new a ha with y | y
        · obtain ⟨i', hi', F', hF', ha'⟩ := args_fp y
          exact s1.fs a ⟨i', F', hF', ha'⟩
        · exact .inr (none_back s1 y)
    exact q v s F _ (W1.back W' as) (s1.trans s2) C2 hs nr hk
instance lx_call {Φ : List Sl → (Sl → List Sl → Prop) → Prop} {ta : TA} {da : DTA} {E : XK} [a : LA K ta da] : LX K (tCall (spD K Φ) [] E ta) (dCall Φ da) := ⟨fun h W σ C Q q => call_up h C q⟩
/-- data back (an owned object is made stable) -/
def asDat : Sl → (D → Prop) → Prop
  | .d x, k => k x
  | .own _ o, k => ∃ d, froz o d ∧ k d
  | .no, _ => False
theorem asDat_up {W W' : Wd} {σ : L2.St} {sd sd' : List Sl} (C0 : Cnf K W σ sd) {v : V} {s : Sl} {F : List Addr} {k : D → Prop} {Q : VK} (s1 : Stp W W') (C : Cnf K W' σ sd') (hs : SlOk K W'.H W'.S (some v) F s) (nr : NewR W W' F) (h : asDat s k)
    (q : ∀ d W2, Stp W W2 → Cnf K W2 σ sd' → Den K W2.S v d → k d → Q v W2.H) : Q v W'.H := by
  cases s with
  | no => exact (show False from h).elim
  | d x =>
    obtain ⟨_, u, e, n⟩ := hs
    cases e
    exact q x W' s1 C n h
  | own p o =>
    obtain ⟨e, ho⟩ := hs
    cases e
    obtain ⟨d, hd, hk⟩ := h
    obtain ⟨rfl, u, hu, n⟩ := froz_den ho nr.un hd
    have hp : W'.S p = none := nr.un p (by simp)
    have hf : ¬ W'.fp p := nr.out p (by simp)
    have st : Stp W (W'.fix p u) := by
      refine ⟨s1.big, s1.st.trans (same_upd hp), fun a ha h1 h2 => ?_, s1.fs, s1.dom⟩
      show upd W'.S p u a = none
      rw [upd_ne (fun z => ?_)]
      · exact s1.fr a ha h1 h2
      · subst z
        rcases nr.new a (by simp) with y | y
        · exact ha y
        · exact h1 y
    exact q d (W'.fix p u) st (C0.then st (C.toCnf0.fix hu hp hf)) n hk
def xE (dx : DTX) : DTE := fun sd k => dx sd fun s sd1 => asDat s fun d => k d sd1
theorem le_of_lx {te : TE} {dx : DTX} [a : LX K te dx] : LE K te (xE dx) := ⟨fun h W σ C Q q => a.up h W σ C Q fun v s F sd1 W1 s1 C1 n1 f1 h1 => asDat_up C s1 C1 n1 f1 h1 fun d W2 s2 C2 n2 h2 => q v d sd1 W2 s2 C2 n2 h2⟩
instance le_call {Φ : List Sl → (Sl → List Sl → Prop) → Prop} {ta : TA} {da : DTA} {E : XK} [a : LA K ta da] : LE K (tCall (spD K Φ) [] E ta) (xE (dCall Φ da)) := le_of_lx
/-! ### a def -/
def fpOf : List Sl → List (List Addr) → List (List Addr)
  | .own _ _ :: as, F :: Fs => F :: fpOf as Fs
  | _ :: as, _ :: Fs => [] :: fpOf as Fs
  | _, _ => []
omit [Amb] in
theorem outs_len : ∀ {args sd : List Sl}, keepP args sd → (outsOf args sd).length = args.length
  | [], _, _ => by unfold outsOf; rfl
  | .own p o :: as, [], h => (show False from h).elim
  | .no :: as, [], h => (show False from h).elim
  | .d x :: as, [], h => (show False from h).elim
  | .own p o :: as, .own q o' :: ss, h => by unfold outsOf; rw [List.length_cons, List.length_cons, outs_len (show p = q ∧ keepP as ss from h).2]
  | .own p o :: as, .no :: ss, h => (show False from h).elim
  | .own p o :: as, .d x :: ss, h => (show False from h).elim
  | .no :: as, s :: ss, h => by unfold outsOf; rw [List.length_cons, List.length_cons, outs_len (show keepP as ss from by cases s <;> exact h)]
  | .d x :: as, s :: ss, h => by unfold outsOf; rw [List.length_cons, List.length_cons, outs_len (show keepP as ss from by cases s <;> exact h)]
omit [Amb] in
theorem fpo_len : ∀ {args sd : List Sl} {Fs : List (List Addr)}, keepP args sd → sd.length = Fs.length → (fpOf args Fs).length = args.length
  | [], _, _, _, _ => by unfold fpOf; rfl
  | .own p o :: as, [], _, h, _ => (show False from h).elim
  | .no :: as, [], _, h, _ => (show False from h).elim
  | .d x :: as, [], _, h, _ => (show False from h).elim
  | a :: as, s :: ss, [], _, h => by simp at h
  | .own p o :: as, .own q o' :: ss, F :: Fs, h, hl => by unfold fpOf; rw [List.length_cons, List.length_cons, fpo_len (show p = q ∧ keepP as ss from h).2 (by simpa using hl)]
  | .own p o :: as, .no :: ss, F :: Fs, h, _ => (show False from h).elim
  | .own p o :: as, .d x :: ss, F :: Fs, h, _ => (show False from h).elim
  | .no :: as, s :: ss, F :: Fs, h, hl => by unfold fpOf; rw [List.length_cons, List.length_cons, fpo_len (show keepP as ss from by cases s <;> exact h) (by simpa using hl)]
  | .d x :: as, s :: ss, F :: Fs, h, hl => by unfold fpOf; rw [List.length_cons, List.length_cons, fpo_len (show keepP as ss from by cases s <;> exact h) (by simpa using hl)]
omit [Amb] in
theorem outs_get : ∀ {args sd : List Sl} {Fs : List (List Addr)} {i : Nat} {s : Sl} {F : List Addr}, keepP args sd → (outsOf args sd)[i]? = some s → (fpOf args Fs)[i]? = some F →
    (∃ p o o', args[i]? = some (.own p o) ∧ sd[i]? = some (.own p o') ∧ s = .own p o' ∧ Fs[i]? = some F) ∨ (args[i]? = some s ∧ (∀ p o, s ≠ .own p o) ∧ F = [])
  | [], _, _, _, _, _, _, h, _ => by unfold outsOf at h; simp at h
  | .own p o :: as, [], _, _, _, _, h, _, _ => (show False from h).elim
  | .no :: as, [], _, _, _, _, h, _, _ => (show False from h).elim
  | .d x :: as, [], _, _, _, _, h, _, _ => (show False from h).elim
  | .own p o :: as, s :: ss, [], _, _, _, _, _, h => by unfold fpOf at h; simp at h
  | .no :: as, s :: ss, [], _, _, _, _, _, h => by unfold fpOf at h; simp at h
  | .d x :: as, s :: ss, [], _, _, _, _, _, h => by unfold fpOf at h; simp at h
  | .own p o :: as, .no :: ss, _ :: _, _, _, _, h, _, _ => (show False from h).elim
  | .own p o :: as, .d x :: ss, _ :: _, _, _, _, h, _, _ => (show False from h).elim
  | .own p o :: as, .own q o' :: ss, G :: Fs, 0, s, F, h, h1, h2 => by
    have e : p = q := (show p = q ∧ keepP as ss from h).1
    subst e
    have e1 : Sl.own p o' = s := by unfold outsOf at h1; simpa using h1
    have e2 : G = F := by unfold fpOf at h2; simpa using h2
    subst e1; subst e2
    exact .inl ⟨p, o, o', rfl, rfl, rfl, rfl⟩
  | .own p o :: as, .own q o' :: ss, G :: Fs, i + 1, s, F, h, h1, h2 => by
    unfold outsOf at h1
    unfold fpOf at h2
    have h3 : keepP as ss := (show p = q ∧ keepP as ss from h).2
    have := outs_get h3 (show (outsOf as ss)[i]? = some s by simpa using h1) (show (fpOf as Fs)[i]? = some F by simpa using h2)
    simpa using this
  | .no :: as, r :: ss, G :: Fs, 0, s, F, h, h1, h2 => by
    have e1 : Sl.no = s := by unfold outsOf at h1; simpa using h1
    have e2 : [] = F := by unfold fpOf at h2; simpa using h2
    subst e1; subst e2
    exact .inr ⟨rfl, (fun _ _ z => by cases z), rfl⟩
  | .d x :: as, r :: ss, G :: Fs, 0, s, F, h, h1, h2 => by
    have e1 : Sl.d x = s := by unfold outsOf at h1; simpa using h1
    have e2 : [] = F := by unfold fpOf at h2; simpa using h2
    subst e1; subst e2
    exact .inr ⟨rfl, (fun _ _ z => by cases z), rfl⟩
  | .no :: as, r :: ss, G :: Fs, i + 1, s, F, h, h1, h2 => by
    unfold outsOf at h1
    unfold fpOf at h2
    have h3 : keepP as ss := by cases r <;> exact h
    have := outs_get h3 (show (outsOf as ss)[i]? = some s by simpa using h1) (show (fpOf as Fs)[i]? = some F by simpa using h2)
    simpa using this
  | .d x :: as, r :: ss, G :: Fs, i + 1, s, F, h, h1, h2 => by
    unfold outsOf at h1
    unfold fpOf at h2
    have h3 : keepP as ss := by cases r <;> exact h
    have := outs_get h3 (show (outsOf as ss)[i]? = some s by simpa using h1) (show (fpOf as Fs)[i]? = some F by simpa using h2)
    simpa using this
/-- the world at a def's start; its slots -/
def Wd.grow (W : Wd) (m : Nat) : Wd := ⟨W.H, W.S, W.Fs ++ List.replicate m []⟩
omit [Amb] in
theorem grow_fp {W : Wd} {m : Nat} {a : Addr} : (W.grow m).fp a ↔ W.fp a := by
  constructor
  · rintro ⟨i, F, hF, ha⟩
    have hF' : (W.Fs ++ List.replicate m [])[i]? = some F := hF
    rw [List.getElem?_append] at hF'
    split at hF'
    · exact ⟨i, F, hF', ha⟩
    · have := List.mem_of_getElem? hF'
      rw [List.mem_replicate] at this
      rw [this.2] at ha
      simp at ha
  · rintro ⟨i, F, hF, ha⟩
    refine ⟨i, F, ?_, ha⟩
    show (W.Fs ++ List.replicate m [])[i]? = some F
    rw [List.getElem?_append_left (List.getElem?_eq_some_iff.mp hF).1]
    exact hF
omit [Amb] in
theorem Cnf0.grow {K : PySem.W.Frag} {W : Wd} {σ : L2.St} {sd : List Sl} (m : Nat) (C : Cnf0 K W σ sd) : Cnf0 K (W.grow m) (σ ++ List.replicate m none) (sd ++ List.replicate m .no) := by
  refine ⟨C.sub, by simp [C.l1], by simp [Wd.grow, C.l2], fun i s v F e1 e2 e3 => ?_, fun a ha => C.there a (grow_fp.mp ha), fun a ha => C.out a (grow_fp.mp ha), fun i j F G a hij e1 e2 ha hb => ?_⟩
  · have e3' : (W.Fs ++ List.replicate m [])[i]? = some F := e3
    rw [List.getElem?_append] at e1 e2 e3'
    by_cases hi : i < sd.length
    · rw [if_pos hi] at e1
      rw [if_pos (by rw [C.l1]; exact hi)] at e2
      rw [if_pos (by rw [C.l2]; exact hi)] at e3'
      exact C.ok i s v F e1 e2 e3'
    · rw [if_neg hi] at e1
      rw [if_neg (by rw [C.l2]; exact hi)] at e3'
      have z1 := (List.mem_replicate.mp (List.mem_of_getElem? e1)).2
      have z2 := (List.mem_replicate.mp (List.mem_of_getElem? e3')).2
      rw [z1, z2]
      rfl
  · have e1' : (W.Fs ++ List.replicate m [])[i]? = some F := e1
    have e2' : (W.Fs ++ List.replicate m [])[j]? = some G := e2
    rw [List.getElem?_append] at e1' e2'
    split at e1'
    · split at e2'
      · exact C.dj i j F G a hij e1' e2' ha hb
      · rw [(List.mem_replicate.mp (List.mem_of_getElem? e2')).2] at hb
        simp at hb
    · rw [(List.mem_replicate.mp (List.mem_of_getElem? e1')).2] at ha
      simp at ha
def endF (args : List Sl) (k : Sl → List Sl → Prop) : DEnds := { nx := fun sd => keepP args sd ∧ k (.d .non) (outsOf args sd), rt := fun s sd => keepP args sd ∧ k s (outsOf args sd) }
omit [Amb] in
theorem fn_end {W W2 : Wd} {σ' : L2.St} {vs : List V} {args sd' : List Sl} {F : List Addr} {v : V} {s : Sl} {m : Nat} (C : Cnf0 K W (vs.map some) args) (s2 : Stp (W.grow m) W2) (C2 : Cnf0 K W2 σ' sd') (hs : SlOk K W2.H W2.S (some v) F s) (nr : NewR (W.grow m) W2 F) (kp : keepP args sd') :
    ∃ W3 : Wd, (W3.H = W2.H ∧ W3.S = W2.S) ∧ Stp W W3 ∧ Cnf0 K W3 (vs.map some) (outsOf args sd') ∧ SlOk K W3.H W3.S (some v) F s ∧ NewR W W3 F := by
  have sub : ∀ a, (⟨W2.H, W2.S, fpOf args W2.Fs⟩ : Wd).fp a → W2.fp a := fun a ⟨i, G, hG, ha⟩ => by
    have hG' : (fpOf args W2.Fs)[i]? = some G := hG
    have hi : i < (outsOf args sd').length := by
      rw [outs_len kp, ← fpo_len kp C2.l2.symm]
      exact (List.getElem?_eq_some_iff.mp hG').1
    rcases outs_get kp (List.getElem?_eq_getElem hi) hG' with ⟨_, _, _, _, _, _, h⟩ | ⟨_, _, h⟩
    · exact ⟨i, G, h, ha⟩
    · rw [h] at ha; simp at ha
  refine ⟨⟨W2.H, W2.S, fpOf args W2.Fs⟩, ⟨rfl, rfl⟩, ⟨fun a o hn e => s2.big a o (fun z => hn (grow_fp.mp z)) e, s2.st, fun a hn h1 h2 => s2.fr a (fun z => hn (grow_fp.mp z)) h1 h2, fun a ha => ?_, s2.dom⟩, ⟨C2.sub, by rw [outs_len kp]; exact C.l1, by show (fpOf args W2.Fs).length = _; rw [fpo_len kp C2.l2.symm, outs_len kp], fun i r u G e1 e2 e3 => ?_, fun a ha => C2.there a (sub a ha), fun a ha => C2.out a (sub a ha), fun i j G G' a hij e1 e2 ha hb => ?_⟩, hs, ⟨fun a ha z => nr.out a ha (sub a z), nr.there, nr.un, fun a ha => ?_⟩⟩
  · rcases s2.fs a (sub a ha) with z | z
    · exact .inl (grow_fp.mp z)
    · exact .inr z
  · rcases outs_get kp e1 e3 with ⟨p, o, o', h1, h2, rfl, h4⟩ | ⟨h1, h2, rfl⟩
    · have hi2 : i < σ'.length := by rw [C2.l1]; exact (List.getElem?_eq_some_iff.mp h2).1
      have z := C2.ok i _ _ _ h2 (List.getElem?_eq_getElem hi2) h4
      obtain ⟨w, G0, y1, _, y2, _⟩ := C.at h1
      rw [y1] at e2
      cases e2
      subst y2
      exact ⟨rfl, z.2⟩
    · obtain ⟨w, G0, y1, y2, y3⟩ := C.at h1
      rw [y1] at e2
      cases e2
      cases r with
      | no => rfl
      | d x =>
        obtain ⟨_, u', e, n⟩ := y3
        exact ⟨rfl, u', e, n.mono s2.st⟩
      | own p o => exact absurd rfl (h2 p o)
  · have hi : i < (outsOf args sd').length := by
      rw [outs_len kp, ← fpo_len kp C2.l2.symm]
      exact (List.getElem?_eq_some_iff.mp e1).1
    have hj : j < (outsOf args sd').length := by
      rw [outs_len kp, ← fpo_len kp C2.l2.symm]
      exact (List.getElem?_eq_some_iff.mp e2).1
    rcases outs_get kp (List.getElem?_eq_getElem hi) e1 with ⟨_, _, _, _, _, _, h4⟩ | ⟨_, _, rfl⟩
    · rcases outs_get kp (List.getElem?_eq_getElem hj) e2 with ⟨_, _, _, _, _, _, h5⟩ | ⟨_, _, rfl⟩
      · exact C2.dj i j G G' a hij h4 h5 ha hb
      · simp at hb
    · simp at ha
  · rcases nr.new a ha with z | z
    · exact .inl (grow_fp.mp z)
    · exact .inr z
end
end Dl
set_option Elab.async false
set_option linter.all false
set_option maxRecDepth 100000
namespace PySem
open Sem (wp)
/-! ### enumerate(v), v told by how its iterator begins -/
set_option maxHeartbeats 1000000 in
theorem sq_enumNew {u : Value} {ob : Obj} {Hx : Heap → Prop} (Bg : Begins u ob Hx) : Meets (Builtin.«enumerate.__new__» ⟨[.type "enumerate", u], []⟩)
    (fun _ R s => Hx s.heap ∧ R (.ok (.ret (.ref (s.heap.push ob).objs.size)))
      { s with heap := (s.heap.push ob).push ⟨.type "enumerate", none, .fields #[.none, .bool false, .ref s.heap.objs.size, rawInt 0, .none, .none], #[]⟩ }) :=
  .of_wp fun pg wd Ar R sh hh => by
    obtain ⟨hp, gn, dr, tk, os⟩ := sh
    obtain ⟨hx, hr⟩ := hh
    have hb := sub_enumerate
    have go : ∀ {A2 : Around} {E2 : Value → Shared → Prop} {Q2 : Value → Shared → Prop}, Q2 (.ref hp.objs.size) ⟨hp.push ob, gn, dr, tk, os⟩ →
        wpAny (model pg wd) A2 (pyIter u) Q2 E2 ⟨hp, gn, dr, tk, os⟩ := fun q2 => Bg.iter pg wd _ _ ⟨hp, gn, dr, tk, os⟩ _ hx q2
    wp_walk using go
    refine wpAny_stack_any fun stk => wpAny_pure ?_
    split
    · rename_i cc _ _ _ _ _
      cases (cc == Value.type "enumerate")
      all_goals
        wp_walk using go
        exact ⟨_, rfl, hr⟩
    · wp_walk using go
      exact ⟨_, rfl, hr⟩
theorem sq_enum {pg : Program} {wd : World} {Ar : Around} {Er : Value → Shared → Prop} {sh : Shared} {u : Value} {ob : Obj} {Hx : Heap → Prop} {Q : Value → Shared → Prop} (Bg : Begins u ob Hx) (hx : Hx sh.heap)
    (hq : ∀ g, IsEnum g (sh.heap.objs.size + 1) sh.heap.objs.size 0 .none → g.get? sh.heap.objs.size = some ob → (∀ b o, sh.heap.get? b = some o → g.get? b = some o) → Q (.ref (sh.heap.objs.size + 1)) { sh with heap := g }) :
    wpAny (model pg wd) Ar (call (.type "enumerate") [u]) Q Er sh := by
  refine callType_new F.called_enumerate (by decide) (F.typeCall_enumerate_1 _) (F.newCall_enumerate_1 _)
    (fun z => F.args_object_init_2 z _) F.entry_enumerate_new (sq_enumNew Bg) ⟨hx, ?_⟩
  have sz : (sh.heap.push ob).objs.size = sh.heap.objs.size + 1 := Heap.size_push ..
  have top : ((sh.heap.push ob).push ⟨.type "enumerate", none, .fields #[.none, .bool false, .ref sh.heap.objs.size, rawInt 0, .none, .none], #[]⟩).get? (sh.heap.objs.size + 1)
      = some ⟨.type "enumerate", none, .fields #[.none, .bool false, .ref sh.heap.objs.size, rawInt 0, .none, .none], #[]⟩ := by
    have t := Heap.get?_push_size (sh.heap.push ob) (o := ⟨.type "enumerate", none, .fields #[.none, .bool false, .ref sh.heap.objs.size, rawInt 0, .none, .none], #[]⟩) rfl
    rw [sz] at t
    exact t
  show _ ∧ _
  rw [sz]
  exact ⟨⟨_, top, rfl⟩, hq _ top (Heap.get?_push_of_some _ (Heap.get?_push_size _ Bg.free)) fun b o e => Heap.get?_push_of_some _ (Heap.get?_push_of_some _ e)⟩
end PySem

namespace Sq
open PySem PySem.Spec L2
/-! ### a list or a tuple that is walked -/
def SqX (K : PySem.W.Frag) : Bool → Hp → Addr → List V → Prop
  | true => SqT K
  | false => SqL K
def SrcAt : Bool → Heap → Addr → Array Value → Prop
  | true, h, a, its => h.IsTuple a its
  | false, h, a, its => h.IsList a its
def ItrAt : Bool → Heap → Addr → Addr → Nat → Prop
  | true, h, it, a, i => h.IsTupleIter it a i
  | false, h, it, a, i => h.IsListIter it a i
def itrO : Bool → Addr → Obj
  | true, a => { cls := .type "tuple_iterator", data := .fields #[.ref a, .int 0 0] }
  | false, a => { cls := .type "list_iterator", data := .fields #[.ref a, .int 0 0] }
theorem begins_seq : ∀ (t : Bool) (a : Addr) (its : Array Value), Begins (.ref a) (itrO t a) fun h => SrcAt t h a its
  | true, a, its => begins_tuple a its
  | false, a, its => begins_list a its
theorem draws_seq {prog : Program} {w : World} {A : Around} (hh : A.handled = none) (it a : Addr) (hne : a ≠ it) (its : Array Value) : ∀ t : Bool,
    Draws prog w A it [it, a] its.size (fun i v => its[i]? = some v) fun i h => ItrAt t h it a i ∧ SrcAt t h a its
  | true => Draws.tuple hh it a hne its
  | false => Draws.list hh it a hne its
theorem itr0 : ∀ (t : Bool) {h : Heap} {it a : Addr}, h.get? it = some (itrO t a) → ItrAt t h it a 0
  | true, _, _, _, e => ⟨_, e, rfl, rfl⟩
  | false, _, _, _, e => ⟨_, e, rfl, rfl⟩
theorem itr_at : ∀ (t : Bool) {h h' : Heap} {it a : Addr} {i : Nat}, ItrAt t h it a i → (∀ o, h.get? it = some o → h'.get? it = some o) → ItrAt t h' it a i
  | true, _, _, _, _, _, x, k => x.at k
  | false, _, _, _, _, _, x, k => x.at k
theorem itr_obj : ∀ (t : Bool) {h : Heap} {it a : Addr} {i : Nat}, ItrAt t h it a i → ∃ o, h.get? it = some o ∧ ∀ v, o.data ≠ .cell v
  | true, _, _, _, _, ⟨o, ho, _, hd⟩ => ⟨o, ho, fun v q => by rw [hd] at q; cases q⟩
  | false, _, _, _, _, ⟨o, ho, _, hd⟩ => ⟨o, ho, fun v q => by rw [hd] at q; cases q⟩
section
variable {X : Cx} {pins : List (Addr × Obj)} {σ : L2.St} {H : Hp} {s : Shared}
theorem seq_at (I : Inv X pins σ H s) : ∀ (t : Bool) {a : Addr} {xs : List V}, SqX X.K t H a xs → ∃ its : List Value, Vals xs its ∧ SrcAt t s.heap a its.toArray ∧ a < s.heap.objs.size
  | true, a, xs, h => by
    obtain ⟨its, r, p, _⟩ := I.tuple h
    exact ⟨its, r, p, p.lt⟩
  | false, a, xs, h => by
    obtain ⟨its, r, p, _⟩ := I.list h
    exact ⟨its, r, p.isList, p.lt⟩
theorem seq_inj (I : Inv X pins σ H s) : ∀ (t : Bool) {a : Addr} {xs ys : List V}, SqX X.K t H a xs → SqX X.K t H a ys → xs = ys
  | true, _, _, _, h, h' => I.tuple_inj h h'
  | false, _, _, _, h, h' => I.list_inj h h'
end
/-! ### for x in a sequence -/
def ItS (K : PySem.W.Frag) : Bool → Addr → It
  | true, a => Itt K a
  | false, a => Itl K a
theorem turn_seq {P : Program} {w : World} {K : PySem.W.Frag} {tg : Expr} : ∀ (t : Bool) (a it : Addr), Turn P w K tg (ItS K t a) [it] it (fun i h => ItrAt t h it a i)
  | true, a, it => turn_tuple a it
  | false, a, it => turn_list a it
theorem walk_seq {K : PySem.W.Frag} {a : Addr} {xs : List V} : ∀ t : Bool, Walk (ItS K t a) xs.length (fun H => SqX K t H a xs) (YAt xs)
  | true => walk_tup
  | false => walk_list
def iSeq (K : PySem.W.Frag) (tl : TE) : TI := fun σ H R => tl σ H fun x H1 => ∃ a t xs, x = .ref a ∧ SqX K t H1 a xs ∧ R (ItS K t a) H1
theorem fp_new {X : Cx} {pins : List (Addr × Obj)} {σ : L2.St} {H : Hp} {s : Shared} (I : Inv X pins σ H s) {b : Addr} (h : s.heap.objs.size ≤ b) : FpOk X pins H b := I.fpOk h (I.hok.fresh h)
theorem pi_seq {X : Cx} {tg l : Expr} {tl : TE} (hl : PE X l tl) : PI X tg l (iSeq X.K tl) := by
  constructor
  intro pins s σ H R I h
  refine thn (hl.run pins s σ H _ I h) ?_
  rintro u s1 ⟨x, H1, I1, r1, a, t, xs, rfl, hq, q⟩
  cases r1
  obtain ⟨its, rv, p, _⟩ := seq_at I1 t hq
  refine (begins_seq t a its.toArray).iter X.prog X.w X.A X.xe s1 _ p ?_
  refine ⟨s1.heap.objs.size, [s1.heap.objs.size], _, _, H1, rfl, I1.kept (t' := s1.toks) (fun b o e => Heap.get?_push_of_some _ e), turn_seq t a _,
    itr0 t (Heap.get?_push_size _ (begins_seq t a its.toArray).free), ?_, q⟩
  intro b hb
  obtain rfl : b = s1.heap.objs.size := by simpa using hb
  exact fp_new I1 (Nat.le_refl _)
/-! ### enumerate of a sequence -/
def ItE (K : PySem.W.Frag) (t : Bool) (a : Addr) : It where
  go := fun i H => ∃ (xs : List V) (x : V), SqX K t H a xs ∧ xs[i]? = some x
  yld := fun i H v H' => ∃ T x, v = .ref T ∧ H T = none ∧ H' = upd H T (.tup [.int (i : Nat), x]) ∧ ∀ xs, SqX K t H a xs → xs[i]? = some x
  stop := fun i H => ∃ xs : List V, SqX K t H a xs ∧ xs.length = i
theorem walk_en {K : PySem.W.Frag} {a : Addr} {xs : List V} {t : Bool} : Walk (ItE K t a) xs.length (fun H => SqX K t H a xs) (YPair (fun i => some (.int (i : Nat))) (fun i => xs[i]?)) where
  goes := fun i H hi h => ⟨xs, xs[i], h, List.getElem?_eq_getElem hi⟩
  stops := fun H h => ⟨xs, h, rfl⟩
  yields := fun i H x H' _ h ⟨T, y, e1, e2, e3, e4⟩ => ⟨T, _, y, e1, e2, e3, rfl, e4 xs h⟩
theorem turn_en {P : Program} {w : World} {K : PySem.W.Frag} {elts : List Expr} {kk : Nat} {tpos : Pos} (t : Bool) (a e it : Addr) :
    Turn P w K (.Tuple elts kk tpos) (ItE K t a) [e, it] e (fun i h => (∃ old, IsEnum h e it (0 + (i : Int)) old) ∧ ItrAt t h it a i ∧ e ≠ it ∧ a ≠ it ∧ a ≠ e) where
  mem := List.mem_cons_self
  obj := by
    rintro i h ⟨⟨old, he⟩, hi, _⟩ b hb
    rcases (by simpa using hb : b = e ∨ b = it) with rfl | rfl
    · exact ⟨_, he, fun v q => nomatch q⟩
    · exact itr_obj t hi
  keep := by
    rintro i h h' ⟨⟨old, he⟩, hi, rest⟩ k
    exact ⟨⟨old, k e (by simp) _ he⟩, itr_at t hi fun o q => k it (by simp) o q, rest⟩
  item := by
    rintro X rfl rfl rfl hc i pins s σ H E I hf ⟨⟨old, he⟩, hit, n1, n2, n3⟩ ⟨xs, x, hq, hx⟩
    obtain ⟨its, rv, p, hl⟩ := seq_at I t hq
    obtain ⟨u, hu, ru⟩ := rv.get hx
    have hn : i < its.toArray.size := by rw [List.size_toArray]; exact (List.getElem?_eq_some_iff.mp hu).1
    have gs := GoesN.enumFrom (prog := X.prog) (w := X.w) (A := X.A) (elts := elts) (x1 := kk) (pos := tpos) 0 (draws_seq (prog := X.prog) (w := X.w) (A := X.A.in1) (show X.A.in1.handled = none from I.ok.hd hc) it a n2 its.toArray t) e n1 (fun z => by rcases (by simpa using z : e = it ∨ e = a) with y | y; exact n1 y; exact n3 y.symm) List.mem_cons_self
    refine thn (gs.goes i s (fun v s2 => ∃ y H', Inv X pins σ H' s2 ∧ RelV y v ∧ (ItE X.K t a).yld i H y H' ∧ ((∃ old, IsEnum s2.heap e it (0 + ((i + 1 : Nat) : Int)) old) ∧ ItrAt t s2.heap it a (i + 1) ∧ e ≠ it ∧ a ≠ it ∧ a ≠ e) ∧ ∀ b ∈ [e, it], H' b = none) E hn ⟨⟨old, he⟩, hit, p⟩ ?_) fun r s1 hr => hr
    rintro v h' tk ⟨T, tt, z, rfl, hT, hz, hTup⟩ ⟨⟨old', he'⟩, hit', _⟩ hk _
    have ez : z = u := by
      have q : its.toArray[i]? = some z := hz
      rw [show its.toArray[i]? = its[i]? by simp, hu] at q
      exact (Option.some.inj q).symm
    subst ez
    have new : ObjOk X.prog X.w (upd H T (.tup [.int (i : Nat), x])) h' T (.tup [.int (i : Nat), x]) :=
      ⟨by show 2 ≤ sizeLine; decide, [.int (0 + (i : Int)) tt, z], .cons ⟨tt, by rw [Int.zero_add]⟩ (.cons ru .nil), hTup⟩
    refine ⟨.ref T, _, I.turnedNew (t' := tk) (ch := [e, it]) hk hf hT new, rfl, ⟨T, x, rfl, I.hok.fresh hT, rfl, fun ys hy => by rw [seq_inj I t hy hq]; exact hx⟩, ⟨⟨old', he'⟩, hit', n1, n2, n3⟩, fun b hb => ?_⟩
    have bl : b < s.heap.objs.size := by
      rcases (by simpa using hb : b = e ∨ b = it) with rfl | rfl
      · exact Heap.lt_size he
      · obtain ⟨o, ho, _⟩ := itr_obj t hit
        exact Heap.lt_size ho
    rw [upd_ne (Nat.ne_of_lt (Nat.lt_of_lt_of_le bl hT))]
    exact (hf b hb).1
  done := by
    rintro X rfl rfl rfl hc i pins s σ H E I hf ⟨⟨old, he⟩, hit, n1, n2, n3⟩ ⟨xs, hq, hx⟩
    obtain ⟨its, rv, p, hl⟩ := seq_at I t hq
    have hn : its.toArray.size = i := by rw [List.size_toArray, ← rv.length]; exact hx
    have gs := GoesN.enumFrom (prog := X.prog) (w := X.w) (A := X.A) (elts := elts) (x1 := kk) (pos := tpos) 0 (draws_seq (prog := X.prog) (w := X.w) (A := X.A.in1) (show X.A.in1.handled = none from I.ok.hd hc) it a n2 its.toArray t) e n1 (fun z => by rcases (by simpa using z : e = it ∨ e = a) with y | y; exact n1 y; exact n3 y.symm) List.mem_cons_self
    refine gs.stops s (fun s1 => Inv X pins σ H s1) E ?_ fun h' tk hk _ => I.turnedL (t' := tk) (ch := [e, it]) hk hf
    rw [hn]
    exact ⟨⟨old, he⟩, hit, p⟩
  self := by
    rintro A i s Q E ⟨⟨old, he⟩, _⟩ h
    exact wpAny_pyIter_enum he h
def iEnS (K : PySem.W.Frag) (ta : TA) : TI := fun σ H R => ta σ H fun vs H1 => ∃ a t xs, vs = [.ref a] ∧ SqX K t H1 a xs ∧ R (ItE K t a) H1
theorem pi_enS {X : Cx} {e : Expr} {ta : TA} {p pos tpos : Pos} {elts : List Expr} {kk : Nat} (hg : Gl X "enumerate") (hm : X.mg "enumerate" = none) (ha : PA X [e] ta) (hs : starEach [e] X.env = [(false, eval e X.env)] := by rfl) :
    PI X (.Tuple elts kk tpos) (.Call (.Name "enumerate" p) [e] [] pos) (iEnS X.K ta) := by
  constructor
  intro pins s σ H R I h
  refine PyProof.Rows.Call_ (ld_blt I hg hm PyProof.Rows.boot_enumerate (PyProof.Rows.callWith_type1 (thn (ha.run pos pins s σ H _ I h) ?_) hs rfl))
  rintro us s1 ⟨vs, H1, I1, r1, a, t, xs, rfl, hq, q⟩
  obtain ⟨u1, rfl, ru⟩ := vals1 r1
  cases ru
  obtain ⟨its, rv, p', hl⟩ := seq_at I1 t hq
  refine sq_enum (begins_seq t a its.toArray) p' fun g he hi hk => wpAny_pyIter_enum he ?_
  refine ⟨s1.heap.objs.size + 1, [s1.heap.objs.size + 1, s1.heap.objs.size], _, _, H1, rfl, I1.kept (t' := s1.toks) hk, turn_en t a (s1.heap.objs.size + 1) s1.heap.objs.size, ⟨⟨.none, he⟩, itr0 t hi, Nat.succ_ne_self _, Nat.ne_of_lt hl, Nat.ne_of_lt (Nat.lt_succ_of_lt hl)⟩, fun b hb => ?_, q⟩
  refine fp_new I1 ?_
  rcases (by simpa using hb : b = s1.heap.objs.size + 1 ∨ b = s1.heap.objs.size) with rfl | rfl
  · exact Nat.le_succ _
  · exact Nat.le_refl _
end Sq
set_option Elab.async false
set_option linter.all false
set_option maxRecDepth 100000
namespace Dl
open PySem PySem.Spec L2
section
variable [Amb] (K : PySem.W.Frag)
/-- what is walked gives the data xs, one by one, while the stable heap stands -/
def DWalk (J : It) (xs : List D) (W : Wd) : Prop := ∃ (G : Hp → Prop) (Y : Nat → Hp → V → Hp → Prop), Walk J xs.length G Y ∧ (∀ W' : Wd, Same W.S W'.S → Same W'.S W'.H → G W'.H) ∧
  ∀ (i : Nat) (W' : Wd) (σ : L2.St) (sd : List Sl) (x : V) (H' : Hp), i < xs.length → Same W.S W'.S → Cnf K W' σ sd → Y i W'.H x H' → ∃ W2 : Wd, W2.H = H' ∧ Stp W' W2 ∧ W2.Fs = W'.Fs ∧ Cnf K W2 σ sd ∧ ∃ d, xs[i]? = some d ∧ Den K W2.S x d
abbrev DTI := List Sl → (List D → List Sl → Prop) → Prop
class LI (wi : TI) (di : outParam DTI) : Prop where
  up : ∀ {sd : List Sl} {k : List D → List Sl → Prop}, di sd k → ∀ (W : Wd) (σ : L2.St), Cnf K W σ sd → ∀ R : It → Hp → Prop, (∀ J xs sd' W', Stp W W' → Cnf K W' σ sd' → DWalk K J xs W' → k xs sd' → R J W'.H) → wi σ W.H R
end
section
variable [Amb] {K : PySem.W.Frag}
/-! ### sources -/
theorem dwalk_at {J : It} {xs : List D} {W : Wd} {vs : List V} {G : Hp → Prop} (w : Walk J vs.length G (YAt vs)) (n : Dens K W.S vs xs) (hG : ∀ W' : Wd, Same W.S W'.S → Same W'.S W'.H → G W'.H) : DWalk K J xs W := by
  refine ⟨G, YAt vs, by rw [← n.1]; exact w, hG, fun i W' σ sd x H' hi e C y => ?_⟩
  obtain ⟨rfl, hx⟩ := y
  obtain ⟨d, hd, nd⟩ := (n.mono e).getV hx
  exact ⟨W', rfl, Stp.refl W', rfl, C, d, hd, nd⟩
def iLst (da : DTE) : DTI := fun sd k => da sd fun x sd1 => ∃ xs, x = .lst xs ∧ k xs sd1
def iTpl (da : DTE) : DTI := fun sd k => da sd fun x sd1 => ∃ xs, x = .tup xs ∧ k xs sd1
instance li_list {tl : TE} {da : DTE} [a : LE K tl da] : LI K (iList K tl) (iLst da) := ⟨fun h W σ C R q => a.up h W σ C _ fun v x sd1 W1 s1 C1 n1 ⟨xs, e, h1⟩ => by
  subst e
  obtain ⟨p, vs, rfl, hp, n⟩ := n1.lst_inv
  exact ⟨p, rfl, ⟨vs, .of (C1.sub _ _ hp)⟩, q _ xs sd1 W1 s1 C1 (dwalk_at (walk_list (K := K) (a := p)) n fun W' e1 e2 => .of (e2 _ _ (e1 _ _ hp))) h1⟩⟩
instance li_tup {tl : TE} {da : DTE} [a : LE K tl da] : LI K (iTup K tl) (iTpl da) := ⟨fun h W σ C R q => a.up h W σ C _ fun v x sd1 W1 s1 C1 n1 ⟨xs, e, h1⟩ => by
  subst e
  obtain ⟨p, vs, rfl, hp, n⟩ := n1.tup_inv
  exact ⟨p, rfl, ⟨vs, sqT_mono C1.sub hp⟩, q _ xs sd1 W1 s1 C1 (dwalk_at (walk_tup (K := K) (a := p)) n fun W' e1 e2 => sqT_mono e2 (sqT_mono e1 hp)) h1⟩⟩
/-- a list or a tuple -/
def iSq (da : DTE) : DTI := fun sd k => da sd fun x sd1 => match x with
  | .lst xs => k xs sd1
  | .tup xs => k xs sd1
  | .kt xs => k xs sd1
  | _ => False
instance li_seq {tl : TE} {da : DTE} [a : LE K tl da] : LI K (Sq.iSeq K tl) (iSq da) := ⟨fun h W σ C R q => a.up h W σ C _ fun v x sd1 W1 s1 C1 n1 h1 => by
  cases x <;> try exact (show False from h1).elim
  case lst xs =>
    obtain ⟨p, vs, rfl, hp, n⟩ := n1.lst_inv
    exact ⟨p, false, vs, rfl, .of (C1.sub _ _ hp), q _ xs sd1 W1 s1 C1 (dwalk_at (Sq.walk_seq (K := K) (a := p) false) n fun W' e1 e2 => .of (e2 _ _ (e1 _ _ hp))) h1⟩
  case tup xs =>
    obtain ⟨p, vs, rfl, hp, n⟩ := n1.tup_inv
    exact ⟨p, true, vs, rfl, sqT_mono C1.sub hp, q _ xs sd1 W1 s1 C1 (dwalk_at (Sq.walk_seq (K := K) (a := p) true) n fun W' e1 e2 => sqT_mono e2 (sqT_mono e1 hp)) h1⟩
  case kt xs =>
    obtain ⟨p, vs, rfl, hp, n⟩ := n1.kt_inv
    exact ⟨p, true, vs, rfl, hp _, q _ xs sd1 W1 s1 C1 (dwalk_at (Sq.walk_seq (K := K) (a := p) true) n fun W' e1 e2 => hp _) h1⟩⟩
/-- the ints lo, lo + 1, .. : n of them -/
def intsD (lo : Int) (n : Nat) : List D := (List.range n).map fun (i : Nat) => .int (lo + (i : Int))
omit [Amb] in
theorem intsD_get {lo : Int} {n i : Nat} (h : i < n) : (intsD lo n)[i]? = some (.int (lo + i)) := by
  unfold intsD
  rw [List.getElem?_map, List.getElem?_range h]
  rfl
omit [Amb] in
theorem intsD_len (lo : Int) (n : Nat) : (intsD lo n).length = n := by unfold intsD; rw [List.length_map, List.length_range]
theorem dwalk_rng {lo : Int} {n : Nat} {W : Wd} : DWalk K (Itr lo n) (intsD lo n) W := by
  refine ⟨fun _ => True, YFn fun i => .int (lo + i), by rw [intsD_len]; exact walk_range, fun _ _ _ => trivial, fun i W' σ sd x H' hi e C y => ?_⟩
  obtain ⟨rfl, rfl⟩ := y
  rw [intsD_len] at hi
  exact ⟨W', rfl, Stp.refl W', rfl, C, _, intsD_get hi, .int _⟩
def iR1 (dl : DTL) : DTI := fun sd k => dl sd fun xs sd1 => ∃ n : Int, xs = [.int n] ∧ -1000000 ≤ n ∧ n ≤ 1000000 ∧ k (intsD 0 n.toNat) sd1
def iR2 (dl : DTL) : DTI := fun sd k => dl sd fun xs sd1 => ∃ lo n : Int, xs = [.int lo, .int n] ∧ (-1000000 ≤ lo ∧ lo ≤ 1000000 ∧ -1000000 ≤ n ∧ n ≤ 1000000) ∧ k (intsD lo (n - lo).toNat) sd1
instance li_rng1 {ta : TA} {dl : DTL} [a : LL K ta dl] : LI K (iRng1 ta) (iR1 dl) := ⟨fun h W σ C R q => a.up h W σ C _ fun vs xs sd1 W1 s1 C1 n1 ⟨n, e, h1, h2, hk⟩ => by
  subst e
  obtain ⟨v, rfl, hv⟩ := dens1 n1
  have e := den_int hv
  subst e
  exact ⟨n, rfl, by omega, by omega, q _ _ sd1 W1 s1 C1 dwalk_rng hk⟩⟩
instance li_rng2 {ta : TA} {dl : DTL} [a : LL K ta dl] : LI K (iRng2 ta) (iR2 dl) := ⟨fun h W σ C R q => a.up h W σ C _ fun vs xs sd1 W1 s1 C1 n1 ⟨lo, n, e, h1, hk⟩ => by
  subst e
  obtain ⟨v, u, rfl, hv, hu⟩ := dens2 n1
  have e := den_int hv
  subst e
  have e := den_int hu
  subst e
  exact ⟨lo, n, rfl, ⟨by omega, by omega, by omega, by omega⟩, q _ _ sd1 W1 s1 C1 dwalk_rng hk⟩⟩
/-- pairs: a new tuple each turn -/
theorem dwalk_pair {J : It} {n : Nat} {W : Wd} {G : Hp → Prop} {us ws : Nat → Option V} {xs : List D} (w : Walk J n G (YPair us ws)) (hn : n = xs.length) (hG : ∀ W' : Wd, Same W.S W'.S → Same W'.S W'.H → G W'.H)
    (hx : ∀ i x y, i < n → us i = some x → ws i = some y → ∃ d e, xs[i]? = some (.tup [d, e]) ∧ Den K W.S x d ∧ Den K W.S y e) : DWalk K J xs W := by
  subst hn
  refine ⟨G, YPair us ws, w, hG, fun i W' σ sd x H' hi e C y => ?_⟩
  obtain ⟨T, x1, y1, rfl, hT, rfl, h1, h2⟩ := y
  obtain ⟨d, e', hd, n1, n2⟩ := hx i x1 y1 hi h1 h2
  exact ⟨W'.lay T (.tup [x1, y1]), rfl, Stp.lay C.toCnf0 hT, rfl, C.lay hT, _, hd, new_tup C hT (.cons (n1.mono e) (.cons (n2.mono e) .nil))⟩
def enumD : Nat → List D → List D
  | _, [] => []
  | i, x :: xs => .tup [.int i, x] :: enumD (i + 1) xs
omit [Amb] in
theorem enumD_len : ∀ (i : Nat) (xs : List D), (enumD i xs).length = xs.length
  | _, [] => rfl
  | i, x :: xs => by rw [enumD, List.length_cons, List.length_cons, enumD_len]
omit [Amb] in
theorem enumD_get : ∀ (i : Nat) (xs : List D) (j : Nat), (enumD i xs)[j]? = xs[j]?.map fun x => .tup [.int ((i + j : Nat) : Int), x]
  | _, [], j => by simp [enumD]
  | i, x :: xs, 0 => by simp [enumD]
  | i, x :: xs, j + 1 => by
    rw [enumD, List.getElem?_cons_succ, enumD_get (i + 1) xs j, List.getElem?_cons_succ]
    rw [show i + 1 + j = i + (j + 1) by omega]
def iEnm (dl : DTL) : DTI := fun sd k => dl sd fun xs sd1 => ∃ ys, xs = [.lst ys] ∧ k (enumD 0 ys) sd1
instance li_enum {ta : TA} {dl : DTL} [a : LL K ta dl] : LI K (iEnum K ta) (iEnm dl) := ⟨fun h W σ C R q => a.up h W σ C _ fun vs xs sd1 W1 s1 C1 n1 ⟨ys, e, hk⟩ => by
  subst e
  obtain ⟨v, rfl, hv⟩ := dens1 n1
  obtain ⟨p, ws, rfl, hp, n⟩ := hv.lst_inv
  refine ⟨p, ws, rfl, .of (C1.sub _ _ hp), q _ _ sd1 W1 s1 C1 (dwalk_pair (walk_enum (K := K) (a := p) (xs := ws)) (by rw [enumD_len]; exact n.1) (fun W' e1 e2 => .of (e2 _ _ (e1 _ _ hp))) fun i x y hi h1 h2 => ?_) hk⟩
  cases h1
  obtain ⟨d, hd, nd⟩ := n.getV h2
  exact ⟨.int i, d, by rw [enumD_get, hd]; simp, .int _, nd⟩⟩
omit [Amb] in
/-- a value that is walked: its items -/
theorem seq_inv {S : Hp} {v : V} {x : D} {ys : List D} (n : Den K S v x) (e : x = .lst ys ∨ x = .tup ys ∨ x = .kt ys) : ∃ a t vs, v = .ref a ∧ (∀ H, Same S H → Sq.SqX K t H a vs) ∧ Dens K S vs ys := by
  rcases e with rfl | rfl | rfl
  · obtain ⟨a, vs, rfl, h, d⟩ := n.lst_inv
    exact ⟨a, false, vs, rfl, fun H e => .of (e _ _ h), d⟩
  · obtain ⟨a, vs, rfl, h, d⟩ := n.tup_inv
    exact ⟨a, true, vs, rfl, fun H e => sqT_mono e h, d⟩
  · obtain ⟨a, vs, rfl, h, d⟩ := n.kt_inv
    exact ⟨a, true, vs, rfl, fun H e => h H, d⟩
def itemsD : D → (List D → Prop) → Prop
  | .lst xs, k => k xs
  | .tup xs, k => k xs
  | .kt xs, k => k xs
  | _, _ => False
omit [Amb] in
theorem itemsD_inv {x : D} {k : List D → Prop} (h : itemsD x k) : ∃ ys, (x = .lst ys ∨ x = .tup ys ∨ x = .kt ys) ∧ k ys := by
  cases x <;> try exact (show False from h).elim
  case lst ys => exact ⟨ys, .inl rfl, h⟩
  case tup ys => exact ⟨ys, .inr (.inl rfl), h⟩
  case kt ys => exact ⟨ys, .inr (.inr rfl), h⟩
def iEnX (dl : DTL) : DTI := fun sd k => dl sd fun xs sd1 => ∃ x, xs = [x] ∧ itemsD x fun ys => k (enumD 0 ys) sd1
instance li_enS {ta : TA} {dl : DTL} [a : LL K ta dl] : LI K (Sq.iEnS K ta) (iEnX dl) := ⟨fun h W σ C R q => a.up h W σ C _ fun vs xs sd1 W1 s1 C1 n1 ⟨x, e, hx⟩ => by
  subst e
  obtain ⟨v, rfl, hv⟩ := dens1 n1
  obtain ⟨ys, ex, hk⟩ := itemsD_inv hx
  obtain ⟨p, t, ws, rfl, hp, n⟩ := seq_inv hv ex
  refine ⟨p, t, ws, rfl, hp _ C1.sub, q _ _ sd1 W1 s1 C1 (dwalk_pair (Sq.walk_en (K := K) (a := p) (xs := ws) (t := t)) (by rw [enumD_len]; exact n.1) (fun W' e1 e2 => hp _ (e1.trans e2)) fun i x y hi h1 h2 => ?_) hk⟩
  cases h1
  obtain ⟨d, hd, nd⟩ := n.getV h2
  exact ⟨.int i, d, by rw [enumD_get, hd]; simp, .int _, nd⟩⟩
def zipD : List D → List D → List D
  | x :: xs, y :: ys => .tup [x, y] :: zipD xs ys
  | _, _ => []
omit [Amb] in
theorem zipD_len : ∀ (xs ys : List D), (zipD xs ys).length = min xs.length ys.length
  | [], ys => by simp [zipD]
  | x :: xs, [] => by simp [zipD]
  | x :: xs, y :: ys => by rw [zipD, List.length_cons, List.length_cons, List.length_cons, zipD_len]; omega
omit [Amb] in
theorem zipD_get : ∀ {xs ys : List D} {i : Nat} {x y : D}, xs[i]? = some x → ys[i]? = some y → (zipD xs ys)[i]? = some (.tup [x, y])
  | [], _, _, _, _, h, _ => by simp at h
  | _ :: _, [], _, _, _, _, h => by simp at h
  | a :: xs, b :: ys, 0, x, y, h1, h2 => by simp at h1 h2; subst h1; subst h2; rfl
  | a :: xs, b :: ys, i + 1, x, y, h1, h2 => by rw [zipD, List.getElem?_cons_succ]; exact zipD_get (by simpa using h1) (by simpa using h2)
def iZp (dl : DTL) : DTI := fun sd k => dl sd fun xs sd1 => ∃ ys zs, xs = [.lst ys, .lst zs] ∧ k (zipD ys zs) sd1
instance li_zip {ta : TA} {dl : DTL} [a : LL K ta dl] : LI K (iZip K ta) (iZp dl) := ⟨fun h W σ C R q => a.up h W σ C _ fun vs xs sd1 W1 s1 C1 n1 ⟨ys, zs, e, hk⟩ => by
  subst e
  obtain ⟨v, u, rfl, hv, hu⟩ := dens2 n1
  obtain ⟨p, ws, rfl, hp, n⟩ := hv.lst_inv
  obtain ⟨p', ws', rfl, hp', n'⟩ := hu.lst_inv
  refine ⟨p, p', ws, ws', rfl, .of (C1.sub _ _ hp), .of (C1.sub _ _ hp'), q _ _ sd1 W1 s1 C1 (dwalk_pair (walk_zip (K := K) (a := p) (b := p') (xs := ws) (ys := ws') rfl) (by rw [zipD_len, n.1, n'.1]) (fun W' e1 e2 => ⟨.of (e2 _ _ (e1 _ _ hp)), .of (e2 _ _ (e1 _ _ hp'))⟩) fun i x y hi h1 h2 => ?_) hk⟩
  obtain ⟨d, hd, nd⟩ := n.getV h1
  obtain ⟨d', hd', nd'⟩ := n'.getV h2
  exact ⟨d, d', zipD_get hd hd', nd, nd'⟩⟩
/-! ### for -/
def dFor (di : DTI) (dg : DTG) (db : DTS) : DTS := fun E sd => di sd fun xs sd1 => ∃ Iv : Nat → List Sl → Prop, Iv 0 sd1 ∧
  (∀ (i : Nat) (x : D) (sd' : List Sl), xs[i]? = some x → Iv i sd' → dg x sd' fun sd2 => db { nx := Iv (i + 1), rt := E.rt, bk := E.nx, ct := Iv (i + 1) } sd2) ∧ ∀ sd', Iv xs.length sd' → E.nx sd'
instance ls_for {wi : TI} {g : TG} {tb : TS} {di : DTI} {dg : DTG} {db : DTS} [a : LI K wi di] [b : LG K g dg] [c : LS K tb db] : LS K (tFor wi g tb) (dFor di dg db) := ⟨fun {E sd} h W σ C Dn k =>
  a.up h W σ C _ fun J xs sd1 W1 s1 C1 ⟨G, Y, w, hG, hY⟩ ⟨Iv, i0, ht, he⟩ => by
    refine for_it w (fun i σ' H' => ∃ W' sd', Stp W1 W' ∧ Cnf K W' σ' sd' ∧ W'.H = H' ∧ Iv i sd') ⟨W1, sd1, Stp.refl W1, C1, rfl, i0⟩ ?_ ?_ ?_
    · rintro i σ' H' _ ⟨W', sd', s', C', rfl, _⟩
      exact hG W' s'.st C'.sub
    · rintro i x σ' H' H2 hi ⟨W', sd', s', C', rfl, hI⟩ y
      obtain ⟨W2, rfl, s2, _, C2, d, hd, nd⟩ := hY i W' σ' sd' x H2 hi s'.st C' y
      refine b.up (ht i d sd' hd hI) W2 σ' x C2 nd _ fun σ3 sd3 W3 s3 C3 h3 => ?_
      have s03 := s'.trans (s2.trans s3)
      exact c.up h3 W3 σ3 C3 _ ⟨fun σ4 sd4 W4 s4 C4 h4 => ⟨W4, sd4, s03.trans s4, C4, rfl, h4⟩, fun v r F σ4 sd4 W4 s4 C4 hs nr h4 => k.rt v r F σ4 sd4 W4 (s1.trans (s03.trans s4)) C4 hs (nr.back (s1.trans s03)) h4,
        fun σ4 sd4 W4 s4 C4 h4 => k.nx σ4 sd4 W4 (s1.trans (s03.trans s4)) C4 h4, fun σ4 sd4 W4 s4 C4 h4 => ⟨W4, sd4, s03.trans s4, C4, rfl, h4⟩⟩
    · rintro σ' H' ⟨W', sd', s', C', rfl, hI⟩
      exact k.nx σ' sd' W' (s1.trans s') C' (he sd' hI)⟩
/-! ### comprehensions -/
/-- the slots that a target sets -/
class GW (g : TG) (ws : outParam (List Nat)) : Prop where
  w : ∀ (vs : List Nat) (x : V) (σ : L2.St) (H : Hp) (Q Q' : L2.St → Hp → Prop), (∀ j ∈ ws, j ∈ vs) → (∀ σ2 H2, wipe σ2 vs = wipe σ vs → Q σ2 H2 → Q' σ2 H2) → g x σ H Q → g x σ H Q'
class GWs (g : TGs) (ws : outParam (List Nat)) : Prop where
  w : ∀ (vs : List Nat) (xs : List V) (σ : L2.St) (H : Hp) (Q Q' : L2.St → Hp → Prop), (∀ j ∈ ws, j ∈ vs) → (∀ σ2 H2, wipe σ2 vs = wipe σ vs → Q σ2 H2 → Q' σ2 H2) → g xs σ H Q → g xs σ H Q'
omit [Amb] in
theorem wipe_in {τ : L2.St} {m : Nat} : ∀ {vs : List Nat}, m ∈ vs → (wipe τ vs)[m]? = if m < τ.length then some none else none
  | [], h => by simp at h
  | b :: vs, h => by
    unfold wipe
    rw [List.getElem?_set]
    by_cases hb : b = m
    · rw [if_pos hb, wipe_length]
      subst hb
      rfl
    · rw [if_neg hb]
      exact wipe_in (by rcases List.mem_cons.mp h with z | z; exact absurd z.symm hb; exact z)
omit [Amb] in
theorem wipe_idem {σ : L2.St} {vs : List Nat} : wipe (wipe σ vs) vs = wipe σ vs := by
  refine List.ext_getElem? fun m => ?_
  by_cases h : m ∈ vs
  · rw [wipe_in h, wipe_in h, wipe_length]
  · rw [wipe_out h]
omit [Amb] in
theorem wipe_set {σ : L2.St} {j : Nat} {v : Option V} : ∀ {vs : List Nat}, j ∈ vs → wipe (σ.set j v) vs = wipe σ vs
  | [], h => by simp at h
  | i :: vs, h => by
    unfold wipe
    by_cases hj : j ∈ vs
    · rw [wipe_set hj]
    · have e : j = i := by rcases List.mem_cons.mp h with z | z; exact z; exact absurd z hj
      subst e
      refine List.ext_getElem? fun m => ?_
      rw [List.getElem?_set, List.getElem?_set]
      by_cases hm : j = m
      · subst hm
        rw [if_pos rfl, if_pos rfl, wipe_length, wipe_length, List.length_set]
      · rw [if_neg hm, if_neg hm]
        by_cases hv : m ∈ vs
        · rw [wipe_in hv, wipe_in hv, List.length_set]
        · rw [wipe_out hv, wipe_out hv, List.getElem?_set_ne hm]
instance gw_name {i : Nat} : GW (gName i) [i] := ⟨fun vs x σ H Q Q' hw hq h => hq _ _ (wipe_set (hw i (by simp))) h⟩
instance gws_nil : GWs gNil [] := ⟨fun vs xs σ H Q Q' hw hq h => ⟨h.1, hq _ _ rfl h.2⟩⟩
instance gws_cons {g : TG} {u : TGs} {w1 w2 : List Nat} [a : GW g w1] [b : GWs u w2] : GWs (gCons g u) (w1 ++ w2) := ⟨fun vs xs σ H Q Q' hw hq ⟨v, r, e, h⟩ => ⟨v, r, e,
  a.w vs v σ H _ _ (fun j hj => hw j (List.mem_append_left _ hj)) (fun σ1 H1 e1 h1 => b.w vs r σ1 H1 _ _ (fun j hj => hw j (List.mem_append_right _ hj)) (fun σ2 H2 e2 h2 => hq σ2 H2 (e2.trans e1) h2) h1) h⟩⟩
instance gw_tup {n : Nat} {u : TGs} {ws : List Nat} [b : GWs u ws] : GW (gTup K n u) ws := ⟨fun vs x σ H Q Q' hw hq ⟨a, xs, e1, e2, e3, h⟩ => ⟨a, xs, e1, e2, e3, b.w vs xs σ H Q Q' hw hq h⟩⟩
/-- the slots of the comprehension's own names forgotten -/
def wipeD (sd : List Sl) : List Nat → List Sl
  | [] => sd
  | v :: vs => (wipeD sd vs).set v .no
def Wd.wp (W : Wd) : List Nat → Wd
  | [] => W
  | v :: vs => (W.wp vs).fs v []
omit [Amb] in
theorem wp_H (W : Wd) : ∀ vs, (W.wp vs).H = W.H ∧ (W.wp vs).S = W.S
  | [] => ⟨rfl, rfl⟩
  | v :: vs => wp_H W vs
omit [Amb] in
theorem Stp.wp {W : Wd} : ∀ vs, Stp W (W.wp vs)
  | [] => Stp.refl W
  | v :: vs => (Stp.wp vs).trans Stp.fsNil
theorem Cnf.wp {W : Wd} {σ : L2.St} {sd : List Sl} (C : Cnf K W σ sd) : ∀ vs, Cnf K (W.wp vs) (wipe σ vs) (wipeD sd vs)
  | [] => C
  | v :: vs => (C.wp vs).setN rfl
omit [Amb] in
theorem wipeD_len (sd : List Sl) : ∀ vs : List Nat, (wipeD sd vs).length = sd.length
  | [] => rfl
  | v :: vs => by unfold wipeD; rw [List.length_set, wipeD_len sd vs]
omit [Amb] in
theorem wipeD_in {sd : List Sl} {i : Nat} : ∀ {vs : List Nat}, i ∈ vs → i < sd.length → (wipeD sd vs)[i]? = some .no
  | [], h, _ => by simp at h
  | v :: vs, h, hi => by
    unfold wipeD
    rw [List.getElem?_set]
    by_cases e : v = i
    · rw [if_pos e, wipeD_len, if_pos (by rw [e]; exact hi)]
    · rw [if_neg e]
      exact wipeD_in (by rcases List.mem_cons.mp h with z | z; exact absurd z.symm e; exact z) hi
/-- back to the def's slots -/
theorem Cnf.unwp {W : Wd} {σ : L2.St} {sd : List Sl} {vs : List Nat} (C : Cnf K W (wipe σ vs) (wipeD sd vs)) : Cnf K W σ (wipeD sd vs) := by
  refine ⟨⟨C.sub, by rw [← wipe_length σ vs]; exact C.l1, C.l2, fun i s v F e1 e2 e3 => ?_, C.there, C.out, C.dj⟩, C.past⟩
  by_cases hi : i ∈ vs
  · have hl : i < (wipeD sd vs).length := (List.getElem?_eq_some_iff.mp e1).1
    have hl2 : i < (wipe σ vs).length := by rw [C.l1]; exact hl
    rw [wipeD_len] at hl
    have z := C.ok i s _ F e1 (List.getElem?_eq_getElem hl2) e3
    rw [wipeD_in hi hl] at e1
    cases e1
    exact z
  · exact C.ok i s v F e1 (by rw [wipe_out hi]; exact e2) e3
def xLc (di : DTI) (dg : DTG) (dt : DTT) (de : DTE) (ws vs : List Nat) : DTX := fun sd k => di sd fun xs sd1 => (∀ j ∈ ws, j ∈ vs) ∧ xs.length ≤ 1000000 ∧ ∃ Iv : Nat → List D → List Sl → Prop, Iv 0 [] (wipeD sd1 vs) ∧
  (∀ (i : Nat) (x : D) (acc : List D) (sd' : List Sl), xs[i]? = some x → Iv i acc sd' → dg x sd' fun sd2 => dt sd2 fun b sd3 => if b = true then de sd3 fun y sd4 => Iv (i + 1) (acc ++ [y]) (wipeD sd4 vs) else Iv (i + 1) acc (wipeD sd3 vs)) ∧
  ∀ acc sd', Iv xs.length acc sd' → k (.d (.lst acc)) sd' ∨ ∀ p, k (.own p (.lst acc)) sd'
omit [Amb] in
/-- an object that no slot owns and that is not stable is changed -/
theorem Cnf0.poke {K : PySem.W.Frag} {W : Wd} {σ : L2.St} {sd : List Sl} {p : Addr} {o : HO} (C : Cnf0 K W σ sd) (hS : W.S p = none) (hf : ¬ W.fp p) : Cnf0 K (W.put p o) σ sd := by
  have ne : ∀ a, W.fp a → a ≠ p := fun a ha z => hf (by rw [← z]; exact ha)
  refine ⟨fun a u e => ?_, C.l1, C.l2, fun i s v F h1 h2 h3 => (C.ok i s v F h1 h2 h3).stay (fun a ha => upd_ne (ne a ⟨i, F, h3, ha⟩)) (fun _ _ e => e), fun a ha => ?_, C.out, C.dj⟩
  · show upd W.H p o a = some u
    have e' : W.S a = some u := e
    rw [upd_ne (fun z => by rw [z, hS] at e'; cases e')]
    exact C.sub a u e'
  · show upd W.H p o a ≠ none
    rw [upd_ne (ne a ha)]
    exact C.there a ha
omit [Amb] in
theorem Stp.poke {W0 W : Wd} {p : Addr} {o : HO} (s : Stp W0 W) (h0 : W0.H p = none) : Stp W0 (W.put p o) := ⟨fun a u hn e => by
    show upd W.H p o a = some u
    rw [upd_ne (ne_of_none e h0)]
    exact s.big a u hn e, s.st, s.fr, s.fs, fun a ha => by
    show upd W.H p o a ≠ none
    rw [upd_ne (fun z => ha (by rw [z]; exact h0))]
    exact s.dom a ha⟩
theorem Cnf.poke {W : Wd} {σ : L2.St} {sd : List Sl} {p : Addr} {o : HO} (C : Cnf K W σ sd) (hz : Amb.z.H p = none) (hS : W.S p = none) (hf : ¬ W.fp p) : Cnf K (W.put p o) σ sd := ⟨C.toCnf0.poke hS hf, C.past.poke hz⟩
instance lx_lc {wi : TI} {g : TG} {tt : TT} {te : TE} {vs ws : List Nat} {di : DTI} {dg : DTG} {dt : DTT} {de : DTE} [a : LI K wi di] [b : LG K g dg] [w : GW g ws] [c : LT K tt dt] [d : LE K te de] : LX K (tLc wi g tt te vs) (xLc di dg dt de ws vs) := ⟨fun {sd k} h W σ C Q q =>
  a.up h W σ C _ fun J xs sd1 W1 s1 C1 ⟨G, Y, wk, hG, hY⟩ ⟨hw, hz, Iv, i0, ht, he⟩ Dl hD => by
    have hDS : W1.S Dl = none := free_S C1 hD
    refine lc_it wk (fun i H' => ∃ W' sd' acc us, Stp W1 W' ∧ Cnf K W' (wipe σ vs) (wipeD sd' vs) ∧ W'.H = H' ∧ H' Dl = some (.lst us) ∧ Dens K W'.S us acc ∧ W'.S Dl = none ∧ ¬ W'.fp Dl ∧ acc.length ≤ i ∧ Iv i acc (wipeD sd' vs)) ?_ ?_ ?_ ?_
    · have C1w := C1.wp vs
      have e1 := wp_H W1 vs
      refine ⟨(W1.wp vs).put Dl (.lst []), sd1, [], [], (Stp.wp vs).poke hD, C1w.put (by rw [e1.1]; exact hD), by show upd (W1.wp vs).H Dl _ = _; rw [e1.1], upd_same, Dens.nil, by show (W1.wp vs).S Dl = none; rw [e1.2]; exact hDS, fun z => ?_, Nat.le_refl _, i0⟩
      exact C1w.there Dl z (by rw [e1.1]; exact hD)
    · rintro i H' _ ⟨W', sd', acc, us, s', C', rfl, _⟩
      exact hG W' s'.st C'.sub
    · rintro i x H' H2 hi ⟨W', sd', acc, us, s', C', rfl, hL, nL, hS', hf', hacc, hI⟩ y
      obtain ⟨W2, rfl, s2, _, C2, dd, hd, nd⟩ := hY i W' _ _ x H2 hi s'.st C' y
      refine w.w vs x _ _ (fun σ2 H3 => wipe σ2 vs = wipe σ vs → tt σ2 H3 _) _ hw (fun σ2 H3 e2 hq => ⟨e2.trans wipe_idem, hq (e2.trans wipe_idem)⟩) (b.up (ht i dd acc _ hd hI) W2 _ x C2 nd _ fun σ3 sd3 W3 s3 C3 h3 ew => ?_)
      refine c.up h3 W3 σ3 C3 _ fun bb sd4 W4 s4 C4 h4 => ?_
      have s24 := s2.trans (s3.trans s4)
      have next : ∀ W5 sd5 acc5 us5, Cnf K W5 σ3 sd5 → W5.H Dl = some (.lst us5) → Dens K W5.S us5 acc5 → W5.S Dl = none → ¬ W5.fp Dl → acc5.length ≤ i + 1 → Stp W1 W5 → Iv (i + 1) acc5 (wipeD sd5 vs) →
          ∃ W' sd' acc us, Stp W1 W' ∧ Cnf K W' (wipe σ vs) (wipeD sd' vs) ∧ W'.H = W5.H ∧ W5.H Dl = some (.lst us) ∧ Dens K W'.S us acc ∧ W'.S Dl = none ∧ ¬ W'.fp Dl ∧ acc.length ≤ i + 1 ∧ Iv (i + 1) acc (wipeD sd' vs) := by
        intro W5 sd5 acc5 us5 C5 hL5 nL5 hS5 hf5 hl5 s15 hI5
        have e5 := wp_H W5 vs
        have C5w := C5.wp vs
        rw [ew] at C5w
        refine ⟨W5.wp vs, sd5, acc5, us5, s15.trans (Stp.wp vs), C5w, e5.1, hL5, by rw [e5.2]; exact nL5, by rw [e5.2]; exact hS5, fun z => ?_, hl5, hI5⟩
        rcases (Stp.wp (W := W5) vs).fs Dl z with y | y
        · exact hf5 y
        · rw [hL5] at y; cases y
      have kf : ∀ W5, Stp W' W5 → W5.H Dl = some (.lst us) ∧ Dens K W5.S us acc ∧ W5.S Dl = none ∧ ¬ W5.fp Dl := fun W5 s5 => ⟨s5.big Dl _ hf' hL, nL.mono s5.st, s5.fr Dl hf' (by rw [hL]; simp) hS', fun z => by
        rcases s5.fs Dl z with y | y
        · exact hf' y
        · rw [hL] at y; cases y⟩
      cases bb with
      | false =>
        obtain ⟨k1, k2, k3, k4⟩ := kf W4 s24
        exact next W4 sd4 acc us C4 k1 k2 k3 k4 (by omega) (s'.trans s24) h4
      | true =>
        refine d.up h4 W4 σ3 C4 _ fun v y sd5 W5 s5 C5 n5 h5 => ?_
        have s25 := s24.trans s5
        obtain ⟨k1, k2, k3, k4⟩ := kf W5 s25
        refine ⟨us, k1, ?_, ?_⟩
        · rw [nL.1]
          exact sz_lt (by omega)
        · exact next (W5.put Dl (.lst (us ++ [v]))) sd5 (acc ++ [y]) (us ++ [v]) (C5.poke (stp_none C1.past hD) k3 k4) upd_same (k2.append (.cons n5 .nil)) k3 k4 (by rw [List.length_append]; simp; omega) ((s'.trans s25).poke hD) h5
    · rintro H' ⟨W', sd', acc, us, s', C', rfl, hL, nL, hS', hf', hacc, hI⟩
      have C2 := C'.unwp
      rcases he acc _ hI with h1 | h1
      · have st : Stp W (W'.fix Dl (.lst us)) := by
          refine ⟨fun a o hn e => (s1.trans s').big a o hn e, (s1.trans s').st.trans (same_upd hS'), fun a hn e1 e2 => ?_, (s1.trans s').fs, (s1.trans s').dom⟩
          show upd W'.S Dl _ a = none
          rw [upd_ne (fun z => e1 (by rw [z]; exact none_back s1 hD))]
          exact (s1.trans s').fr a hn e1 e2
        exact q (.ref Dl) (.d (.lst acc)) [] _ (W'.fix Dl (.lst us)) st (C.then st (C2.toCnf0.fix hL hS' hf')) ⟨rfl, _, rfl, .mkL upd_same (nL.mono (same_upd hS'))⟩ NewR.nil h1
      · refine q (.ref Dl) (.own Dl (.lst acc)) [Dl] _ W' (s1.trans s') C2 ⟨rfl, rfl, us, hL, nL⟩ ⟨fun a ha => ?_, fun a ha => ?_, fun a ha => ?_, fun a ha => ?_⟩ (h1 Dl)
        all_goals
          have e : a = Dl := by simpa using ha
          subst e
        · exact hf'
        · rw [hL]; simp
        · exact hS'
        · exact .inr (none_back s1 hD)⟩
def eLc (di : DTI) (dg : DTG) (dt : DTT) (de : DTE) (ws vs : List Nat) : DTE := xE (xLc di dg dt de ws vs)
instance le_lc {wi : TI} {g : TG} {tt : TT} {te : TE} {vs ws : List Nat} {di : DTI} {dg : DTG} {dt : DTT} {de : DTE} [a : LI K wi di] [b : LG K g dg] [w : GW g ws] [c : LT K tt dt] [d : LE K te de] : LE K (tLc wi g tt te vs) (eLc di dg dt de ws vs) := le_of_lx
def dYes : DTT := fun sd k => k true sd
instance lt_yes : LT K tYes dYes := ⟨fun h W σ C Q q => q true _ W (Stp.refl W) C h⟩
end
end Dl
set_option Elab.async false
set_option linter.all false
set_option maxRecDepth 100000
namespace Dl
open PySem PySem.Spec L2
section
variable [Amb] {K : PySem.W.Frag}
/-! ### an owned object changes -/
theorem Cnf.mut {W : Wd} {σ : L2.St} {sd : List Sl} {i : Nat} {p : Addr} {o o' : OD} {u : HO} (C : Cnf K W σ sd) (h : sd[i]? = some (.own p o)) (hF : W.Fs[i]? = some [p]) (n : OwnOk K (upd W.H p u) W.S p [p] o') : Cnf K (W.put p u) σ (sd.set i (.own p o')) ∧ Stp W (W.put p u) := by
  suffices hh : Cnf0 K (W.put p u) σ (sd.set i (.own p o')) ∧ Stp W (W.put p u) from ⟨C.then hh.2 hh.1, hh.2⟩
  have fpp : W.fp p := ⟨i, [p], hF, by simp⟩
  have hp := C.there p fpp
  have ne : ∀ j F a, j ≠ i → W.Fs[j]? = some F → a ∈ F → a ≠ p := fun j F a hj e ha z => C.dj j i F [p] a hj e hF ha (by simp [z])
  obtain ⟨v, F, h1, h2, hv, _⟩ := C.at h
  refine ⟨⟨fun a x e => ?_, by rw [List.length_set]; exact C.l1, by rw [List.length_set]; exact C.l2, fun j s w G e1 e2 e3 => ?_, fun a ha => ?_, C.out, C.dj⟩, ⟨fun a x hn e => ?_, fun _ _ e => e, fun _ _ _ e => e, fun a ha => .inl ha, fun a ha => ?_⟩⟩
  · show upd W.H p u a = some x
    have e' : W.S a = some x := e
    rw [upd_ne (fun z => by rw [z, C.out p fpp] at e'; cases e')]
    exact C.sub a x e'
  · by_cases hj : j = i
    · subst hj
      rw [List.getElem?_set_self (List.getElem?_eq_some_iff.mp h).1] at e1
      cases e1
      rw [h1] at e2
      cases e2
      have e3' : W.Fs[j]? = some G := e3
      rw [hF] at e3'
      cases e3'
      exact ⟨hv, n⟩
    · rw [List.getElem?_set_ne (Ne.symm hj)] at e1
      exact (C.ok j s w G e1 e2 e3).stay (fun a ha => upd_ne (ne j G a hj e3 ha)) fun _ _ e => e
  · show upd W.H p u a ≠ none
    by_cases z : a = p
    · rw [z, upd_same]; simp
    · rw [upd_ne z]; exact C.there a ha
  · show upd W.H p u a = some x
    rw [upd_ne (fun z => hn (by rw [z]; exact fpp))]
    exact e
  · show upd W.H p u a ≠ none
    by_cases z : a = p
    · rw [z, upd_same]; simp
    · rw [upd_ne z]; exact ha
theorem Cnf.lstAt {W : Wd} {σ : L2.St} {sd : List Sl} {i : Nat} {p : Addr} {xs : List D} (C : Cnf K W σ sd) (h : sd[i]? = some (.own p (.lst xs))) : σ[i]? = some (some (.ref p)) ∧ W.Fs[i]? = some [p] ∧ ∃ vs, W.H p = some (.lst vs) ∧ Dens K W.S vs xs := by
  obtain ⟨v, F, h1, h2, rfl, rfl, vs, h3, h4⟩ := C.at h
  exact ⟨h1, h2, vs, h3, h4⟩
/-! ### append, extend, item stores -/
def dApp (i : Nat) (de : DTE) : DTS := fun E sd => ∃ p xs, sd[i]? = some (.own p (.lst xs)) ∧ de sd fun y sd1 => ∃ xs1, sd1[i]? = some (.own p (.lst xs1)) ∧ xs1.length < 1000000 ∧ E.nx (sd1.set i (.own p (.lst (xs1 ++ [y]))))
instance ls_app {i : Nat} {te : TE} {de : DTE} [a : LE K te de] : LS K (tDrop (tBM K "list" rAppend (tVar i) (tCons te tNil))) (dApp i de) := ⟨fun {E sd} ⟨p, xs, hs, h⟩ W σ C Dn k => by
  obtain ⟨h1, h2, vs, h3, h4⟩ := C.lstAt hs
  refine ⟨.ref p, h1, .inl ⟨rfl, vs, .of h3⟩, ?_⟩
  refine a.up h W σ C _ fun v y sd1 W1 s1 C1 n1 ⟨xs1, e1, hz, hk⟩ => ?_
  obtain ⟨g1, g2, us, g3, g4⟩ := C1.lstAt e1
  obtain ⟨C2, s2⟩ := C1.mut (o' := .lst (xs1 ++ [y])) (u := .lst (us ++ [v])) e1 g2 ⟨rfl, _, upd_same, g4.append (.cons n1 .nil)⟩
  exact ⟨p, us, v, rfl, rfl, g3, by rw [g4.1]; exact sz_lt hz, k.nx σ _ _ (s1.trans s2) C2 hk⟩⟩
def dExt (i : Nat) (de : DTE) : DTS := fun E sd => ∃ p xs, sd[i]? = some (.own p (.lst xs)) ∧ de sd fun y sd1 => ∃ xs1 ys, y = .lst ys ∧ sd1[i]? = some (.own p (.lst xs1)) ∧ xs1.length + ys.length ≤ 1000000 ∧ E.nx (sd1.set i (.own p (.lst (xs1 ++ ys))))
instance ls_ext {i : Nat} {te : TE} {de : DTE} [a : LE K te de] : LS K (tDrop (tBM K "list" rExtend (tVar i) (tCons te tNil))) (dExt i de) := ⟨fun {E sd} ⟨p, xs, hs, h⟩ W σ C Dn k => by
  obtain ⟨h1, h2, vs, h3, h4⟩ := C.lstAt hs
  refine ⟨.ref p, h1, .inl ⟨rfl, vs, .of h3⟩, ?_⟩
  refine a.up h W σ C _ fun v y sd1 W1 s1 C1 n1 ⟨xs1, ys, ey, e1, hz, hk⟩ => ?_
  subst ey
  obtain ⟨b, ws, rfl, hb, nb⟩ := n1.lst_inv
  obtain ⟨g1, g2, us, g3, g4⟩ := C1.lstAt e1
  obtain ⟨C2, s2⟩ := C1.mut (o' := .lst (xs1 ++ ys)) (u := .lst (us ++ ws)) e1 g2 ⟨rfl, _, upd_same, g4.append nb⟩
  exact ⟨p, b, us, ws, rfl, rfl, g3, C1.sub _ _ hb, by rw [g4.1, nb.1]; exact sz_ok hz, k.nx σ _ _ (s1.trans s2) C2 hk⟩⟩
def gdSet (i : Nat) (dj : DTE) : DTG := fun x sd k => ∃ p xs, sd[i]? = some (.own p (.lst xs)) ∧ dj sd fun y sd1 => ∃ xs1 j m, y = .int j ∧ sd1[i]? = some (.own p (.lst xs1)) ∧ ixN xs1.length j = some m ∧ k (sd1.set i (.own p (.lst (xs1.set m x))))
instance lg_set {i : Nat} {tj : TE} {dj : DTE} [a : LE K tj dj] : LG K (gSub (tVar i) tj rSetL) (gdSet i dj) := ⟨fun {x sd k} ⟨p, xs, hs, h⟩ W σ v C n Q q => by
  obtain ⟨h1, h2, vs, h3, h4⟩ := C.lstAt hs
  refine ⟨.ref p, h1, ?_⟩
  refine a.up h W σ C _ fun u y sd1 W1 s1 C1 n1 ⟨xs1, j, m, ey, e1, hm, hk⟩ => ?_
  subst ey
  obtain ⟨g1, g2, us, g3, g4⟩ := C1.lstAt e1
  obtain ⟨C2, s2⟩ := C1.mut (o' := .lst (xs1.set m x)) (u := .lst (us.set m v)) e1 g2 ⟨rfl, _, upd_same, g4.set m (n.mono s1.st)⟩
  exact ⟨p, us, j, m, rfl, den_int n1, g3, by rw [g4.1]; exact hm, q σ _ _ (s1.trans s2) C2 hk⟩⟩
/-! ### dicts -/
def keyOf : D → Option Key
  | .int i => some (.inl i)
  | .str x => some (.inr x)
  | _ => none
def keysOf : D → Option (List Key)
  | .tup ds => ds.mapM keyOf
  | _ => none
def lookK {κ : Type} [DecidableEq κ] (kvs : List (κ × D)) (k : κ) : Option D := (kvs.find? fun kv => decide (kv.1 = k)).map (·.2)
def putD {κ : Type} [DecidableEq κ] (kvs : List (κ × D)) (k : κ) (v : D) : List (κ × D) := if kvs.any (fun kv => decide (kv.1 = k)) then kvs.map (fun kv => if kv.1 = k then (kv.1, v) else kv) else kvs ++ [(k, v)]
omit [Amb] in
theorem KvOk.nil {κ : Type} {S : Hp} : KvOk (κ := κ) K S [] [] := ⟨rfl, fun i x d e => by simp at e⟩
omit [Amb] in
theorem KvOk.cons {κ : Type} {S : Hp} {k : κ} {v : V} {d : D} {kvs : List (κ × V)} {ds : List (κ × D)} (h : Den K S v d) (t : KvOk K S kvs ds) : KvOk K S ((k, v) :: kvs) ((k, d) :: ds) := ⟨by simp [t.1], fun i x y a b => by
  cases i with
  | zero => simp at a b; subst a; subst b; exact h
  | succ i => simp at a b; exact t.2 i x y a b⟩
omit [Amb] in
theorem KvOk.inv {κ : Type} {S : Hp} : ∀ {kvs : List (κ × V)} {ds : List (κ × D)}, KvOk K S kvs ds → (kvs = [] ∧ ds = []) ∨ ∃ k v d kvs' ds', kvs = (k, v) :: kvs' ∧ ds = (k, d) :: ds' ∧ Den K S v d ∧ KvOk K S kvs' ds'
  | [], [], _ => .inl ⟨rfl, rfl⟩
  | [], _ :: _, h => by have := h.1; simp at this
  | _ :: _, [], h => by have := h.1; simp at this
  | (k, v) :: kvs, (k', d) :: ds, h => by
    have h1 := h.1
    simp at h1
    obtain ⟨rfl, h2⟩ := h1
    exact .inr ⟨k, v, d, kvs, ds, rfl, rfl, h.2 0 (k, v) (k, d) rfl rfl, by simpa using h2, fun i x y a b => h.2 (i + 1) x y (by simpa using a) (by simpa using b)⟩
/-- two optional things of one kind -/
def OptOk (K : PySem.W.Frag) (S : Hp) : Option V → Option D → Prop
  | some v, some d => Den K S v d
  | none, none => True
  | _, _ => False
omit [Amb] in
theorem KvOk.look {κ : Type} [DecidableEq κ] {S : Hp} (k : κ) : ∀ {kvs : List (κ × V)} {ds : List (κ × D)}, KvOk K S kvs ds → OptOk K S (valV kvs k) (lookK ds k)
  | kvs, ds, h => by
    induction kvs generalizing ds with
    | nil =>
      rcases h.inv with ⟨_, rfl⟩ | ⟨_, _, _, _, _, e, _⟩
      · trivial
      · cases e
    | cons q kvs ih =>
      rcases h.inv with ⟨e, _⟩ | ⟨k', v, d, kvs', ds', e, rfl, n, t⟩
      · cases e
      · cases e
        unfold valV lookK
        rw [List.find?_cons, List.find?_cons]
        by_cases hk : k' = k
        · rw [decide_eq_true hk]
          exact n
        · rw [decide_eq_false hk]
          exact ih _ t
omit [Amb] in
theorem KvOk.len {κ : Type} {S : Hp} {kvs : List (κ × V)} {ds : List (κ × D)} (h : KvOk K S kvs ds) : kvs.length = ds.length := by have := congrArg List.length h.1; simpa using this
omit [Amb] in
theorem KvOk.any {κ : Type} [DecidableEq κ] {S : Hp} (k : κ) {kvs : List (κ × V)} {ds : List (κ × D)} (h : KvOk K S kvs ds) : (kvs.any fun kv => decide (kv.1 = k)) = ds.any fun kv => decide (kv.1 = k) := by
  have e1 : (kvs.any fun kv => decide (kv.1 = k)) = (kvs.map (·.1)).any fun x => decide (x = k) := by rw [List.any_map]; rfl
  have e2 : (ds.any fun kv => decide (kv.1 = k)) = (ds.map (·.1)).any fun x => decide (x = k) := by rw [List.any_map]; rfl
  rw [e1, e2, h.1]
omit [Amb] in
theorem KvOk.append {κ : Type} {S : Hp} : ∀ {kvs kvs' : List (κ × V)} {ds ds' : List (κ × D)}, KvOk K S kvs ds → KvOk K S kvs' ds' → KvOk K S (kvs ++ kvs') (ds ++ ds')
  | kvs, kvs', ds, ds', h, h' => by
    induction kvs generalizing ds with
    | nil =>
      rcases h.inv with ⟨_, rfl⟩ | ⟨_, _, _, _, _, e, _⟩
      · exact h'
      · cases e
    | cons q kvs ih =>
      rcases h.inv with ⟨e, _⟩ | ⟨k', v, d, kvs2, ds2, e, rfl, n, t⟩
      · cases e
      · cases e
        exact .cons n (ih _ t)
omit [Amb] in
theorem KvOk.repl {κ : Type} [DecidableEq κ] {S : Hp} {k : κ} {v : V} {d : D} (n : Den K S v d) : ∀ {kvs : List (κ × V)} {ds : List (κ × D)}, KvOk K S kvs ds → KvOk K S (kvs.map (fun kv => if kv.1 = k then (kv.1, v) else kv)) (ds.map (fun kv => if kv.1 = k then (kv.1, d) else kv))
  | kvs, ds, h => by
    induction kvs generalizing ds with
    | nil =>
      rcases h.inv with ⟨_, rfl⟩ | ⟨_, _, _, _, _, e, _⟩
      · exact .nil
      · cases e
    | cons q kvs ih =>
      rcases h.inv with ⟨e, _⟩ | ⟨k', v', d', kvs2, ds2, e, rfl, n', t⟩
      · cases e
      · cases e
        rw [List.map_cons, List.map_cons]
        by_cases hk : k' = k
        · rw [if_pos hk, if_pos hk]
          exact .cons n (ih _ t)
        · rw [if_neg hk, if_neg hk]
          exact .cons n' (ih _ t)
omit [Amb] in
theorem KvOk.put {κ : Type} [DecidableEq κ] {S : Hp} {k : κ} {v : V} {d : D} {kvs : List (κ × V)} {ds : List (κ × D)} (n : Den K S v d) (h : KvOk K S kvs ds) : KvOk K S (putK kvs k v) (putD ds k d) := by
  unfold putK putD
  rw [h.any k]
  split
  · exact h.repl n
  · exact h.append (.cons n .nil)
omit [Amb] in
theorem keyOf_den {S : Hp} {v : V} {y : D} {k : Key} (n : Den K S v y) (h : keyOf y = some k) : v = kV k := by
  cases n <;> simp [keyOf] at h
  · subst h; rfl
  · subst h; rfl
omit [Amb] in
theorem keysOf_den {S : Hp} {v : V} {y : D} {ks : List Key} (n : Den K S v y) (h : keysOf y = some ks) : ∃ b, v = .ref b ∧ S b = some (.tup (ks.map kV)) := by
  cases y <;> simp [keysOf] at h
  case tup ds =>
    obtain ⟨b, vs, rfl, hb, nb⟩ := n.tup_at
    refine ⟨b, rfl, ?_⟩
    rw [hb]
    have aux : ∀ (vs : List V) (ds : List D) (ks : List Key), Dens K S vs ds → ds.mapM keyOf = some ks → vs = ks.map kV := by
      intro vs ds
      induction ds generalizing vs with
      | nil =>
        intro ks n h
        simp at h
        subst h
        exact List.length_eq_zero_iff.mp n.1
      | cons d ds ih =>
        intro ks n h
        cases vs with
        | nil => have := n.1; simp at this
        | cons v vs =>
          rw [List.mapM_cons] at h
          cases q : keyOf d with
          | none => rw [q] at h; simp at h
          | some k =>
            rw [q] at h
            cases q2 : ds.mapM keyOf with
            | none => rw [q2] at h; simp at h
            | some ks' =>
              rw [q2] at h
              simp at h
              subst h
              rw [keyOf_den n.head q, ih vs ks' n.tail q2]
              rfl
    rw [aux vs ds ks nb h]
/-- what a dict in a slot holds at a key -/
def getO : Sl → D → Option (Option D)
  | .d (.dk kvs), y => (keyOf y).map (lookK kvs)
  | .own _ (.dk kvs), y => (keyOf y).map (lookK kvs)
  | .own _ (.dt kvs), y => (keysOf y).map (lookK kvs)
  | _, _ => none
theorem getO_ok {W : Wd} {σ : L2.St} {sd : List Sl} {v u : V} {a : Ar} {y : D} {r : Option D} (C : Cnf K W σ sd) (ha : ArOk K W σ v a) (n : Den K W.S u y) (h : getO (arSl sd a) y = some r) : ∃ p rv, v = .ref p ∧ IsD W.H p ∧ DGet W.H p u rv ∧ OptOk K W.S rv r := by
  have own : ∀ i, a = .sl i → ∃ s, arSl sd a = s ∧ (s = .no ∨ (sd[i]? = some s)) := fun i e => by
    subst e
    refine ⟨_, rfl, ?_⟩
    show sd.getD i .no = .no ∨ _
    rw [List.getD_eq_getElem?_getD]
    cases q : sd[i]? with
    | none => exact .inl rfl
    | some s =>
      right
      rw [show arSl sd (.sl i) = sd.getD i .no from rfl, List.getD_eq_getElem?_getD, q]
      rfl
  have dat : ∀ kvs, Den K W.S v (.dk kvs) → (keyOf y).map (lookK kvs) = some r → ∃ p rv, v = .ref p ∧ IsD W.H p ∧ DGet W.H p u rv ∧ OptOk K W.S rv r := fun kvs nd hr => by
    cases q : keyOf y with
    | none => rw [q] at hr; cases hr
    | some k =>
      rw [q] at hr
      cases nd with
      | @dk p ks _ hp hl hx =>
        refine ⟨p, _, rfl, .inl ⟨ks, .inl (C.sub _ _ hp)⟩, .inl ⟨ks, k, .inl (C.sub _ _ hp), keyOf_den n q, rfl⟩, ?_⟩
        rw [← Option.some.inj hr]
        exact KvOk.look k ⟨hl, hx⟩
  cases a with
  | dat d =>
    cases d <;> simp [arSl, getO] at h
    case dk kvs => exact dat kvs ha (by simpa using h)
  | sl i =>
    obtain ⟨s, e, hs⟩ := own i rfl
    rw [e] at h
    rcases hs with rfl | hs
    · simp [getO] at h
    · cases s with
      | no => simp [getO] at h
      | d x =>
        obtain ⟨w, h1, h2⟩ := C.dat hs
        have e2 : v = w := by
          have z : σ[i]? = some (some v) := ha
          rw [h1] at z
          exact ((Option.some.inj (Option.some.inj z))).symm
        subst e2
        cases x <;> simp [getO] at h
        case dk kvs => exact dat kvs h2 (by simpa using h)
      | own p o =>
        obtain ⟨w, F, h1, h2, rfl, h3⟩ := C.at hs
        have e2 : v = .ref p := by
          have z : σ[i]? = some (some v) := ha
          rw [h1] at z
          exact ((Option.some.inj (Option.some.inj z))).symm
        subst e2
        cases o <;> simp [getO] at h
        case dk ds =>
          obtain ⟨k, q, hr⟩ := h
          obtain ⟨_, kvs, hp, nk⟩ := h3
          refine ⟨p, _, rfl, .inl ⟨kvs, .inl hp⟩, .inl ⟨kvs, k, .inl hp, keyOf_den n q, rfl⟩, ?_⟩
          rw [← hr]
          exact nk.look k
        case dt ds =>
          obtain ⟨k, q, hr⟩ := h
          obtain ⟨_, kvs, hp, nk⟩ := h3
          obtain ⟨b, rfl, hb⟩ := keysOf_den n q
          refine ⟨p, _, rfl, .inr ⟨kvs, .inl hp⟩, .inr ⟨kvs, k, b, .inl hp, rfl, C.sub _ _ hb, rfl⟩, ?_⟩
          rw [← hr]
          exact nk.look k
abbrev DTAr := List Sl → (Ar → List Sl → Prop) → Prop
def dDGet (dd : DTAr) (dy : DTE) : DTE := fun sd k => dd sd fun a sd1 => dy sd1 fun y sd2 => ∃ v, getO (arSl sd2 a) y = some (some v) ∧ k v sd2
def dDIn (dy : DTE) (dd : DTAr) : DTE := fun sd k => dy sd fun y sd1 => dd sd1 fun a sd2 => ∃ r, getO (arSl sd2 a) y = some r ∧ k (.bl r.isSome) sd2
def dDNotIn (dy : DTE) (dd : DTAr) : DTE := fun sd k => dy sd fun y sd1 => dd sd1 fun a sd2 => ∃ r, getO (arSl sd2 a) y = some r ∧ k (.bl (!r.isSome)) sd2
omit [Amb] in
theorem optSome {S : Hp} {rv : Option V} {v : D} (h : OptOk K S rv (some v)) : ∃ w, rv = some w ∧ Den K S w v := by
  cases rv with
  | none => exact (show False from h).elim
  | some w => exact ⟨w, rfl, h⟩
omit [Amb] in
theorem optIs {S : Hp} {rv : Option V} {r : Option D} (h : OptOk K S rv r) : rv.isSome = r.isSome := by cases rv <;> cases r <;> first | rfl | exact (show False from h).elim
instance le_dget {td ty : TE} {dd : DTAr} {dy : DTE} [a : LAr K td dd] [b : LE K ty dy] : LE K (tDGet td ty) (dDGet dd dy) := ⟨fun h W σ C Q q =>
  a.up h W σ C _ fun v ar sd1 W1 s1 C1 n1 h1 => b.up h1 W1 σ C1 _ fun u y sd2 W2 s2 C2 n2 ⟨z, hz, hk⟩ => by
    obtain ⟨p, rv, rfl, _, g, ro⟩ := getO_ok C2 (n1.mono s2) n2 hz
    obtain ⟨w, rfl, nw⟩ := optSome ro
    exact ⟨p, w, rfl, g, q w z sd2 W2 (s1.trans s2) C2 nw hk⟩⟩
instance le_din {td ty : TE} {dd : DTAr} {dy : DTE} [b : LE K ty dy] [a : LAr K td dd] : LE K (tDIn ty td) (dDIn dy dd) := ⟨fun h W σ C Q q =>
  b.up h W σ C _ fun u y sd1 W1 s1 C1 n1 h1 => a.up h1 W1 σ C1 _ fun v ar sd2 W2 s2 C2 n2 ⟨r, hz, hk⟩ => by
    obtain ⟨p, rv, rfl, _, g, ro⟩ := getO_ok C2 n2 (n1.mono s2.st) hz
    refine ⟨p, rv, rfl, g, ?_⟩
    rw [optIs ro]
    exact q _ _ sd2 W2 (s1.trans s2) C2 (.bl _) hk⟩
instance le_dnotin {td ty : TE} {dd : DTAr} {dy : DTE} [b : LE K ty dy] [a : LAr K td dd] : LE K (tDNotIn ty td) (dDNotIn dy dd) := ⟨fun h W σ C Q q =>
  b.up h W σ C _ fun u y sd1 W1 s1 C1 n1 h1 => a.up h1 W1 σ C1 _ fun v ar sd2 W2 s2 C2 n2 ⟨r, hz, hk⟩ => by
    obtain ⟨p, rv, rfl, _, g, ro⟩ := getO_ok C2 n2 (n1.mono s2.st) hz
    refine ⟨p, rv, rfl, g, ?_⟩
    rw [optIs ro]
    exact q _ _ sd2 W2 (s1.trans s2) C2 (.bl _) hk⟩
/-- d.get(k, x) -/
def isDct : Sl → Prop
  | .d (.dk _) => True
  | .own _ (.dk _) => True
  | .own _ (.dt _) => True
  | _ => False
theorem isDct_ok {W : Wd} {σ : L2.St} {sd : List Sl} {v : V} {a : Ar} (C : Cnf K W σ sd) (ha : ArOk K W σ v a) (h : isDct (arSl sd a)) : ∃ p, v = .ref p ∧ IsD W.H p := by
  cases a with
  | dat d =>
    cases d <;> first | exact (show False from h).elim | skip
    cases ha with
    | @dk p ks _ hp hl hx => exact ⟨p, rfl, .inl ⟨ks, .inl (C.sub _ _ hp)⟩⟩
  | sl i =>
    have h' : isDct (sd.getD i .no) := h
    rw [List.getD_eq_getElem?_getD] at h'
    cases q : sd[i]? with
    | none => rw [q] at h'; exact (show False from h').elim
    | some s =>
      rw [q] at h'
      have z : σ[i]? = some (some v) := ha
      obtain ⟨w, F, h1, h2, h3⟩ := C.at q
      rw [z] at h1
      cases h1
      cases s with
      | no => exact (show False from h').elim
      | d x =>
        obtain ⟨_, u, e, n⟩ := h3
        cases e
        cases x <;> first | exact (show False from h').elim | skip
        cases n with
        | @dk p ks _ hp hl hx => exact ⟨p, rfl, .inl ⟨ks, .inl (C.sub _ _ hp)⟩⟩
      | own p o =>
        obtain ⟨e, h4⟩ := h3
        cases e
        cases o <;> first | exact (show False from h').elim | skip
        · obtain ⟨_, kvs, hp, _⟩ := h4
          exact ⟨p, rfl, .inl ⟨kvs, .inl hp⟩⟩
        · obtain ⟨_, kvs, hp, _⟩ := h4
          exact ⟨p, rfl, .inr ⟨kvs, .inl hp⟩⟩
def dDGet2 (dd : DTAr) (dy dz : DTE) : DTE := fun sd k => dd sd fun a sd1 => isDct (arSl sd1 a) ∧ dy sd1 fun y sd2 => dz sd2 fun z sd3 => ∃ r, getO (arSl sd3 a) y = some r ∧ k (r.getD z) sd3
instance le_dget2 {td ty tz : TE} {dd : DTAr} {dy dz : DTE} [a : LAr K td dd] [b : LE K ty dy] [c : LE K tz dz] : LE K (tDGet2 td ty tz) (dDGet2 dd dy dz) := ⟨fun h W σ C Q q =>
  a.up h W σ C _ fun v ar sd1 W1 s1 C1 n1 ⟨hi, h1⟩ => by
    obtain ⟨p, rfl, hp⟩ := isDct_ok C1 n1 hi
    refine ⟨p, rfl, hp, b.up h1 W1 σ C1 _ fun u y sd2 W2 s2 C2 n2 h2 => c.up h2 W2 σ C2 _ fun w z sd3 W3 s3 C3 n3 ⟨r, hr, hk⟩ => ?_⟩
    obtain ⟨p', rv, e, _, g, ro⟩ := getO_ok C3 (n1.mono (s2.trans s3)) (n2.mono s3.st) hr
    cases e
    refine ⟨rv, g, q _ _ sd3 W3 (s1.trans (s2.trans s3)) C3 ?_ hk⟩
    cases rv <;> cases r <;> first | exact n3 | exact ro | exact (show False from ro).elim⟩
/-- d[k] = v, d owned -/
def putO : Sl → D → D → Option Sl
  | .own p (.dk kvs), y, z => (keyOf y).map fun k => .own p (.dk (putD kvs k z))
  | .own p (.dt kvs), y, z => (keysOf y).map fun k => .own p (.dt (putD kvs k z))
  | _, _, _ => none
def szO : Sl → Prop
  | .own _ (.dk kvs) => kvs.length < 1000000
  | .own _ (.dt kvs) => kvs.length < 1000000
  | _ => False
def dDPut (i : Nat) (dy dz : DTE) : DTS := fun E sd => dz sd fun z sd1 => (∃ p o, sd1[i]? = some (.own p o)) ∧ dy sd1 fun y sd2 => ∃ s s', sd2[i]? = some s ∧ szO s ∧ putO s y z = some s' ∧ E.nx (sd2.set i s')
instance ls_dput {i : Nat} {ty tz : TE} {dy dz : DTE} [b : LE K ty dy] [c : LE K tz dz] : LS K (sDPut (tVar i) ty tz) (dDPut i dy dz) := ⟨fun {E sd} h W σ C Dn k =>
  c.up h W σ C _ fun w z sd1 W1 s1 C1 n1 ⟨⟨p, o, ho⟩, h1⟩ => by
    obtain ⟨v, F, g1, g2, rfl, g3⟩ := C1.at ho
    refine ⟨.ref p, g1, b.up h1 W1 σ C1 _ fun u y sd2 W2 s2 C2 n2 ⟨s, s', e1, hz, e2, hk⟩ => ?_⟩
    obtain ⟨v', F', f1, f2, f3⟩ := C2.at e1
    have s12 := s1.trans s2
    have nz := n1.mono s2.st
    cases s with
    | no => exact (show False from hz).elim
    | d x => exact (show False from hz).elim
    | own p2 o2 =>
      obtain ⟨e3, f4⟩ := f3
      rw [g1] at f1
      rw [e3] at f1
      cases f1
      cases o2 <;> try exact (show False from hz).elim
      case dk ds =>
        obtain ⟨rfl, kvs, f5, f6⟩ := f4
        cases q : keyOf y with
        | none => simp [putO, q] at e2
        | some key =>
          simp [putO, q] at e2
          subst e2
          obtain ⟨C3, s3⟩ := C2.mut (o' := .dk (putD ds key z)) (u := .dK (putK kvs key w)) e1 f2 ⟨rfl, _, upd_same, f6.put nz⟩
          refine ⟨p, _, rfl, .inl ⟨kvs, key, f5, keyOf_den n2 q, ?_, rfl⟩, k.nx σ _ _ (s12.trans s3) C3 hk⟩
          rw [f6.len]
          exact sz_lt hz
      case dt ds =>
        obtain ⟨rfl, kvs, f5, f6⟩ := f4
        cases q : keysOf y with
        | none => simp [putO, q] at e2
        | some key =>
          simp [putO, q] at e2
          subst e2
          obtain ⟨bb, rfl, hb⟩ := keysOf_den n2 q
          obtain ⟨C3, s3⟩ := C2.mut (o' := .dt (putD ds key z)) (u := .dT (putK kvs key w)) e1 f2 ⟨rfl, _, upd_same, f6.put nz⟩
          refine ⟨p, _, rfl, .inr ⟨kvs, key, bb, f5, rfl, C2.sub _ _ hb, ?_, rfl⟩, k.nx σ _ _ (s12.trans s3) C3 hk⟩
          rw [f6.len]
          exact sz_lt hz⟩
/-- {} -/
def xDNew (t : Bool) : DTX := fun sd k => if t = true then ∀ p, k (.own p (.dt [])) sd else (k (.d (.dk [])) sd ∨ ∀ p, k (.own p (.dk [])) sd)
instance lx_dnewT : LX K tDNewT (xDNew true) := ⟨fun {sd k} h W σ C Q q p hp => q (.ref p) (.own p (.dt [])) [p] sd (W.put p (.dT [])) (Stp.put hp) (C.put hp) ⟨rfl, rfl, [], upd_same, .nil⟩ (newF_put (Stp.refl W) C hp) (h p)⟩
instance lx_dnewK : LX K tDNewK (xDNew false) := ⟨fun {sd k} h W σ C Q q p hp => by
  rcases h with h | h
  · exact q (.ref p) (.d (.dk [])) [] sd (W.lay p (.dK [])) (Stp.lay C.toCnf0 hp) (C.lay hp) ⟨rfl, _, rfl, .dk upd_same rfl (fun i x d e => by simp at e)⟩ NewR.nil h
  · exact q (.ref p) (.own p (.dk [])) [p] sd (W.put p (.dK [])) (Stp.put hp) (C.put hp) ⟨rfl, rfl, [], upd_same, .nil⟩ (newF_put (Stp.refl W) C hp) (h p)⟩
/-- len of an owned thing -/
def lenS : Sl → (Int → Prop) → Prop
  | .own _ (.lst xs), k => k xs.length
  | .own _ (.dk xs), k => k xs.length
  | .own _ (.dt xs), k => k xs.length
  | .d x, k => fLen [x] fun z => ∃ i, z = .int i ∧ k i
  | _, _ => False
def dLenV (i : Nat) : DTE := fun sd k => ∃ s, sd[i]? = some s ∧ lenS s fun n => k (.int n) sd
instance (priority := high) le_lenV {i : Nat} : LE K (tCB (rLenX K) (tCons (tVar i) tNil)) (dLenV i) := ⟨fun {sd k} ⟨s, hs, h⟩ W σ C Q q => by
  cases s with
  | no => exact (show False from h).elim
  | d x =>
    obtain ⟨v, h1, h2⟩ := C.dat hs
    refine ⟨v, h1, (lr_len (K := K)).up h W σ sd [v] C (.cons h2 .nil) Q fun w d W3 s3 C3 n3 ⟨j, e, h3⟩ => ?_⟩
    subst e
    exact q w _ sd W3 s3 C3 n3 h3
  | own p o =>
    obtain ⟨v, F, h1, h2, rfl, h3⟩ := C.at hs
    refine ⟨.ref p, h1, ?_⟩
    cases o <;> try exact (show False from h).elim
    case lst xs =>
      obtain ⟨_, vs, g1, g2⟩ := h3
      exact .inl ⟨_, vs.length, rfl, .inl ⟨vs, .of g1, rfl⟩, by rw [g2.1]; exact q _ _ sd W (Stp.refl W) C (.int _) h⟩
    case dk xs =>
      obtain ⟨_, vs, g1, g2⟩ := h3
      exact .inr (.inl ⟨p, vs, rfl, g1, by rw [g2.len]; exact q _ _ sd W (Stp.refl W) C (.int _) h⟩)
    case dt xs =>
      obtain ⟨_, vs, g1, g2⟩ := h3
      exact .inr (.inr ⟨p, vs, rfl, g1, by rw [g2.len]; exact q _ _ sd W (Stp.refl W) C (.int _) h⟩)⟩
end
end Dl
set_option Elab.async false
set_option linter.all false
set_option maxRecDepth 100000
namespace Dl
open PySem PySem.Spec L2
section
variable [Amb] {K : PySem.W.Frag}
/-! ### isinstance -/
def tyD : D → Option String
  | .non => some "NoneType"
  | .bl _ => some "bool"
  | .int _ => some "int"
  | .str _ => some "str"
  | .tup _ => some "tuple"
  | .kt _ => some "tuple"
  | .lst _ => some "list"
  | .dk _ => some "dict"
  | .obj _ _ => none
  | .fz _ => none
omit [Amb] in
theorem kt_look {a : Addr} {xs : List V} (h : ∀ H, SqT K H a xs) : ∃ o, K.lookup a = some o ∧ o.cls = .type "tuple" := by
  rcases h (fun _ => none) with (h | ⟨o, h⟩) | ⟨o, its, n, h1, h2, _⟩
  · cases h
  · cases h
  · exact ⟨o, h1, h2⟩
theorem tyD_ok {W : Wd} {σ : L2.St} {sd : List Sl} {v : V} {x : D} {T : String} (C : Cnf K W σ sd) (n : Den K W.S v x) (h : tyD x = some T) : TyX K W.H v (.type T) := by
  cases n <;> simp [tyD] at h <;> subst h
  · exact .base .non
  · exact .base (.bl _)
  · exact .base (.int _)
  · exact .base (.str _)
  · rename_i h _ _; exact .base (.tup (C.sub _ _ h))
  · rename_i h _ _; exact .base (.lst (C.sub _ _ h))
  · rename_i h _ _
    obtain ⟨o, h1, h2⟩ := kt_look h
    exact .kTuple h1 h2
  · rename_i h _ _; exact .base (.dK (C.sub _ _ h))
def isiD (T : String) (x : D) : Option Bool := (tyD x).bind fun a => kitB a T
def dIsi (T : String) (da : DTE) : DTE := fun sd k => da sd fun x sd1 => ∃ b, isiD T x = some b ∧ k (.bl b) sd1
instance (priority := high) le_isi {T : String} {ta : TE} {da : DTE} [a : LE K ta da] : LE K (tCB (rIsi K) (tCons ta (tCons (tC (.ty T)) tNil))) (dIsi T da) := ⟨fun h W σ C Q q => a.up h W σ C _ fun v x sd1 W1 s1 C1 n1 ⟨b, hb, hk⟩ => by
  unfold isiD at hb
  cases e : tyD x with
  | none => rw [e] at hb; cases hb
  | some A =>
    rw [e] at hb
    exact ⟨v, .ty T, .type A, .type T, b, rfl, .ty T, tyD_ok C1 n1 e, kit_ty hb, q _ _ sd1 W1 s1 C1 (.bl _) hk⟩⟩
def isiAny : List String → D → Option Bool
  | [], _ => some false
  | T :: r, x => match isiD T x with
    | some true => some true
    | some false => isiAny r x
    | none => none
omit [Amb] in
theorem kitAny_of {t : Value} {A : String} (x : D) (h : tyD x = some A) : ∀ (Ts : List String) {b : Bool}, isiAny Ts x = some b → PySem.W.kitAny K (.type A) (Ts.map Value.type) = some b
  | [], b, e => by
    cases e
    rfl
  | T :: r, b, e => by
    have e' : isiD T x = kitB A T := by unfold isiD; rw [h]; rfl
    unfold isiAny at e
    rw [e'] at e
    cases q : kitB A T with
    | none => rw [q] at e; cases e
    | some c =>
      rw [q] at e
      refine kitAny_cons (kit_ty q) (fun hc => ?_) (fun hc => ?_)
      · subst hc
        exact kitAny_of (t := t) x h r e
      · subst hc
        cases e
        rfl
def dIsiT (Ts : List String) (da : DTE) : DTE := fun sd k => da sd fun x sd1 => ∃ b, isiAny Ts x = some b ∧ k (.bl b) sd1
instance (priority := high) le_isiT {T1 T2 : String} {ta : TE} {da : DTE} [a : LE K ta da] : LE K (tCB (rIsiT K) (tCons ta (tCons (tTup (tCons (tC (.ty T1)) (tCons (tC (.ty T2)) tNil))) tNil))) (dIsiT [T1, T2] da) := ⟨fun h W σ C Q q => a.up h W σ C _ fun v x sd1 W1 s1 C1 n1 ⟨b, hb, hk⟩ => by
  refine ⟨by show 2 ≤ sizeLine; decide, fun p hp => ?_⟩
  cases e : tyD x with
  | none =>
    unfold isiAny isiD at hb
    rw [e] at hb
    cases hb
  | some A =>
    have C2 := C1.put (o := .tup [.ty T1, .ty T2]) hp
    exact ⟨v, p, [.ty T1, .ty T2], .type A, [.type T1, .type T2], b, rfl, upd_same, .cons (.ty _) (.cons (.ty _) .nil), tyD_ok C2 n1 e, kitAny_of (t := .none) x e [T1, T2] hb, q _ _ sd1 (W1.put p (.tup [.ty T1, .ty T2])) (s1.trans (Stp.put hp)) C2 (.bl _) hk⟩⟩
def isIntD : D → Bool
  | .int _ => true
  | .bl _ => true
  | _ => false
omit [Amb] in
theorem isIntD_eq (x : D) (h : tyD x ≠ none) : isiD "int" x = some (isIntD x) := by
  cases x with
  | non => exact (by decide +kernel : kitB "NoneType" "int" = some false)
  | bl _ => exact (by decide +kernel : kitB "bool" "int" = some true)
  | int _ => exact (by decide +kernel : kitB "int" "int" = some true)
  | str _ => exact (by decide +kernel : kitB "str" "int" = some false)
  | tup _ => exact (by decide +kernel : kitB "tuple" "int" = some false)
  | lst _ => exact (by decide +kernel : kitB "list" "int" = some false)
  | kt _ => exact (by decide +kernel : kitB "tuple" "int" = some false)
  | dk _ => exact (by decide +kernel : kitB "dict" "int" = some false)
  | obj _ _ => exact absurd rfl h
  | fz _ => exact absurd rfl h
def isBoolD : D → Bool
  | .bl _ => true
  | _ => false
omit [Amb] in
theorem isBoolD_eq (x : D) (h : tyD x ≠ none) : isiD "bool" x = some (isBoolD x) := by
  cases x with
  | non => exact (by decide +kernel : kitB "NoneType" "bool" = some false)
  | bl _ => exact (by decide +kernel : kitB "bool" "bool" = some true)
  | int _ => exact (by decide +kernel : kitB "int" "bool" = some false)
  | str _ => exact (by decide +kernel : kitB "str" "bool" = some false)
  | tup _ => exact (by decide +kernel : kitB "tuple" "bool" = some false)
  | lst _ => exact (by decide +kernel : kitB "list" "bool" = some false)
  | kt _ => exact (by decide +kernel : kitB "tuple" "bool" = some false)
  | dk _ => exact (by decide +kernel : kitB "dict" "bool" = some false)
  | obj _ _ => exact absurd rfl h
  | fz _ => exact absurd rfl h
def isStrD : D → Bool
  | .str _ => true
  | _ => false
omit [Amb] in
theorem isStrD_eq (x : D) (h : tyD x ≠ none) : isiD "str" x = some (isStrD x) := by
  cases x with
  | non => exact (by decide +kernel : kitB "NoneType" "str" = some false)
  | bl _ => exact (by decide +kernel : kitB "bool" "str" = some false)
  | int _ => exact (by decide +kernel : kitB "int" "str" = some false)
  | str _ => exact (by decide +kernel : kitB "str" "str" = some true)
  | tup _ => exact (by decide +kernel : kitB "tuple" "str" = some false)
  | lst _ => exact (by decide +kernel : kitB "list" "str" = some false)
  | kt _ => exact (by decide +kernel : kitB "tuple" "str" = some false)
  | dk _ => exact (by decide +kernel : kitB "dict" "str" = some false)
  | obj _ _ => exact absurd rfl h
  | fz _ => exact absurd rfl h
def isTupD : D → Bool
  | .tup _ => true
  | .kt _ => true
  | _ => false
omit [Amb] in
theorem isTupD_eq (x : D) (h : tyD x ≠ none) : isiD "tuple" x = some (isTupD x) := by
  cases x with
  | non => exact (by decide +kernel : kitB "NoneType" "tuple" = some false)
  | bl _ => exact (by decide +kernel : kitB "bool" "tuple" = some false)
  | int _ => exact (by decide +kernel : kitB "int" "tuple" = some false)
  | str _ => exact (by decide +kernel : kitB "str" "tuple" = some false)
  | tup _ => exact (by decide +kernel : kitB "tuple" "tuple" = some true)
  | lst _ => exact (by decide +kernel : kitB "list" "tuple" = some false)
  | kt _ => exact (by decide +kernel : kitB "tuple" "tuple" = some true)
  | dk _ => exact (by decide +kernel : kitB "dict" "tuple" = some false)
  | obj _ _ => exact absurd rfl h
  | fz _ => exact absurd rfl h
def isLstD : D → Bool
  | .lst _ => true
  | _ => false
omit [Amb] in
theorem isLstD_eq (x : D) (h : tyD x ≠ none) : isiD "list" x = some (isLstD x) := by
  cases x with
  | non => exact (by decide +kernel : kitB "NoneType" "list" = some false)
  | bl _ => exact (by decide +kernel : kitB "bool" "list" = some false)
  | int _ => exact (by decide +kernel : kitB "int" "list" = some false)
  | str _ => exact (by decide +kernel : kitB "str" "list" = some false)
  | tup _ => exact (by decide +kernel : kitB "tuple" "list" = some false)
  | lst _ => exact (by decide +kernel : kitB "list" "list" = some true)
  | kt _ => exact (by decide +kernel : kitB "tuple" "list" = some false)
  | dk _ => exact (by decide +kernel : kitB "dict" "list" = some false)
  | obj _ _ => exact absurd rfl h
  | fz _ => exact absurd rfl h
/-! ### dict displays -/
abbrev DTP := List Sl → (List (D × D) → List Sl → Prop) → Prop
class LP (K : PySem.W.Frag) (trs : List (TE × TE)) (dp : outParam DTP) : Prop where
  up : ∀ {sd : List Sl} {k : List (D × D) → List Sl → Prop}, dp sd k → ∀ (W : Wd) (σ : L2.St), Cnf K W σ sd → ∀ Q : List (V × V) → Hp → Prop,
    (∀ (ps : List (V × V)) (ds : List (D × D)) sd' W', Stp W W' → Cnf K W' σ sd' → Dens K W'.S (ps.map (·.1)) (ds.map (·.1)) → Dens K W'.S (ps.map (·.2)) (ds.map (·.2)) → k ds sd' → Q ps W'.H) → tPairs trs σ W.H Q
def pNil : DTP := fun sd k => k [] sd
def pCons (dk dv : DTE) (dr : DTP) : DTP := fun sd k => dk sd fun x sd1 => dv sd1 fun y sd2 => dr sd2 fun ps sd3 => k ((x, y) :: ps) sd3
instance lp_nil : LP K [] pNil := ⟨fun h W σ C Q q => q [] [] _ W (Stp.refl W) C .nil .nil h⟩
instance lp_cons {tk tv : TE} {r : List (TE × TE)} {dk dv : DTE} {dr : DTP} [a : LE K tk dk] [b : LE K tv dv] [c : LP K r dr] : LP K ((tk, tv) :: r) (pCons dk dv dr) := ⟨fun h W σ C Q q =>
  a.up h W σ C _ fun v x sd1 W1 s1 C1 n1 h1 => b.up h1 W1 σ C1 _ fun u y sd2 W2 s2 C2 n2 h2 => c.up h2 W2 σ C2 _ fun ps ds sd3 W3 s3 C3 m1 m2 h3 =>
    q ((v, u) :: ps) ((x, y) :: ds) sd3 W3 (s1.trans (s2.trans s3)) C3 (.cons ((n1.mono s2.st).mono s3.st) m1) (.cons (n2.mono s3.st) m2) h3⟩
def keyed : List (D × D) → Option (List (Key × D))
  | [] => some []
  | (x, y) :: r => match keyOf x, keyed r with
    | some k, some ks => some ((k, y) :: ks)
    | _, _ => none
def mergeD (kvs more : List (Key × D)) : List (Key × D) := more.foldl (fun acc kv => putD acc kv.1 kv.2) kvs
omit [Amb] in
theorem keyed_ok {S : Hp} : ∀ {ps : List (V × V)} {ds : List (D × D)} {ks : List (Key × D)}, Dens K S (ps.map (·.1)) (ds.map (·.1)) → Dens K S (ps.map (·.2)) (ds.map (·.2)) → keyed ds = some ks → ∃ kvs : List (Key × V), ps = kvs.map (fun kv => (kV kv.1, kv.2)) ∧ KvOk K S kvs ks
  | [], [], _, _, _, h => by cases h; exact ⟨[], rfl, .nil⟩
  | [], _ :: _, _, h, _, _ => by have := h.1; simp at this
  | _ :: _, [], _, h, _, _ => by have := h.1; simp at this
  | (v, u) :: ps, (x, y) :: ds, ks, h1, h2, h => by
    unfold keyed at h
    cases q : keyOf x with
    | none => rw [q] at h; cases h
    | some k =>
      cases q2 : keyed ds with
      | none => rw [q, q2] at h; cases h
      | some ks' =>
        rw [q, q2] at h
        cases h
        have t1 : Dens K S (ps.map (·.1)) (ds.map (·.1)) := Dens.tail h1
        have t2 : Dens K S (ps.map (·.2)) (ds.map (·.2)) := Dens.tail h2
        obtain ⟨kvs, rfl, n⟩ := keyed_ok t1 t2 q2
        have e : v = kV k := keyOf_den (Dens.head h1) q
        subst e
        exact ⟨(k, u) :: kvs, rfl, .cons (Dens.head h2) n⟩
omit [Amb] in
theorem merge_ok {S : Hp} : ∀ {more : List (Key × V)} {ms : List (Key × D)} {kvs : List (Key × V)} {ds : List (Key × D)}, KvOk K S more ms → KvOk K S kvs ds → KvOk K S (mergeK kvs more) (mergeD ds ms)
  | [], ms, kvs, ds, h, h2 => by
    rcases h.inv with ⟨_, rfl⟩ | ⟨_, _, _, _, _, e, _⟩
    · exact h2
    · cases e
  | q :: more, ms, kvs, ds, h, h2 => by
    rcases h.inv with ⟨e, _⟩ | ⟨k, v, d, more', ms', e, rfl, n, t⟩
    · cases e
    · cases e
      show KvOk K S (mergeK (putK kvs k v) more) (mergeD (putD ds k d) ms')
      exact merge_ok t (h2.put n)
def xDisp (dp : DTP) : DTX := fun sd k => dp sd fun ps sd1 => ∃ ks, keyed ps = some ks ∧ ks.length ≤ 15 ∧ (k (.d (.dk (mergeD [] ks))) sd1 ∨ ∀ p, k (.own p (.dk (mergeD [] ks))) sd1)
instance lx_disp {trs : List (TE × TE)} {dp : DTP} [a : LP K trs dp] : LX K (tDisp trs) (xDisp dp) := ⟨fun {sd k} h W σ C Q q p hp => by
  have C0 := C.put (o := .dK []) hp
  have s0 : Stp W (W.put p (.dK [])) := Stp.put hp
  have nf : ¬ (W.put p (.dK [])).fp p := fun z => C.there p z hp
  have hS : (W.put p (.dK [])).S p = none := free_S C hp
  refine a.up h (W.put p (.dK [])) σ C0 _ fun ps ds sd1 W1 s1 C1 m1 m2 ⟨ks, e1, hz, hk⟩ => ?_
  have hp1 : W1.H p = some (.dK []) := s1.big p _ nf upd_same
  have hS1 : W1.S p = none := s1.fr p nf (by show upd W.H p _ p ≠ none; rw [upd_same]; simp) hS
  have nf1 : ¬ W1.fp p := fun z => by
    rcases s1.fs p z with y | y
    · exact nf y
    · have y' : upd W.H p (.dK []) p = none := y
      rw [upd_same] at y'; cases y'
  obtain ⟨kvs, rfl, nk⟩ := keyed_ok m1 m2 e1
  refine ⟨hp1, kvs, rfl, by rw [nk.len]; exact hz, ?_⟩
  have nm := merge_ok nk (.nil (K := K) (S := W1.S) (κ := Key))
  have C2 : Cnf K (W1.put p (.dK (mergeK [] kvs))) σ sd1 := C1.poke (stp_none C.past hp) hS1 nf1
  have s2 : Stp W (W1.put p (.dK (mergeK [] kvs))) := (s0.trans s1).poke hp
  rcases hk with hk | hk
  · have st : Stp W ((W1.put p (.dK (mergeK [] kvs))).fix p (.dK (mergeK [] kvs))) := by
      refine ⟨s2.big, s2.st.trans (same_upd hS1), fun a hn e3 e4 => ?_, s2.fs, s2.dom⟩
      show upd W1.S p _ a = none
      rw [upd_ne (fun z => e3 (by rw [z]; exact hp))]
      exact s2.fr a hn e3 e4
    exact q (.ref p) (.d _) [] sd1 ((W1.put p (.dK (mergeK [] kvs))).fix p (.dK (mergeK [] kvs))) st (C.then st (C2.toCnf0.fix upd_same hS1 nf1)) ⟨rfl, _, rfl, .dk upd_same (nm.mono (same_upd (o := .dK (mergeK [] kvs)) hS1)).1 (nm.mono (same_upd (o := .dK (mergeK [] kvs)) hS1)).2⟩ NewR.nil hk
  · refine q (.ref p) (.own p (.dk (mergeD [] ks))) [p] sd1 (W1.put p (.dK (mergeK [] kvs))) s2 C2 ⟨rfl, rfl, _, upd_same, nm⟩ ⟨fun a ha => ?_, fun a ha => ?_, fun a ha => ?_, fun a ha => ?_⟩ (hk p)
    all_goals
      have e : a = p := by simpa using ha
      subst e
    · exact nf1
    · show upd W1.H a _ a ≠ none
      rw [upd_same]; simp
    · exact hS1
    · exact .inr hp⟩
instance le_disp {trs : List (TE × TE)} {dp : DTP} [a : LP K trs dp] : LE K (tDisp trs) (xE (xDisp dp)) := le_of_lx
end
end Dl
set_option Elab.async false
set_option linter.all false
set_option maxRecDepth 100000
namespace Dl
open PySem PySem.Spec L2
section
variable [Amb] {K : PySem.W.Frag}
/-! ### several values, each to a slot -/
/-- new things that no slot owns yet -/
structure NewFs (K : PySem.W.Frag) (W W' : Wd) (vs : List V) (ss : List Sl) (Fs : List (List Addr)) : Prop where
  l1 : vs.length = ss.length
  l2 : Fs.length = ss.length
  ok : ∀ (i : Nat) v s F, vs[i]? = some v → ss[i]? = some s → Fs[i]? = some F → SlOk K W'.H W'.S (some v) F s ∧ NewF W W' F
  dj : ∀ (i j : Nat) F G a, i ≠ j → Fs[i]? = some F → Fs[j]? = some G → a ∈ F → a ∉ G
abbrev DTXs := List Sl → (List Sl → List Sl → Prop) → Prop
class LXs (K : PySem.W.Frag) (ta : TA) (dx : outParam DTXs) : Prop where
  up : ∀ {sd : List Sl} {k : List Sl → List Sl → Prop}, dx sd k → ∀ (W : Wd) (σ : L2.St), Cnf K W σ sd → ∀ Q : List V → Hp → Prop, (∀ vs ss Fs sd' W', Stp W W' → Cnf K W' σ sd' → NewFs K W W' vs ss Fs → k ss sd' → Q vs W'.H) → ta σ W.H Q
def xsNil : DTXs := fun sd k => k [] sd
def xsCons (dx : DTX) (dr : DTXs) : DTXs := fun sd k => dx sd fun s sd1 => dr sd1 fun ss sd2 => k (s :: ss) sd2
/-- any expression's value, to a slot -/
class LXa (K : PySem.W.Frag) (te : TE) (dx : outParam DTX) : Prop where
  up : ∀ {sd : List Sl} {k : Sl → List Sl → Prop}, dx sd k → EX K te sd k
instance lxa_x {te : TE} {dx : DTX} [a : LX K te dx] : LXa K te dx := ⟨a.up⟩
def xDat (da : DTE) : DTX := fun sd k => da sd fun x sd1 => k (.d x) sd1
instance (priority := low) lxa_e {te : TE} {da : DTE} [a : LE K te da] : LXa K te (xDat da) := ⟨fun h W σ C Q q => a.up h W σ C Q fun v x sd1 W1 s1 C1 n1 h1 => q v (.d x) [] sd1 W1 s1 C1 ⟨rfl, v, rfl, n1⟩ newF_nil h1⟩
omit [Amb] in
theorem NewF.later {W W1 W2 : Wd} {F : List Addr} (n : NewF W W1 F) (s : Stp W1 W2) : NewF W W2 F := ⟨fun a ha z => by
    rcases s.fs a z with y | y
    · exact n.out a ha y
    · exact n.there a ha y, fun a ha => s.dom a (n.there a ha), fun a ha => s.fr a (n.out a ha) (n.there a ha) (n.un a ha), n.new⟩
omit [Amb] in
theorem slOk_later {W W1 W2 : Wd} {F : List Addr} {v : Option V} {s : Sl} (n : NewF W W1 F) (h : SlOk K W1.H W1.S v F s) (st : Stp W1 W2) : SlOk K W2.H W2.S v F s := h.stay (fun a ha => by
  cases q : W1.H a with
  | none => exact absurd q (n.there a ha)
  | some o => exact st.big a o (n.out a ha) q) st.st
instance lxs_nil : LXs K tNil xsNil := ⟨fun h W σ C Q q => q [] [] [] _ W (Stp.refl W) C ⟨rfl, rfl, fun i v s F e => by simp at e, fun i j F G a _ e => by simp at e⟩ h⟩
instance lxs_cons {te : TE} {tr : TA} {dx : DTX} {dr : DTXs} [a : LXa K te dx] [r : LXs K tr dr] : LXs K (tCons te tr) (xsCons dx dr) := ⟨fun h W σ C Q q =>
  a.up h W σ C _ fun v s F sd1 W1 s1 C1 n1 f1 h1 => r.up h1 W1 σ C1 _ fun vs ss Fs sd2 W2 s2 C2 n2 h2 => by
    have f2 := f1.later s2
    have nn : ∀ G a, NewF W1 W2 G → a ∈ F → a ∈ G → False := fun G a hG ha hb => by
      rcases hG.new a hb with y | y
      · exact f1.out a ha y
      · exact f1.there a ha y
    refine q (v :: vs) (s :: ss) (F :: Fs) sd2 W2 (s1.trans s2) C2 ⟨by simp [n2.l1], by simp [n2.l2], fun i u t G e1 e2 e3 => ?_, fun i j G G' b hij e1 e2 hb hc => ?_⟩ h2
    · cases i with
      | zero =>
        simp at e1 e2 e3
        subst e1; subst e2; subst e3
        exact ⟨slOk_later f1 n1 s2, f2⟩
      | succ i =>
        simp at e1 e2 e3
        obtain ⟨g1, g2⟩ := n2.ok i u t G e1 e2 e3
        exact ⟨g1, g2.back s1⟩
    · have newAt : ∀ m G, Fs[m]? = some G → NewF W1 W2 G := fun m G e => by
        have hm : m < vs.length := by rw [n2.l1, ← n2.l2]; exact (List.getElem?_eq_some_iff.mp e).1
        have hm2 : m < ss.length := by rw [← n2.l1]; exact hm
        exact (n2.ok m _ _ G (List.getElem?_eq_getElem hm) (List.getElem?_eq_getElem hm2) e).2
      cases i with
      | zero =>
        cases j with
        | zero => exact hij rfl
        | succ j =>
          simp at e1 e2
          subst e1
          exact nn G' b (newAt j G' e2) hb hc
      | succ i =>
        cases j with
        | zero =>
          simp at e1 e2
          subst e2
          exact nn G b (newAt i G e1) hc hb
        | succ j =>
          simp at e1 e2
          exact n2.dj i j G G' b (fun z => hij (by rw [z])) e1 e2 hb hc⟩
/-- one slot after the other -/
theorem set_new {W0 W : Wd} {σ : L2.St} {sd : List Sl} {i : Nat} {v : V} {s : Sl} {F : List Addr} {σ0 : L2.St} {sd0 : List Sl} (C0 : Cnf K W0 σ0 sd0) (st : Stp W0 W) (C : Cnf K W σ sd) (h : SlOk K W.H W.S (some v) F s) (n : NewF W0 W F) : Cnf K (W.fs i F) (σ.set i (some v)) (sd.set i s) ∧ Stp W0 (W.fs i F) :=
  ⟨C.set h n.out n.there n.un fun a ha => C0.newz (n.new a ha), st.fsNew n⟩
omit [Amb] in
theorem NewF.fs {W0 W : Wd} {i : Nat} {F G : List Addr} (n : NewF W0 W G) (h : ∀ a ∈ F, a ∉ G) : NewF W0 (W.fs i F) G := ⟨fun a ha z => by
  rcases fp_fs z with y | y
  · exact n.out a ha y
  · exact h a y ha, n.there, n.un, n.new⟩
def dPar2 (i j : Nat) (dx : DTXs) : DTS := fun E sd => dx sd fun ss sd1 => ∃ s t, ss = [s, t] ∧ E.nx ((sd1.set i s).set j t)
instance (priority := high) ls_par2 {i j : Nat} {ta : TA} {dx : DTXs} [a : LXs K ta dx] : LS K (tPar i j ta) (dPar2 i j dx) := ⟨fun h W σ C Dn k =>
  a.up h W σ C _ fun vs ss Fs sd1 W1 s1 C1 n1 ⟨s, t, e, h1⟩ => by
    subst e
    have l1 := n1.l1
    have l2 := n1.l2
    match vs, Fs, l1, l2, n1 with
    | [v, u], [F, G], _, _, n1 =>
      obtain ⟨a1, a2⟩ := n1.ok 0 v s F rfl rfl rfl
      obtain ⟨b1, b2⟩ := n1.ok 1 u t G rfl rfl rfl
      obtain ⟨C2, s2⟩ := set_new C (i := i) s1 C1 a1 a2
      obtain ⟨C3, s3⟩ := set_new C (i := j) s2 C2 b1 (b2.fs fun x hx => n1.dj 0 1 F G x (by decide) rfl rfl hx)
      exact ⟨v, u, rfl, k.nx _ _ ((W1.fs i F).fs j G) s3 C3 h1⟩⟩
def dPar3 (i j l : Nat) (dx : DTXs) : DTS := fun E sd => dx sd fun ss sd1 => ∃ s t r, ss = [s, t, r] ∧ E.nx (((sd1.set i s).set j t).set l r)
instance ls_par3 {i j l : Nat} {ta : TA} {dx : DTXs} [a : LXs K ta dx] : LS K (tPar3 i j l ta) (dPar3 i j l dx) := ⟨fun h W σ C Dn k =>
  a.up h W σ C _ fun vs ss Fs sd1 W1 s1 C1 n1 ⟨s, t, r, e, h1⟩ => by
    subst e
    have l1 := n1.l1
    have l2 := n1.l2
    match vs, Fs, l1, l2, n1 with
    | [v, u, w], [F, G, I], _, _, n1 =>
      obtain ⟨a1, a2⟩ := n1.ok 0 v s F rfl rfl rfl
      obtain ⟨b1, b2⟩ := n1.ok 1 u t G rfl rfl rfl
      obtain ⟨c1, c2⟩ := n1.ok 2 w r I rfl rfl rfl
      obtain ⟨C2, s2⟩ := set_new C (i := i) s1 C1 a1 a2
      obtain ⟨C3, s3⟩ := set_new C (i := j) s2 C2 b1 (b2.fs fun x hx => n1.dj 0 1 F G x (by decide) rfl rfl hx)
      obtain ⟨C4, s4⟩ := set_new C (i := l) s3 C3 c1 ((c2.fs fun x hx => n1.dj 0 2 F I x (by decide) rfl rfl hx).fs fun x hx => n1.dj 1 2 G I x (by decide) rfl rfl hx)
      exact ⟨v, u, w, rfl, k.nx _ _ (((W1.fs i F).fs j G).fs l I) s4 C4 h1⟩⟩
/-! ### subscripts, the operand data or an owned list -/
def ixA : Sl → D → (D → Prop) → Prop
  | .d x, y, k => fIx x y k
  | .own _ (.lst xs), y, k => fIx (.lst xs) y k
  | _, _, _ => False
def dIxA (da : DTAr) (dj : DTE) : DTE := fun sd k => da sd fun a sd1 => dj sd1 fun y sd2 => ixA (arSl sd2 a) y fun z => k z sd2
instance (priority := high) le_ixA {ta tj : TE} {da : DTAr} {dj : DTE} [a : LAr K ta da] [b : LE K tj dj] : LE K (tOp (rIx K) ta tj) (dIxA da dj) := ⟨fun h W σ C Q q =>
  a.up h W σ C _ fun v ar sd1 W1 s1 C1 n1 h1 => b.up h1 W1 σ C1 _ fun u y sd2 W2 s2 C2 n2 h2 => by
    have s12 := s1.trans s2
    have n12 := n1.mono s2
    have data : ∀ x, Den K W2.S v x → (fIx x y fun z => _) → rIx K v u W2.H Q := fun x nx hx => (lr_ix (K := K)).up hx W2 σ sd2 v u C2 nx n2 Q fun w d W3 s3 C3 n3 h3 => q w d sd2 W3 (s12.trans s3) C3 n3 h3
    cases ar with
    | dat x => exact data x n12 h2
    | sl i =>
      have h2' : ixA (sd2.getD i .no) y _ := h2
      rw [List.getD_eq_getElem?_getD] at h2'
      cases e : sd2[i]? with
      | none => rw [e] at h2'; exact (show False from h2').elim
      | some s =>
        rw [e] at h2'
        have z : σ[i]? = some (some v) := n12
        obtain ⟨w, F, g1, g2, g3⟩ := C2.at e
        rw [z] at g1
        cases g1
        cases s with
        | no => exact (show False from h2').elim
        | d x =>
          obtain ⟨_, u', e', n⟩ := g3
          cases e'
          exact data x n h2'
        | own p o =>
          obtain ⟨e', g4⟩ := g3
          cases e'
          cases o <;> try exact (show False from h2').elim
          case lst xs =>
            obtain ⟨_, vs, g5, g6⟩ := g4
            cases y <;> try exact (show False from h2').elim
            case int j =>
              obtain ⟨zz, hz, hk⟩ := h2'
              obtain ⟨w, e2, n⟩ := atI_dens g6 hz
              exact .inl ⟨p, vs, j, w, rfl, den_int n2, .of g5, e2, q _ _ sd2 W2 s12 C2 n hk⟩⟩
/-! ### constants of the module -/
omit [Amb] in
theorem pe_gI {X : Cx} {x : Str} {i : Int} {pos : Pos} (hg : Gl X x) (h : ∃ t, X.mg x = some (.int i t)) (hd : (x == ("__debug__" : Str)) = false := by decide) : PE X (.Name x pos) (tC (.int i)) := by
  obtain ⟨t, h⟩ := h
  exact pe_glob hg h ⟨t, rfl⟩ hd
omit [Amb] in
theorem pe_gS {X : Cx} {x z : Str} {pos : Pos} (hg : Gl X x) (h : ∃ t, X.mg x = some (.str z t)) (hd : (x == ("__debug__" : Str)) = false := by decide) : PE X (.Name x pos) (tC (.str z)) := by
  obtain ⟨t, h⟩ := h
  exact pe_glob hg h ⟨t, rfl⟩ hd
/-- the function object at f -/
def fdAt (K : PySem.W.Frag) (f : Addr) : FuncData := match K.lookup f with
  | some ⟨_, _, .func fd, _⟩ => fd
  | _ => PySem.W.fnOf "" "" { posonlyargs := [], args := [], vararg := none, kwonlyargs := [], kw_defaults := [], kwarg := none, defaults := [] } [] { kind := .function, names := [], isGenerator := false, isCoroutine := false } .none .none .none .none none .none .none
omit [Amb] in
theorem fd_at {x qual : Str} {params : Arguments} {body : List Stmt} {scope : Scope} {f : Addr} (h : ∃ fd, FunD K x qual params body scope [] [] f fd) : FunD K x qual params body scope [] [] f (fdAt K f) := by
  obtain ⟨fd, F⟩ := h
  obtain ⟨oc, od, dV, kV, doc, pm, an, cdv, ct, osl, e1, e2, _⟩ := F.ex
  have e : fdAt K f = fd := by unfold fdAt; rw [e2]
  rw [e]
  exact F
end
/-! ### a def by the head's facts -/
section
variable {K : PySem.W.Frag} {P : Program} {w : World} {mg : Str → Option Value} {base : Heap}
/-- a def of the top that stands under its own name -/
abbrev FnP (K : PySem.W.Frag) (x : Str) (st : Stmt) (f : Addr) (fd : FuncData) : Prop := FunD K x x (defArgs st) (defBody st) (defScope st) [] [] f fd
theorem okP {x qual : Str} {params : Arguments} {body : List Stmt} {scope : Scope} {f : Addr} {fd : FuncData} {N ps : List Str} {k : Nat} {Φ : List Sl → (Sl → List Sl → Prop) → Prop} (F : FunD K x qual params body scope [] [] f fd) (S : FnScope N ps scope) (len : ∀ args k, Φ args k → args.length = ps.length)
    (hbody : ∀ (am : Amb) (cdv : Value) (A : Around) (outer : List Env) (s : Shared) (H : Hp) (E : XK), Room k (A.deeper (PyProof.Rows.envOfC qual scope s.heap.objs.size f cdv)) →
      ∃ t dt, PSs (cxOf CX0 P w K mg base N qual scope f cdv A outer s H E).nox body t ∧ LS K t dt ∧ ∀ args q, Φ args q → dt (endF args q) (args ++ List.replicate (N.length - ps.length) .no)) : FnOk P w K mg base CX0 (k + 1) f fd ps (spD K Φ) := by
  refine F.ok S (fun vs H Q E h => ?_) (fun cdv A outer s H vs Q E hr h => ?_)
  · obtain ⟨W, args, q, _, C, hp, _⟩ := h
    rw [← len args q hp, ← C.l1, List.length_map]
  · obtain ⟨W, args, q, rfl, C, hp, hq⟩ := h
    letI am : Amb := ⟨W.grow (N.length - vs.length)⟩
    obtain ⟨t, dt, h1, l, h2⟩ := hbody am cdv A outer s W.H E hr
    refine ⟨t, h1.nox, ?_⟩
    have e : N.length - ps.length = N.length - vs.length := by rw [← len args q hp, ← C.l1, List.length_map]
    have h3 := h2 args q hp
    rw [e] at h3
    refine l.up h3 (W.grow (N.length - vs.length)) (start N vs) ⟨C.grow _, Stp.refl _⟩ _ ⟨fun σ' sd' W' s' C' ⟨kp, hk⟩ => ?_, fun v r F σ' sd' W' s' C' hs nr ⟨kp, hk⟩ => ?_, fun _ _ _ _ _ z => z.elim, fun _ _ _ _ _ z => z.elim⟩
    · obtain ⟨W3, ⟨e3, _⟩, s3, C3, n3, f3⟩ := fn_end (v := .non) (s := .d .non) (F := []) C s' C'.toCnf0 ⟨rfl, _, rfl, .non⟩ NewR.nil kp
      have z := hq .non (.d .non) [] _ W3 s3 C3 n3 f3 hk
      rw [e3] at z
      exact z
    · obtain ⟨W3, ⟨e3, _⟩, s3, C3, n3, f3⟩ := fn_end C s' C'.toCnf0 hs nr kp
      have z := hq v r F _ W3 s3 C3 n3 f3 hk
      rw [e3] at z
      exact z
end
end Dl
set_option Elab.async false
set_option linter.all false
set_option maxRecDepth 100000
namespace Dl
open PySem PySem.Spec L2
theorem opK {X : Cx} {K : PySem.W.Frag} {f : Value → Value → Sem Value} {r : PySem.W.Frag → R2} (e : X.K = K) (h : OpR X f (r X.K)) : OpR X f (r K) := by subst e; exact h
theorem ixK {X : Cx} {K : PySem.W.Frag} (e : X.K = K) : IxR X (rIx K) := by subst e; exact ix_seq
theorem slK {X : Cx} {K : PySem.W.Frag} (e : X.K = K) : SlR X (rSlX K) := by subst e; exact sl_X
theorem crK {X : Cx} {K : PySem.W.Frag} {v : Value} {r : PySem.W.Frag → List V → Hp → VK → Prop} (e : X.K = K) (h : CallR X v (r X.K)) : CallR X v (r K) := by subst e; exact h
/-- a new object given back -/
def dRetX (dx : DTX) : DTS := fun E sd => dx sd fun s sd1 => E.rt s sd1
instance ls_retLst [Amb] {K : PySem.W.Frag} {ta : TA} {dx : DTX} [a : LX K (tLst ta) dx] : LS K (tRet (tLst ta)) (dRetX dx) := ⟨fun h W σ C Dn k => a.up h W σ C _ fun v s F sd1 W1 s1 C1 n1 f1 h1 => k.rt v s F σ sd1 W1 s1 C1 n1 f1 h1⟩
instance ls_retCall [Amb] {K : PySem.W.Frag} {sp : Sp} {dvs : List V} {E0 : XK} {ta : TA} {dx : DTX} [a : LX K (tCall sp dvs E0 ta) dx] : LS K (tRet (tCall sp dvs E0 ta)) (dRetX dx) := ⟨fun h W σ C Dn k => a.up h W σ C _ fun v s F sd1 W1 s1 C1 n1 f1 h1 => k.rt v s F σ sd1 W1 s1 C1 n1 f1 h1⟩
theorem ok0 {sd : List Sl} {as : List Ar} (h : ownIx as = []) : okIx sd as := ⟨by rw [h]; exact List.nodup_nil, fun i hi => by rw [h] at hi; simp at hi⟩
theorem ok1 {sd : List Sl} {as : List Ar} {i : Nat} (h : ownIx as = [i]) (hi : decide (i < sd.length) = true) : okIx sd as := ⟨by rw [h]; simp, fun j hj => by
  rw [h] at hj
  have e : j = i := by simpa using hj
  rw [e]
  exact of_decide_eq_true hi⟩
/-- the draws: the script's ints, how far, what is left of a great one, the seed -/
def RowOk (o : OD) : Prop := ∃ (ns : List Int) (idx big seed : Int), o = .lst [.lst (ns.map D.int), .int idx, .int big, .int seed] ∧ 0 ≤ idx ∧ 0 ≤ big ∧ 0 ≤ seed ∧ seed < 2147483647
theorem ite_t {c : Prop} [Decidable c] {A B : Prop} (hc : c) (h : A) : if c then A else B := by rw [if_pos hc]; exact h
theorem ite_f {c : Prop} [Decidable c] {A B : Prop} (hc : ¬ c) (h : B) : if c then A else B := by rw [if_neg hc]; exact h
theorem ite_b {c : Bool} {A B : Prop} (h1 : c = true → A) (h2 : c = false → B) : if c = true then A else B := by cases c with
  | true => exact h1 rfl
  | false => exact h2 rfl
/-- one statement, and what holds behind it -/
theorem sq {A B : DTS} {E : DEnds} {sd : List Sl} (J : List Sl → Prop) (h1 : ∀ B' : DTS, (∀ sd', J sd' → B' E sd') → dSeq A B' E sd) (h2 : ∀ sd', J sd' → B E sd') : dSeq A B E sd := h1 B h2
theorem atI_ok {α : Type} {xs : List α} {i : Int} {j : Nat} {v : α} (e : i = (j : Int)) (h : xs[j]? = some v) : atI xs i = some v := by rw [e]; exact atI_nat h
theorem iSq_var {i : Nat} {x : D} {xs : List D} {sd : List Sl} {k : List D → List Sl → Prop} (h1 : sd[i]? = some (.d x)) (hx : x = .lst xs ∨ x = .tup xs) (h2 : k xs sd) : iSq (dVar i) sd k := by
  rcases hx with rfl | rfl <;> exact ⟨_, h1, h2⟩
theorem dFor_var {i : Nat} {x : D} {xs : List D} {sd : List Sl} {dg : DTG} {db : DTS} {E : DEnds} (h1 : sd[i]? = some (.d x)) (hx : x = .lst xs ∨ x = .tup xs) (h2 : dFor (fun sd k => k xs sd) dg db E sd) : dFor (iSq (dVar i)) dg db E sd := by
  rcases hx with rfl | rfl <;> exact ⟨_, h1, h2⟩
theorem mapAt {α β : Type} {f : α → β} {l : List α} {i : Nat} {y : β} (h : (l.map f)[i]? = some y) : ∃ x, l[i]? = some x ∧ y = f x ∧ i < l.length ∧ x ∈ l := by
  rw [List.getElem?_map] at h
  cases e : l[i]? with
  | none => rw [e] at h; cases h
  | some x =>
    rw [e] at h
    cases h
    exact ⟨x, rfl, rfl, (List.getElem?_eq_some_iff.mp e).1, List.mem_of_getElem? e⟩
theorem ints_at {lo : Int} {n i : Nat} {x : D} (h : (intsD lo n)[i]? = some x) : i < n ∧ x = .int (lo + i) := by
  have hl := (List.getElem?_eq_some_iff.mp h).1
  rw [intsD_len] at hl
  rw [intsD_get hl] at h
  cases h
  exact ⟨hl, rfl⟩
theorem ints0_at {n i : Nat} {x : D} (h : (intsD 0 n)[i]? = some x) : i < n ∧ x = .int i := by
  obtain ⟨h1, h2⟩ := ints_at h
  rw [Int.zero_add] at h2
  exact ⟨h1, h2⟩
theorem enum_at {xs : List D} {i : Nat} {x : D} (h : (enumD 0 xs)[i]? = some x) : ∃ y, xs[i]? = some y ∧ x = .tup [.int i, y] := by
  rw [enumD_get] at h
  cases e : xs[i]? with
  | none => rw [e] at h; cases h
  | some y =>
    rw [e, Nat.zero_add] at h
    cases h
    exact ⟨y, rfl, rfl⟩
theorem cut_to {α : Type} {xs : List α} {i : Int} {j : Nat} (e : i = (j : Int)) : cutD xs none (some i) = xs.take j := by
  subst e
  unfold cutD
  rw [HT.sIx_none, HT.sIx_nat, List.drop_zero, Nat.sub_zero, ← List.take_take, List.take_length]
theorem cut_from {α : Type} {xs : List α} {i : Int} {j : Nat} (e : i = (j : Int)) : cutD xs (some i) none = xs.drop j := by
  subst e
  unfold cutD
  rw [HT.sIx_none, HT.sIx_nat]
  by_cases h : j ≤ xs.length
  · rw [Nat.min_eq_left h]
    exact List.take_of_length_le (by rw [List.length_drop]; omega)
  · rw [Nat.min_eq_right (by omega), List.drop_of_length_le (Nat.le_refl _), List.drop_of_length_le (by omega)]
    simp
theorem bools_map (bs : List Bool) : bools (bs.map D.bl) = some bs := by
  induction bs with
  | nil => rfl
  | cons b r ih =>
    show (bools (r.map D.bl)).map (b :: ·) = _
    rw [ih]
    rfl
theorem takeS {α : Type} {l : List α} {i : Nat} {x : α} (h : l[i]? = some x) : l.take (i + 1) = l.take i ++ [x] := by
  rw [List.take_add_one, h]
  rfl
theorem cmul_r {i j : Int} (h0 : 0 ≤ j) (h1 : j ≤ 1000000) : CMul i j := .inr ⟨by omega, by omega⟩
theorem cmul_l {i j : Int} (h0 : 0 ≤ i) (h1 : i ≤ 1000000) : CMul i j := .inl ⟨by omega, by omega⟩
end Dl
set_option Elab.async false
set_option linter.all false
set_option maxRecDepth 100000
namespace Dl
open PySem PySem.Spec L2
/-! ### shapes -/
structure Sh (k : Nat) (d : D) : Prop where
  lay : (py d).canLay0 = true
  dep : (py d).depth ≤ k
theorem Sh.shp {k : Nat} {d : D} (h : Sh k d) (hk : k ≤ 64) : shp d := by
  show SeqAt.shaped (py d) = true
  unfold SeqAt.shaped
  rw [h.lay, decide_eq_true (Nat.le_trans h.dep hk)]
  rfl
theorem Sh.mono {k l : Nat} {d : D} (h : Sh k d) (hk : k ≤ l) : Sh l d := ⟨h.lay, Nat.le_trans h.dep hk⟩
theorem Sh.int {k : Nat} (i : Int) : Sh k (.int i) := ⟨by simp [py, PyData.canLay0], by simp [py, PyData.depth]⟩
theorem Sh.non {k : Nat} : Sh k .non := ⟨by simp [py, PyData.canLay0], by simp [py, PyData.depth]⟩
theorem Sh.bl {k : Nat} (b : Bool) : Sh k (.bl b) := ⟨by simp [py, PyData.canLay0], by simp [py, PyData.depth]⟩
theorem Sh.all {k : Nat} : ∀ {xs : List D}, (∀ x ∈ xs, Sh k x) → PyData.canLayAll0 (pyL xs) = true ∧ PyData.depthAll (pyL xs) ≤ k
  | [], _ => ⟨by simp [pyL, PyData.canLayAll0], by simp [pyL, PyData.depthAll]⟩
  | x :: xs, h => by
    obtain ⟨h1, h2⟩ := Sh.all (xs := xs) fun y hy => h y (List.mem_cons_of_mem _ hy)
    have hx := h x (List.mem_cons_self)
    refine ⟨by simp [pyL, PyData.canLayAll0, hx.lay, h1], ?_⟩
    simp only [pyL, PyData.depthAll]
    exact Nat.max_le.mpr ⟨hx.dep, h2⟩
theorem Sh.tup {k : Nat} {xs : List D} (h : ∀ x ∈ xs, Sh k x) : Sh (k + 1) (.tup xs) := ⟨by simp [py, PyData.canLay0, (Sh.all h).1], by simp only [py, PyData.depth]; exact Nat.succ_le_succ (Sh.all h).2⟩
theorem Sh.lst {k : Nat} {xs : List D} (h : ∀ x ∈ xs, Sh k x) : Sh (k + 1) (.lst xs) := ⟨by simp [py, PyData.canLay0, (Sh.all h).1], by simp only [py, PyData.depth]; exact Nat.succ_le_succ (Sh.all h).2⟩
theorem Sh.kt {k : Nat} {xs : List D} (h : ∀ x ∈ xs, Sh k x) : Sh (k + 1) (.kt xs) := ⟨by simp [py, PyData.canLay0, (Sh.all h).1], by simp only [py, PyData.depth]; exact Nat.succ_le_succ (Sh.all h).2⟩
theorem mem_map {α β : Type} {f : α → β} {l : List α} {P : β → Prop} (h : ∀ a ∈ l, P (f a)) : ∀ x ∈ l.map f, P x := fun x hx => by
  obtain ⟨a, ha, rfl⟩ := List.mem_map.mp hx
  exact h a ha
/-! ### equality of plain data -/
mutual
theorem eqv_refl : ∀ (d : PyData), d.canLay0 = true → PyData.eqv d d = true
  | .none, _ => by simp [PyData.eqv]
  | .bool b, _ => by simp [PyData.eqv]
  | .int i, _ => by simp [PyData.eqv]
  | .str x, _ => by simp [PyData.eqv]
  | .list xs, h => by
    simp only [PyData.canLay0] at h
    simp only [PyData.eqv]
    exact eqvAll_refl xs h
  | .tuple xs, h => by
    simp only [PyData.canLay0] at h
    simp only [PyData.eqv]
    exact eqvAll_refl xs h
  | .dict kvs, h => by simp [PyData.canLay0] at h
theorem eqvAll_refl : ∀ (ds : List PyData), PyData.canLayAll0 ds = true → PyData.eqvAll ds ds = true
  | [], _ => by simp [PyData.eqvAll]
  | x :: xs, h => by
    simp only [PyData.canLayAll0, Bool.and_eq_true] at h
    simp only [PyData.eqvAll, Bool.and_eq_true]
    exact ⟨eqv_refl x h.1, eqvAll_refl xs h.2⟩
end
theorem eqD_self {k : Nat} {d : D} (h : Sh k d) : eqD d d = true := eqv_refl _ h.lay
theorem okEq_sh {k l : Nat} {x y : D} (h : Sh k x) (g : Sh l y) (hk : k ≤ 64) (hl : l ≤ 64) : okEq x y := .inr ⟨h.shp hk, g.shp hl⟩
/-- data without bools, dicts, objects: == is equality -/
inductive Pl : D → Prop where
  | non : Pl .non
  | int (i : Int) : Pl (.int i)
  | str (x : Str) : Pl (.str x)
  | tup {xs : List D} (h : ∀ x ∈ xs, Pl x) : Pl (.tup xs)
  | lst {xs : List D} (h : ∀ x ∈ xs, Pl x) : Pl (.lst xs)
theorem Pl.eqs {xs : List D} (h : ∀ x ∈ xs, ∀ y, Pl y → eqD x y = true → x = y) : ∀ ys : List D, (∀ y ∈ ys, Pl y) → PyData.eqvAll (pyL xs) (pyL ys) = true → xs = ys := by
  induction xs with
  | nil =>
    intro ys _ e
    cases ys with
    | nil => rfl
    | cons y ys => simp [pyL, PyData.eqvAll] at e
  | cons x xs ih =>
    intro ys hy e
    cases ys with
    | nil => simp [pyL, PyData.eqvAll] at e
    | cons y ys =>
      simp only [pyL, PyData.eqvAll, Bool.and_eq_true] at e
      rw [h x (List.mem_cons_self) y (hy y (List.mem_cons_self)) e.1, ih (fun z hz => h z (List.mem_cons_of_mem _ hz)) ys (fun z hz => hy z (List.mem_cons_of_mem _ hz)) e.2]
theorem Pl.eq {x : D} (h : Pl x) : ∀ y, Pl y → eqD x y = true → x = y := by
  induction h with
  | non => intro y hy e; cases hy <;> simp [eqD, py, PyData.eqv] at e ⊢
  | int i => intro y hy e; cases hy <;> simp [eqD, py, PyData.eqv] at e ⊢; exact e
  | str i => intro y hy e; cases hy <;> simp [eqD, py, PyData.eqv] at e ⊢; exact e
  | @tup xs h ih =>
    intro y hy e
    cases hy with
    | tup g =>
      simp only [eqD, py, PyData.eqv] at e
      rw [Pl.eqs ih _ g e]
    | _ => simp [eqD, py, PyData.eqv] at e
  | @lst xs h ih =>
    intro y hy e
    cases hy with
    | lst g =>
      simp only [eqD, py, PyData.eqv] at e
      rw [Pl.eqs ih _ g e]
    | _ => simp [eqD, py, PyData.eqv] at e
theorem eqD_iff {k : Nat} {x y : D} (h : Pl x) (g : Pl y) (s : Sh k x) : eqD x y = true ↔ x = y := ⟨h.eq y g, fun e => by subst e; exact eqD_self s⟩
theorem eqD_int (i j : Int) : eqD (.int i) (.int j) = decide (i = j) := by
  simp only [eqD, py, PyData.eqv]
  rw [Bool.eq_iff_iff]
  simp
/-- the law's call: the script is frozen data -/
theorem law_begin {K : PySem.W.Frag} {H : Hp} {a : Addr} {ns : List Int} {Φ : List Sl → (Sl → List Sl → Prop) → Prop} {E : XK} (hS : SqL K H a (ns.map V.int)) (h : ∀ k : Sl → List Sl → Prop, k (.d (.bl true)) [.d (.fz (ns.map D.int))] → Φ [.d (.fz (ns.map D.int))] k) : spD K Φ [.ref a] H (fun v _ => v = .bl true) E := by
  have nf : ∀ b, ¬ (⟨H, H, [[]]⟩ : Wd).fp b := by
    rintro b ⟨i, F, h1, h2⟩
    match i, h1 with
    | 0, h1 => cases h1; cases h2
    | i + 1, h1 => cases h1
  refine ⟨⟨H, H, [[]]⟩, [.d (.fz (ns.map D.int))], fun s _ => s = .d (.bl true), rfl, ⟨fun _ _ z => z, rfl, rfl, ?_, fun b hb => (nf b hb).elim, fun b hb => (nf b hb).elim, ?_⟩, h _ rfl, ?_⟩
  · intro i s v F h1 h2 h3
    match i, h1, h2, h3 with
    | 0, h1, h2, h3 =>
      cases h1; cases h2; cases h3
      refine ⟨rfl, _, rfl, .fz hS (by rw [List.length_map, List.length_map]) fun i x d e1 e2 => ?_⟩
      rw [List.getElem?_map] at e1 e2
      cases e : ns[i]? with
      | none => rw [e] at e1; cases e1
      | some n =>
        rw [e] at e1 e2
        cases e1; cases e2
        exact .int n
    | i + 1, h1, h2, h3 => cases h1
  · intro i j F G b ne h1 h2 hb
    match i, h1 with
    | 0, h1 => cases h1; cases hb
    | i + 1, h1 => cases h1
  · rintro v _ F outs W' _ _ hs _ rfl
    obtain ⟨_, u, e, n⟩ := hs
    cases e
    exact den_bl n
end Dl
set_option Elab.async false
set_option linter.all false
set_option maxRecDepth 100000
namespace Dl
open PySem PySem.Spec L2
/-! ### instances -/
def insS : Sl → Option (Addr × List (Str × D))
  | .d (.obj C fs) => some (C, fs)
  | .own _ (.ins C fs) => some (C, fs)
  | _ => none
def putFD (f : Str) (v : D) : List (Str × D) → List (Str × D)
  | [] => [(f, v)]
  | (g, x) :: r => if g = f then (g, v) :: r else (g, x) :: putFD f v r
theorem KvOk.cons_inv {κ : Type} {K : PySem.W.Frag} {S : Hp} {x : κ × V} {vs : List (κ × V)} {d : κ × D} {ds : List (κ × D)} (h : KvOk K S (x :: vs) (d :: ds)) : x.1 = d.1 ∧ Den K S x.2 d.2 ∧ KvOk K S vs ds := by
  obtain ⟨h1, h2⟩ := h
  simp only [List.map_cons, List.cons.injEq] at h1
  exact ⟨h1.1, h2 0 x d rfl rfl, h1.2, fun i y e a b => h2 (i + 1) y e (by simpa using a) (by simpa using b)⟩
theorem KvOk.mkCons {κ : Type} {K : PySem.W.Frag} {S : Hp} {x : κ × V} {vs : List (κ × V)} {d : κ × D} {ds : List (κ × D)} (e : x.1 = d.1) (n : Den K S x.2 d.2) (h : KvOk K S vs ds) : KvOk K S (x :: vs) (d :: ds) := by
  refine ⟨by simp only [List.map_cons]; rw [e, h.1], fun i y e a b => ?_⟩
  cases i with
  | zero => simp at a b; subst a; subst b; exact n
  | succ i => exact h.2 i y e (by simpa using a) (by simpa using b)
theorem KvOk.lookup {K : PySem.W.Frag} {S : Hp} {f : Str} : ∀ {vs : List (Str × V)} {ds : List (Str × D)} {x : D}, KvOk K S vs ds → ds.lookup f = some x → ∃ v, vs.lookup f = some v ∧ Den K S v x
  | [], [], x, _, e => by cases e
  | [], _ :: _, x, h, _ => by have := h.1; simp at this
  | _ :: _, [], x, h, _ => by have := h.1; simp at this
  | v :: vs, d :: ds, x, h, e => by
    obtain ⟨h1, h2, h3⟩ := h.cons_inv
    obtain ⟨k, v⟩ := v
    obtain ⟨l, d⟩ := d
    cases (show k = l from h1)
    rw [List.lookup_cons] at e ⊢
    cases q : f == k with
    | true => rw [q] at e; cases e; exact ⟨v, rfl, h2⟩
    | false => rw [q] at e; exact KvOk.lookup h3 e
theorem KvOk.putF {K : PySem.W.Frag} {S : Hp} {f : Str} {v : V} {x : D} (n : Den K S v x) : ∀ {vs : List (Str × V)} {ds : List (Str × D)}, KvOk K S vs ds → KvOk K S (L2.putF f v vs) (putFD f x ds)
  | [], [], _ => .mkCons rfl n ⟨rfl, fun i y e a => by simp at a⟩
  | [], _ :: _, h => by have := h.1; simp at this
  | _ :: _, [], h => by have := h.1; simp at this
  | v' :: vs, d :: ds, h => by
    obtain ⟨h1, h2, h3⟩ := h.cons_inv
    obtain ⟨k, v'⟩ := v'
    obtain ⟨l, d⟩ := d
    cases (show k = l from h1)
    unfold L2.putF putFD
    split
    · exact .mkCons rfl n h3
    · exact .mkCons rfl h2 (KvOk.putF n h3)
theorem Den.objInv {K : PySem.W.Frag} {S : Hp} {v : V} {C : Addr} {fs : List (Str × D)} (h : Den K S v (.obj C fs)) : ∃ a dx vs, v = .ref a ∧ S a = some (.ins C dx vs) ∧ KvOk K S vs fs := by
  cases h with
  | obj h hl hx => exact ⟨_, _, _, rfl, h, hl, hx⟩
section
variable [Amb] {K : PySem.W.Frag}
theorem insS_ok {W : Wd} {σ : L2.St} {sd : List Sl} {v : V} {a : Ar} {C : Addr} {fs : List (Str × D)} (Cn : Cnf K W σ sd) (ha : ArOk K W σ v a) (h : insS (arSl sd a) = some (C, fs)) : ∃ p dx vs, v = .ref p ∧ W.H p = some (.ins C dx vs) ∧ KvOk K W.S vs fs := by
  cases a with
  | dat d =>
    cases d <;> try (cases h; done)
    case obj C' fs' =>
      cases h
      obtain ⟨p, dx, vs, e, h1, h2⟩ := Den.objInv (show Den K W.S v _ from ha)
      exact ⟨p, dx, vs, e, Cn.sub _ _ h1, h2⟩
  | sl i =>
    have h' : insS (sd.getD i .no) = some (C, fs) := h
    rw [List.getD_eq_getElem?_getD] at h'
    cases q : sd[i]? with
    | none => rw [q] at h'; cases h'
    | some s =>
      rw [q] at h'
      obtain ⟨v', F, h1, h2, h3⟩ := Cn.at q
      have e : σ[i]? = some (some v) := ha
      rw [e] at h1
      cases h1
      cases s with
      | no => cases h'
      | d x =>
        cases x <;> try (cases h'; done)
        case obj C' fs' =>
          cases h'
          obtain ⟨_, u, eu, n⟩ := h3
          cases eu
          obtain ⟨p, dx, vs, e, g1, g2⟩ := n.objInv
          exact ⟨p, dx, vs, e, Cn.sub _ _ g1, g2⟩
      | own p o =>
        cases o <;> try (cases h'; done)
        case ins C' fs' =>
          cases h'
          obtain ⟨ev, _, dx, vs, g1, g2⟩ := h3
          cases ev
          exact ⟨p, dx, vs, rfl, g1, g2⟩
/-- e.f -/
def dFld (K : PySem.W.Frag) (da : DTAr) (f : Str) : DTE := fun sd k => da sd fun a sd1 => ∃ C fs v, insS (arSl sd1 a) = some (C, fs) ∧ (Cls K C ∧ NoAttr K C f) ∧ fs.lookup f = some v ∧ k v sd1
instance le_fld {ta : TE} {da : DTAr} {f : Str} [a : LAr K ta da] : LE K (tFld K ta f) (dFld K da f) := ⟨fun h W σ C Q q =>
  a.up h W σ C _ fun v ar sd1 W1 s1 C1 n1 ⟨Cc, fs, x, e, ⟨c, na⟩, l, hk⟩ => by
    obtain ⟨p, dx, vs, rfl, h1, h2⟩ := insS_ok C1 n1 e
    obtain ⟨u, e1, n⟩ := h2.lookup l
    exact ⟨p, Cc, dx, vs, u, rfl, h1, c, na, e1, q _ _ sd1 W1 s1 C1 n hk⟩⟩
/-- x.f = e, x owned -/
def dFldS (K : PySem.W.Frag) (i : Nat) (dv : DTE) (f : Str) : DTS := fun E sd => dv sd fun y sd1 => ∃ p C fs, sd1[i]? = some (.own p (.ins C fs)) ∧ (Cls K C ∧ NoAttr K C f) ∧ fs.length < 900 ∧ E.nx (sd1.set i (.own p (.ins C (putFD f y fs))))
instance ls_fldS {i : Nat} {tv : TE} {dv : DTE} {f : Str} [a : LE K tv dv] : LS K (sFld K (tVar i) tv f) (dFldS K i dv f) := ⟨fun h W σ C Dn k =>
  a.up h W σ C _ fun v y sd1 W1 s1 C1 n1 ⟨p, Cc, fs, e, ⟨c, na⟩, hl, h1⟩ => by
    obtain ⟨u, F, g1, g2, ev, rfl, dx, vs, g3, g4⟩ := C1.at e
    cases ev
    have m := g4.putF n1 (f := f)
    obtain ⟨C2, s2⟩ := C1.mut (o' := .ins Cc (putFD f y fs)) (u := .ins Cc dx (L2.putF f v vs)) e g2 ⟨rfl, dx, _, upd_same, m⟩
    refine ⟨.ref p, g1, p, Cc, dx, vs, rfl, g3, c, na, ?_, k.nx σ _ _ (s1.trans s2) C2 h1⟩
    have : vs.length = fs.length := by have := congrArg List.length g4.1; simpa using this
    omega⟩
end
theorem Cnf0.cons {K : PySem.W.Frag} {W : Wd} {σ : L2.St} {sd : List Sl} {p : Addr} {o : OD} (C : Cnf0 K W σ sd) (h : OwnOk K W.H W.S p [p] o) (h1 : ¬ W.fp p) (h2 : W.H p ≠ none) (h3 : W.S p = none) : Cnf0 K ⟨W.H, W.S, [p] :: W.Fs⟩ (some (.ref p) :: σ) (.own p o :: sd) := by
  have fpc : ∀ a, (⟨W.H, W.S, [p] :: W.Fs⟩ : Wd).fp a → a = p ∨ W.fp a := by
    rintro a ⟨i, F, hF, ha⟩
    cases i with
    | zero => cases hF; exact .inl (by simpa using ha)
    | succ i => exact .inr ⟨i, F, by simpa using hF, ha⟩
  refine ⟨C.sub, by simp [C.l1], by simp [C.l2], fun i s v F e1 e2 e3 => ?_, fun a ha => ?_, fun a ha => ?_, fun i j F G a hij e1 e2 ha hb => ?_⟩
  · cases i with
    | zero => cases e1; cases e2; cases e3; exact ⟨rfl, h⟩
    | succ i => exact C.ok i s v F (by simpa using e1) (by simpa using e2) (by simpa using e3)
  · rcases fpc a ha with rfl | z
    · exact h2
    · exact C.there a z
  · rcases fpc a ha with rfl | z
    · exact h3
    · exact C.out a z
  · cases i with
    | zero =>
      cases e1
      have ea : a = p := by simpa using ha
      cases j with
      | zero => exact hij rfl
      | succ j => exact h1 ⟨j, G, by simpa using e2, by rw [← ea]; exact hb⟩
    | succ i =>
      cases j with
      | zero =>
        cases e2
        have ea : a = p := by simpa using hb
        exact h1 ⟨i, F, by simpa using e1, by rw [← ea]; exact ha⟩
      | succ j => exact C.dj i j F G a (fun z => hij (by rw [z])) (by simpa using e1) (by simpa using e2) ha hb
theorem Cnf0.tail {K : PySem.W.Frag} {W : Wd} {σ : L2.St} {v : Option V} {s : Sl} {sd : List Sl} (C : Cnf0 K W (v :: σ) (s :: sd)) : Cnf0 K ⟨W.H, W.S, W.Fs.tail⟩ σ sd := by
  have tl : ∀ i : Nat, W.Fs.tail[i]? = W.Fs[i + 1]? := fun i => by simp
  have fp : ∀ a, (⟨W.H, W.S, W.Fs.tail⟩ : Wd).fp a → W.fp a := fun a ⟨i, F, hF, ha⟩ => ⟨i + 1, F, by rw [← tl]; exact hF, ha⟩
  refine ⟨C.sub, by have := C.l1; simpa using this, by have := C.l2; simp at this ⊢; omega, fun i s v F e1 e2 e3 => C.ok (i + 1) s v F (by simpa using e1) (by simpa using e2) (by rw [← tl]; exact e3), fun a ha => C.there a (fp a ha), fun a ha => C.out a (fp a ha), fun i j F G a hij e1 e2 ha hb => C.dj (i + 1) (j + 1) F G a (fun z => hij (by omega)) (by rw [← tl]; exact e1) (by rw [← tl]; exact e2) ha hb⟩
section
variable [Amb] {K : PySem.W.Frag}
/-- C(e, ..) -/
def dMake (C : Addr) (Φ : List Sl → (Sl → List Sl → Prop) → Prop) (da : DTA) : DTX := fun sd k => da sd fun as sd1 => okIx sd1 as ∧ ∀ x, Φ (.own x (.ins C []) :: as.map (arSl sd1)) fun s outs => s = .d .non ∧ ∃ o outs', outs = .own x o :: outs' ∧ k (.own x o) (putB sd1 as outs')
theorem make_up {Cc : Addr} {Φ : List Sl → (Sl → List Sl → Prop) → Prop} {ta : TA} {da : DTA} {E : XK} [a : LA K ta da] {sd : List Sl} {k : Sl → List Sl → Prop} (h : dMake Cc Φ da sd k) {W : Wd} {σ : L2.St} (C : Cnf K W σ sd) {Q : VK}
    (q : ∀ v s F sd' W', Stp W W' → Cnf K W' σ sd' → SlOk K W'.H W'.S (some v) F s → NewF W W' F → k s sd' → Q v W'.H) : tMake Cc (spD K Φ) [] E ta σ W.H Q :=
  a.up h W σ C _ fun vs as sd1 W1 s1 C1 n1 ⟨ok, h1⟩ x dx hx hdx hne => by
    rw [List.append_nil]
    have hx1 : (W1.put dx (.own x)).H x = none := by show upd W1.H dx _ x = none; rw [upd_ne (Ne.symm hne)]; exact hx
    have C2 : Cnf K ((W1.put dx (.own x)).put x (.ins Cc dx [])) σ sd1 := (C1.put hdx).put hx1
    have s12 : Stp W1 ((W1.put dx (.own x)).put x (.ins Cc dx [])) := (Stp.put hdx).trans (Stp.put hx1)
    have n2 := n1.mono s12
    have CA := C2.args n2 ok
    have nfx : ¬ (((W1.put dx (.own x)).put x (.ins Cc dx [])).args as).fp x := fun z => by
      obtain ⟨i, _, F, hF, hb⟩ := args_fp z
      exact C1.there x ⟨i, F, hF, hb⟩ hx
    have hS : W1.S x = none := free_S C1 hx
    have CC := CA.cons (p := x) (o := .ins Cc []) ⟨rfl, dx, [], upd_same, rfl, fun i y e b => by simp at b⟩ nfx (by show upd _ x _ x ≠ none; rw [upd_same]; simp) hS
    refine ⟨_, _, _, rfl, CC, h1 x, fun v s F outs W' s' C' hs hr ⟨es, o, outs', eo, hk⟩ => ?_⟩
    subst es
    subst eo
    obtain ⟨_, u, eu, nu⟩ := hs
    cases eu
    have ev : v = .non := by cases nu; rfl
    refine ⟨ev, ?_⟩
    have hH : ∀ b, W1.H b ≠ none → (upd (upd W1.H dx (.own x)) x (.ins Cc dx [])) b = W1.H b := fun b hb => by
      rw [upd_ne (fun z => hb (by rw [z]; exact hx)), upd_ne (fun z => hb (by rw [z]; exact hdx))]
    have argsfp : ∀ b, (((W1.put dx (.own x)).put x (.ins Cc dx [])).args as).fp b ↔ (W1.args as).fp b := fun b => Iff.rfl
    have wfp : ∀ b, (⟨((W1.put dx (.own x)).put x (.ins Cc dx [])).H, W1.S, [x] :: (W1.args as).Fs⟩ : Wd).fp b → b = x ∨ (W1.args as).fp b := by
      rintro b ⟨i, F, hF, hb⟩
      cases i with
      | zero => cases hF; exact .inl (by simpa using hb)
      | succ i => exact .inr ⟨i, F, by simpa using hF, hb⟩
    have old : ∀ b, W'.fp b → b = x ∨ (W1.args as).fp b ∨ W1.H b = none := fun b hb => by
      rcases s'.fs b hb with z | z
      · rcases wfp b z with y | y
        · exact .inl y
        · exact .inr (.inl y)
      · refine .inr (.inr ?_)
        have z' : (upd (upd W1.H dx (.own x)) x (.ins Cc dx [])) b = none := z
        cases q0 : W1.H b with
        | none => rfl
        | some u => rw [hH b (by rw [q0]; simp), q0] at z'; cases z'
    have CT : Cnf0 K ⟨W'.H, W'.S, W'.Fs.tail⟩ (vs.map some) outs' := C'.tail
    have tl : ∀ i : Nat, W'.Fs.tail[i]? = W'.Fs[i + 1]? := fun i => by simp
    have tfp : ∀ b, (⟨W'.H, W'.S, W'.Fs.tail⟩ : Wd).fp b → W'.fp b := fun b ⟨i, F, hF, hb⟩ => ⟨i + 1, F, (tl i).symm.trans hF, hb⟩
    have ST : Stp (W1.args as) ⟨W'.H, W'.S, W'.Fs.tail⟩ := by
      refine ⟨fun b u hn e => ?_, s'.st, fun b hn e1 e2 => ?_, fun b hb => ?_, fun b hb => ?_⟩
      · have e' : W1.H b = some u := e
        have nb : b ≠ x := fun z => by rw [z, hx] at e'; cases e'
        refine s'.big b u (fun z => ?_) (by show (upd (upd W1.H dx (.own x)) x (.ins Cc dx [])) b = some u; rw [hH b (by rw [e']; simp)]; exact e')
        rcases wfp b z with y | y
        · exact nb y
        · exact hn y
      · have e1' : W1.H b ≠ none := e1
        have nb : b ≠ x := fun z => e1' (by rw [z]; exact hx)
        refine s'.fr b (fun z => ?_) (by show (upd (upd W1.H dx (.own x)) x (.ins Cc dx [])) b ≠ none; rw [hH b e1']; exact e1') e2
        rcases wfp b z with y | y
        · exact nb y
        · exact hn y
      · rcases old b (tfp b hb) with y | y | y
        · exact .inr (by rw [y]; exact hx)
        · exact .inl y
        · exact .inr y
      · have hb' : W1.H b ≠ none := hb
        exact s'.dom b (by show (upd (upd W1.H dx (.own x)) x (.ins Cc dx [])) b ≠ none; rw [hH b hb']; exact hb')
    obtain ⟨CB, SB⟩ := C1.back n1 ok ST CT
    have l0 : 0 < W'.Fs.length := by rw [C'.l2]; simp
    obtain ⟨F0, hF0⟩ : ∃ F0, W'.Fs[0]? = some F0 := ⟨_, List.getElem?_eq_getElem l0⟩
    have so := C'.ok 0 (.own x o) (some (.ref x)) F0 rfl rfl hF0
    have f0 : ∀ b ∈ F0, W'.fp b := fun b hb => ⟨0, F0, hF0, hb⟩
    have lv : vs.length = outs'.length := by have := C'.l1; simpa using this
    have lF : as.length = (⟨W'.H, W'.S, W'.Fs.tail⟩ : Wd).Fs.length := by rw [CT.l2, ← lv]; exact n1.1.symm
    refine q (.ref x) (.own x o) F0 _ (W1.back ⟨W'.H, W'.S, W'.Fs.tail⟩ as) (s1.trans SB) CB ⟨rfl, so.2⟩ ⟨fun b hb z => ?_, fun b hb => C'.there b (f0 b hb), fun b hb => C'.out b (f0 b hb), fun b hb => ?_⟩ hk
    · rcases back_fp ok.1 lF (fun i hi => by rw [C1.l2]; exact ok.2 i hi) z with ⟨i, G, hG, hg⟩ | ⟨i, G, hi, hG, hg⟩
      · have hG' : W'.Fs[i + 1]? = some G := by
          have : W'.Fs.tail[i]? = W'.Fs[i + 1]? := by simp
          rw [← this]; exact hG
        exact C'.dj 0 (i + 1) F0 G b (by omega) hF0 hG' hb hg
      · rcases old b (f0 b hb) with y | y | y
        · exact C1.there b ⟨i, G, hG, hg⟩ (by rw [y]; exact hx)
        · obtain ⟨i', hi', F', hF', ha'⟩ := args_fp y
          exact C1.dj i i' G F' b (fun e => hi (by rw [e]; exact hi')) hG hF' hg ha'
        · exact C1.there b ⟨i, G, hG, hg⟩ y
    · rcases old b (f0 b hb) with y | y | y
      · exact .inr (none_back s1 (by rw [y]; exact hx))
      · obtain ⟨i', hi', F', hF', ha'⟩ := args_fp y
        exact s1.fs b ⟨i', F', hF', ha'⟩
      · exact .inr (none_back s1 y)
/-- a new owned thing may be made stable at once -/
def xFz (dx : DTX) : DTX := fun sd k => dx sd fun s sd1 => match s with
  | .own p o => (∃ d, froz o d ∧ k (.d d) sd1) ∨ k (.own p o) sd1
  | s => k s sd1
theorem lx_fz {te : TE} {dx : DTX} (a : LX K te dx) : LX K te (xFz dx) := ⟨fun h W σ C Q q => a.up h W σ C Q fun v s F sd1 W1 s1 C1 n1 f1 h1 => by
  cases s with
  | own p o =>
    rcases h1 with h1 | h1
    · exact asDat_up (k := fun d => _) C s1 C1 n1 f1 h1 fun d W2 s2 C2 n2 h2 => q v (.d d) [] sd1 W2 s2 C2 ⟨rfl, _, rfl, n2⟩ NewR.nil h2
    · exact q v _ F sd1 W1 s1 C1 n1 f1 h1
  | no => exact q v _ F sd1 W1 s1 C1 n1 f1 h1
  | d x => exact q v _ F sd1 W1 s1 C1 n1 f1 h1⟩
theorem lx_make0 {Cc : Addr} {Φ : List Sl → (Sl → List Sl → Prop) → Prop} {ta : TA} {da : DTA} {E : XK} [a : LA K ta da] : LX K (tMake Cc (spD K Φ) [] E ta) (dMake Cc Φ da) := ⟨fun h W σ C Q q => make_up h C q⟩
instance lx_make {Cc : Addr} {Φ : List Sl → (Sl → List Sl → Prop) → Prop} {ta : TA} {da : DTA} {E : XK} [a : LA K ta da] : LX K (tMake Cc (spD K Φ) [] E ta) (xFz (dMake Cc Φ da)) := lx_fz lx_make0
instance le_make {Cc : Addr} {Φ : List Sl → (Sl → List Sl → Prop) → Prop} {ta : TA} {da : DTA} {E : XK} [a : LA K ta da] : LE K (tMake Cc (spD K Φ) [] E ta) (xE (dMake Cc Φ da)) := @le_of_lx _ _ _ _ lx_make0
instance ls_retMake {sp : Sp} {Cc : Addr} {dvs : List V} {E0 : XK} {ta : TA} {dx : DTX} [a : LX K (tMake Cc sp dvs E0 ta) dx] : LS K (tRet (tMake Cc sp dvs E0 ta)) (dRetX dx) := ⟨fun h W σ C Dn k => a.up h W σ C _ fun v s F sd1 W1 s1 C1 n1 f1 h1 => k.rt v s F σ sd1 W1 s1 C1 n1 f1 h1⟩
end
end Dl
set_option Elab.async false
set_option linter.all false
set_option maxRecDepth 100000
namespace Dl
open PySem PySem.Spec L2 PyProof.Rows
/-- an exception: its class, its fields -/
structure Xc where
  C : Addr
  fs : List (Str × D)
def XDen (K : PySem.W.Frag) (S : Hp) (cls : Value) (d : Option Addr) (x : Xc) : Prop := cls = .ref x.C ∧ ((x.fs = [] ∧ d = none) ∨ ∃ dd vs, x.fs ≠ [] ∧ d = some dd ∧ S dd = some (.xd vs) ∧ KvOk K S vs x.fs)
theorem XDen.mono {K : PySem.W.Frag} {S S' : Hp} {cls : Value} {d : Option Addr} {x : Xc} (e : Same S S') (h : XDen K S cls d x) : XDen K S' cls d x := by
  obtain ⟨h1, h2 | ⟨dd, vs, a, b, c, n⟩⟩ := h
  · exact ⟨h1, .inl h2⟩
  · exact ⟨h1, .inr ⟨dd, vs, a, b, e _ _ c, n.mono e⟩⟩
abbrev PhX := List Sl → (Sl → List Sl → Prop) → (Xc → List Sl → Prop) → Prop
/-- the promise of a def that may raise -/
def spX (K : PySem.W.Frag) (Φ : PhX) : Sp := fun vs H Q E => ∃ (W : Wd) (args : List Sl) (k : Sl → List Sl → Prop) (kx : Xc → List Sl → Prop), W.H = H ∧ Cnf0 K W (vs.map some) args ∧ Φ args k kx ∧
  (∀ v s F outs W', Stp W W' → Cnf0 K W' (vs.map some) outs → SlOk K W'.H W'.S (some v) F s → NewR W W' F → k s outs → Q v W'.H) ∧
  ∀ cls d x outs W', Stp W W' → Cnf0 K W' (vs.map some) outs → XDen K W'.S cls d x → kx x outs → E cls d W'.H
section
variable [Amb] (K : PySem.W.Frag)
/-- what is wished of an exception, over data -/
class XO (Wx : WX) (ex : outParam (Xc → List Sl → Prop)) : Prop where
  up : ∀ (W : Wd) (σ : L2.St) (sd : List Sl) (cls : Value) (d : Option Addr) (x : Xc), Cnf K W σ sd → XDen K W.S cls d x → ex x sd → Wx cls d σ W.H
end
def dCallX (ex : Xc → List Sl → Prop) (Φ : PhX) (da : DTA) : DTX := fun sd k => da sd fun as sd1 => okIx sd1 as ∧ Φ (as.map (arSl sd1)) (fun s outs => k s (putB sd1 as outs)) fun x outs => ex x (putB sd1 as outs)
section
variable [Amb] {K : PySem.W.Frag}
theorem callX_up {Φ : PhX} {ta : TA} {da : DTA} {Wx : WX} {ex : Xc → List Sl → Prop} [a : LA K ta da] [o : XO K Wx ex] {sd : List Sl} {k : Sl → List Sl → Prop} (h : dCallX ex Φ da sd k) {W : Wd} {σ : L2.St} (C : Cnf K W σ sd) {Q : VK}
    (q : ∀ v s F sd' W', Stp W W' → Cnf K W' σ sd' → SlOk K W'.H W'.S (some v) F s → NewF W W' F → k s sd' → Q v W'.H) : tCallS (spX K Φ) (WE Wx) ta σ W.H Q :=
  a.up h W σ C _ fun vs as sd1 W1 s1 C1 n1 ⟨ok, h1⟩ => by
    refine ⟨W1.args as, _, _, _, rfl, C1.args n1 ok, h1, fun v s F outs W' s' C' hs hr hk => ?_, fun cls d x outs W' s' C' hx hk => ?_⟩
    · obtain ⟨C2, s2⟩ := C1.back n1 ok s' C'
      have away : ∀ b, (W1.back W' as).fp b → W'.fp b ∨ (W1.fp b ∧ ¬ (W1.args as).fp b) := fun b hb => by
        have lv : vs.length = outs.length := by have := C'.l1; simpa using this
        have lF : as.length = W'.Fs.length := by rw [C'.l2, ← lv]; exact n1.1.symm
        rcases back_fp ok.1 lF (fun i hi => by rw [C1.l2]; exact ok.2 i hi) hb with z | ⟨i, G, hi, hG, hg⟩
        · exact .inl z
        · refine .inr ⟨⟨i, G, hG, hg⟩, fun z => ?_⟩
          obtain ⟨i', hi', F', hF', ha'⟩ := args_fp z
          exact C1.dj i i' G F' b (fun e => hi (by rw [e]; exact hi')) hG hF' hg ha'
      have nr : NewR W (W1.back W' as) F := by
        refine ⟨fun b hb z => ?_, hr.there, hr.un, fun b hb => ?_⟩
        · rcases away b z with z | ⟨z1, z2⟩
          · exact hr.out b hb z
          · rcases hr.new b hb with y | y
            · exact z2 y
            · exact C1.there b z1 y
        · rcases hr.new b hb with y | y
          · obtain ⟨i', hi', F', hF', ha'⟩ := args_fp y
            exact s1.fs b ⟨i', F', hF', ha'⟩
          · exact .inr (none_back s1 y)
      exact q v s F _ (W1.back W' as) (s1.trans s2) C2 hs nr hk
    · obtain ⟨C2, s2⟩ := C1.back n1 ok s' C'
      exact o.up (W1.back W' as) σ _ cls d x C2 hx hk
instance lx_callX {Φ : PhX} {ta : TA} {da : DTA} {Wx : WX} {ex : Xc → List Sl → Prop} [a : LA K ta da] [o : XO K Wx ex] : LX K (tCallS (spX K Φ) (WE Wx) ta) (dCallX ex Φ da) := ⟨fun h W σ C Q q => callX_up h C q⟩
instance le_callX {Φ : PhX} {ta : TA} {da : DTA} {Wx : WX} {ex : Xc → List Sl → Prop} [a : LA K ta da] [o : XO K Wx ex] : LE K (tCallS (spX K Φ) (WE Wx) ta) (xE (dCallX ex Φ da)) := le_of_lx
instance ls_retCallX {sp : Sp} {E0 : L2.St → XK} {ta : TA} {dx : DTX} [a : LX K (tCallS sp E0 ta) dx] : LS K (tRet (tCallS sp E0 ta)) (dRetX dx) := ⟨fun h W σ C Dn k => a.up h W σ C _ fun v s F sd1 W1 s1 C1 n1 f1 h1 => k.rt v s F σ sd1 W1 s1 C1 n1 f1 h1⟩
/-- raise C() -/
def tRs (Wx : WX) (C : Addr) : TS := fun _ σ H => Wx (.ref C) none σ H
def dRs (ex : Xc → List Sl → Prop) (C : Addr) : DTS := fun _ sd => ex ⟨C, []⟩ sd
instance ls_rs {Wx : WX} {C : Addr} {ex : Xc → List Sl → Prop} [o : XO K Wx ex] : LS K (tRs Wx C) (dRs ex C) := ⟨fun h W σ Cn Dn k => o.up W σ _ (.ref C) none ⟨C, []⟩ Cn ⟨rfl, .inl ⟨rfl, rfl⟩⟩ h⟩
end
/-- X(), X an own exception class without own __init__ -/
theorem pmk_own0 {X : Cx} {C : Addr} {B newId initId : String} {bmB : List Value} {x : Str} {p pos : Pos} (F : ExcBaseFacts B newId initId bmB) (q : PySem.W.excIn X.K C bmB newId = true) (gC : X.mg x = some (.ref C)) (kC : PySem.W.keepIn X.K (.ref C) = true) (r : Raises X (.ref C)) (hg : Gl X x)
    (hdb : (x == ("__debug__" : Str)) = false := by decide) : PMk X (.Call (.Name x p) [] [] pos) (fun _ H Q => Q (.ref C) none H) := fun pins s σ H Q I h => by
  refine wpAny_Call_Name_kw (ld_glob I hg gC (PySem.W.callWith_K0 I.kIn kC ?_) hdb)
  obtain ⟨bm, N, nm, qn, bs, hdct, sn, sub, ab, col, dd, k0, k1, k2, k3, k5, mN, hC, hN, hni, T⟩ := exc_obj I.kIn q
  obtain ⟨hp, g, dr, tk, os⟩ := s
  exact wpAny_call_exc_subT F T hC hN hni (fun h' e hm => mk_of I hm r h (I.hok.gone hm.new)) (Nat.zero_le _)
/-- the facts of an own exception class -/
structure ExF (K : PySem.W.Frag) (mg : Str → Option Value) (x : Str) : Prop where
  q : PySem.W.excIn K (He.ga K x) He.veBase "ValueError.__new__" = true
  k : PySem.W.keepIn K (.ref (He.ga K x)) = true
  s : PySem.W.subIn K (.ref (He.ga K x)) (.type "BaseException") = some true
  t : PySem.W.typeIn K (.ref (He.ga K x)) = some (.type "type")
  g : mg x = some (.ref (He.ga K x))
theorem ps_rs0 {X : Cx} {Wx : WX} {x : Str} {p p2 pos : Pos} (F : ExF X.K X.mg x) (tk : Takes X Wx) (hg : Gl X x) (hc : X.calm = true) (hdb : (x == ("__debug__" : Str)) = false := by decide) : PS X (.Raise (some (.Call (.Name x p) [] [] p2)) none pos) (tRs Wx (He.ga X.K x)) :=
  ps_raise hc tk (pmk_own0 PySem.F.excBase_ValueError F.q F.g F.k (raises_own F.s F.t) hg hdb)
/-! ### a def that may raise -/
def exF (args : List Sl) (kx : Xc → List Sl → Prop) : Xc → List Sl → Prop := fun x sd => keepP args sd ∧ kx x (outsOf args sd)
section
variable {K : PySem.W.Frag} {P : Program} {w : World} {mg : Str → Option Value} {base : Heap}
theorem okX {x qual : Str} {params : Arguments} {body : List Stmt} {scope : Scope} {f : Addr} {fd : FuncData} {N ps : List Str} {k : Nat} {Φ : PhX} (F : FunD K x qual params body scope [] [] f fd) (S : FnScope N ps scope) (len : ∀ args k kx, Φ args k kx → args.length = ps.length)
    (hbody : ∀ (am : Amb) (cdv : Value) (A : Around) (outer : List Env) (s : Shared) (H : Hp) (E : XK) (ex : Xc → List Sl → Prop) (xo : XO K (fun cls d _ H => E cls d H) ex), Room k (A.deeper (PyProof.Rows.envOfC qual scope s.heap.objs.size f cdv)) →
      ∃ t dt, PSs (cxOf (L2.CX P w) P w K mg base N qual scope f cdv A outer s H E) body t ∧ LS K t dt ∧ ∀ args q qx, Φ args q qx → ex = exF args qx → dt (endF args q) (args ++ List.replicate (N.length - ps.length) .no)) : FnOk P w K mg base (L2.CX P w) (k + 1) f fd ps (spX K Φ) := by
  refine F.ok S (fun vs H Q E h => ?_) (fun cdv A outer s H vs Q E hr h => ?_)
  · obtain ⟨W, args, q, qx, _, C, hp, _⟩ := h
    rw [← len args q qx hp, ← C.l1, List.length_map]
  · obtain ⟨W, args, q, qx, rfl, C, hp, hq, hx⟩ := h
    letI am : Amb := ⟨W.grow (N.length - vs.length)⟩
    have xo : XO K (fun cls d _ H => E cls d H) (exF args qx) := ⟨fun W' σ' sd' cls d xc C' xd ⟨kp, hk⟩ => by
      obtain ⟨W3, ⟨e3, e4⟩, s3, C3, n3, f3⟩ := fn_end (v := .non) (s := .d .non) (F := []) C C'.past C'.toCnf0 ⟨rfl, _, rfl, .non⟩ NewR.nil kp
      have z := hx cls d xc _ W3 s3 C3 (by rw [e4]; exact xd) hk
      rw [e3] at z
      exact z⟩
    obtain ⟨t, dt, h1, l, h2⟩ := hbody am cdv A outer s W.H E _ xo hr
    refine ⟨t, h1, ?_⟩
    have e : N.length - ps.length = N.length - vs.length := by rw [← len args q qx hp, ← C.l1, List.length_map]
    have h3 := h2 args q qx hp rfl
    rw [e] at h3
    refine l.up h3 (W.grow (N.length - vs.length)) (start N vs) ⟨C.grow _, Stp.refl _⟩ _ ⟨fun σ' sd' W' s' C' ⟨kp, hk⟩ => ?_, fun v r F σ' sd' W' s' C' hs nr ⟨kp, hk⟩ => ?_, fun _ _ _ _ _ z => z.elim, fun _ _ _ _ _ z => z.elim⟩
    · obtain ⟨W3, ⟨e3, e4⟩, s3, C3, n3, f3⟩ := fn_end (v := .non) (s := .d .non) (F := []) C s' C'.toCnf0 ⟨rfl, _, rfl, .non⟩ NewR.nil kp
      have z := hq .non (.d .non) [] _ W3 s3 C3 n3 f3 hk
      rw [e3] at z
      exact z
    · obtain ⟨W3, ⟨e3, e4⟩, s3, C3, n3, f3⟩ := fn_end C s' C'.toCnf0 hs nr kp
      have z := hq v r F _ W3 s3 C3 n3 f3 hk
      rw [e3] at z
      exact z
end
/-! ### try .. except X as e -/
/-- the exception that a suite holds -/
def nilP : Pred := ⟨fun _ _ _ _ F => F = [], fun h _ _ => h⟩
def tTryAs (K : PySem.W.Frag) (c : Value) (i : Nat) (Cx : Addr) (tb : WX → TS) (tsu : Addr → TS) (Wout : WX) : TS := fun Dn σ H => tb (wAs K c i (fun a cls d Dn σ H => (cls = .ref Cx ∧ d = none) ∧ tsu a Dn σ H) Wout Dn) Dn σ H
theorem pss_under {X : Cx} {b : List Stmt} {t : TS} {c : Prop} (h : c → PSs X b t) : PSs X b (fun D σ H => c ∧ t D σ H) := ⟨fun pins s σ H D I ⟨hc, ht⟩ => (h hc).run pins s σ H D I ht⟩
theorem ps_tryAs {X : Cx} {x n : Str} {c : Value} {i : Nat} {body suite : List Stmt} {b₀ : Stmt} {np pos pos' : Pos} {tb : WX → TS} {tsu : Addr → TS} {Wout : WX} {C : Addr} (hs : X.stack = X.env :: X.outer) (hf : X.env.frame = some X.env.locals) (hN : X.N.Nodup) (hi : X.N[i]? = some n) (hln : X.env.kindOf n = some .local) (hc : Names X x c) (tk : Takes X Wout)
    (hb : ∀ (W : WX) (pn : List (Addr × Obj)) (xe : Value → Shared → Prop), Takes (X.tr pn xe) W → PassesOwn (model X.prog X.w) X.A X.env xe → PSs (X.tr pn xe) body (tb W))
    (hsu : ∀ (a : Addr) (oe : Obj) (pn : List (Addr × Obj)), Zc (.ref C) none oe → (∃ vs, oe.data = .fields vs) → PSs (X.suite a ((a, oe) :: pn)) (b₀ :: suite) (tsu a)) :
    PS X (.Try body [.ExceptHandler (some (.Name x np)) (some n) (b₀ :: suite) pos'] [] [] pos) (tTryAs X.K c i C tb tsu Wout) :=
  ps_try_as hs hf hN hi hln hc tk hb fun a oe cls d pn hz hv => pss_under fun ⟨e1, e2⟩ => by
    subst e1
    subst e2
    exact hsu a oe pn hz hv
def dTryAs (K : PySem.W.Frag) (c : Value) (i : Nat) (Cc : Addr) (dtb : (Xc → List Sl → Prop) → DTS) (dsu : Addr → DTS) (exO : Xc → List Sl → Prop) : DTS := fun E sd =>
  dtb (fun x sd' => ∃ b, PySem.W.exmOne K (.ref x.C) c = some b ∧ (b = true → (x.C = Cc ∧ x.fs = []) ∧ ∀ a, dsu a { nx := fun s => E.nx (s.set i .no), rt := E.rt, bk := fun s => E.bk (s.set i .no), ct := fun s => E.ct (s.set i .no) } (sd'.set i (.own a (.ab nilP)))) ∧ (b = false → exO x sd')) E sd
section
variable {K : PySem.W.Frag}
theorem reamb {am0 am1 : Amb} {K : PySem.W.Frag} {W' : Wd} {σ' : L2.St} {sd' : List Sl} (h : Stp am0.z am1.z) (C' : @Cnf am1 K W' σ' sd') : @Cnf am0 K W' σ' sd' := @Cnf.mk am0 K W' σ' sd' (@Cnf.toCnf0 am1 K W' σ' sd' C') (h.trans (@Cnf.past am1 K W' σ' sd' C'))
instance ls_tryAs [am0 : Amb] {c : Value} {i : Nat} {Cc : Addr} {tb : WX → TS} {tsu : Addr → TS} {Wout : WX} {dtb : (Xc → List Sl → Prop) → DTS} {dsu : Addr → DTS} {exO : Xc → List Sl → Prop} [o : XO K Wout exO] [b : ∀ (am : Amb) (W : WX) (ex : Xc → List Sl → Prop) [XO K W ex], LS K (tb W) (dtb ex)] [s : ∀ a, LS K (tsu a) (dsu a)] :
    LS K (tTryAs K c i Cc tb tsu Wout) (dTryAs K c i Cc dtb dsu exO) := ⟨fun {E sd} h W σ C Dn k => by
  have up : ∀ {W' : Wd} {σ' : L2.St} {sd' : List Sl}, @Cnf ⟨W⟩ K W' σ' sd' → @Cnf am0 K W' σ' sd' := fun C' => reamb (am1 := ⟨W⟩) C.past C'
  have xo : @XO ⟨W⟩ K (wAs K c i (fun a cls d Dn σ H => (cls = .ref Cc ∧ d = none) ∧ tsu a Dn σ H) Wout Dn) (fun x sd' => ∃ b, PySem.W.exmOne K (.ref x.C) c = some b ∧ (b = true → (x.C = Cc ∧ x.fs = []) ∧ ∀ a, dsu a { nx := fun s => E.nx (s.set i .no), rt := E.rt, bk := fun s => E.bk (s.set i .no), ct := fun s => E.ct (s.set i .no) } (sd'.set i (.own a (.ab nilP)))) ∧ (b = false → exO x sd')) := by
    refine @XO.mk ⟨W⟩ _ _ _ fun W' σ' sd' cls d x C' xd ⟨bb, e, h1, h2⟩ => ?_
    have ec := xd.1
    subst ec
    refine ⟨bb, e, fun hb a ha => ?_, fun hb => o.up W' σ' sd' _ d x (up C') xd (h2 hb)⟩
    obtain ⟨⟨e1, e2⟩, hs⟩ := h1 hb
    refine ⟨⟨by rw [e1], ?_⟩, ?_⟩
    · rcases xd.2 with ⟨_, z⟩ | ⟨_, _, z, _⟩
      · exact z
      · exact absurd e2 z
    · have st : Stp W (W'.fs i []) := Stp.trans (@Cnf.past ⟨W⟩ K W' σ' sd' C') Stp.fsNil
      refine (s a).up (hs a) (W'.fs i []) _ ((up C').setN (s := .own a (.ab nilP)) ⟨rfl, rfl⟩) _ ⟨fun σ2 sd2 W2 s2 C2 hn => ?_, fun v r F σ2 sd2 W2 s2 C2 hv nr hn => ?_, fun σ2 sd2 W2 s2 C2 hn => ?_, fun σ2 sd2 W2 s2 C2 hn => ?_⟩
      · exact k.nx (σ2.set i none) (sd2.set i .no) (W2.fs i []) ((st.trans s2).trans Stp.fsNil) (C2.setN rfl) hn
      · exact k.rt v r F σ2 sd2 W2 (st.trans s2) C2 hv (nr.back st) hn
      · exact k.bk (σ2.set i none) (sd2.set i .no) (W2.fs i []) ((st.trans s2).trans Stp.fsNil) (C2.setN rfl) hn
      · exact k.ct (σ2.set i none) (sd2.set i .no) (W2.fs i []) ((st.trans s2).trans Stp.fsNil) (C2.setN rfl) hn
  exact @LS.up ⟨W⟩ K _ _ (@b ⟨W⟩ _ _ xo) _ _ h W σ (@Cnf.mk ⟨W⟩ K W σ sd C.toCnf0 (Stp.refl W)) Dn (@SK.mk ⟨W⟩ K E W Dn (fun σ2 sd2 W2 s2 C2 hn => k.nx σ2 sd2 W2 s2 (up C2) hn) (fun v r F σ2 sd2 W2 s2 C2 hv nr hn => k.rt v r F σ2 sd2 W2 s2 (up C2) hv nr hn) (fun σ2 sd2 W2 s2 C2 hn => k.bk σ2 sd2 W2 s2 (up C2) hn) (fun σ2 sd2 W2 s2 C2 hn => k.ct σ2 sd2 W2 s2 (up C2) hn))⟩
variable [Amb]
/-- isinstance(e, M), e the exception that the suite holds -/
def dIsE (K : PySem.W.Frag) (i : Nat) (Cc a : Addr) (M : Value) : DTE := fun sd k => sd[i]? = some (.own a (.ab nilP)) ∧ ∃ b, PySem.W.kitOne K (.ref Cc) M = some b ∧ k (.bl b) sd
instance (priority := high) le_isE {i : Nat} {Cc a m : Addr} : LE K (tCB (rIsE K Cc a) (tCons (tVar i) (tCons (tC (.ref m)) tNil))) (dIsE K i Cc a (.ref m)) := ⟨fun {sd k} ⟨e, b, hb, hk⟩ W σ C Q q => by
  obtain ⟨v, F, h1, h2, ev, _⟩ := C.at e
  cases ev
  exact ⟨.ref a, h1, .ref m, .ref m, b, rfl, fun u r => r, hb, q _ _ sd W (Stp.refl W) C (.bl b) hk⟩⟩
end
end Dl
set_option Elab.async false
set_option linter.all false
set_option maxRecDepth 100000
namespace Sq
open PySem PySem.Spec L2
/-! ### zip of two sequences -/
def ItZ2 (K : PySem.W.Frag) (t1 t2 : Bool) (a b : Addr) : It where
  go := fun i H => ∃ (xs ys : List V) (x y : V), (SqX K t1 H a xs ∧ xs[i]? = some x) ∧ SqX K t2 H b ys ∧ ys[i]? = some y
  yld := fun i H v H' => ∃ T x y, v = .ref T ∧ H T = none ∧ H' = upd H T (.tup [x, y]) ∧ (∀ xs, SqX K t1 H a xs → xs[i]? = some x) ∧ ∀ ys, SqX K t2 H b ys → ys[i]? = some y
  stop := fun i H => ∃ xs ys : List V, SqX K t1 H a xs ∧ SqX K t2 H b ys ∧ min xs.length ys.length = i
theorem walk_z2 {K : PySem.W.Frag} {a b : Addr} {xs ys : List V} {t1 t2 : Bool} : Walk (ItZ2 K t1 t2 a b) (min xs.length ys.length) (fun H => SqX K t1 H a xs ∧ SqX K t2 H b ys) (YPair (fun i => xs[i]?) (fun i => ys[i]?)) where
  goes := fun i H hi h => ⟨xs, ys, xs[i]'(by omega), ys[i]'(by omega), ⟨h.1, List.getElem?_eq_getElem (by omega)⟩, h.2, List.getElem?_eq_getElem (by omega)⟩
  stops := fun H h => ⟨xs, ys, h.1, h.2, rfl⟩
  yields := fun i H x H' _ h ⟨T, y, z, e1, e2, e3, e4, e5⟩ => ⟨T, y, z, e1, e2, e3, e4 xs h.1, e5 ys h.2⟩
structure Z2 (t1 t2 : Bool) (a b z TI TO i1 i2 : Addr) (i : Nat) (h : Heap) : Prop where
  hz : IsZip h z TI TO .none
  hi : IsTupOf2 h TI (.ref i1) (.ref i2)
  ho : ∃ c d, IsTupOf2 h TO c d
  h1 : ItrAt t1 h i1 a i
  h2 : ItrAt t2 h i2 b i
  sp : ZipSep2 z TI TO i1 i2 [i1, a] [i2, b]
  n1 : a ≠ i1
  n2 : b ≠ i2
theorem z2_mem {x z TI TO i1 i2 : Addr} (h : x ∈ [z, TI, TO, i1, i2]) : x = z ∨ x = TI ∨ x = TO ∨ x = i1 ∨ x = i2 := by simpa using h
theorem turn_z2 {P : Program} {w : World} {K : PySem.W.Frag} {elts : List Expr} {kk : Nat} {tpos : Pos} (t1 t2 : Bool) (a b z TI TO i1 i2 : Addr) :
    Turn P w K (.Tuple elts kk tpos) (ItZ2 K t1 t2 a b) [z, TI, TO, i1, i2] z (Z2 t1 t2 a b z TI TO i1 i2) where
  mem := List.mem_cons_self
  obj := by
    rintro i h ⟨hz, hi, ⟨c, d, ho⟩, h1, h2, _, _, _⟩ x hx
    rcases z2_mem hx with rfl | rfl | rfl | rfl | rfl
    · exact ⟨_, hz, fun v q => nomatch q⟩
    · exact ⟨_, hi, fun v q => nomatch q⟩
    · exact ⟨_, ho, fun v q => nomatch q⟩
    · exact itr_obj t1 h1
    · exact itr_obj t2 h2
  keep := by
    rintro i h h' ⟨hz, hi, ⟨c, d, ho⟩, h1, h2, sp, n1, n2⟩ k
    exact ⟨k z (by simp) _ hz, k TI (by simp) _ hi, ⟨c, d, k TO (by simp) _ ho⟩, itr_at t1 h1 fun o q => k i1 (by simp) o q, itr_at t2 h2 fun o q => k i2 (by simp) o q, sp, n1, n2⟩
  item := by
    rintro X rfl rfl rfl hc i pins s σ H E I hf ⟨hz, hi, ho, h1, h2, sp, n1, n2⟩ ⟨xs, ys, x, y, ⟨hq, hx⟩, hq2, hy⟩
    obtain ⟨its, rv, p, hl⟩ := seq_at I t1 hq
    obtain ⟨its2, rv2, p2, hl2⟩ := seq_at I t2 hq2
    obtain ⟨u, hu, ru⟩ := rv.get hx
    obtain ⟨u2, hu2, ru2⟩ := rv2.get hy
    have hn : i < min its.toArray.size its2.toArray.size := by
      have := (List.getElem?_eq_some_iff.mp hu).1
      have := (List.getElem?_eq_some_iff.mp hu2).1
      simp only [List.size_toArray]
      omega
    have hh : X.A.in1.handled = none := I.ok.hd hc
    have gs := GoesN.zip2 (prog := X.prog) (w := X.w) (A := X.A) (elts := elts) (x1 := kk) (pos := tpos) sp (draws_seq (prog := X.prog) (w := X.w) hh i1 a n1 its.toArray t1) (draws_seq (prog := X.prog) (w := X.w) hh i2 b n2 its2.toArray t2)
    refine thn (gs.goes i s (fun v s2 => ∃ y' H', Inv X pins σ H' s2 ∧ RelV y' v ∧ (ItZ2 X.K t1 t2 a b).yld i H y' H' ∧ Z2 t1 t2 a b z TI TO i1 i2 (i + 1) s2.heap ∧ ∀ c ∈ [z, TI, TO, i1, i2], H' c = none) E hn ⟨hz, hi, ho, ⟨h1, p⟩, h2, p2⟩ ?_) fun r s1 hr => hr
    rintro v h' tk ⟨T, z1, z2, rfl, hT, e1, e2, hTup⟩ ⟨hz', hi', ho', ⟨h1', _⟩, h2', _⟩ hk _
    have k1 : z1 = u := by
      have q : its.toArray[i]? = some z1 := e1
      rw [show its.toArray[i]? = its[i]? by simp, hu] at q
      exact (Option.some.inj q).symm
    have k2 : z2 = u2 := by
      have q : its2.toArray[i]? = some z2 := e2
      rw [show its2.toArray[i]? = its2[i]? by simp, hu2] at q
      exact (Option.some.inj q).symm
    subst k1
    subst k2
    have new : ObjOk X.prog X.w (upd H T (.tup [x, y])) h' T (.tup [x, y]) := ⟨by show 2 ≤ sizeLine; decide, [z1, z2], .cons ru (.cons ru2 .nil), hTup⟩
    refine ⟨.ref T, _, I.turnedNew (t' := tk) (ch := [z, TI, TO, i1, i2]) (fun c o hc e => hk c o (fun m => hc (by simp at m ⊢; rcases m with m | m | m | m <;> simp [m])) e) hf hT new, rfl, ⟨T, x, y, rfl, I.hok.fresh hT, rfl, fun zs hz => by rw [seq_inj I t1 hz hq]; exact hx, fun zs hz => by rw [seq_inj I t2 hz hq2]; exact hy⟩, ⟨hz', hi', ho', h1', h2', sp, n1, n2⟩, fun c hc => ?_⟩
    have bl : c < s.heap.objs.size := by
      rcases z2_mem hc with rfl | rfl | rfl | rfl | rfl
      · exact Heap.lt_size hz
      · exact Heap.lt_size hi
      · obtain ⟨_, _, ho⟩ := ho
        exact Heap.lt_size ho
      · obtain ⟨o, ho, _⟩ := itr_obj t1 h1
        exact Heap.lt_size ho
      · obtain ⟨o, ho, _⟩ := itr_obj t2 h2
        exact Heap.lt_size ho
    rw [upd_ne (Nat.ne_of_lt (Nat.lt_of_lt_of_le bl hT))]
    exact (hf c hc).1
  done := by
    rintro X rfl rfl rfl hc i pins s σ H E I hf ⟨hz, hi, ho, h1, h2, sp, n1, n2⟩ ⟨xs, ys, hq, hq2, hx⟩
    obtain ⟨its, rv, p, hl⟩ := seq_at I t1 hq
    obtain ⟨its2, rv2, p2, hl2⟩ := seq_at I t2 hq2
    have hn : min its.toArray.size its2.toArray.size = i := by rw [List.size_toArray, List.size_toArray, ← rv.length, ← rv2.length]; exact hx
    have hh : X.A.in1.handled = none := I.ok.hd hc
    have gs := GoesN.zip2 (prog := X.prog) (w := X.w) (A := X.A) (elts := elts) (x1 := kk) (pos := tpos) sp (draws_seq (prog := X.prog) (w := X.w) hh i1 a n1 its.toArray t1) (draws_seq (prog := X.prog) (w := X.w) hh i2 b n2 its2.toArray t2)
    refine gs.stops s (fun s1 => Inv X pins σ H s1) E ?_ fun h' tk hk _ => I.turnedL (t' := tk) (ch := [z, TI, TO, i1, i2]) (fun c o hc e => hk c o (fun m => hc (by simp at m ⊢; rcases m with m | m | m | m <;> simp [m])) e) hf
    rw [hn]
    exact ⟨hz, hi, ho, ⟨h1, p⟩, h2, p2⟩
  self := by
    rintro A i s Q E ⟨hz, _⟩ h
    exact wpAny_pyIter_zip hz h
def iZ2 (K : PySem.W.Frag) (ta : TA) : TI := fun σ H R => ta σ H fun vs H1 => ∃ a b t1 t2 xs ys, vs = [.ref a, .ref b] ∧ SqX K t1 H1 a xs ∧ SqX K t2 H1 b ys ∧ R (ItZ2 K t1 t2 a b) H1
theorem pi_zip2 {X : Cx} {e e2 : Expr} {ta : TA} {p pos tpos : Pos} {elts : List Expr} {kk : Nat} (hg : Gl X "zip") (hm : X.mg "zip" = none) (ha : PA X [e, e2] ta) (hs : starEach [e, e2] X.env = (false, eval e X.env) :: starEach [e2] X.env := by rfl) (hpl : (backTo pos (starEach [e2] X.env)).any (·.1) = false := by rfl) :
    PI X (.Tuple elts kk tpos) (.Call (.Name "zip" p) [e, e2] [] pos) (iZ2 X.K ta) := by
  constructor
  intro pins s σ H R I h
  refine PyProof.Rows.Call_ (ld_blt I hg hm PyProof.Rows.boot_zip (PyProof.Rows.callWith_type1 (thn (ha.run pos pins s σ H _ I h) ?_) hs hpl))
  rintro us s1 ⟨vs, H1, I1, r1, a, b, t1, t2, xs, ys, rfl, hq, hq2, q⟩
  obtain ⟨u1, u2, rfl, ru, ru2⟩ := vals2 r1
  cases ru
  cases ru2
  obtain ⟨its, rv, p', hl⟩ := seq_at I1 t1 hq
  obtain ⟨its2, rv2, p2, hl2⟩ := seq_at I1 t2 hq2
  refine zip_begins2 (begins_seq t1 a its.toArray) (begins_seq t2 b its2.toArray) p' p2 fun h' hz hi ho g1 g2 _ hk => wpAny_pyIter_zip hz ?_
  refine ⟨s1.heap.objs.size + 4, [s1.heap.objs.size + 4, s1.heap.objs.size + 2, s1.heap.objs.size + 3, s1.heap.objs.size, s1.heap.objs.size + 1], _, _, H1, rfl, I1.kept (t' := s1.toks) hk, turn_z2 t1 t2 a b (s1.heap.objs.size + 4) (s1.heap.objs.size + 2) (s1.heap.objs.size + 3) s1.heap.objs.size (s1.heap.objs.size + 1),
    ⟨hz, hi, ⟨_, _, ho⟩, itr0 t1 g1, itr0 t2 g2, zip_sep2 (by simpa using hl) (by simpa using hl2), Nat.ne_of_lt hl, Nat.ne_of_lt (Nat.lt_succ_of_lt hl2)⟩, fun c hc => ?_, q⟩
  refine fp_new I1 ?_
  rcases z2_mem hc with rfl | rfl | rfl | rfl | rfl <;> first | exact Nat.le_refl _ | exact Nat.le_add_right _ _
/-! ### zip of three sequences -/
def YTrip (xs ys zs : Nat → Option V) : Nat → Hp → V → Hp → Prop := fun i H v H' => ∃ T x y u, v = .ref T ∧ H T = none ∧ H' = upd H T (.tup [x, y, u]) ∧ xs i = some x ∧ ys i = some y ∧ zs i = some u
def ItZ3 (K : PySem.W.Frag) (t1 t2 t3 : Bool) (a b c : Addr) : It where
  go := fun i H => ∃ (xs ys zs : List V) (x y u : V), (SqX K t1 H a xs ∧ xs[i]? = some x) ∧ (SqX K t2 H b ys ∧ ys[i]? = some y) ∧ SqX K t3 H c zs ∧ zs[i]? = some u
  yld := fun i H v H' => ∃ T x y u, v = .ref T ∧ H T = none ∧ H' = upd H T (.tup [x, y, u]) ∧ (∀ xs, SqX K t1 H a xs → xs[i]? = some x) ∧ (∀ ys, SqX K t2 H b ys → ys[i]? = some y) ∧ ∀ zs, SqX K t3 H c zs → zs[i]? = some u
  stop := fun i H => ∃ xs ys zs : List V, SqX K t1 H a xs ∧ SqX K t2 H b ys ∧ SqX K t3 H c zs ∧ min (min xs.length ys.length) zs.length = i
theorem walk_z3 {K : PySem.W.Frag} {a b c : Addr} {xs ys zs : List V} {t1 t2 t3 : Bool} : Walk (ItZ3 K t1 t2 t3 a b c) (min (min xs.length ys.length) zs.length) (fun H => SqX K t1 H a xs ∧ SqX K t2 H b ys ∧ SqX K t3 H c zs) (YTrip (fun i => xs[i]?) (fun i => ys[i]?) (fun i => zs[i]?)) where
  goes := fun i H hi h => ⟨xs, ys, zs, xs[i]'(by omega), ys[i]'(by omega), zs[i]'(by omega), ⟨h.1, List.getElem?_eq_getElem (by omega)⟩, ⟨h.2.1, List.getElem?_eq_getElem (by omega)⟩, h.2.2, List.getElem?_eq_getElem (by omega)⟩
  stops := fun H h => ⟨xs, ys, zs, h.1, h.2.1, h.2.2, rfl⟩
  yields := fun i H x H' _ h ⟨T, y, z, u, e1, e2, e3, e4, e5, e6⟩ => ⟨T, y, z, u, e1, e2, e3, e4 xs h.1, e5 ys h.2.1, e6 zs h.2.2⟩
structure Z3 (t1 t2 t3 : Bool) (a b c z TI TO i1 i2 i3 : Addr) (i : Nat) (h : Heap) : Prop where
  hz : IsZip h z TI TO .none
  hi : IsTupOf3 h TI (.ref i1) (.ref i2) (.ref i3)
  ho : ∃ x y u, IsTupOf3 h TO x y u
  h1 : ItrAt t1 h i1 a i
  h2 : ItrAt t2 h i2 b i
  h3 : ItrAt t3 h i3 c i
  sp : ZipSep3 z TI TO i1 i2 i3 [i1, a] [i2, b] [i3, c]
  n1 : a ≠ i1
  n2 : b ≠ i2
  n3 : c ≠ i3
theorem z3_mem {x z TI TO i1 i2 i3 : Addr} (h : x ∈ [z, TI, TO, i1, i2, i3]) : x = z ∨ x = TI ∨ x = TO ∨ x = i1 ∨ x = i2 ∨ x = i3 := by simpa using h
theorem turn_z3 {P : Program} {w : World} {K : PySem.W.Frag} {elts : List Expr} {kk : Nat} {tpos : Pos} (t1 t2 t3 : Bool) (a b c z TI TO i1 i2 i3 : Addr) :
    Turn P w K (.Tuple elts kk tpos) (ItZ3 K t1 t2 t3 a b c) [z, TI, TO, i1, i2, i3] z (Z3 t1 t2 t3 a b c z TI TO i1 i2 i3) where
  mem := List.mem_cons_self
  obj := by
    rintro i h ⟨hz, hi, ⟨_, _, _, ho⟩, h1, h2, h3, _, _, _, _⟩ x hx
    rcases z3_mem hx with rfl | rfl | rfl | rfl | rfl | rfl
    · exact ⟨_, hz, fun v q => nomatch q⟩
    · exact ⟨_, hi, fun v q => nomatch q⟩
    · exact ⟨_, ho, fun v q => nomatch q⟩
    · exact itr_obj t1 h1
    · exact itr_obj t2 h2
    · exact itr_obj t3 h3
  keep := by
    rintro i h h' ⟨hz, hi, ⟨x, y, u, ho⟩, h1, h2, h3, sp, n1, n2, n3⟩ k
    exact ⟨k z (by simp) _ hz, k TI (by simp) _ hi, ⟨x, y, u, k TO (by simp) _ ho⟩, itr_at t1 h1 fun o q => k i1 (by simp) o q, itr_at t2 h2 fun o q => k i2 (by simp) o q, itr_at t3 h3 fun o q => k i3 (by simp) o q, sp, n1, n2, n3⟩
  item := by
    rintro X rfl rfl rfl hc i pins s σ H E I hf ⟨hz, hi, ho, h1, h2, h3, sp, n1, n2, n3⟩ ⟨xs, ys, zs, x, y, u0, ⟨hq, hx⟩, ⟨hq2, hy⟩, hq3, hu0⟩
    obtain ⟨its, rv, p, hl⟩ := seq_at I t1 hq
    obtain ⟨its2, rv2, p2, hl2⟩ := seq_at I t2 hq2
    obtain ⟨its3, rv3, p3, hl3⟩ := seq_at I t3 hq3
    obtain ⟨u, hu, ru⟩ := rv.get hx
    obtain ⟨u2, hu2, ru2⟩ := rv2.get hy
    obtain ⟨u3, hu3, ru3⟩ := rv3.get hu0
    have hn : i < min (min its.toArray.size its2.toArray.size) its3.toArray.size := by
      have := (List.getElem?_eq_some_iff.mp hu).1
      have := (List.getElem?_eq_some_iff.mp hu2).1
      have := (List.getElem?_eq_some_iff.mp hu3).1
      simp only [List.size_toArray]
      omega
    have hh : X.A.in1.handled = none := I.ok.hd hc
    have gs := GoesN.zip3 (prog := X.prog) (w := X.w) (A := X.A) (elts := elts) (x1 := kk) (pos := tpos) sp (draws_seq (prog := X.prog) (w := X.w) hh i1 a n1 its.toArray t1) (draws_seq (prog := X.prog) (w := X.w) hh i2 b n2 its2.toArray t2) (draws_seq (prog := X.prog) (w := X.w) hh i3 c n3 its3.toArray t3)
    refine thn (gs.goes i s (fun v s2 => ∃ y' H', Inv X pins σ H' s2 ∧ RelV y' v ∧ (ItZ3 X.K t1 t2 t3 a b c).yld i H y' H' ∧ Z3 t1 t2 t3 a b c z TI TO i1 i2 i3 (i + 1) s2.heap ∧ ∀ d ∈ [z, TI, TO, i1, i2, i3], H' d = none) E hn ⟨hz, hi, ho, ⟨h1, p⟩, ⟨h2, p2⟩, h3, p3⟩ ?_) fun r s1 hr => hr
    rintro v h' tk ⟨T, z1, z2, z3, rfl, hT, e1, e2, e3, hTup⟩ ⟨hz', hi', ho', ⟨h1', _⟩, ⟨h2', _⟩, h3', _⟩ hk _
    have k1 : z1 = u := by
      have q : its.toArray[i]? = some z1 := e1
      rw [show its.toArray[i]? = its[i]? by simp, hu] at q
      exact (Option.some.inj q).symm
    have k2 : z2 = u2 := by
      have q : its2.toArray[i]? = some z2 := e2
      rw [show its2.toArray[i]? = its2[i]? by simp, hu2] at q
      exact (Option.some.inj q).symm
    have k3 : z3 = u3 := by
      have q : its3.toArray[i]? = some z3 := e3
      rw [show its3.toArray[i]? = its3[i]? by simp, hu3] at q
      exact (Option.some.inj q).symm
    subst k1
    subst k2
    subst k3
    have new : ObjOk X.prog X.w (upd H T (.tup [x, y, u0])) h' T (.tup [x, y, u0]) := ⟨by show 3 ≤ sizeLine; decide, [z1, z2, z3], .cons ru (.cons ru2 (.cons ru3 .nil)), hTup⟩
    refine ⟨.ref T, _, I.turnedNew (t' := tk) (ch := [z, TI, TO, i1, i2, i3]) (fun d o hc e => hk d o (fun m => hc (by simp at m ⊢; rcases m with m | m | m | m | m <;> simp [m])) e) hf hT new, rfl, ⟨T, x, y, u0, rfl, I.hok.fresh hT, rfl, fun l hz => by rw [seq_inj I t1 hz hq]; exact hx, fun l hz => by rw [seq_inj I t2 hz hq2]; exact hy, fun l hz => by rw [seq_inj I t3 hz hq3]; exact hu0⟩, ⟨hz', hi', ho', h1', h2', h3', sp, n1, n2, n3⟩, fun d hc => ?_⟩
    have bl : d < s.heap.objs.size := by
      rcases z3_mem hc with rfl | rfl | rfl | rfl | rfl | rfl
      · exact Heap.lt_size hz
      · exact Heap.lt_size hi
      · obtain ⟨_, _, _, ho⟩ := ho
        exact Heap.lt_size ho
      · obtain ⟨o, ho, _⟩ := itr_obj t1 h1
        exact Heap.lt_size ho
      · obtain ⟨o, ho, _⟩ := itr_obj t2 h2
        exact Heap.lt_size ho
      · obtain ⟨o, ho, _⟩ := itr_obj t3 h3
        exact Heap.lt_size ho
    rw [upd_ne (Nat.ne_of_lt (Nat.lt_of_lt_of_le bl hT))]
    exact (hf d hc).1
  done := by
    rintro X rfl rfl rfl hc i pins s σ H E I hf ⟨hz, hi, ho, h1, h2, h3, sp, n1, n2, n3⟩ ⟨xs, ys, zs, hq, hq2, hq3, hx⟩
    obtain ⟨its, rv, p, hl⟩ := seq_at I t1 hq
    obtain ⟨its2, rv2, p2, hl2⟩ := seq_at I t2 hq2
    obtain ⟨its3, rv3, p3, hl3⟩ := seq_at I t3 hq3
    have hn : min (min its.toArray.size its2.toArray.size) its3.toArray.size = i := by rw [List.size_toArray, List.size_toArray, List.size_toArray, ← rv.length, ← rv2.length, ← rv3.length]; exact hx
    have hh : X.A.in1.handled = none := I.ok.hd hc
    have gs := GoesN.zip3 (prog := X.prog) (w := X.w) (A := X.A) (elts := elts) (x1 := kk) (pos := tpos) sp (draws_seq (prog := X.prog) (w := X.w) hh i1 a n1 its.toArray t1) (draws_seq (prog := X.prog) (w := X.w) hh i2 b n2 its2.toArray t2) (draws_seq (prog := X.prog) (w := X.w) hh i3 c n3 its3.toArray t3)
    refine gs.stops s (fun s1 => Inv X pins σ H s1) E ?_ fun h' tk hk _ => I.turnedL (t' := tk) (ch := [z, TI, TO, i1, i2, i3]) (fun d o hc e => hk d o (fun m => hc (by simp at m ⊢; rcases m with m | m | m | m | m <;> simp [m])) e) hf
    rw [hn]
    exact ⟨hz, hi, ho, ⟨h1, p⟩, ⟨h2, p2⟩, h3, p3⟩
  self := by
    rintro A i s Q E ⟨hz, _⟩ h
    exact wpAny_pyIter_zip hz h
def iZ3 (K : PySem.W.Frag) (ta : TA) : TI := fun σ H R => ta σ H fun vs H1 => ∃ a b c t1 t2 t3 xs ys zs, vs = [.ref a, .ref b, .ref c] ∧ SqX K t1 H1 a xs ∧ SqX K t2 H1 b ys ∧ SqX K t3 H1 c zs ∧ R (ItZ3 K t1 t2 t3 a b c) H1
theorem vals3' {x y z : V} {us : List Value} (h : Vals [x, y, z] us) : ∃ a b c, us = [a, b, c] ∧ RelV x a ∧ RelV y b ∧ RelV z c := by
  cases h with
  | cons r h =>
    cases h with
    | cons r2 h =>
      cases h with
      | cons r3 h =>
        cases h
        exact ⟨_, _, _, rfl, r, r2, r3⟩
theorem pi_zip3 {X : Cx} {e e2 e3 : Expr} {ta : TA} {p pos tpos : Pos} {elts : List Expr} {kk : Nat} (hg : Gl X "zip") (hm : X.mg "zip" = none) (ha : PA X [e, e2, e3] ta) (hs : starEach [e, e2, e3] X.env = (false, eval e X.env) :: starEach [e2, e3] X.env := by rfl) (hpl : (backTo pos (starEach [e2, e3] X.env)).any (·.1) = false := by rfl) :
    PI X (.Tuple elts kk tpos) (.Call (.Name "zip" p) [e, e2, e3] [] pos) (iZ3 X.K ta) := by
  constructor
  intro pins s σ H R I h
  refine PyProof.Rows.Call_ (ld_blt I hg hm PyProof.Rows.boot_zip (PyProof.Rows.callWith_type1 (thn (ha.run pos pins s σ H _ I h) ?_) hs hpl))
  rintro us s1 ⟨vs, H1, I1, r1, a, b, c, t1, t2, t3, xs, ys, zs, rfl, hq, hq2, hq3, q⟩
  obtain ⟨u1, u2, u3, rfl, ru, ru2, ru3⟩ := vals3' r1
  cases ru
  cases ru2
  cases ru3
  obtain ⟨its, rv, p', hl⟩ := seq_at I1 t1 hq
  obtain ⟨its2, rv2, p2, hl2⟩ := seq_at I1 t2 hq2
  obtain ⟨its3, rv3, p3, hl3⟩ := seq_at I1 t3 hq3
  refine zip_begins3 (begins_seq t1 a its.toArray) (begins_seq t2 b its2.toArray) (begins_seq t3 c its3.toArray) p' p2 p3 fun h' hz hi ho g1 g2 g3 _ hk => wpAny_pyIter_zip hz ?_
  refine ⟨s1.heap.objs.size + 5, [s1.heap.objs.size + 5, s1.heap.objs.size + 3, s1.heap.objs.size + 4, s1.heap.objs.size, s1.heap.objs.size + 1, s1.heap.objs.size + 2], _, _, H1, rfl, I1.kept (t' := s1.toks) hk, turn_z3 t1 t2 t3 a b c (s1.heap.objs.size + 5) (s1.heap.objs.size + 3) (s1.heap.objs.size + 4) s1.heap.objs.size (s1.heap.objs.size + 1) (s1.heap.objs.size + 2),
    ⟨hz, hi, ⟨_, _, _, ho⟩, itr0 t1 g1, itr0 t2 g2, itr0 t3 g3, zip_sep3 (by simpa using hl) (by simpa using hl2) (by simpa using hl3), Nat.ne_of_lt hl, Nat.ne_of_lt (Nat.lt_succ_of_lt hl2), Nat.ne_of_lt (Nat.lt_succ_of_lt (Nat.lt_succ_of_lt hl3))⟩, fun d hc => ?_, q⟩
  refine fp_new I1 ?_
  rcases z3_mem hc with rfl | rfl | rfl | rfl | rfl | rfl <;> first | exact Nat.le_refl _ | exact Nat.le_add_right _ _
end Sq
set_option Elab.async false
set_option linter.all false
set_option maxRecDepth 100000
namespace Dl
open PySem PySem.Spec L2
def zip3D : List D → List D → List D → List D
  | x :: xs, y :: ys, z :: zs => .tup [x, y, z] :: zip3D xs ys zs
  | _, _, _ => []
theorem zip3D_len : ∀ (xs ys zs : List D), (zip3D xs ys zs).length = min (min xs.length ys.length) zs.length
  | [], ys, zs => by simp [zip3D]
  | x :: xs, [], zs => by simp [zip3D]
  | x :: xs, y :: ys, [] => by simp [zip3D]
  | x :: xs, y :: ys, z :: zs => by
    rw [zip3D, List.length_cons, List.length_cons, List.length_cons, List.length_cons, zip3D_len]
    omega
theorem zip3D_get : ∀ {xs ys zs : List D} {i : Nat} {x y z : D}, xs[i]? = some x → ys[i]? = some y → zs[i]? = some z → (zip3D xs ys zs)[i]? = some (.tup [x, y, z])
  | [], _, _, _, _, _, _, h, _, _ => by simp at h
  | _ :: _, [], _, _, _, _, _, _, h, _ => by simp at h
  | _ :: _, _ :: _, [], _, _, _, _, _, _, h => by simp at h
  | a :: xs, b :: ys, c :: zs, 0, x, y, z, h1, h2, h3 => by simp at h1 h2 h3; subst h1; subst h2; subst h3; rfl
  | a :: xs, b :: ys, c :: zs, i + 1, x, y, z, h1, h2, h3 => by rw [zip3D, List.getElem?_cons_succ]; exact zip3D_get (by simpa using h1) (by simpa using h2) (by simpa using h3)
section
variable [Amb] {K : PySem.W.Frag}
theorem dwalk_trip {J : It} {n : Nat} {W : Wd} {G : Hp → Prop} {us ws rs : Nat → Option V} {xs : List D} (w : Walk J n G (Sq.YTrip us ws rs)) (hn : n = xs.length) (hG : ∀ W' : Wd, Same W.S W'.S → Same W'.S W'.H → G W'.H)
    (hx : ∀ i x y z, i < n → us i = some x → ws i = some y → rs i = some z → ∃ d e f, xs[i]? = some (.tup [d, e, f]) ∧ Den K W.S x d ∧ Den K W.S y e ∧ Den K W.S z f) : DWalk K J xs W := by
  subst hn
  refine ⟨G, Sq.YTrip us ws rs, w, hG, fun i W' σ sd x H' hi e C y => ?_⟩
  obtain ⟨T, x1, y1, z1, rfl, hT, rfl, h1, h2, h3⟩ := y
  obtain ⟨d, e', f, hd, n1, n2, n3⟩ := hx i x1 y1 z1 hi h1 h2 h3
  exact ⟨W'.lay T (.tup [x1, y1, z1]), rfl, Stp.lay C.toCnf0 hT, rfl, C.lay hT, _, hd, new_tup C hT (.cons (n1.mono e) (.cons (n2.mono e) (.cons (n3.mono e) .nil)))⟩
def iZ2D (dl : DTL) : DTI := fun sd k => dl sd fun xs sd1 => ∃ x y, xs = [x, y] ∧ itemsD x fun ys => itemsD y fun zs => k (zipD ys zs) sd1
instance li_z2 {ta : TA} {dl : DTL} [a : LL K ta dl] : LI K (Sq.iZ2 K ta) (iZ2D dl) := ⟨fun h W σ C R q => a.up h W σ C _ fun vs xs sd1 W1 s1 C1 n1 ⟨x, y, e, hx⟩ => by
  subst e
  obtain ⟨v, u, rfl, hv, hu⟩ := dens2 n1
  obtain ⟨ys, ex, hy⟩ := itemsD_inv hx
  obtain ⟨zs, ey, hk⟩ := itemsD_inv hy
  obtain ⟨p, t, ws, rfl, hp, n⟩ := seq_inv hv ex
  obtain ⟨p2, t2, ws2, rfl, hp2, n2⟩ := seq_inv hu ey
  refine ⟨p, p2, t, t2, ws, ws2, rfl, hp _ C1.sub, hp2 _ C1.sub, q _ _ sd1 W1 s1 C1 (dwalk_pair Sq.walk_z2 (by rw [zipD_len, n.1, n2.1]) (fun W' e1 e2 => ⟨hp _ (e1.trans e2), hp2 _ (e1.trans e2)⟩) fun i x y hi h1 h2 => ?_) hk⟩
  obtain ⟨d, hd, nd⟩ := n.getV h1
  obtain ⟨d', hd', nd'⟩ := n2.getV h2
  exact ⟨d, d', zipD_get hd hd', nd, nd'⟩⟩
def iZ3D (dl : DTL) : DTI := fun sd k => dl sd fun xs sd1 => ∃ x y z, xs = [x, y, z] ∧ itemsD x fun as => itemsD y fun bs => itemsD z fun cs => k (zip3D as bs cs) sd1
theorem dens3 {S : Hp} {vs : List V} {x y z : D} (h : Dens K S vs [x, y, z]) : ∃ v u w, vs = [v, u, w] ∧ Den K S v x ∧ Den K S u y ∧ Den K S w z := by
  match vs, h with
  | [v, u, w], h => exact ⟨v, u, w, rfl, h.head, h.tail.head, h.tail.tail.head⟩
  | [], h => have := h.1; simp at this
  | [_], h => have := h.1; simp at this
  | [_, _], h => have := h.1; simp at this
  | _ :: _ :: _ :: _ :: _, h => have := h.1; simp at this
instance li_z3 {ta : TA} {dl : DTL} [a : LL K ta dl] : LI K (Sq.iZ3 K ta) (iZ3D dl) := ⟨fun h W σ C R q => a.up h W σ C _ fun vs xs sd1 W1 s1 C1 n1 ⟨x, y, z, e, hx⟩ => by
  subst e
  obtain ⟨v, u, w, rfl, hv, hu, hw⟩ := dens3 n1
  obtain ⟨as, ex, hy⟩ := itemsD_inv hx
  obtain ⟨bs, ey, hz⟩ := itemsD_inv hy
  obtain ⟨cs, ez, hk⟩ := itemsD_inv hz
  obtain ⟨p, t, ws, rfl, hp, n⟩ := seq_inv hv ex
  obtain ⟨p2, t2, ws2, rfl, hp2, n2⟩ := seq_inv hu ey
  obtain ⟨p3, t3, ws3, rfl, hp3, n3⟩ := seq_inv hw ez
  refine ⟨p, p2, p3, t, t2, t3, ws, ws2, ws3, rfl, hp _ C1.sub, hp2 _ C1.sub, hp3 _ C1.sub, q _ _ sd1 W1 s1 C1 (dwalk_trip Sq.walk_z3 (by rw [zip3D_len, n.1, n2.1, n3.1]) (fun W' e1 e2 => ⟨hp _ (e1.trans e2), hp2 _ (e1.trans e2), hp3 _ (e1.trans e2)⟩) fun i x y z hi h1 h2 h3 => ?_) hk⟩
  obtain ⟨d, hd, nd⟩ := n.getV h1
  obtain ⟨d', hd', nd'⟩ := n2.getV h2
  obtain ⟨d3, hd3, nd3⟩ := n3.getV h3
  exact ⟨d, d', d3, zip3D_get hd hd' hd3, nd, nd', nd3⟩⟩
end
end Dl
set_option Elab.async false
set_option linter.all false
set_option maxRecDepth 100000
namespace Dl
open PySem PySem.Spec PyProof.Rows L2
/-! ### try with several clauses, each with its name -/
abbrev TSu := Addr → Value → Option Addr → TS
/-- the ends of a suite whose name is slot i -/
def endsAs (i : Nat) (Dn : Ends) : Ends := { nx := fun τ G => Dn.nx (τ.set i none) G, rt := Dn.rt, bk := fun τ G => Dn.bk (τ.set i none) G, ct := fun τ G => Dn.ct (τ.set i none) G }
def wCl (K : PySem.W.Frag) (i : Nat) (Wo : WX) (Dn : Ends) : List (Value × TSu) → WX
  | [] => Wo
  | (c, ts) :: r => fun cls d τ G => ∃ b, PySem.W.exmOne K cls c = some b ∧ (b = true → ∀ a, G a = none → ts a cls d (endsAs i Dn) (τ.set i (some (.ref a))) G) ∧ (b = false → wCl K i Wo Dn r cls d τ G)
inductive Cls_ (X : Cx) (n : Str) : List ExceptHandler → List (Value × TSu) → Prop
  | nil : Cls_ X n [] []
  | cons {x : Str} {c : Value} {ts : TSu} {b0 : Stmt} {su : List Stmt} {np p2 : Pos} {hds : List ExceptHandler} {l : List (Value × TSu)} (hc : Names X x c)
      (hu : ∀ (a : Addr) (oe : Obj) (cls : Value) (d : Option Addr) (pn : List (Addr × Obj)), Zc cls d oe ∧ (∃ vs, oe.data = .fields vs) → PSs (X.suite a ((a, oe) :: pn)) (b0 :: su) (ts a cls d)) (r : Cls_ X n hds l) : Cls_ X n (.ExceptHandler (some (.Name x np)) (some n) (b0 :: su) p2 :: hds) ((c, ts) :: l)
theorem ps_tryCl {X : Cx} {n : Str} {i : Nat} {body : List Stmt} {hd : ExceptHandler} {hds : List ExceptHandler} {l : List (Value × TSu)} {pos : Pos} {tb : WX → TS} {Wo : WX} (hs : X.stack = X.env :: X.outer) (hf : X.env.frame = some X.env.locals) (hN : X.N.Nodup) (hi : X.N[i]? = some n) (hl : X.env.kindOf n = some .local) (tk : Takes X Wo)
    (hb : ∀ (Wb : WX) (pn : List (Addr × Obj)) (xe : Value → Shared → Prop), Takes (X.tr pn xe) Wb ∧ PassesOwn (model X.prog X.w) X.A X.env xe → PSs (X.tr pn xe) body (tb Wb)) (hh : Cls_ X n (hd :: hds) l) : PS X (.Try body (hd :: hds) [] [] pos) (fun Dn σ H => tb (wCl X.K i Wo Dn l) Dn σ H) := by
  refine ⟨fun pins s0 σ H Dn I0 h0 => ?_⟩
  have frm : X.A.frames = some (X.env :: X.outer) := by rw [I0.ok.frames, hs]
  refine wpAny_Try_except (wpAny_mono ((hb (wCl X.K i Wo Dn l) (X.pn ++ pins) _ ⟨fun u s1 xx => ?_, PassesOwn.looking⟩).run [] s0 σ H Dn (I0.toTry _) h0) (fun fl s1 hsp => ?_) (fun _ _ z => z))
  · obtain ⟨a, B, sI, pn2, τ, G, cls, d, rfl, J0, nb, up, sky, na, os, ag, w0⟩ := xx
    have J : Inv X pins τ G sI := J0.ofTry I0.ok
    have sky2 : Sky B (X.env :: X.outer) a (Zc cls d) X.env.locals s1.heap := by rw [← hs]; exact sky
    refine (show wpAny (model X.prog X.w) X.A (noteFrame (.ref a) X.env) _ _ _ from Sky.land Zc.steady frm hf sky2 fun g3 fl3 up3 => ?_)
    have J3 : Inv X pins τ G { s1 with heap := g3 } := J.landed nb fl3.1 (up.trans up3) os ag
    obtain ⟨o3, v3, e3, z3, d3⟩ := fl3.there
    have aout : a ∉ frs (X.env :: X.outer) := fun hm => by
      obtain ⟨_, o', e', hnf⟩ := fl3.2.2.1.mem hm
      exact hnf _ (by rw [e3] at e'; cases e'; exact d3)
    have aL : a ≠ X.env.locals := fun z => aout (List.mem_filterMap.mpr ⟨X.env, List.mem_cons_self, by rw [hf, z]⟩)
    have aF : a ∉ X.fs := fun hm => (List.mem_filterMap.mp hm).elim fun e ⟨he, q⟩ => aout (List.mem_filterMap.mpr ⟨e, List.mem_cons_of_mem _ he, q⟩)
    have S3 := J3.suite e3 d3 na aL aF
    have walk : ∀ {hds' : List ExceptHandler} {l' : List (Value × TSu)}, Cls_ X n hds' l' → wCl X.K i Wo Dn l' cls d τ G → wpAny (model X.prog X.w) X.A (handleBy (.ref a) X.env hds') (SP X pins Dn) X.xe { s1 with heap := g3 } := by
      intro hds' l' ck
      induction ck with
      | nil =>
        intro w1
        refine wpAny_handleBy_nil ?_
        obtain ⟨_, _, _, oe, vs, T, oT, ts', he, hz, hdd, h1, hr⟩ := id fl3
        unfold PySem.passOn
        refine wpAny_bind (wpAny_field he hdd h1 ?_)
        rw [if_neg (by simp)]
        have out : wpAny (model X.prog X.w) X.A (setFlight (.ref a) X.env.frame) (fun _ s4 => wpAny (model X.prog X.w) X.A (throw (.ref a) : Sem Flow) (SP X pins Dn) X.xe s4) X.xe { s1 with heap := g3 } := by
          rw [hf]
          exact HandSPX.setFlight_upZ fl3 fun g4 hh4 up4 => wpAny_throw (tk _ _ ⟨a, B, sI, pins, τ, G, cls, d, rfl, J, nb, (up.trans up3).trans up4, .inr (.inr (by rw [hs]; exact hh4)), na, os, ag, w1⟩)
        first | exact wpAny_bind (wpAny_pure (wpAny_bind out)) | exact wpAny_bind out
      | @cons x c ts b0 su np p2 hds2 l2 hc hu r ih =>
        rintro ⟨b, be, yes, no⟩
        refine wpAny_handleBy_cons (codeAny_handlers_test ?_) (fun q => by cases q)
        have ty : PySem.W.Looks (model X.prog X.w) g3 (typeOf (.ref a)) cls := fun A Q E s k q => wpAny_typeOf_ref (k _ _ e3) (by rw [z3.1]; exact q)
        have mt := PySem.W.exm_one (M := model X.prog X.w) (J3.kIn) ty be
        have nm : ∀ {Q : Value → Shared → Prop} {E : Value → Shared → Prop}, Q c { s1 with heap := g3 } → wpAny (model X.prog X.w) (X.A.mark (some (.ref a))) (eval (.Name x np) X.env) Q E { s1 with heap := g3 } := fun {Q E} q => by
          obtain ⟨hg, hdb, hm | ⟨hm, hv, hnn⟩⟩ := hc
          · exact ld_glob (X := X.suite a ((a, o3) :: (X.pn ++ pins))) S3 hg hm q hdb
          · exact ld_blt (X := X.suite a ((a, o3) :: (X.pn ++ pins))) S3 hg hm hv q hnn hdb
        refine nm (mt.here ?_)
        cases b with
        | false => exact (show wpAny _ X.A (handleBy (.ref a) X.env hds2) _ _ _ from ih (no rfl))
        | true =>
          refine codeAny_handlers_suite_as (HandSPX.lands_againZ fl3 fun g4 fl4 up4 => ?_)
          have J4 : Inv X pins τ G { s1 with heap := g4 } := J.landed nb fl4.1 ((up.trans up3).trans up4) os ag
          obtain ⟨o4, v4, e4, z4, d4⟩ := fl4.there
          refine store_ok (X := X.suite a ((a, o4) :: (X.pn ++ pins))) (v := .ref a) (J4.suite e4 d4 na aL aF) hN hi (.inl hl) rfl (fun s5 S5 => ?_) (.inr hl)
          refine wpAny_mono ((hu a o4 cls d (X.pn ++ pins) ⟨z4, _, d4⟩).run [] s5 _ G _ S5 (yes rfl a na)) (fun fl s6 hsp => ?_) (fun _ _ z => z.elim)
          have gone : ∀ {τ6 : L2.St} {G6 : Hp} {Q : Shared → Prop}, Inv (X.suite a ((a, o4) :: (X.pn ++ pins))) [] τ6 G6 s6 → (∀ s7, Inv X pins (τ6.set i none) G6 s7 → Q s7) → wpAny (model X.prog X.w) X.A (do bindName X.env n .none; unbindBehindTheSuite X.env n p2) (fun _ s7 => Q s7) X.xe s6 := fun {τ6 G6 Q} S6 hq => gone_ok (S6.unsuite I0.ok) hN hi hl hq
          cases fl with
          | ret u =>
            obtain ⟨v6, τ6, G6, S6, r6, q6⟩ := hsp
            exact gone S6 fun s7 J7 => ⟨_, _, _, J7, r6, q6⟩
          | _ =>
            obtain ⟨τ6, G6, S6, q6⟩ := hsp
            exact gone S6 fun s7 J7 => ⟨_, _, J7, q6⟩
    exact walk hh w0
  · cases fl with
    | next =>
      obtain ⟨τ, G, J', q⟩ := hsp
      exact wpAny_execs_nil ⟨τ, G, J'.ofTry I0.ok, q⟩
    | ret u =>
      obtain ⟨v, τ, G, J', r, q⟩ := hsp
      exact ⟨v, τ, G, J'.ofTry I0.ok, r, q⟩
    | _ =>
      obtain ⟨τ, G, J', q⟩ := hsp
      exact ⟨τ, G, J'.ofTry I0.ok, q⟩
/-- the clauses: what is named, the class that comes, the suite -/
abbrev ClT := List (Value × Addr × (Addr → TS))
def clOf (cl : ClT) : List (Value × TSu) := cl.map fun p => (p.1, fun a cls d Dn σ H => (cls = .ref p.2.1 ∧ d = none) ∧ p.2.2 a Dn σ H)
def tTryCl (K : PySem.W.Frag) (i : Nat) (tb : WX → TS) (cl : ClT) (Wo : WX) : TS := fun Dn σ H => tb (wCl K i Wo Dn (clOf cl)) Dn σ H
theorem cl_cons {X : Cx} {n x : Str} {c : Value} {C : Addr} {tsu : Addr → TS} {b0 : Stmt} {su : List Stmt} {np p2 : Pos} {hds : List ExceptHandler} {l : ClT} (hc : Names X x c) (hu : ∀ (a : Addr) (oe : Obj) (pn : List (Addr × Obj)), Zc (.ref C) none oe → (∃ vs, oe.data = .fields vs) → PSs (X.suite a ((a, oe) :: pn)) (b0 :: su) (tsu a)) (r : Cls_ X n hds (clOf l)) :
    Cls_ X n (.ExceptHandler (some (.Name x np)) (some n) (b0 :: su) p2 :: hds) (clOf ((c, C, tsu) :: l)) := by
  refine .cons hc (fun a oe cls d pn ⟨hz, hv⟩ => pss_under fun ⟨e1, e2⟩ => ?_) r
  subst e1
  subst e2
  exact hu a oe pn hz hv
theorem cl_nil {X : Cx} {n : Str} : Cls_ X n [] (clOf []) := .nil
theorem ps_tryD {X : Cx} {n : Str} {i : Nat} {body : List Stmt} {hd : ExceptHandler} {hds : List ExceptHandler} {l : ClT} {pos : Pos} {tb : WX → TS} {Wo : WX} (hs : X.stack = X.env :: X.outer) (hf : X.env.frame = some X.env.locals) (hN : X.N.Nodup) (hi : X.N[i]? = some n) (hl : X.env.kindOf n = some .local) (tk : Takes X Wo)
    (hb : ∀ (Wb : WX) (pn : List (Addr × Obj)) (xe : Value → Shared → Prop), Takes (X.tr pn xe) Wb ∧ PassesOwn (model X.prog X.w) X.A X.env xe → PSs (X.tr pn xe) body (tb Wb)) (hh : Cls_ X n (hd :: hds) (clOf l)) : PS X (.Try body (hd :: hds) [] [] pos) (tTryCl X.K i tb l Wo) := ps_tryCl hs hf hN hi hl tk hb hh
abbrev ClD := List (Value × Addr × (Addr → DTS))
def endsD (i : Nat) (E : DEnds) : DEnds := { nx := fun s => E.nx (s.set i .no), rt := E.rt, bk := fun s => E.bk (s.set i .no), ct := fun s => E.ct (s.set i .no) }
def dCl (K : PySem.W.Frag) (i : Nat) (exO : Xc → List Sl → Prop) (E : DEnds) : ClD → Xc → List Sl → Prop
  | [] => exO
  | (c, C, dsu) :: r => fun x sd => ∃ b, PySem.W.exmOne K (.ref x.C) c = some b ∧ (b = true → (x.C = C ∧ x.fs = []) ∧ ∀ a, dsu a (endsD i E) (sd.set i (.own a (.ab nilP)))) ∧ (b = false → dCl K i exO E r x sd)
def dTryCl (K : PySem.W.Frag) (i : Nat) (dtb : (Xc → List Sl → Prop) → DTS) (cl : ClD) (exO : Xc → List Sl → Prop) : DTS := fun E sd => dtb (dCl K i exO E cl) E sd
class LCl [Amb] (K : PySem.W.Frag) (cl : ClT) (dcl : outParam ClD) : Prop where
  len : cl.length = dcl.length
  at_ : ∀ (j : Nat) p q, cl[j]? = some p → dcl[j]? = some q → p.1 = q.1 ∧ p.2.1 = q.2.1 ∧ ∀ a, LS K (p.2.2 a) (q.2.2 a)
instance lcl_nil [Amb] {K : PySem.W.Frag} : LCl K [] [] := ⟨rfl, fun j p q h => by cases h⟩
instance lcl_cons [Amb] {K : PySem.W.Frag} {c : Value} {C : Addr} {tsu : Addr → TS} {dsu : Addr → DTS} {cl : ClT} {dcl : ClD} [s : ∀ a, LS K (tsu a) (dsu a)] [r : LCl K cl dcl] : LCl K ((c, C, tsu) :: cl) ((c, C, dsu) :: dcl) := ⟨congrArg Nat.succ r.len, fun j p q h1 h2 => by
  cases j with
  | zero => cases h1; cases h2; exact ⟨rfl, rfl, s⟩
  | succ j => exact r.at_ j p q (by simpa using h1) (by simpa using h2)⟩
theorem LCl.tail [Amb] {K : PySem.W.Frag} {p : Value × Addr × (Addr → TS)} {q : Value × Addr × (Addr → DTS)} {cl : ClT} {dcl : ClD} (h : LCl K (p :: cl) (q :: dcl)) : LCl K cl dcl := ⟨Nat.succ.inj h.len, fun j a b h1 h2 => h.at_ (j + 1) a b (by simpa using h1) (by simpa using h2)⟩
theorem cl_up [am0 : Amb] {K : PySem.W.Frag} {i : Nat} {Wo : WX} {exO : Xc → List Sl → Prop} [o : XO K Wo exO] {E : DEnds} {Dn : Ends} {W0 : Wd} (k : SK K E W0 Dn) {W' : Wd} {σ' : L2.St} {sd' : List Sl} {cls : Value} {d : Option Addr} {x : Xc} (st : Stp W0 W') (C' : Cnf K W' σ' sd') (xd : XDen K W'.S cls d x) : ∀ {cl : ClT} {dcl : ClD}, LCl K cl dcl → dCl K i exO E dcl x sd' → wCl K i Wo Dn (clOf cl) cls d σ' W'.H
  | [], [], _, h => o.up W' σ' sd' cls d x C' xd h
  | [], _ :: _, l, _ => by have := l.len; simp at this
  | _ :: _, [], l, _ => by have := l.len; simp at this
  | p :: cl, q :: dcl, l, h => by
    obtain ⟨e1, e2, ls⟩ := l.at_ 0 p q rfl rfl
    obtain ⟨pc, pC, pt⟩ := p
    obtain ⟨qc, qC, qt⟩ := q
    cases (show pc = qc from e1)
    cases (show pC = qC from e2)
    obtain ⟨b, e, h1, h2⟩ := h
    refine ⟨b, by rw [xd.1]; exact e, fun hb a ha => ?_, fun hb => cl_up k st C' xd l.tail (h2 hb)⟩
    obtain ⟨⟨e1, e2⟩, hs⟩ := h1 hb
    refine ⟨⟨by rw [xd.1, e1], ?_⟩, ?_⟩
    · rcases xd.2 with ⟨_, z⟩ | ⟨_, _, z, _⟩
      · exact z
      · exact absurd e2 z
    · have s1 : Stp W0 (W'.fs i []) := st.trans Stp.fsNil
      refine (ls a).up (hs a) (W'.fs i []) _ (C'.setN (s := .own a (.ab nilP)) ⟨rfl, rfl⟩) _ ⟨fun τ sd2 W2 s2 C2 hn => ?_, fun v r F τ sd2 W2 s2 C2 hv nr hn => ?_, fun τ sd2 W2 s2 C2 hn => ?_, fun τ sd2 W2 s2 C2 hn => ?_⟩
      · exact k.nx (τ.set i none) (sd2.set i .no) (W2.fs i []) ((s1.trans s2).trans Stp.fsNil) (C2.setN rfl) hn
      · exact k.rt v r F τ sd2 W2 (s1.trans s2) C2 hv (nr.back s1) hn
      · exact k.bk (τ.set i none) (sd2.set i .no) (W2.fs i []) ((s1.trans s2).trans Stp.fsNil) (C2.setN rfl) hn
      · exact k.ct (τ.set i none) (sd2.set i .no) (W2.fs i []) ((s1.trans s2).trans Stp.fsNil) (C2.setN rfl) hn
instance ls_tryCl [am0 : Amb] {K : PySem.W.Frag} {i : Nat} {tb : WX → TS} {cl : ClT} {Wo : WX} {dtb : (Xc → List Sl → Prop) → DTS} {dcl : ClD} {exO : Xc → List Sl → Prop} [o : XO K Wo exO] [b : ∀ (am : Amb) (W : WX) (ex : Xc → List Sl → Prop) [XO K W ex], LS K (tb W) (dtb ex)] [s : LCl K cl dcl] :
    LS K (tTryCl K i tb cl Wo) (dTryCl K i dtb dcl exO) := ⟨fun {E sd} h W σ C Dn k => by
  have up : ∀ {W' : Wd} {σ' : L2.St} {sd' : List Sl}, @Cnf ⟨W⟩ K W' σ' sd' → @Cnf am0 K W' σ' sd' := fun C' => reamb (am1 := ⟨W⟩) C.past C'
  have xo : @XO ⟨W⟩ K (wCl K i Wo Dn (clOf cl)) (dCl K i exO E dcl) := @XO.mk ⟨W⟩ _ _ _ fun W' σ' sd' cls d x C' xd hx => cl_up k (@Cnf.past ⟨W⟩ K W' σ' sd' C') (up C') xd s hx
  exact @LS.up ⟨W⟩ K _ _ (@b ⟨W⟩ _ _ xo) _ _ h W σ (@Cnf.mk ⟨W⟩ K W σ sd C.toCnf0 (Stp.refl W)) Dn (@SK.mk ⟨W⟩ K E W Dn (fun τ sd2 W2 s2 C2 hn => k.nx τ sd2 W2 s2 (up C2) hn) (fun v r F τ sd2 W2 s2 C2 hv nr hn => k.rt v r F τ sd2 W2 s2 (up C2) hv nr hn) (fun τ sd2 W2 s2 C2 hn => k.bk τ sd2 W2 s2 (up C2) hn) (fun τ sd2 W2 s2 C2 hn => k.ct τ sd2 W2 s2 (up C2) hn))⟩
end Dl
set_option Elab.async false
set_option linter.all false
set_option maxRecDepth 100000
namespace Dl
open PySem PySem.Spec PyProof.Rows L2
/-! ### the head's hook with more facts -/
abbrev frA (n : Nat) (g : Addr → Option Obj) : PySem.W.Frag := He.frG g (He.asD g n)
def hookF (n : Nat) (fa : List He.Fa) (fn : List He.DefD) (exs : PySem.W.Frag → List Bool) : PySem.W.Hook where
  α := He.AlD × Bool
  obs := fun s => (He.obsD fa fn (frA n s.heap.get?), (exs (frA n s.heap.get?)).all id)
  val := fun _ => (He.valD fn, true)
  says := fun _ h => ∃ K : PySem.W.Frag, K.In h ∧ He.SaysD fa fn K ∧ (exs K).all id = true
  of := fun _ _ e => ⟨_, He.frG_in, congrArg Prod.fst e, congrArg Prod.snd e⟩
  keeps := fun _ _ _ ⟨K, hK, c⟩ k => ⟨K, PySem.W.Frag.In.keeps hK k, c⟩
def obF (n : Nat) (fa : List He.Fa) (fn : List He.DefD) (exs : PySem.W.Frag → List Bool) (s : PySem.W.SharedT) : He.AlD × Bool := (He.obsD fa fn (frA n (HandSHeadRun.getT s)), (exs (frA n (HandSHeadRun.getT s))).all id)
theorem obF_eq {n : Nat} {fa : List He.Fa} {fn : List He.DefD} {exs : PySem.W.Frag → List Bool} (s : PySem.W.SharedT) : obF n fa fn exs s = (hookF n fa fn exs).obs s.abs := by
  have e : HandSHeadRun.getT s = s.abs.heap.get? := funext (HandSHeadRun.getT_eq s)
  show (He.obsD fa fn (frA n (HandSHeadRun.getT s)), (exs (frA n (HandSHeadRun.getT s))).all id) = _
  rw [e]
  rfl
theorem ex_at {l : List Bool} {i : Nat} {b : Bool} (h : l.all id = true) (e : l[i]? = some b) : b = true := List.all_eq_true.mp h b (List.mem_of_getElem? e)
/-- an exception class asked by isinstance -/
def exB (K : PySem.W.Frag) (x : Str) : Bool := decide (PySem.W.findIn K (.ref (He.ga K x)) "__getattribute__" = some (some (.builtin "BaseException.__getattribute__"))) && (decide (PySem.W.findIn K (.ref (He.ga K x)) "__getattr__" = some none) && (decide (PySem.W.subIn K (.ref (He.ga K x)) (.type "BaseException") = some true) &&
  (PySem.W.hasDictIn K (He.ga K x) && (decide (PySem.W.findIn K (.ref (He.ga K x)) "__class__" = some (some (.builtin "object.__class__"))) && (decide (PySem.W.specialIn K (.builtin "object.__class__") "__get__" = some (some (.builtin "getset_descriptor.__get__"))) && (decide (PySem.W.takesIn K (.builtin "object.__class__") = some true) && decide (PySem.W.mroIn K (He.ga K x) (.type "object") = some true)))))))
theorem exB_ok {K : PySem.W.Frag} {x : Str} (h : exB K x = true) : ExcC K (He.ga K x) := by
  unfold exB at h
  simp only [Bool.and_eq_true, decide_eq_true_eq] at h
  obtain ⟨a, b, c, d, e, f, g, i⟩ := h
  exact ⟨a, b, c, d, e, f, g, i⟩
def kitB1 (K : PySem.W.Frag) (x y : Str) (b : Bool) : Bool := decide (PySem.W.kitOne K (.ref (He.ga K x)) (.ref (He.ga K y)) = some b)
theorem kitB1_ok {K : PySem.W.Frag} {x y : Str} {b : Bool} (h : kitB1 K x y b = true) : PySem.W.kitOne K (.ref (He.ga K x)) (.ref (He.ga K y)) = some b := of_decide_eq_true h
theorem exF_ok {K : PySem.W.Frag} {mg : Str → Option Value} {x : Str} {h : Heap} (X : K.In h) (G : h.Ns mainGlobals mg) (c : (He.Fa.exc x).ok K = true) (g : (He.Fa.glo x).ok K = true) : ExF K mg x := by
  obtain ⟨a, b, c, d⟩ := He.exc_ok c
  exact ⟨a, b, c, d, He.glo_ok X G g⟩
/-! ### inside comprehensions the module's part is named -/
theorem pe_fldK {X : Cx} {K : PySem.W.Frag} {e : Expr} {f : Str} {pos : Pos} {ta : TE} (ek : X.K = K) (he : PE X e ta) (hb : attributeBase e f X.env (eval e X.env) = eval e X.env) : PE X (.Attribute e f pos) (tFld K ta f) := by subst ek; exact pe_fld he hb
theorem pg_tupK {X : Cx} {K : PySem.W.Frag} {es : List Expr} {k : Nat} {t : TGs} {n : Nat} {pos : Pos} (ek : X.K = K) (hc : X.calm = true) (h : PGs X es t) (hn : (assignEach es X.env).length = n := by rfl) (hst : (assignEach es X.env).findIdx? (·.1) = none := by rfl) : PG X (.Tuple es k pos) (gTup K n t) := by subst ek; exact pg_tup hc h hn hst
instance xo_false [Amb] {K : PySem.W.Frag} : XO K (fun _ _ _ _ => False) (fun _ _ => False) := ⟨fun _ _ _ _ _ _ _ _ z => z⟩
theorem ls_seqE [Amb] {K : PySem.W.Frag} {t u : TS} {dt du : DTS} (a : LS K t dt) (b : LS K u du) : LS K (tSeq t u) (dSeq dt du) := inferInstance
theorem ls_tryE [am0 : Amb] {K : PySem.W.Frag} {i : Nat} {tb : WX → TS} {cl : ClT} {Wo : WX} {dtb : (Xc → List Sl → Prop) → DTS} {dcl : ClD} {exO : Xc → List Sl → Prop} (o : XO K Wo exO) (b : ∀ (am : Amb) (W : WX) (ex : Xc → List Sl → Prop) (_ : XO K W ex), LS K (tb W) (dtb ex)) (s : LCl K cl dcl) :
    LS K (tTryCl K i tb cl Wo) (dTryCl K i dtb dcl exO) := ls_tryCl (b := fun am W ex xo => b am W ex xo)
/-! ### a, b = (e1, e2) where a name is a cell -/
instance (priority := high) ls_parT2 [Amb] {K : PySem.W.Frag} {i j : Nat} {ta : TA} {dx : DTXs} [a : LXs K ta dx] : LS K (tAsg (tTup ta) (gTup K 2 (gCons (gName i) (gCons (gName j) gNil)))) (dPar2 i j dx) := ⟨fun h W σ C Dn k =>
  a.up h W σ C _ fun vs ss Fs sd1 W1 s1 C1 n1 ⟨s, t, e, h1⟩ => by
    subst e
    have l1 := n1.l1
    have l2 := n1.l2
    match vs, Fs, l1, l2, n1 with
    | [v, u], [F, G], _, _, n1 =>
      refine ⟨by show 2 ≤ sizeLine; decide, fun p hp => ?_⟩
      have sp : Stp W1 (W1.put p (.tup [v, u])) := Stp.put hp
      obtain ⟨a1, a2⟩ := n1.ok 0 v s F rfl rfl rfl
      obtain ⟨b1, b2⟩ := n1.ok 1 u t G rfl rfl rfl
      have b1' := slOk_later b2 b1 sp
      obtain ⟨C2, s2⟩ := set_new C (i := i) (s1.trans sp) (C1.put hp) (slOk_later a2 a1 sp) (a2.later sp)
      obtain ⟨C3, s3⟩ := set_new C (i := j) s2 C2 b1' ((b2.later sp).fs fun x hx => n1.dj 0 1 F G x (by decide) rfl rfl hx)
      exact ⟨p, [v, u], rfl, .inl (.inl upd_same), rfl, v, [u], rfl, u, [], rfl, rfl, k.nx _ _ (((W1.put p (.tup [v, u])).fs i F).fs j G) s3 C3 h1⟩⟩
instance (priority := high) ls_parT3 [Amb] {K : PySem.W.Frag} {i j l : Nat} {ta : TA} {dx : DTXs} [a : LXs K ta dx] : LS K (tAsg (tTup ta) (gTup K 3 (gCons (gName i) (gCons (gName j) (gCons (gName l) gNil))))) (dPar3 i j l dx) := ⟨fun h W σ C Dn k =>
  a.up h W σ C _ fun vs ss Fs sd1 W1 s1 C1 n1 ⟨s, t, r, e, h1⟩ => by
    subst e
    have l1 := n1.l1
    have l2 := n1.l2
    match vs, Fs, l1, l2, n1 with
    | [v, u, w], [F, G, I], _, _, n1 =>
      refine ⟨by show 3 ≤ sizeLine; decide, fun p hp => ?_⟩
      have sp : Stp W1 (W1.put p (.tup [v, u, w])) := Stp.put hp
      obtain ⟨a1, a2⟩ := n1.ok 0 v s F rfl rfl rfl
      obtain ⟨b1, b2⟩ := n1.ok 1 u t G rfl rfl rfl
      obtain ⟨c1, c2⟩ := n1.ok 2 w r I rfl rfl rfl
      have b1' := slOk_later b2 b1 sp
      obtain ⟨C2, s2⟩ := set_new C (i := i) (s1.trans sp) (C1.put hp) (slOk_later a2 a1 sp) (a2.later sp)
      obtain ⟨C3, s3⟩ := set_new C (i := j) s2 C2 b1' ((b2.later sp).fs fun x hx => n1.dj 0 1 F G x (by decide) rfl rfl hx)
      have c1' := slOk_later c2 c1 sp
      obtain ⟨C4, s4⟩ := set_new C (i := l) s3 C3 c1' (((c2.later sp).fs fun x hx => n1.dj 0 2 F I x (by decide) rfl rfl hx).fs fun x hx => n1.dj 1 2 G I x (by decide) rfl rfl hx)
      exact ⟨p, [v, u, w], rfl, .inl (.inl upd_same), rfl, v, [u, w], rfl, u, [w], rfl, w, [], rfl, rfl, k.nx _ _ ((((W1.put p (.tup [v, u, w])).fs i F).fs j G).fs l I) s4 C4 h1⟩⟩
instance le_dnewK [Amb] {K : PySem.W.Frag} : LE K tDNewK (xE (xDNew false)) := le_of_lx
end Dl
set_option Elab.async false
set_option linter.all false
namespace M13
open PySem L2 Dl
/-- a cell: a value, or a clash -/
def oD : Option Int → D
  | none => .non
  | some i => .int i
theorem oD_inj {a b : Option Int} (h : oD a = oD b) : a = b := by
  cases a <;> cases b <;> simp [oD] at h <;> simp [h]
theorem oD_scal (a b : Option Int) : scal2 (oD a) (oD b) = true := by cases a <;> cases b <;> rfl
theorem oD_eq (a b : Option Int) : eqD (oD a) (oD b) = decide (a = b) := by
  cases a <;> cases b <;> simp [oD, eqD, py, PyData.eqv]
  rename_i x y
  rw [Bool.eq_iff_iff]
  simp
theorem oD_ty (a : Option Int) : tyD (oD a) ≠ none := by cases a <;> simp [oD, tyD]
structure Seen where
  b : Int
  m : Int
  y : Int
  c : Option Int
  deriving DecidableEq
abbrev Tri := Int × Int × Int
def Seen.t (s : Seen) : Tri := (s.b, s.m, s.y)
def Seen.d (s : Seen) : D := .tup [.int s.b, .int s.m, .int s.y, oD s.c]
def Seen.ok (n : Int) (s : Seen) : Prop := 0 ≤ s.b ∧ s.b < n ∧ 0 ≤ s.m ∧ s.m < n ∧ 0 ≤ s.y ∧ s.y < n ∧ ∀ i, s.c = some i → 0 ≤ i ∧ i < n
abbrev Tab := List (Tri × Option Int)
def look (L : Tab) (t : Tri) : Option (Option Int) := (L.find? fun e => decide (e.1 = t)).map (·.2)
def put (L : Tab) (t : Tri) (c : Option Int) : Tab := if L.any (fun e => decide (e.1 = t)) then L.map (fun e => if e.1 = t then (e.1, c) else e) else L ++ [(t, c)]
/-- a table by keys of another kind -/
def enc {κ : Type} (f : Tri → κ) (L : Tab) : List (κ × D) := L.map fun e => (f e.1, oD e.2)
section
variable {κ : Type} [DecidableEq κ] {f : Tri → κ} {A : Tri → Prop}
theorem enc_look (inj : ∀ s t, A s → A t → f s = f t → s = t) {t : Tri} (ht : A t) : ∀ {L : Tab}, (∀ e ∈ L, A e.1) → lookK (enc f L) (f t) = (look L t).map oD
  | [], _ => rfl
  | e :: L, h => by
    have ih := enc_look inj ht (L := L) fun e he => h e (List.mem_cons_of_mem _ he)
    unfold lookK look at ih ⊢
    rw [enc, List.map_cons, List.find?_cons, List.find?_cons]
    by_cases c : e.1 = t
    · rw [decide_eq_true c, decide_eq_true (show (f e.1, oD e.2).1 = f t by rw [c])]
      rfl
    · have c2 : ¬ (f e.1, oD e.2).1 = f t := fun z => c (inj _ _ (h e (List.mem_cons_self)) ht z)
      rw [decide_eq_false c, decide_eq_false c2]
      exact ih
theorem enc_any (inj : ∀ s t, A s → A t → f s = f t → s = t) {t : Tri} (ht : A t) {L : Tab} (h : ∀ e ∈ L, A e.1) : ((enc f L).any fun kv => decide (kv.1 = f t)) = L.any fun e => decide (e.1 = t) := by
  unfold enc
  rw [List.any_map]
  induction L with
  | nil => rfl
  | cons e L ih =>
    rw [List.any_cons, List.any_cons, ih fun e he => h e (List.mem_cons_of_mem _ he)]
    congr 1
    show decide (f e.1 = f t) = decide (e.1 = t)
    by_cases c : e.1 = t
    · rw [c]; simp
    · have c2 : ¬ f e.1 = f t := fun z => c (inj _ _ (h e (List.mem_cons_self)) ht z)
      rw [decide_eq_false c, decide_eq_false c2]
theorem enc_put (inj : ∀ s t, A s → A t → f s = f t → s = t) {t : Tri} (ht : A t) {c : Option Int} {L : Tab} (h : ∀ e ∈ L, A e.1) : putD (enc f L) (f t) (oD c) = enc f (put L t c) := by
  unfold putD put
  rw [enc_any inj ht h]
  split
  · unfold enc
    rw [List.map_map, List.map_map]
    refine List.map_congr_left fun e he => ?_
    show (if f e.1 = f t then (f e.1, oD c) else (f e.1, oD e.2)) = _
    by_cases c2 : e.1 = t
    · rw [if_pos (by rw [c2])]
      simp [c2]
    · rw [if_neg (fun z => c2 (inj _ _ (h e he) ht z))]
      simp [c2]
  · unfold enc
    rw [List.map_append]
    rfl
end
theorem put_all {A : Tri → Prop} {L : Tab} {t : Tri} {c : Option Int} (h : ∀ e ∈ L, A e.1) (ht : A t) : ∀ e ∈ put L t c, A e.1 := by
  intro e he
  unfold put at he
  split at he
  · obtain ⟨x, hx, rfl⟩ := List.mem_map.mp he
    split
    · exact h x hx
    · exact h x hx
  · rcases List.mem_append.mp he with z | z
    · exact h e z
    · have : e = (t, c) := by simpa using z
      subst this
      exact ht
theorem put_len (L : Tab) (t : Tri) (c : Option Int) : (put L t c).length ≤ L.length + 1 := by
  unfold put
  split
  · rw [List.length_map]; omega
  · rw [List.length_append]; simp
/-- all that was seen, the later ones over the earlier -/
def scan : Tab → List Seen → Tab
  | L, [] => L
  | L, s :: r => scan (put L s.t s.c) r
def bad (L : Tab) (s : Seen) : Bool := match look L s.t with
  | some c => decide (c ≠ s.c)
  | none => false
/-- the first that goes not with those ahead -/
def first : Nat → Tab → List Seen → Option Nat
  | _, _, [] => none
  | i, L, s :: r => if bad L s then some i else first (i + 1) (put L s.t s.c) r
theorem first_ge : ∀ (i : Nat) (L : Tab) (ss : List Seen) {j : Nat}, first i L ss = some j → i ≤ j ∧ j < i + ss.length
  | i, L, [], j, h => by cases h
  | i, L, s :: r, j, h => by
    unfold first at h
    split at h
    · cases h; simp
    · have := first_ge (i + 1) _ r h
      simp
      omega
theorem first_take : ∀ (i : Nat) (L : Tab) (ss : List Seen) (k : Nat), first i L (ss.take k) = (first i L ss).filter fun j => decide (j < i + k)
  | i, L, [], k => by simp [first]
  | i, L, s :: r, 0 => by
    rw [List.take_zero]
    cases e : first i L (s :: r) with
    | none => rfl
    | some j =>
      have := (first_ge _ _ _ e).1
      simp [first, Option.filter]
      omega
  | i, L, s :: r, k + 1 => by
    rw [List.take_succ_cons]
    unfold first
    split
    · simp [Option.filter]
    · rw [first_take (i + 1) _ r k, show i + 1 + k = i + (k + 1) by omega]
theorem scan_append : ∀ (L : Tab) (xs ys : List Seen), scan L (xs ++ ys) = scan (scan L xs) ys
  | L, [], ys => rfl
  | L, s :: r, ys => scan_append (put L s.t s.c) r ys
theorem scan_len : ∀ (L : Tab) (ss : List Seen), (scan L ss).length ≤ L.length + ss.length
  | L, [] => by simp [scan]
  | L, s :: r => by
    have h1 := scan_len (put L s.t s.c) r
    have h2 := put_len L s.t s.c
    show (scan (put L s.t s.c) r).length ≤ _
    simp
    omega
theorem scan_all {A : Tri → Prop} : ∀ {L : Tab} {ss : List Seen}, (∀ e ∈ L, A e.1) → (∀ s ∈ ss, A s.t) → ∀ e ∈ scan L ss, A e.1
  | L, [], h, _ => h
  | L, s :: r, h, h2 => by
    show ∀ e ∈ scan (put L s.t s.c) r, A e.1
    exact scan_all (put_all h (h2 s (List.mem_cons_self))) fun x hx => h2 x (List.mem_cons_of_mem _ hx)
theorem first_cons (i : Nat) (L : Tab) (s : Seen) (r : List Seen) : first i L (s :: r) = if bad L s then some i else first (i + 1) (put L s.t s.c) r := rfl
/-- the turn: one more -/
theorem first_snoc : ∀ (i : Nat) (L : Tab) (ss : List Seen) (s : Seen), first i L (ss ++ [s]) = (first i L ss).or (if bad (scan L ss) s then some (i + ss.length) else none)
  | i, L, [], s => by
    show first i L [s] = _
    rw [first_cons]
    show (if bad L s = true then some i else none) = (none : Option Nat).or (if bad L s = true then some (i + 0) else none)
    cases bad L s <;> rfl
  | i, L, x :: r, s => by
    rw [List.cons_append, first_cons, first_cons]
    split
    · rfl
    · rw [first_snoc (i + 1) _ r s, show i + 1 + r.length = i + (x :: r).length by simp; omega]
      rfl
/-! ### keys -/
def In3 (n : Int) (t : Tri) : Prop := 0 ≤ t.1 ∧ t.1 < n ∧ 0 ≤ t.2.1 ∧ t.2.1 < n ∧ 0 ≤ t.2.2 ∧ t.2.2 < n
theorem seen_in3 {n : Int} {s : Seen} (h : s.ok n) : In3 n s.t := ⟨h.1, h.2.1, h.2.2.1, h.2.2.2.1, h.2.2.2.2.1, h.2.2.2.2.2.1⟩
def idx (n : Int) (t : Tri) : Key := .inl ((t.1 * n + t.2.1) * n + t.2.2)
def tkey (t : Tri) : List Key := [.inl t.1, .inl t.2.1, .inl t.2.2]
theorem digits {n a b c d : Int} (hb0 : 0 ≤ b) (hb : b < n) (hd0 : 0 ≤ d) (hd : d < n) (h : a * n + b = c * n + d) : a = c ∧ b = d := by
  have h1 : (a - c) * n = d - b := by rw [Int.sub_mul]; omega
  have h2 : a - c = 0 := by
    rcases Int.lt_trichotomy (a - c) 0 with z | z | z
    · have : (a - c) * n ≤ (-1) * n := Int.mul_le_mul_of_nonneg_right (by omega) (by omega)
      omega
    · exact z
    · have : 1 * n ≤ (a - c) * n := Int.mul_le_mul_of_nonneg_right (by omega) (by omega)
      omega
  rw [h2] at h1
  simp at h1
  constructor <;> omega
theorem idx_inj {n : Int} (s t : Tri) (hs : In3 n s) (ht : In3 n t) (h : idx n s = idx n t) : s = t := by
  have h' : (s.1 * n + s.2.1) * n + s.2.2 = (t.1 * n + t.2.1) * n + t.2.2 := Sum.inl.inj h
  obtain ⟨e1, e2⟩ := digits hs.2.2.2.2.1 hs.2.2.2.2.2 ht.2.2.2.2.1 ht.2.2.2.2.2 h'
  obtain ⟨e3, e4⟩ := digits hs.2.2.1 hs.2.2.2.1 ht.2.2.1 ht.2.2.2.1 e1
  exact Prod.ext e3 (Prod.ext e4 e2)
theorem tkey_inj {n : Int} (s t : Tri) (_ : In3 n s) (_ : In3 n t) (h : tkey s = tkey t) : s = t := by
  unfold tkey at h
  simp at h
  exact Prod.ext h.1 (Prod.ext h.2.1 h.2.2)
end M13
set_option Elab.async false
set_option linter.all false
set_option maxRecDepth 100000
set_option maxHeartbeats 1000000
set_option synthInstance.maxHeartbeats 2000000
set_option synthInstance.maxSize 4000
namespace Lw
open PySem PySem.Spec L2 Dl
def topS (i : Nat) : Stmt := PySem.Challenge.pw_mergetables_k03_several_fields.main.body.getD i (.Pass ⟨0, 0, 0, 0⟩)
abbrev s_is_from : Stmt := topS 10
abbrev N_is_from : List Str := ["value", "low", "high"]
theorem sc_is_from : FnScope N_is_from ["value", "low", "high"] (defScope s_is_from) := ⟨rfl, rfl, rfl, by decide +kernel, rfl, by decide +kernel, by decide +kernel⟩
abbrev s_is_cell : Stmt := topS 11
abbrev N_is_cell : List Str := ["size", "value"]
theorem sc_is_cell : FnScope N_is_cell ["size", "value"] (defScope s_is_cell) := ⟨rfl, rfl, rfl, by decide +kernel, rfl, by decide +kernel, by decide +kernel⟩
abbrev s_Table_init : Stmt := inClass (topS 12) 0
abbrev N_Table_init : List Str := ["self", "size", "cells", "index", "cell"]
theorem sc_Table_init : FnScope N_Table_init ["self", "size", "cells"] (defScope s_Table_init) := ⟨rfl, rfl, rfl, by decide +kernel, rfl, by decide +kernel, by decide +kernel⟩
abbrev s_at : Stmt := topS 13
abbrev N_at : List Str := ["table", "base", "mine", "yours"]
theorem sc_at : FnScope N_at ["table", "base", "mine", "yours"] (defScope s_at) := ⟨rfl, rfl, rfl, by decide +kernel, rfl, by decide +kernel, by decide +kernel⟩
abbrev s_are_fields : Stmt := topS 14
abbrev N_are_fields : List Str := ["table", "value", "many", "one"]
theorem sc_are_fields : FnScope N_are_fields ["table", "value", "many"] (defScope s_are_fields) := ⟨rfl, rfl, rfl, by decide +kernel, rfl, by decide +kernel, by decide +kernel⟩
abbrev s_merged_fields : Stmt := topS 15
abbrev N_merged_fields : List Str := ["table", "base", "mine", "yours", "many", "told", "found", "b", "x", "y", "index", "cell"]
theorem sc_merged_fields : FnScope N_merged_fields ["table", "base", "mine", "yours"] (defScope s_merged_fields) := ⟨rfl, rfl, rfl, by decide +kernel, rfl, by decide +kernel, by decide +kernel⟩
abbrev s__law_draws : Stmt := topS 17
abbrev N__law_draws : List Str := ["_law_script"]
theorem sc__law_draws : FnScope N__law_draws ["_law_script"] (defScope s__law_draws) := ⟨rfl, rfl, rfl, by decide +kernel, rfl, by decide +kernel, by decide +kernel⟩
abbrev s__law_pick : Stmt := topS 18
abbrev N__law_pick : List Str := ["_law_row", "_law_many", "_law_found", "_law_cell"]
theorem sc__law_pick : FnScope N__law_pick ["_law_row", "_law_many"] (defScope s__law_pick) := ⟨rfl, rfl, rfl, by decide +kernel, rfl, by decide +kernel, by decide +kernel⟩
abbrev s__law_at : Stmt := topS 19
abbrev N__law_at : List Str := ["_law_d", "_law_base", "_law_mine", "_law_yours"]
theorem sc__law_at : FnScope N__law_at ["_law_d", "_law_base", "_law_mine", "_law_yours"] (defScope s__law_at) := ⟨rfl, rfl, rfl, by decide +kernel, rfl, by decide +kernel, by decide +kernel⟩
abbrev s__law_rows : Stmt := topS 20
abbrev N__law_rows : List Str := ["_law_n", "_law_many", "_law_found", "_law_k", "_law_longer", "_law_one", "_law_value"]
theorem sc__law_rows : FnScope N__law_rows ["_law_n", "_law_many"] (defScope s__law_rows) := ⟨rfl, rfl, rfl, by decide +kernel, rfl, by decide +kernel, by decide +kernel⟩
abbrev s__law_plain_cell : Stmt := topS 21
abbrev N__law_plain_cell : List Str := ["_law_base", "_law_mine", "_law_yours"]
theorem sc__law_plain_cell : FnScope N__law_plain_cell ["_law_base", "_law_mine", "_law_yours"] (defScope s__law_plain_cell) := ⟨rfl, rfl, rfl, by decide +kernel, rfl, by decide +kernel, by decide +kernel⟩
abbrev s__law_table : Stmt := topS 22
abbrev N__law_table : List Str := ["_law_row", "_law_most", "_law_n", "_law_one_op", "_law_cells", "_law_k", "_law_kind", "_law_base", "_law_mine", "_law_yours", "_law_cell", "_law_spot"]
theorem sc__law_table : FnScope N__law_table ["_law_row", "_law_most"] (defScope s__law_table) := ⟨rfl, rfl, rfl, by decide +kernel, rfl, by decide +kernel, by decide +kernel⟩
abbrev s__law_made : Stmt := topS 23
abbrev N__law_made : List Str := ["_law_d"]
theorem sc__law_made : FnScope N__law_made ["_law_d"] (defScope s__law_made) := ⟨rfl, rfl, rfl, by decide +kernel, rfl, by decide +kernel, by decide +kernel⟩
abbrev s__law_told_there : Stmt := topS 24
abbrev N__law_told_there : List Str := ["_law_table_here", "_law_base", "_law_mine", "_law_yours", "_law_told_there_here", "e"]
theorem sc__law_told_there : FnScope N__law_told_there ["_law_table_here", "_law_base", "_law_mine", "_law_yours"] (defScope s__law_told_there) := ⟨rfl, rfl, rfl, by decide +kernel, rfl, by decide +kernel, by decide +kernel⟩
abbrev s_law : Stmt := topS 25
abbrev N_law : List Str := ["_law_script", "_law_row", "_law_turn", "_law_k", "_law_found", "_law_due", "_law_spot", "_law_one", "_law_odd", "_law_d", "_law_many", "_law_table_here", "_law_fields", "_law_j"]
theorem sc_law : FnScope N_law ["_law_script"] (defScope s_law) := ⟨rfl, rfl, rfl, by decide +kernel, rfl, by decide +kernel, by decide +kernel⟩
/-- what the top has left -/
structure Txt (K : PySem.W.Frag) (mg : Str → Option Value) : Prop where
  F_is_from : FnP K "is_from" s_is_from (He.ga K "is_from") (fdAt K (He.ga K "is_from"))
  g_is_from : mg "is_from" = some (.ref (He.ga K "is_from"))
  F_is_cell : FnP K "is_cell" s_is_cell (He.ga K "is_cell") (fdAt K (He.ga K "is_cell"))
  g_is_cell : mg "is_cell" = some (.ref (He.ga K "is_cell"))
  F_Table_init : FunD K "__init__" "Table.__init__" (defArgs s_Table_init) (defBody s_Table_init) (defScope s_Table_init) [] [] (He.ma K (He.ga K "Table") "__init__") (fdAt K (He.ma K (He.ga K "Table") "__init__"))
  F_at : FnP K "at" s_at (He.ga K "at") (fdAt K (He.ga K "at"))
  g_at : mg "at" = some (.ref (He.ga K "at"))
  F_are_fields : FnP K "are_fields" s_are_fields (He.ga K "are_fields") (fdAt K (He.ga K "are_fields"))
  g_are_fields : mg "are_fields" = some (.ref (He.ga K "are_fields"))
  F_merged_fields : FnP K "merged_fields" s_merged_fields (He.ga K "merged_fields") (fdAt K (He.ga K "merged_fields"))
  g_merged_fields : mg "merged_fields" = some (.ref (He.ga K "merged_fields"))
  F__law_draws : FnP K "_law_draws" s__law_draws (He.ga K "_law_draws") (fdAt K (He.ga K "_law_draws"))
  g__law_draws : mg "_law_draws" = some (.ref (He.ga K "_law_draws"))
  F__law_pick : FnP K "_law_pick" s__law_pick (He.ga K "_law_pick") (fdAt K (He.ga K "_law_pick"))
  g__law_pick : mg "_law_pick" = some (.ref (He.ga K "_law_pick"))
  F__law_at : FnP K "_law_at" s__law_at (He.ga K "_law_at") (fdAt K (He.ga K "_law_at"))
  g__law_at : mg "_law_at" = some (.ref (He.ga K "_law_at"))
  F__law_rows : FnP K "_law_rows" s__law_rows (He.ga K "_law_rows") (fdAt K (He.ga K "_law_rows"))
  g__law_rows : mg "_law_rows" = some (.ref (He.ga K "_law_rows"))
  F__law_plain_cell : FnP K "_law_plain_cell" s__law_plain_cell (He.ga K "_law_plain_cell") (fdAt K (He.ga K "_law_plain_cell"))
  g__law_plain_cell : mg "_law_plain_cell" = some (.ref (He.ga K "_law_plain_cell"))
  F__law_table : FnP K "_law_table" s__law_table (He.ga K "_law_table") (fdAt K (He.ga K "_law_table"))
  g__law_table : mg "_law_table" = some (.ref (He.ga K "_law_table"))
  F__law_made : FnP K "_law_made" s__law_made (He.ga K "_law_made") (fdAt K (He.ga K "_law_made"))
  g__law_made : mg "_law_made" = some (.ref (He.ga K "_law_made"))
  F__law_told_there : FnP K "_law_told_there" s__law_told_there (He.ga K "_law_told_there") (fdAt K (He.ga K "_law_told_there"))
  g__law_told_there : mg "_law_told_there" = some (.ref (He.ga K "_law_told_there"))
  F_law : FnP K "law" s_law (He.ga K "law") (fdAt K (He.ga K "law"))
  g_law : mg "law" = some (.ref (He.ga K "law"))
  g_Table : mg "Table" = some (.ref (He.ga K "Table"))
  m_Table : Mk K (He.ga K "Table") (He.ma K (He.ga K "Table") "__init__")
  cls_Table : Cls K (He.ga K "Table")
  na_Table_many : NoAttr K (He.ga K "Table") "many"
  na_Table_rows : NoAttr K (He.ga K "Table") "rows"
  x_BadValues : ExF K mg "BadValues"
  x_TooGreat : ExF K mg "TooGreat"
  g_BadValues : mg "BadValues" = some (.ref (He.ga K "BadValues"))
  ec_BadValues : ExcC K (He.ga K "BadValues")
  g_TooGreat : mg "TooGreat" = some (.ref (He.ga K "TooGreat"))
  ec_TooGreat : ExcC K (He.ga K "TooGreat")
  g_MergeError : mg "MergeError" = some (.ref (He.ga K "MergeError"))
  ki_BadValues : PySem.W.kitOne K (.ref (He.ga K "BadValues")) (.ref (He.ga K "MergeError")) = some true
  ki_TooGreat : PySem.W.kitOne K (.ref (He.ga K "TooGreat")) (.ref (He.ga K "MergeError")) = some true
  em_BadValues_BadValues : PySem.W.exmOne K (.ref (He.ga K "BadValues")) (.ref (He.ga K "BadValues")) = some true
  em_BadValues_TooGreat : PySem.W.exmOne K (.ref (He.ga K "BadValues")) (.ref (He.ga K "TooGreat")) = some false
  em_TooGreat_BadValues : PySem.W.exmOne K (.ref (He.ga K "TooGreat")) (.ref (He.ga K "BadValues")) = some false
  em_TooGreat_TooGreat : PySem.W.exmOne K (.ref (He.ga K "TooGreat")) (.ref (He.ga K "TooGreat")) = some true
  f_len : mg "len" = none
  f_int : mg "int" = none
  f_tuple : mg "tuple" = none
  f_list : mg "list" = none
  f_max : mg "max" = none
  f_all : mg "all" = none
  f_isinstance : mg "isinstance" = none
  f_range : mg "range" = none
  f_enumerate : mg "enumerate" = none
  f_zip : mg "zip" = none
  f_bool : mg "bool" = none
  c_LEAST_SIZE : ∃ t, mg "LEAST_SIZE" = some (.int 2 t)
  c_MOST_SIZE : ∃ t, mg "MOST_SIZE" = some (.int 4 t)
  c_MOST_FIELDS : ∃ t, mg "MOST_FIELDS" = some (.int 20 t)
open M13
def fromD (lo hi : Int) : D → Bool
  | .int i => decide (lo ≤ i) && decide (i ≤ hi)
  | _ => false
def cellD (n : Int) : D → Bool
  | .non => true
  | x => fromD 0 (n - 1) x
theorem fromD_t {lo hi i : Int} (h0 : lo ≤ i) (h1 : i ≤ hi) : fromD lo hi (.int i) = true := by
  show (decide (lo ≤ i) && decide (i ≤ hi)) = true
  rw [decide_eq_true h0, decide_eq_true h1]
  rfl
def Φ_is_from : List Sl → (Sl → List Sl → Prop) → Prop := fun args k => ∃ (x : D) (lo hi : Int), args = [.d x, .d (.int lo), .d (.int hi)] ∧ tyD x ≠ none ∧ k (.d (.bl (fromD lo hi x))) args
theorem ok_is_from {P : Program} {w : World} {K : PySem.W.Frag} {mg : Str → Option Value} {base : Heap} (T : Txt K mg) : FnOk P w K mg base CX0 1 (He.ga K "is_from") (fdAt K (He.ga K "is_from")) ["value", "low", "high"] (spD K Φ_is_from) := by
  refine okP T.F_is_from sc_is_from (fun args k h => by first | (obtain ⟨_, h, _⟩ := h; rw [h]; rfl) | (obtain ⟨_, _, h, _⟩ := h; rw [h]; rfl) | (obtain ⟨_, _, _, h, _⟩ := h; rw [h]; rfl) | (obtain ⟨_, _, _, _, h, _⟩ := h; rw [h]; rfl) | (obtain ⟨_, _, _, _, _, h, _⟩ := h; rw [h]; rfl) | (obtain ⟨_, _, _, _, _, _, h, _⟩ := h; rw [h]; rfl) | (obtain ⟨_, _, _, _, _, _, _, h, _⟩ := h; rw [h]; rfl) | (obtain ⟨_, _, _, _, _, _, _, _, h, _⟩ := h; rw [h]; rfl) | (obtain ⟨_, _, _, _, _, _, _, _, _, h, _⟩ := h; rw [h]; rfl) | (obtain ⟨_, _, _, _, _, _, _, _, _, _, h, _⟩ := h; rw [h]; rfl) | (obtain ⟨_, _, _, _, _, _, _, _, _, _, _, h, _⟩ := h; rw [h]; rfl)) (fun am cdv A outer s H E hr => ?_)
  refine ⟨_, _, (pss_one (ps_ret (pe_and (pe_callB call_isi (by rfl) T.f_isinstance (by decide +kernel) (pa_cons (pv 0) (pa_cons (pe_bltn (v := .ty "int") (by rfl) T.f_int (by decide +kernel) rfl) pa_nil))) (pe_and (pe_not (pe_callB call_isi (by rfl) T.f_isinstance (by decide +kernel) (pa_cons (pv 0) (pa_cons (pe_bltn (v := .ty "bool") (by rfl) T.f_bool (by decide +kernel) rfl) pa_nil)))) (pe_one (pe_chain op_le op_le (pv 1) (pv 0) (pv 2))))))), (by (try dsimp only [cxOf, Cx.nox, Cx.wish, Cx.blk, Cx.tr, Cx.suite]); exact inferInstance), fun args q h => ?_⟩
  obtain ⟨x, lo, hi, rfl, hx, h⟩ := h
  refine ⟨x, rfl, _, isIntD_eq x hx, _, rfl, ?_⟩
  cases x with
  | int i =>
    refine ⟨_, rfl, _, isBoolD_eq _ hx, _, rfl, _, rfl, ⟨_, rfl, _, rfl, _, rfl, ?_⟩⟩
    show if decide (lo ≤ i) = true then _ else _
    by_cases c : lo ≤ i
    · rw [if_pos (decide_eq_true c)]
      refine ⟨_, rfl, trivial, ?_⟩
      have e : fromD lo hi (.int i) = decide (i ≤ hi) := by simp [fromD, c]
      rw [e] at h
      exact h
    · rw [if_neg (by simp [c])]
      have e : fromD lo hi (.int i) = false := by simp [fromD, c]
      rw [e] at h
      exact ⟨trivial, h⟩
  | bl b => exact ⟨_, rfl, _, isBoolD_eq _ hx, _, rfl, _, rfl, trivial, h⟩
  | _ => exact ⟨trivial, h⟩
def Φ_is_cell : List Sl → (Sl → List Sl → Prop) → Prop := fun args k => ∃ (n : Int) (x : D), args = [.d (.int n), .d x] ∧ tyD x ≠ none ∧ k (.d (.bl (cellD n x))) args
theorem ok_is_cell {P : Program} {w : World} {K : PySem.W.Frag} {mg : Str → Option Value} {base : Heap} (T : Txt K mg) : FnOk P w K mg base CX0 2 (He.ga K "is_cell") (fdAt K (He.ga K "is_cell")) ["size", "value"] (spD K Φ_is_cell) := by
  have G_is_from := ok_is_from (P := P) (w := w) (base := base) T
  refine okP T.F_is_cell sc_is_cell (fun args k h => by first | (obtain ⟨_, h, _⟩ := h; rw [h]; rfl) | (obtain ⟨_, _, h, _⟩ := h; rw [h]; rfl) | (obtain ⟨_, _, _, h, _⟩ := h; rw [h]; rfl) | (obtain ⟨_, _, _, _, h, _⟩ := h; rw [h]; rfl) | (obtain ⟨_, _, _, _, _, h, _⟩ := h; rw [h]; rfl) | (obtain ⟨_, _, _, _, _, _, h, _⟩ := h; rw [h]; rfl) | (obtain ⟨_, _, _, _, _, _, _, h, _⟩ := h; rw [h]; rfl) | (obtain ⟨_, _, _, _, _, _, _, _, h, _⟩ := h; rw [h]; rfl) | (obtain ⟨_, _, _, _, _, _, _, _, _, h, _⟩ := h; rw [h]; rfl) | (obtain ⟨_, _, _, _, _, _, _, _, _, _, h, _⟩ := h; rw [h]; rfl) | (obtain ⟨_, _, _, _, _, _, _, _, _, _, _, h, _⟩ := h; rw [h]; rfl)) (fun am cdv A outer s H E hr => ?_)
  have hr_is_from := hr.mono (show 1 ≤ 1 by decide)
  have b_is_from : Binds K (fdAt K (He.ga K "is_from")) ["value", "low", "high"] [] := T.F_is_from.bindsN fun _ _ _ _ _ _ us hl => match us, hl with | [_, _, _], _ => rfl
  refine ⟨_, _, (pss_one (ps_ret (pe_or (pe_cmp (pc_isN (pv 1))) (pe_one (pe_call G_is_from hr_is_from (by rfl) T.g_is_from T.F_is_from.kp b_is_from .nil pass0 (pa_cons (pv 1) (pa_cons pe_int (pa_cons (pe_op op_sub (pv 0) pe_int) pa_nil)))))))), (by (try dsimp only [cxOf, Cx.nox, Cx.wish, Cx.blk, Cx.tr, Cx.suite]); exact inferInstance), fun args q h => ?_⟩
  obtain ⟨n, x, rfl, hx, h⟩ := h
  refine ⟨x, rfl, _, rfl, ?_⟩
  cases e : isNon x with
  | true => cases x <;> first | exact ⟨trivial, h⟩ | cases e
  | false =>
    refine ⟨_, rfl, _, rfl, ok0 rfl, _, _, _, rfl, hx, trivial, ?_⟩
    have e2 : cellD n x = fromD 0 (n - 1) x := by cases x <;> first | rfl | cases e
    rw [e2] at h
    exact h
/-- a drawn table -/
structure TabOk (n : Int) (cs : List (Option Int)) : Prop where
  n2 : 2 ≤ n
  n4 : n ≤ 4
  len : (cs.length : Int) = n * n * n
  ok : ∀ c ∈ cs, ∀ i, c = some i → 0 ≤ i ∧ i < n
def tabD (n : Int) (cs : List (Option Int)) : D := .dk [(.inr "n", .int n), (.inr "cells", .tup (cs.map oD))]
/-- rows of ints -/
def tupI (l : List Int) : D := .tup (l.map D.int)
structure Rw (n : Int) (w c : Nat) (ts : List (List Int)) : Prop where
  cnt : ts.length = c
  ok : ∀ t ∈ ts, t.length = w ∧ ∀ x ∈ t, 0 ≤ x ∧ x < n
theorem Rw.tri {n : Int} {c : Nat} {ts : List (List Int)} (h : Rw n 3 c ts) : ∃ us : List Tri, us.length = c ∧ (∀ t ∈ us, In3 n t) ∧ ts.map tupI = us.map fun t => D.tup [.int t.1, .int t.2.1, .int t.2.2] := by
  refine ⟨ts.map fun l => (l.getD 0 0, l.getD 1 0, l.getD 2 0), by rw [List.length_map]; exact h.cnt, ?_, ?_⟩
  · intro t ht
    obtain ⟨l, hl, rfl⟩ := List.mem_map.mp ht
    obtain ⟨h1, h2⟩ := h.ok l hl
    match l, h1 with
    | [a, b, c], _ =>
      have ha := h2 a (by simp)
      have hb := h2 b (by simp)
      have hc := h2 c (by simp)
      exact ⟨ha.1, ha.2, hb.1, hb.2, hc.1, hc.2⟩
  · rw [List.map_map]
    refine List.map_congr_left fun l hl => ?_
    obtain ⟨h1, _⟩ := h.ok l hl
    match l, h1 with
    | [a, b, c], _ => rfl
theorem Rw.more {n : Int} {w a b : Nat} {ts us : List (List Int)} (h : Rw n w a ts) (g : Rw n w b us) : Rw n w (a + b) (ts ++ us) := ⟨by rw [List.length_append, h.cnt, g.cnt], fun t ht => by
  rcases List.mem_append.mp ht with z | z
  · exact h.ok t z
  · exact g.ok t z⟩
def CellP (n : Int) (ps : List (Option Int)) : Prop := ∀ c ∈ ps, ∀ i, c = some i → 0 ≤ i ∧ i < n
theorem CellP.more {n : Int} {ps qs : List (Option Int)} (h : CellP n ps) (g : CellP n qs) : CellP n (ps ++ qs) := fun c hc => by
  rcases List.mem_append.mp hc with z | z
  · exact h c z
  · exact g c z
theorem CellP.one {n : Int} {c : Option Int} (h : ∀ i, c = some i → 0 ≤ i ∧ i < n) : CellP n [c] := fun x hx => by
  cases (List.mem_singleton.mp hx)
  exact h
theorem cellI {n i : Int} (h0 : 0 ≤ i) (h1 : i < n) : ∀ j, (some i : Option Int) = some j → 0 ≤ j ∧ j < n := fun j e => by cases e; exact ⟨h0, h1⟩
theorem cellN {n : Int} : ∀ j, (none : Option Int) = some j → 0 ≤ j ∧ j < n := fun j e => by cases e
theorem tab_disp (n : Int) (x : D) : mergeD [] [(.inr "n", .int n), (.inr "cells", x)] = [(.inr "n", .int n), (.inr "cells", x)] := rfl
def Φ__law_draws : List Sl → (Sl → List Sl → Prop) → Prop := fun args k => ∃ (ns : List Int), args = [.d (.fz (ns.map D.int))] ∧ ∀ p o, RowOk o → k (.own p o) args
theorem ok__law_draws {P : Program} {w : World} {K : PySem.W.Frag} {mg : Str → Option Value} {base : Heap} (T : Txt K mg) : FnOk P w K mg base CX0 1 (He.ga K "_law_draws") (fdAt K (He.ga K "_law_draws")) ["_law_script"] (spD K Φ__law_draws) := by
  refine okP T.F__law_draws sc__law_draws (fun args k h => by first | (obtain ⟨_, h, _⟩ := h; rw [h]; rfl) | (obtain ⟨_, _, h, _⟩ := h; rw [h]; rfl) | (obtain ⟨_, _, _, h, _⟩ := h; rw [h]; rfl) | (obtain ⟨_, _, _, _, h, _⟩ := h; rw [h]; rfl) | (obtain ⟨_, _, _, _, _, h, _⟩ := h; rw [h]; rfl) | (obtain ⟨_, _, _, _, _, _, h, _⟩ := h; rw [h]; rfl) | (obtain ⟨_, _, _, _, _, _, _, h, _⟩ := h; rw [h]; rfl) | (obtain ⟨_, _, _, _, _, _, _, _, h, _⟩ := h; rw [h]; rfl) | (obtain ⟨_, _, _, _, _, _, _, _, _, h, _⟩ := h; rw [h]; rfl) | (obtain ⟨_, _, _, _, _, _, _, _, _, _, h, _⟩ := h; rw [h]; rfl) | (obtain ⟨_, _, _, _, _, _, _, _, _, _, _, h, _⟩ := h; rw [h]; rfl)) (fun am cdv A outer s H E hr => ?_)
  refine ⟨_, _, (pss_one (ps_ret (pe_lst (pa_cons (pe_callTy call_lstX (by rfl) T.f_list (by decide +kernel) (pa_cons (pv 0) pa_nil)) (pa_cons pe_int (pa_cons pe_int (pa_cons pe_int pa_nil))))))), (by (try dsimp only [cxOf, Cx.nox, Cx.wish, Cx.blk, Cx.tr, Cx.suite]); exact inferInstance), fun args q h => ?_⟩
  obtain ⟨ns, rfl, h⟩ := h
  exact ⟨_, rfl, by simp, Or.inr fun p => ⟨trivial, h p _ ⟨ns, 0, 0, 7, rfl, by decide, by decide, by decide, by decide⟩⟩⟩
def Φ__law_pick : List Sl → (Sl → List Sl → Prop) → Prop := fun args k => ∃ (r : Addr) (row : OD) (many : Int), args = [.own r row, .d (.int many)] ∧ RowOk row ∧ 0 < many ∧ many < 2 ^ 30 ∧ ∀ (i : Int) (row' : OD), 0 ≤ i → i < many → RowOk row' → k (.d (.int i)) [.own r row', .d (.int many)]
theorem ok__law_pick {P : Program} {w : World} {K : PySem.W.Frag} {mg : Str → Option Value} {base : Heap} (T : Txt K mg) : FnOk P w K mg base CX0 1 (He.ga K "_law_pick") (fdAt K (He.ga K "_law_pick")) ["_law_row", "_law_many"] (spD K Φ__law_pick) := by
  refine okP T.F__law_pick sc__law_pick (fun args k h => by first | (obtain ⟨_, h, _⟩ := h; rw [h]; rfl) | (obtain ⟨_, _, h, _⟩ := h; rw [h]; rfl) | (obtain ⟨_, _, _, h, _⟩ := h; rw [h]; rfl) | (obtain ⟨_, _, _, _, h, _⟩ := h; rw [h]; rfl) | (obtain ⟨_, _, _, _, _, h, _⟩ := h; rw [h]; rfl) | (obtain ⟨_, _, _, _, _, _, h, _⟩ := h; rw [h]; rfl) | (obtain ⟨_, _, _, _, _, _, _, h, _⟩ := h; rw [h]; rfl) | (obtain ⟨_, _, _, _, _, _, _, _, h, _⟩ := h; rw [h]; rfl) | (obtain ⟨_, _, _, _, _, _, _, _, _, h, _⟩ := h; rw [h]; rfl) | (obtain ⟨_, _, _, _, _, _, _, _, _, _, h, _⟩ := h; rw [h]; rfl) | (obtain ⟨_, _, _, _, _, _, _, _, _, _, _, h, _⟩ := h; rw [h]; rfl)) (fun am cdv A outer s H E hr => ?_)
  refine ⟨_, _, (pss_cons (ps_if (pt_cmpR (op_eqX hr.units) (pe_ix ix_seq (pv 0) pe_int (fun _ _ => rfl)) pe_int (nomark _)) (pss_one (ps_if (pt_cmpR op_lt (pe_ix ix_seq (pv 0) pe_int (fun _ _ => rfl)) (pe_callB call_lenX (by rfl) T.f_len PySem.boot_len (pa_cons (pe_ix ix_seq (pv 0) pe_int (fun _ _ => rfl)) pa_nil)) (nomark _)) (pss_cons (ps_set (i := 3) sc__law_pick.nd rfl (Or.inl rfl) (pe_ix ix_seq (pe_ix ix_seq (pv 0) pe_int (fun _ _ => rfl)) (pe_ix ix_seq (pv 0) pe_int (fun _ _ => rfl)) (fun _ _ => rfl))) (pss_cons (ps_asg (pe_op op_addX (pe_ix ix_seq (pv 0) pe_int (fun _ _ => rfl)) pe_int) (pg_sub (pv 0) pe_int set_list)) (pss_one (ps_if (pt_cmpR op_ge (pv 3) (pe_op op_pow pe_int pe_int) (nomark _)) (pss_one (ps_asg (pv 3) (pg_sub (pv 0) pe_int set_list))) (pss_one (ps_asg (pe_op op_mod (pe_callTy call_intX (by rfl) T.f_int (by decide +kernel) (pa_cons (pe_op op_addX (pe_op op_addX (pe_op op_mulX (pe_ix ix_seq (pv 0) pe_int (fun _ _ => rfl)) pe_int) (pe_op op_mulX (pv 3) pe_int)) pe_int) pa_nil)) pe_int) (pg_sub (pv 0) pe_int set_list))))))) (pss_one (ps_asg (pe_op op_mod (pe_callTy call_intX (by rfl) T.f_int (by decide +kernel) (pa_cons (pe_op op_addX (pe_op op_mulX (pe_ix ix_seq (pv 0) pe_int (fun _ _ => rfl)) pe_int) pe_int) pa_nil)) pe_int) (pg_sub (pv 0) pe_int set_list))))) pss_nil) (pss_cons (ps_if (pt_cmpR op_gt (pe_ix ix_seq (pv 0) pe_int (fun _ _ => rfl)) pe_int (nomark _)) (pss_cons (ps_set (i := 2) sc__law_pick.nd rfl (Or.inl rfl) (pe_op op_mod (pe_callTy call_intX (by rfl) T.f_int (by decide +kernel) (pa_cons (pe_ix ix_seq (pv 0) pe_int (fun _ _ => rfl)) pa_nil)) (pv 1))) (pss_cons (ps_asg (pe_op op_fdiv (pe_ix ix_seq (pv 0) pe_int (fun _ _ => rfl)) (pv 1)) (pg_sub (pv 0) pe_int set_list)) (pss_one (ps_ret (pv 2))))) pss_nil) (pss_one (ps_ret (pe_op op_mod (pe_op op_mod (pe_callTy call_intX (by rfl) T.f_int (by decide +kernel) (pa_cons (pe_op op_mulX (pe_ix ix_seq (pv 0) pe_int (fun _ _ => rfl)) pe_int) pa_nil)) pe_int) (pv 1)))))), (by (try dsimp only [cxOf, Cx.nox, Cx.wish, Cx.blk, Cx.tr, Cx.suite]); exact inferInstance), fun args q h => ?_⟩
  obtain ⟨r, row, many, rfl, ⟨ns, idx, big, seed, rfl, r1, r2, r3, r4⟩, m0, m1, h⟩ := h
  refine (?_ : ∀ B : DTS, (∀ (i1 g1 e1 : Int) (s2 s3 : Sl), 0 ≤ i1 → 0 ≤ g1 → 0 ≤ e1 → e1 < 2147483647 → B (endF [.own r (.lst [.lst (ns.map D.int), .int idx, .int big, .int seed]), .d (.int many)] q) [.own r (.lst [.lst (ns.map D.int), .int i1, .int g1, .int e1]), .d (.int many), s2, s3]) → dSeq _ B (endF [.own r (.lst [.lst (ns.map D.int), .int idx, .int big, .int seed]), .d (.int many)] q) _) _ ?_
  · intro B hB
    refine ⟨_, rfl, _, rfl, Or.inl rfl, _, rfl, ?_⟩
    refine ite_b (fun c1 => ?_) (fun c1 => ?_)
    · refine ⟨_, rfl, _, rfl, ⟨_, rfl, _, rfl, ⟨_, rfl, ?_⟩⟩⟩
      refine ite_b (fun c1 => ?_) (fun c1 => ?_)
      · have c2 := of_decide_eq_true c1
        rw [List.length_map] at c2
        have il : idx.toNat < ns.length := by omega
        have at1 : atI (ns.map D.int) idx = some (.int (ns[idx.toNat]'il)) := atI_ok (j := idx.toNat) (by omega) (by rw [List.getElem?_map, List.getElem?_eq_getElem il]; rfl)
        generalize hc : ns[idx.toNat]'il = c at at1
        refine ⟨_, rfl, _, rfl, ⟨_, rfl, _, rfl, _, at1, ⟨_, rfl, _, rfl, ⟨_, _, rfl, _, _, _, rfl, rfl, rfl, ⟨_, rfl, ⟨⟨by decide, by decide, by decide⟩, _, rfl, ?_⟩⟩⟩⟩⟩⟩
        refine ite_b (fun c1 => ?_) (fun c1 => ?_)
        · have c3 := of_decide_eq_true c1
          exact ⟨_, rfl, _, _, rfl, _, _, _, rfl, rfl, rfl, hB _ _ _ _ _ (by omega) (by have : (0 : Int) ≤ 10 ^ (18 : Int).toNat := by decide
                                                                                        omega) r3 r4⟩
        · exact ⟨_, rfl, _, rfl, ⟨cmul_r (by decide) (by decide), _, rfl, ⟨cmul_r (by decide) (by decide), ⟨(show (0 : Int) < 2147483647 by decide), _, _, rfl, _, _, _, rfl, rfl, rfl, hB _ _ _ _ _ (by omega) r2 (Int.emod_nonneg _ (by decide)) (Int.emod_lt_of_pos _ (by decide))⟩⟩⟩⟩
      · exact ⟨_, rfl, _, rfl, ⟨cmul_r (by decide) (by decide), ⟨(show (0 : Int) < 2147483647 by decide), _, _, rfl, _, _, _, rfl, rfl, rfl, hB _ _ _ _ _ r1 r2 (Int.emod_nonneg _ (by decide)) (Int.emod_lt_of_pos _ (by decide))⟩⟩⟩
    · exact hB _ _ _ _ _ r1 r2 r3 r4
  · intro idx' big' seed' s2 s3 b1 b2 b3 b4
    refine ⟨_, rfl, _, rfl, _, rfl, ?_⟩
    refine ite_b (fun c1 => ?_) (fun c1 => ?_)
    · exact ⟨_, rfl, _, rfl, _, rfl, ⟨m0, _, rfl, _, rfl, _, rfl, ⟨⟨m0, m1⟩, _, _, rfl, _, _, _, rfl, rfl, rfl, ⟨_, rfl, ⟨rfl, trivial⟩, h _ _ (Int.emod_nonneg _ (by omega)) (Int.emod_lt_of_pos _ m0) ⟨_, _, _, _, rfl, b1, Int.ediv_nonneg b2 (by omega), b3, b4⟩⟩⟩⟩⟩
    · exact ⟨_, rfl, _, rfl, ⟨cmul_r (by decide) (by decide), ⟨(show (0 : Int) < 2147483629 by decide), _, rfl, ⟨m0, ⟨rfl, trivial⟩, h _ _ (Int.emod_nonneg _ (by omega)) (Int.emod_lt_of_pos _ m0) ⟨_, _, _, _, rfl, b1, b2, b3, b4⟩⟩⟩⟩⟩
def Φ__law_rows : List Sl → (Sl → List Sl → Prop) → Prop := fun args k => ∃ (n : Int), args = [.d (.int n), .d (.int 3)] ∧ 2 ≤ n ∧ n ≤ 4 ∧ ∀ (ts : List Tri), (ts.length : Int) = n * n * n → (∀ t ∈ ts, In3 n t) → k (.d (.lst (ts.map fun t => D.tup [.int t.1, .int t.2.1, .int t.2.2]))) args
theorem ok__law_rows {P : Program} {w : World} {K : PySem.W.Frag} {mg : Str → Option Value} {base : Heap} (T : Txt K mg) : FnOk P w K mg base CX0 1 (He.ga K "_law_rows") (fdAt K (He.ga K "_law_rows")) ["_law_n", "_law_many"] (spD K Φ__law_rows) := by
  refine okP T.F__law_rows sc__law_rows (fun args k h => by first | (obtain ⟨_, h, _⟩ := h; rw [h]; rfl) | (obtain ⟨_, _, h, _⟩ := h; rw [h]; rfl) | (obtain ⟨_, _, _, h, _⟩ := h; rw [h]; rfl) | (obtain ⟨_, _, _, _, h, _⟩ := h; rw [h]; rfl) | (obtain ⟨_, _, _, _, _, h, _⟩ := h; rw [h]; rfl) | (obtain ⟨_, _, _, _, _, _, h, _⟩ := h; rw [h]; rfl) | (obtain ⟨_, _, _, _, _, _, _, h, _⟩ := h; rw [h]; rfl) | (obtain ⟨_, _, _, _, _, _, _, _, h, _⟩ := h; rw [h]; rfl) | (obtain ⟨_, _, _, _, _, _, _, _, _, h, _⟩ := h; rw [h]; rfl) | (obtain ⟨_, _, _, _, _, _, _, _, _, _, h, _⟩ := h; rw [h]; rfl) | (obtain ⟨_, _, _, _, _, _, _, _, _, _, _, h, _⟩ := h; rw [h]; rfl)) (fun am cdv A outer s H E hr => ?_)
  refine ⟨_, _, (pss_cons (ps_set (i := 2) sc__law_rows.nd rfl (Or.inl rfl) (pe_lst (pa_cons (pe_tup pa_nil) pa_nil))) (pss_cons (ps_for PassesOwn.never rfl (pi_range1 (by rfl) T.f_range (pa_cons (pv 1) pa_nil)) (pg_name (i := 3) sc__law_rows.nd rfl (Or.inl rfl)) (pss_cons (ps_set (i := 4) sc__law_rows.nd rfl (Or.inl rfl) (pe_lst pa_nil)) (pss_cons (ps_for PassesOwn.never rfl (Sq.pi_seq (pv 2)) (pg_name (i := 5) sc__law_rows.nd rfl (Or.inr rfl)) (pss_one (ps_set (i := 4) sc__law_rows.nd rfl (Or.inl rfl) (pe_op op_addX (pv 4) (pe_lc (own := [("_law_value", 6)]) rfl sc__law_rows.nd (pi_range1 (by rfl) T.f_range (pa_cons (pv 0) pa_nil)) (blkOk_by (N := N__law_rows) (own := [("_law_value", 6)]) (sc := defScope s__law_rows) (by decide +kernel)) (fun _ _ _ _ _ => (pg_name (i := 6) sc__law_rows.nd rfl (Or.inl rfl))) (fun _ _ _ _ _ => pts_nil) (fun _ _ _ _ _ => (pe_op (opK (K := K) (r := rAddX) rfl op_addX) (pv 5) (pe_tup (pa_cons (pv 6) pa_nil))))))))) (pss_one (ps_set (i := 2) sc__law_rows.nd rfl (Or.inl rfl) (pv 4)))))) (pss_one (ps_ret (pv 2))))), (by (try dsimp only [cxOf, Cx.nox, Cx.wish, Cx.blk, Cx.tr, Cx.suite]); exact inferInstance), fun args q h => ?_⟩
  obtain ⟨n, rfl, n2, n4, h⟩ := h
  have key : ∀ i : Nat, i ≤ 3 → n.toNat ^ i ≤ 64 := by
    intro i hi
    have : n.toNat ^ i ≤ 4 ^ 3 := Nat.le_trans (Nat.pow_le_pow_left (by omega) i) (Nat.pow_le_pow_right (by decide) hi)
    omega
  refine ⟨by simp, ⟨by simp, Or.inl ?_⟩⟩
  refine ⟨_, rfl, _, rfl, by decide, by decide, fun i sd => ∃ (ts : List (List Int)) (s3 s4 s5 : Sl), Rw n i (n.toNat ^ i) ts ∧ sd = [.d (.int n), .d (.int 3), .d (.lst (ts.map tupI)), s3, s4, s5, .no], ⟨[[]], _, _, _, ⟨rfl, fun t ht => by cases (List.mem_singleton.mp ht); exact ⟨rfl, fun x hx => by cases hx⟩⟩, rfl⟩, ?_, ?_⟩
  · rintro i _ _ hi ⟨ts, s3, s4, s5, hr1, rfl⟩
    obtain ⟨i3, rfl⟩ := ints0_at hi
    have i3 : i < 3 := i3
    refine ⟨by simp, Or.inl ?_⟩
    refine ⟨_, rfl, fun j sd => ∃ (us : List (List Int)) (s5 : Sl), Rw n (i + 1) (j * n.toNat) us ∧ sd = [.d (.int n), .d (.int 3), .d (.lst (ts.map tupI)), .d (.int i), .d (.lst (us.map tupI)), s5, .no], ⟨[], _, ⟨by simp, fun t ht => by cases ht⟩, rfl⟩, ?_, ?_⟩
    · rintro j _ _ hj ⟨us, s5, hr2, rfl⟩
      obtain ⟨t, ht, rfl, jl, tm⟩ := mapAt hj
      obtain ⟨t1, t2⟩ := hr1.ok t tm
      refine ⟨_, rfl, _, rfl, _, rfl, by omega, by omega, (fun j hj => hj), by rw [intsD_len]; omega, fun m acc sd => ∃ vs : List (List Int), Rw n (i + 1) m vs ∧ acc = vs.map tupI ∧ sd = [.d (.int n), .d (.int 3), .d (.lst (ts.map tupI)), .d (.int i), .d (.lst (us.map tupI)), .d (tupI t), .no], ⟨[], ⟨rfl, fun t ht => by cases ht⟩, rfl, rfl⟩, ?_, ?_⟩
      · rintro m _ _ _ hm ⟨vs, hr3, rfl, rfl⟩
        obtain ⟨ml, rfl⟩ := ints0_at hm
        refine ⟨_, rfl, _, rfl, by simp, ⟨by rw [List.length_map]; simp; omega, vs ++ [t ++ [(m : Int)]], ?_, ?_, rfl⟩⟩
        · refine ⟨by rw [List.length_append, hr3.cnt]; rfl, fun u hu => ?_⟩
          rcases List.mem_append.mp hu with z | z
          · exact hr3.ok u z
          · cases (List.mem_singleton.mp z)
            refine ⟨by rw [List.length_append, t1]; rfl, fun x hx => ?_⟩
            rcases List.mem_append.mp hx with y | y
            · exact t2 x y
            · cases (List.mem_singleton.mp y)
              omega
        · rw [List.map_append]
          show _ = _ ++ [tupI (t ++ [(m : Int)])]
          unfold tupI
          rw [List.map_append]
          rfl
      · rintro _ _ ⟨vs, hr3, rfl, rfl⟩
        rw [intsD_len] at hr3
        refine Or.inl ⟨?_, us ++ vs, _, ?_, by rw [List.map_append]; rfl⟩
        · rw [List.length_map, List.length_map, hr2.cnt, hr3.cnt]
          have q1 := key i (by omega)
          have q2 : j < 64 := by have := hr1.cnt; omega
          have q3 : j * n.toNat ≤ 64 * 4 := Nat.mul_le_mul (by omega) (by omega)
          omega
        · rw [Nat.succ_mul]
          exact hr2.more hr3
    · rintro _ ⟨us, s5, hr2, rfl⟩
      rw [List.length_map, hr1.cnt, ← Nat.pow_succ] at hr2
      exact ⟨_, rfl, us, _, _, _, hr2, rfl⟩
  · rintro _ ⟨ts, s3, s4, s5, hr1, rfl⟩
    rw [intsD_len] at hr1
    obtain ⟨us, u1, u2, u3⟩ := Rw.tri (c := n.toNat ^ 3) hr1
    refine ⟨_, rfl, trivial, ?_⟩
    rw [u3]
    refine h us ?_ u2
    rw [u1]
    rcases (by omega : n = 2 ∨ n = 3 ∨ n = 4) with rfl | rfl | rfl <;> rfl
def Φ__law_plain_cell : List Sl → (Sl → List Sl → Prop) → Prop := fun args k => ∃ (n b m y : Int), args = [.d (.int b), .d (.int m), .d (.int y)] ∧ In3 n (b, m, y) ∧ ∀ (c : Option Int), (∀ i, c = some i → 0 ≤ i ∧ i < n) → k (.d (oD c)) args
theorem ok__law_plain_cell {P : Program} {w : World} {K : PySem.W.Frag} {mg : Str → Option Value} {base : Heap} (T : Txt K mg) : FnOk P w K mg base CX0 1 (He.ga K "_law_plain_cell") (fdAt K (He.ga K "_law_plain_cell")) ["_law_base", "_law_mine", "_law_yours"] (spD K Φ__law_plain_cell) := by
  refine okP T.F__law_plain_cell sc__law_plain_cell (fun args k h => by first | (obtain ⟨_, h, _⟩ := h; rw [h]; rfl) | (obtain ⟨_, _, h, _⟩ := h; rw [h]; rfl) | (obtain ⟨_, _, _, h, _⟩ := h; rw [h]; rfl) | (obtain ⟨_, _, _, _, h, _⟩ := h; rw [h]; rfl) | (obtain ⟨_, _, _, _, _, h, _⟩ := h; rw [h]; rfl) | (obtain ⟨_, _, _, _, _, _, h, _⟩ := h; rw [h]; rfl) | (obtain ⟨_, _, _, _, _, _, _, h, _⟩ := h; rw [h]; rfl) | (obtain ⟨_, _, _, _, _, _, _, _, h, _⟩ := h; rw [h]; rfl) | (obtain ⟨_, _, _, _, _, _, _, _, _, h, _⟩ := h; rw [h]; rfl) | (obtain ⟨_, _, _, _, _, _, _, _, _, _, h, _⟩ := h; rw [h]; rfl) | (obtain ⟨_, _, _, _, _, _, _, _, _, _, _, h, _⟩ := h; rw [h]; rfl)) (fun am cdv A outer s H E hr => ?_)
  refine ⟨_, _, (pss_cons (ps_if (PW.pt (pw_or (pt_cmpR (op_eqX hr.units) (pv 1) (pv 2) (nomark _)) (pw_or1 (pt_cmpR (op_eqX hr.units) (pv 2) (pv 0) (nomark _))))) (pss_one (ps_ret (pv 1))) pss_nil) (pss_one (ps_ret (pe_ifExp (pt_cmpR (op_eqX hr.units) (pv 1) (pv 0) (nomark _)) (pv 2) pe_non)))), (by (try dsimp only [cxOf, Cx.nox, Cx.wish, Cx.blk, Cx.tr, Cx.suite]); exact inferInstance), fun args q h => ?_⟩
  obtain ⟨n, b, m, y, rfl, hi, h⟩ := h
  obtain ⟨b0, b1, m0, m1, y0, y1⟩ := hi
  have mk : ∀ i : Int, 0 ≤ i → i < n → ∀ j, (some i : Option Int) = some j → 0 ≤ j ∧ j < n := fun i h0 h1 j e => by cases e; exact ⟨h0, h1⟩
  refine ⟨_, rfl, _, rfl, Or.inl rfl, _, rfl, ?_⟩
  have r1 : dRetV 1 (endF [.d (.int b), .d (.int m), .d (.int y)] q) [.d (.int b), .d (.int m), .d (.int y)] := ⟨_, rfl, trivial, h (some m) (mk m m0 m1)⟩
  have r2 : dRet (dIf (dTest (dOp fEq (dVar 1) (dVar 0))) (dVar 2) (dC D.non)) (endF [.d (.int b), .d (.int m), .d (.int y)] q) [.d (.int b), .d (.int m), .d (.int y)] := by
    refine ⟨_, rfl, _, rfl, Or.inl rfl, _, rfl, ?_⟩
    refine ite_b (fun c1 => ?_) (fun c1 => ?_)
    · exact ⟨_, rfl, trivial, h (some y) (mk y y0 y1)⟩
    · exact ⟨trivial, h none (fun i e => by cases e)⟩
  refine ite_b (fun c1 => ?_) (fun c1 => ?_)
  · exact r1
  · refine ⟨_, rfl, _, rfl, Or.inl rfl, _, rfl, ?_⟩
    refine ite_b (fun c1 => ?_) (fun c1 => ?_)
    · exact r1
    · exact r2
def Φ__law_table : List Sl → (Sl → List Sl → Prop) → Prop := fun args k => ∃ (r : Addr) (row : OD) (most : Int), args = [.own r row, .d (.int most)] ∧ RowOk row ∧ 0 < most ∧ most ≤ 4 ∧ ∀ n cs row', TabOk n cs → RowOk row' → k (.d (tabD n cs)) [.own r row', .d (.int most)]
theorem ok__law_table {P : Program} {w : World} {K : PySem.W.Frag} {mg : Str → Option Value} {base : Heap} (T : Txt K mg) : FnOk P w K mg base CX0 2 (He.ga K "_law_table") (fdAt K (He.ga K "_law_table")) ["_law_row", "_law_most"] (spD K Φ__law_table) := by
  have G__law_rows := ok__law_rows (P := P) (w := w) (base := base) T
  have G__law_pick := ok__law_pick (P := P) (w := w) (base := base) T
  have G__law_plain_cell := ok__law_plain_cell (P := P) (w := w) (base := base) T
  refine okP T.F__law_table sc__law_table (fun args k h => by first | (obtain ⟨_, h, _⟩ := h; rw [h]; rfl) | (obtain ⟨_, _, h, _⟩ := h; rw [h]; rfl) | (obtain ⟨_, _, _, h, _⟩ := h; rw [h]; rfl) | (obtain ⟨_, _, _, _, h, _⟩ := h; rw [h]; rfl) | (obtain ⟨_, _, _, _, _, h, _⟩ := h; rw [h]; rfl) | (obtain ⟨_, _, _, _, _, _, h, _⟩ := h; rw [h]; rfl) | (obtain ⟨_, _, _, _, _, _, _, h, _⟩ := h; rw [h]; rfl) | (obtain ⟨_, _, _, _, _, _, _, _, h, _⟩ := h; rw [h]; rfl) | (obtain ⟨_, _, _, _, _, _, _, _, _, h, _⟩ := h; rw [h]; rfl) | (obtain ⟨_, _, _, _, _, _, _, _, _, _, h, _⟩ := h; rw [h]; rfl) | (obtain ⟨_, _, _, _, _, _, _, _, _, _, _, h, _⟩ := h; rw [h]; rfl)) (fun am cdv A outer s H E hr => ?_)
  have hr__law_rows := hr.mono (show 1 ≤ 1 by decide)
  have b__law_rows : Binds K (fdAt K (He.ga K "_law_rows")) ["_law_n", "_law_many"] [] := T.F__law_rows.bindsN fun _ _ _ _ _ _ us hl => match us, hl with | [_, _], _ => rfl
  have hr__law_pick := hr.mono (show 1 ≤ 1 by decide)
  have b__law_pick : Binds K (fdAt K (He.ga K "_law_pick")) ["_law_row", "_law_many"] [] := T.F__law_pick.bindsN fun _ _ _ _ _ _ us hl => match us, hl with | [_, _], _ => rfl
  have hr__law_plain_cell := hr.mono (show 1 ≤ 1 by decide)
  have b__law_plain_cell : Binds K (fdAt K (He.ga K "_law_plain_cell")) ["_law_base", "_law_mine", "_law_yours"] [] := T.F__law_plain_cell.bindsN fun _ _ _ _ _ _ us hl => match us, hl with | [_, _, _], _ => rfl
  refine ⟨_, _, (pss_cons (ps_set (i := 2) sc__law_table.nd rfl (Or.inr rfl) (pe_op op_addX pe_int (pe_callB (call_maxX rfl) (by rfl) T.f_max (by decide +kernel) (pa_cons pe_int (pa_cons (pe_op op_sub (pe_call G__law_pick hr__law_pick (by rfl) T.g__law_pick T.F__law_pick.kp b__law_pick .nil pass0 (pa_cons (pv 0) (pa_cons (pv 1) pa_nil))) pe_int) pa_nil))))) (pss_cons (ps_par (i := 6) (j := 4) (by rfl) sc__law_table.nd rfl rfl (by decide) rfl rfl (pa_cons (pe_call G__law_pick hr__law_pick (by rfl) T.g__law_pick T.F__law_pick.kp b__law_pick .nil pass0 (pa_cons (pv 0) (pa_cons pe_int pa_nil))) (pa_cons (pe_tup pa_nil) pa_nil)) (by rfl)) (pss_cons (ps_setLc (i := 3) (own := [("_law_k", 5)]) rfl sc__law_table.nd rfl rfl (sw_true rfl rfl rfl (by decide +kernel)) (pi_range1 (by rfl) T.f_range (pa_cons (pe_op op_mulX (pv 2) (pv 2)) pa_nil)) (blkOk_by (N := N__law_table) (own := [("_law_k", 5)]) (sc := defScope s__law_table) (by decide +kernel)) (fun _ _ _ _ _ => (pg_name (i := 5) sc__law_table.nd rfl (Or.inl rfl))) (fun _ _ _ _ _ => pts_nil) (fun _ _ _ _ _ => (pe_call G__law_pick hr__law_pick (by rfl) T.g__law_pick T.F__law_pick.kp b__law_pick .nil pass0 (pa_cons (pv 0) (pa_cons (pv 2) pa_nil))))) (pss_cons (ps_for PassesOwn.never rfl (Sq.pi_seq (pe_call G__law_rows hr__law_rows (by rfl) T.g__law_rows T.F__law_rows.kp b__law_rows .nil pass0 (pa_cons (pv 2) (pa_cons pe_int pa_nil)))) (pg_tup (n := 3) rfl (pgs_cons (pg_name (i := 7) sc__law_table.nd rfl (Or.inl rfl)) (pgs_cons (pg_name (i := 8) sc__law_table.nd rfl (Or.inl rfl)) (pgs_cons (pg_name (i := 9) sc__law_table.nd rfl (Or.inl rfl)) pgs_nil)))) (pss_cons (ps_set (i := 10) sc__law_table.nd rfl (Or.inl rfl) (pe_ix ix_seq (pe_lst (pa_cons (pv 8) (pa_cons (pv 9) (pa_cons (pe_callB (call_maxX rfl) (by rfl) T.f_max (by decide +kernel) (pa_cons (pv 8) (pa_cons (pv 9) pa_nil))) (pa_cons (pv 7) (pa_cons (pe_ix ix_seq (pv 3) (pe_op op_addX (pe_op op_mulX (pv 8) (pv 2)) (pv 9)) (fun _ _ => rfl)) (pa_cons pe_non (pa_cons pe_non pa_nil)))))))) (pv 6) (fun _ _ => rfl))) (pss_cons (ps_if (pt_cmpR (op_eqX hr.units) (pv 6) pe_int (nomark _)) (pss_one (ps_set (i := 10) sc__law_table.nd rfl (Or.inl rfl) (pe_call G__law_pick hr__law_pick (by rfl) T.g__law_pick T.F__law_pick.kp b__law_pick .nil pass0 (pa_cons (pv 0) (pa_cons (pe_op op_addX (pv 2) pe_int) pa_nil))))) (pss_one (ps_if (pt_cmpR (op_eqX hr.units) (pv 6) pe_int (nomark _)) (pss_one (ps_set (i := 10) sc__law_table.nd rfl (Or.inl rfl) (pe_call G__law_plain_cell hr__law_plain_cell (by rfl) T.g__law_plain_cell T.F__law_plain_cell.kp b__law_plain_cell .nil pass0 (pa_cons (pv 7) (pa_cons (pv 8) (pa_cons (pv 9) pa_nil)))))) pss_nil))) (pss_one (ps_set (i := 4) sc__law_table.nd rfl (Or.inl rfl) (pe_op op_addX (pv 4) (pe_tup (pa_cons (pv 10) pa_nil)))))))) (pss_cons (ps_set (i := 4) sc__law_table.nd rfl (Or.inl rfl) (pe_callTy call_tupX (by rfl) T.f_tuple (by decide +kernel) (pa_cons (pe_lc (own := [("_law_cell", 10)]) rfl sc__law_table.nd (Sq.pi_seq (pv 4)) (blkOk_by (N := N__law_table) (own := [("_law_cell", 10)]) (sc := defScope s__law_table) (by decide +kernel)) (fun _ _ _ _ _ => (pg_name (i := 10) sc__law_table.nd rfl (Or.inl rfl))) (fun _ _ _ _ _ => pts_nil) (fun _ _ _ _ _ => (pe_ifExp (pt_cmpR (opK (K := K) (r := rEqX) rfl (op_eqX hr.units)) (pv 10) (pv 2) (nomark _)) pe_non (pv 10)))) pa_nil))) (pss_cons (ps_for PassesOwn.never rfl (pi_range1 (by rfl) T.f_range (pa_cons (pe_callB (call_maxX rfl) (by rfl) T.f_max (by decide +kernel) (pa_cons pe_int (pa_cons (pe_op op_sub (pe_call G__law_pick hr__law_pick (by rfl) T.g__law_pick T.F__law_pick.kp b__law_pick .nil pass0 (pa_cons (pv 0) (pa_cons pe_int pa_nil))) pe_int) pa_nil))) pa_nil)) (pg_name (i := 5) sc__law_table.nd rfl (Or.inl rfl)) (pss_cons (ps_set (i := 11) sc__law_table.nd rfl (Or.inl rfl) (pe_call G__law_pick hr__law_pick (by rfl) T.g__law_pick T.F__law_pick.kp b__law_pick .nil pass0 (pa_cons (pv 0) (pa_cons (pe_callB call_lenX (by rfl) T.f_len PySem.boot_len (pa_cons (pv 4) pa_nil)) pa_nil)))) (pss_one (ps_set (i := 4) sc__law_table.nd rfl (Or.inl rfl) (pe_op op_addX (pe_op op_addX (pe_slice sl_X (pv 4) po_none (po_some (pv 11))) (pe_tup (pa_cons (pe_ix ix_seq (pe_lst (pa_cons pe_non (pa_cons pe_int (pa_cons pe_int (pa_cons (pe_op op_sub (pv 2) pe_int) pa_nil))))) (pe_call G__law_pick hr__law_pick (by rfl) T.g__law_pick T.F__law_pick.kp b__law_pick .nil pass0 (pa_cons (pv 0) (pa_cons pe_int pa_nil))) (fun _ _ => rfl)) pa_nil))) (pe_slice sl_X (pv 4) (po_some (pe_op op_addX (pv 11) pe_int)) po_none)))))) (pss_one (ps_ret (pe_disp (pps_cons pe_str (pv 2) (pps_cons pe_str (pv 4) pps_nil)) (by rfl) (by rfl) (fun z => by cases z) (by decide)))))))))), (by (try dsimp only [cxOf, Cx.nox, Cx.wish, Cx.blk, Cx.tr, Cx.suite]); exact inferInstance), fun args q h => ?_⟩
  obtain ⟨r, row, most, rfl, hrow, m0, m1, h⟩ := h
  refine sq (fun sd => ∃ (n : Int) (row1 : OD), 2 ≤ n ∧ n ≤ 4 ∧ RowOk row1 ∧ sd = [.own r row1, .d (.int most), .d (.int n), .no, .no, .no, .no, .no, .no, .no, .no, .no]) (fun B hB => ?_) ?_
  · exact ⟨_, rfl, _, rfl, ok1 rfl rfl, r, row, most, rfl, hrow, m0, by omega, fun i row1 i0 i1 hr1 => hB _ ⟨_, row1, by split <;> omega, by split <;> omega, hr1, rfl⟩⟩
  rintro _ ⟨n, row1, n2, n4, hr1, rfl⟩
  refine sq (fun sd => ∃ (kind : Int) (row1 : OD), 0 ≤ kind ∧ kind < 7 ∧ RowOk row1 ∧ sd = [.own r row1, .d (.int most), .d (.int n), .no, .d (.tup []), .no, .d (.int kind), .no, .no, .no, .no, .no]) (fun B hB => ?_) ?_
  · exact ⟨_, rfl, ok1 rfl rfl, r, row1, 7, rfl, hr1, by decide, by decide, fun i row2 i0 i1 hr2 => ⟨by simp, _, _, rfl, hB _ ⟨i, row2, i0, i1, hr2, rfl⟩⟩⟩
  rintro _ ⟨kind, row1, k0, k7, hr1, rfl⟩
  have nn : 0 ≤ n * n ∧ n * n ≤ 16 := by rcases (by omega : n = 2 ∨ n = 3 ∨ n = 4) with rfl | rfl | rfl <;> decide
  have nnn : 0 ≤ n * n * n ∧ n * n * n ≤ 64 := by rcases (by omega : n = 2 ∨ n = 3 ∨ n = 4) with rfl | rfl | rfl <;> decide
  refine sq (fun sd => ∃ (os : List Int) (row1 : OD), (os.length : Int) = n * n ∧ (∀ x ∈ os, 0 ≤ x ∧ x < n) ∧ RowOk row1 ∧ sd = [.own r row1, .d (.int most), .d (.int n), .d (.lst (os.map D.int)), .d (.tup []), .no, .d (.int kind), .no, .no, .no, .no, .no]) (fun B hB => ?_) ?_
  · refine ⟨_, rfl, _, rfl, ⟨cmul_r (by omega) (by omega), n * n, rfl, by omega, by omega, (fun j hj => hj), by rw [intsD_len]; omega, fun i acc sd => ∃ (os : List Int) (row1 : OD), os.length = i ∧ (∀ x ∈ os, 0 ≤ x ∧ x < n) ∧ acc = os.map D.int ∧ RowOk row1 ∧ sd = [.own r row1, .d (.int most), .d (.int n), .no, .d (.tup []), .no, .d (.int kind), .no, .no, .no, .no, .no], ⟨[], row1, rfl, (fun x hx => by cases hx), rfl, hr1, rfl⟩, ?_, ?_⟩⟩
    · rintro i _ _ _ hi ⟨os, row2, o1, o2, rfl, hr2, rfl⟩
      refine ⟨_, rfl, _, rfl, ok1 rfl rfl, r, row2, n, rfl, hr2, by omega, by omega, fun j row3 j0 j1 hr3 => ⟨os ++ [j], row3, by rw [List.length_append, o1]; rfl, fun x hx => ?_, by rw [List.map_append]; rfl, hr3, rfl⟩⟩
      rcases List.mem_append.mp hx with z | z
      · exact o2 x z
      · cases (List.mem_singleton.mp z)
        exact ⟨j0, j1⟩
    · rintro _ _ ⟨os, row2, o1, o2, rfl, hr2, rfl⟩
      rw [intsD_len] at o1
      exact Or.inl (hB _ ⟨os, row2, by omega, o2, hr2, rfl⟩)
  rintro _ ⟨os, row1, o1, o2, hr1, rfl⟩
  refine sq (fun sd => ∃ (ps : List (Option Int)) (row1 : OD) (s7 s8 s9 s10 : Sl), (ps.length : Int) = n * n * n ∧ CellP (n + 1) ps ∧ RowOk row1 ∧ sd = [.own r row1, .d (.int most), .d (.int n), .d (.lst (os.map D.int)), .d (.tup (ps.map oD)), .no, .d (.int kind), s7, s8, s9, s10, .no]) (fun B hB => ?_) ?_
  · refine ⟨_, rfl, ok0 rfl, n, rfl, n2, n4, fun ts tl tin => ⟨fun i sd => ∃ (ps : List (Option Int)) (row1 : OD) (s7 s8 s9 s10 : Sl), ps.length = i ∧ CellP (n + 1) ps ∧ RowOk row1 ∧ sd = [.own r row1, .d (.int most), .d (.int n), .d (.lst (os.map D.int)), .d (.tup (ps.map oD)), .no, .d (.int kind), s7, s8, s9, s10, .no], ⟨[], row1, _, _, _, _, rfl, (fun c hc => by cases hc), hr1, rfl⟩, ?_, ?_⟩⟩
    · rintro i _ _ hi ⟨ps, row2, s7, s8, s9, s10, p1, p2, hr2, rfl⟩
      obtain ⟨⟨b, m, y⟩, ht, rfl, il, tm⟩ := mapAt hi
      obtain ⟨b0, b1, m0', m1', y0, y1⟩ := tin _ tm
      have b0 : 0 ≤ b := b0
      have b1 : b < n := b1
      have m0' : 0 ≤ m := m0'
      have m1' : m < n := m1'
      have y0 : 0 ≤ y := y0
      have y1 : y < n := y1
      refine ⟨rfl, rfl, ?_⟩
      refine sq (fun sd => ∃ c : Option Int, (∀ j, c = some j → 0 ≤ j ∧ j < n + 1) ∧ sd = [.own r row2, .d (.int most), .d (.int n), .d (.lst (os.map D.int)), .d (.tup (ps.map oD)), .no, .d (.int kind), .d (.int b), .d (.int m), .d (.int y), .d (oD c), .no]) (fun B hB => ?_) ?_
      · have lt : 0 ≤ m * n + y ∧ m * n + y < n * n := by
          rcases (by omega : n = 2 ∨ n = 3 ∨ n = 4) with rfl | rfl | rfl <;> omega
        have il2 : (m * n + y).toNat < os.length := by omega
        have oo := o2 _ (List.getElem_mem il2)
        have ao : atI (os.map D.int) (m * n + y) = some (.int (os[(m * n + y).toNat]'il2)) := atI_ok (j := (m * n + y).toNat) (by omega) (by rw [List.getElem?_map, List.getElem?_eq_getElem il2]; rfl)
        have pick : ∃ c, atI [D.int m, .int y, .int (if y > m then y else m), .int b, .int (os[(m * n + y).toNat]'il2), .non, .non] kind = some (oD c) ∧ ∀ j, c = some j → 0 ≤ j ∧ j < n + 1 := by
          rcases (by omega : kind = 0 ∨ kind = 1 ∨ kind = 2 ∨ kind = 3 ∨ kind = 4 ∨ kind = 5 ∨ kind = 6) with rfl | rfl | rfl | rfl | rfl | rfl | rfl
          · exact ⟨some m, rfl, cellI (by omega) (by omega)⟩
          · exact ⟨some y, rfl, cellI (by omega) (by omega)⟩
          · exact ⟨some (if y > m then y else m), rfl, cellI (by split <;> omega) (by split <;> omega)⟩
          · exact ⟨some b, rfl, cellI (by omega) (by omega)⟩
          · exact ⟨some _, rfl, cellI (by omega) (by omega)⟩
          · exact ⟨none, rfl, cellN⟩
          · exact ⟨none, rfl, cellN⟩
        obtain ⟨c, c1, c2⟩ := pick
        exact ⟨_, rfl, _, rfl, _, rfl, _, rfl, _, rfl, _, rfl, _, rfl, _, rfl, ⟨cmul_r (by omega) (by omega), _, rfl, _, ao, ⟨by simp, _, rfl, _, c1, hB _ ⟨c, c2, rfl⟩⟩⟩⟩
      rintro _ ⟨c, hc, rfl⟩
      refine sq (fun sd => ∃ (c : Option Int) (row2 : OD), (∀ j, c = some j → 0 ≤ j ∧ j < n + 1) ∧ RowOk row2 ∧ sd = [.own r row2, .d (.int most), .d (.int n), .d (.lst (os.map D.int)), .d (.tup (ps.map oD)), .no, .d (.int kind), .d (.int b), .d (.int m), .d (.int y), .d (oD c), .no]) (fun B hB => ?_) ?_
      · refine ⟨_, rfl, Or.inl rfl, _, rfl, ite_b (fun _ => ?_) (fun _ => ?_)⟩
        · exact ⟨_, rfl, _, rfl, ok1 rfl rfl, r, row2, n + 1, rfl, hr2, by omega, by omega, fun j row3 j0 j1 hr3 => hB _ ⟨some j, row3, cellI j0 j1, hr3, rfl⟩⟩
        · refine ⟨_, rfl, Or.inl rfl, _, rfl, ite_b (fun _ => ?_) (fun _ => ?_)⟩
          · exact ⟨_, rfl, _, rfl, _, rfl, ok0 rfl, n, b, m, y, rfl, ⟨b0, b1, m0', m1', y0, y1⟩, fun c2 hc2 => hB _ ⟨c2, row2, fun j e => by have := hc2 j e; omega, hr2, rfl⟩⟩
          · exact hB _ ⟨c, row2, hc, hr2, rfl⟩
      rintro _ ⟨c, row2, hc, hr2, rfl⟩
      refine ⟨_, rfl, _, rfl, by simp, ?_, ps ++ [c], row2, _, _, _, _, by rw [List.length_append, p1]; rfl, p2.more (.one hc), hr2, by rw [List.map_append]; rfl⟩
      rw [List.length_map, p1]
      simp
      omega
    · rintro _ ⟨ps, row2, s7, s8, s9, s10, p1, p2, hr2, rfl⟩
      rw [List.length_map] at p1
      exact hB _ ⟨ps, row2, _, _, _, _, by rw [p1]; exact tl, p2, hr2, rfl⟩
  rintro _ ⟨ps, row1, s7, s8, s9, s10, p1, p2, hr1, rfl⟩
  refine sq (fun sd => ∃ (ps : List (Option Int)), (ps.length : Int) = n * n * n ∧ CellP n ps ∧ sd = [.own r row1, .d (.int most), .d (.int n), .d (.lst (os.map D.int)), .d (.tup (ps.map oD)), .no, .d (.int kind), s7, s8, s9, .no, .no]) (fun B hB => ?_) ?_
  · refine ⟨_, rfl, (fun j hj => hj), by rw [List.length_map]; omega, fun i acc sd => ∃ qs : List (Option Int), qs.length = i ∧ CellP n qs ∧ acc = qs.map oD ∧ sd = [.own r row1, .d (.int most), .d (.int n), .d (.lst (os.map D.int)), .d (.tup (ps.map oD)), .no, .d (.int kind), s7, s8, s9, .no, .no], ⟨[], rfl, (fun c hc => by cases hc), rfl, rfl⟩, ?_, ?_⟩
    · rintro i _ _ _ hi ⟨qs, q1, q2, rfl, rfl⟩
      obtain ⟨c, hc, rfl, il, cm⟩ := mapAt hi
      refine ⟨_, rfl, _, rfl, Or.inl (oD_scal c (some n)), _, rfl, ite_b (fun e => ?_) (fun e => ?_)⟩
      · exact ⟨qs ++ [none], by rw [List.length_append, q1]; rfl, q2.more (.one cellN), by rw [List.map_append]; rfl, rfl⟩
      · rw [show D.int n = oD (some n) from rfl, oD_eq] at e
        have e := of_decide_eq_false e
        refine ⟨_, rfl, qs ++ [c], by rw [List.length_append, q1]; rfl, q2.more (.one fun j hj => ?_), by rw [List.map_append]; rfl, rfl⟩
        have h1 := p2 c cm j hj
        have h2 : j ≠ n := fun z => e (by rw [hj, z])
        omega
    · rintro _ _ ⟨qs, q1, q2, rfl, rfl⟩
      rw [List.length_map] at q1
      exact Or.inl (hB _ ⟨qs, by rw [q1]; exact p1, q2, rfl⟩)
  clear p1 p2 ps
  rintro _ ⟨ps, p1, p2, rfl⟩
  refine sq (fun sd => ∃ (ps : List (Option Int)) (row1 : OD) (s5 s11 : Sl), (ps.length : Int) = n * n * n ∧ CellP n ps ∧ RowOk row1 ∧ sd = [.own r row1, .d (.int most), .d (.int n), .d (.lst (os.map D.int)), .d (.tup (ps.map oD)), s5, .d (.int kind), s7, s8, s9, .no, s11]) (fun B hB => ?_) ?_
  · refine ⟨_, rfl, ok1 rfl rfl, r, row1, 5, rfl, hr1, by decide, by decide, fun i row2 i0 i1 hr2 => ⟨_, rfl, by split <;> omega, by split <;> omega, fun i sd => ∃ (ps : List (Option Int)) (row1 : OD) (s5 s11 : Sl), (ps.length : Int) = n * n * n ∧ CellP n ps ∧ RowOk row1 ∧ sd = [.own r row1, .d (.int most), .d (.int n), .d (.lst (os.map D.int)), .d (.tup (ps.map oD)), s5, .d (.int kind), s7, s8, s9, .no, s11], ⟨ps, row2, _, _, p1, p2, hr2, rfl⟩, ?_, ?_⟩⟩
    · clear p1 p2 hr1 ps
      rintro i x _ hi ⟨ps, row3, s5, s11, p1, p2, hr3, rfl⟩
      obtain ⟨_, rfl⟩ := ints0_at hi
      have p0 : 0 < n * n * n := by rcases (by omega : n = 2 ∨ n = 3 ∨ n = 4) with rfl | rfl | rfl <;> decide
      refine sq (fun sd => ∃ (spot : Int) (row3 : OD), 0 ≤ spot ∧ spot < n * n * n ∧ RowOk row3 ∧ sd = [.own r row3, .d (.int most), .d (.int n), .d (.lst (os.map D.int)), .d (.tup (ps.map oD)), .d (.int i), .d (.int kind), s7, s8, s9, .no, .d (.int spot)]) (fun B hB => ?_) ?_
      · exact ⟨_, rfl, _, rfl, _, rfl, ok1 rfl rfl, r, row3, _, rfl, hr3, by rw [List.length_map]; omega, by rw [List.length_map]; omega, fun j row4 j0 j1 hr4 => hB _ ⟨j, row4, j0, by rw [List.length_map] at j1; omega, hr4, rfl⟩⟩
      rintro _ ⟨spot, row3, t0, t1, hr3, rfl⟩
      refine ⟨_, rfl, _, rfl, _, rfl, _, rfl, by simp, _, rfl, ok1 rfl rfl, r, row3, 4, rfl, hr3, by decide, by decide, fun j row4 j0 j1 hr4 => ?_⟩
      have pick : ∃ c, atI [D.non, .int 0, .int 1, .int (n - 1)] j = some (oD c) ∧ ∀ j, c = some j → 0 ≤ j ∧ j < n := by
        rcases (by omega : j = 0 ∨ j = 1 ∨ j = 2 ∨ j = 3) with rfl | rfl | rfl | rfl
        · exact ⟨none, rfl, cellN⟩
        · exact ⟨some 0, rfl, cellI (by omega) (by omega)⟩
        · exact ⟨some 1, rfl, cellI (by omega) (by omega)⟩
        · exact ⟨some (n - 1), rfl, cellI (by omega) (by omega)⟩
      obtain ⟨c, c1, c2⟩ := pick
      have e1 : cutD (ps.map oD) none (some spot) = (ps.take spot.toNat).map oD := by rw [cut_to (j := spot.toNat) (by omega), List.map_take]
      have e2 : cutD (ps.map oD) (some (spot + 1)) none = (ps.drop (spot.toNat + 1)).map oD := by rw [cut_from (j := spot.toNat + 1) (by omega), List.map_drop]
      refine ⟨_, c1, by simp, ?_, _, rfl, _, rfl, _, rfl, ?_, (ps.take spot.toNat ++ [c]) ++ ps.drop (spot.toNat + 1), row4, .d (.int i), .d (.int spot), ?_, ?_, hr4, ?_⟩
      · rw [e1]
        simp
        omega
      · rw [e1, e2]
        simp
        omega
      · simp
        omega
      · exact (CellP.more (fun c hc => p2 c (List.mem_of_mem_take hc)) (.one c2)).more (fun c hc => p2 c (List.mem_of_mem_drop hc))
      · rw [e1, e2, List.map_append, List.map_append]
        rfl
    · rintro _ ⟨ps, row3, s5, s11, p1, p2, hr3, rfl⟩
      exact hB _ ⟨ps, row3, _, _, p1, p2, hr3, rfl⟩
  rintro _ ⟨ps, row1, s5, s11, p1, p2, hr1, rfl⟩
  refine ⟨_, rfl, _, rfl, _, rfl, by simp, Or.inl ⟨⟨rfl, trivial⟩, ?_⟩⟩
  have := h n ps row1 ⟨n2, n4, p1, p2⟩ hr1
  exact this
def objT (K : PySem.W.Frag) (n : Int) (cs : List (Option Int)) : D := .obj (He.ga K "Table") [("many", .int n), ("rows", .tup (cs.map oD))]
def atC (n : Int) (cs : List (Option Int)) (b : Int) : Option Int → Option Int → Option Int
  | some m, some y => (cs[((b * n + m) * n + y).toNat]?).getD none
  | _, _ => none
theorem lkM (x y : D) : List.lookup ("many" : Str) [("many", x), ("rows", y)] = some x := rfl
theorem lkR (x y : D) : List.lookup ("rows" : Str) [("many", x), ("rows", y)] = some y := rfl
theorem cell_ok {n : Int} {c : Option Int} (h : ∀ i, c = some i → 0 ≤ i ∧ i < n) : cellD n (oD c) = true := by
  cases e : c with
  | none => rfl
  | some i =>
    have := h i e
    exact fromD_t this.1 (by omega)
theorem TabOk.nnn {n : Int} {cs : List (Option Int)} (h : TabOk n cs) : 0 < n * n * n ∧ n * n * n ≤ 64 := by
  have h1 := h.n2
  have h2 := h.n4
  rcases (by omega : n = 2 ∨ n = 3 ∨ n = 4) with rfl | rfl | rfl <;> decide
theorem TabOk.ix {n b m y : Int} {cs : List (Option Int)} (h : TabOk n cs) (hi : In3 n (b, m, y)) : 0 ≤ (b * n + m) * n + y ∧ ((b * n + m) * n + y).toNat < cs.length := by
  obtain ⟨b0, b1, m0, m1, y0, y1⟩ := hi
  have b0 : 0 ≤ b := b0
  have b1 : b < n := b1
  have m0 : 0 ≤ m := m0
  have m1 : m < n := m1
  have y0 : 0 ≤ y := y0
  have y1 : y < n := y1
  have h1 := h.n2
  have h2 := h.n4
  have hl := h.len
  have lt : 0 ≤ (b * n + m) * n + y ∧ (b * n + m) * n + y < n * n * n := by
    rcases (by omega : n = 2 ∨ n = 3 ∨ n = 4) with rfl | rfl | rfl <;> omega
  omega
theorem TabOk.at_ {n b m y : Int} {cs : List (Option Int)} (h : TabOk n cs) (hi : In3 n (b, m, y)) : atI (cs.map oD) ((b * n + m) * n + y) = some (oD (atC n cs b (some m) (some y))) := by
  obtain ⟨h1, h2⟩ := h.ix hi
  refine atI_ok (j := ((b * n + m) * n + y).toNat) (by omega) ?_
  have e := List.getElem?_eq_getElem h2
  rw [List.getElem?_map]
  show Option.map oD (cs[((b * n + m) * n + y).toNat]?) = some (oD ((cs[((b * n + m) * n + y).toNat]?).getD none))
  rw [e]
  rfl
def Φ_Table_init (K : PySem.W.Frag) : List Sl → (Sl → List Sl → Prop) → Prop := fun args k => ∃ (p : Addr) (n : Int) (cs : List (Option Int)), args = [.own p (.ins (He.ga K "Table") []), .d (.int n), .d (.tup (cs.map oD))] ∧ TabOk n cs ∧ k (.d .non) [.own p (.ins (He.ga K "Table") [("many", .int n), ("rows", .tup (cs.map oD))]), .d (.int n), .d (.tup (cs.map oD))]
theorem ok_Table_init {P : Program} {w : World} {K : PySem.W.Frag} {mg : Str → Option Value} {base : Heap} (T : Txt K mg) : FnOk P w K mg base CX0 3 (He.ma K (He.ga K "Table") "__init__") (fdAt K (He.ma K (He.ga K "Table") "__init__")) ["self", "size", "cells"] (spD K (Φ_Table_init K)) := by
  have G_is_from := ok_is_from (P := P) (w := w) (base := base) T
  have G_is_cell := ok_is_cell (P := P) (w := w) (base := base) T
  refine okP T.F_Table_init sc_Table_init (fun args k h => by first | (obtain ⟨_, h, _⟩ := h; rw [h]; rfl) | (obtain ⟨_, _, h, _⟩ := h; rw [h]; rfl) | (obtain ⟨_, _, _, h, _⟩ := h; rw [h]; rfl) | (obtain ⟨_, _, _, _, h, _⟩ := h; rw [h]; rfl) | (obtain ⟨_, _, _, _, _, h, _⟩ := h; rw [h]; rfl) | (obtain ⟨_, _, _, _, _, _, h, _⟩ := h; rw [h]; rfl) | (obtain ⟨_, _, _, _, _, _, _, h, _⟩ := h; rw [h]; rfl) | (obtain ⟨_, _, _, _, _, _, _, _, h, _⟩ := h; rw [h]; rfl) | (obtain ⟨_, _, _, _, _, _, _, _, _, h, _⟩ := h; rw [h]; rfl) | (obtain ⟨_, _, _, _, _, _, _, _, _, _, h, _⟩ := h; rw [h]; rfl) | (obtain ⟨_, _, _, _, _, _, _, _, _, _, _, h, _⟩ := h; rw [h]; rfl)) (fun am cdv A outer s H E hr => ?_)
  have hr_is_from := hr.mono (show 1 ≤ 2 by decide)
  have b_is_from : Binds K (fdAt K (He.ga K "is_from")) ["value", "low", "high"] [] := T.F_is_from.bindsN fun _ _ _ _ _ _ us hl => match us, hl with | [_, _, _], _ => rfl
  have hr_is_cell := hr.mono (show 2 ≤ 2 by decide)
  have b_is_cell : Binds K (fdAt K (He.ga K "is_cell")) ["size", "value"] [] := T.F_is_cell.bindsN fun _ _ _ _ _ _ us hl => match us, hl with | [_, _], _ => rfl
  refine ⟨_, _, (pss_cons (ps_if (pt_not (pt_val (pe_call G_is_from hr_is_from (by rfl) T.g_is_from T.F_is_from.kp b_is_from .nil pass0 (pa_cons (pv 1) (pa_cons (pe_gI (by rfl) T.c_LEAST_SIZE) (pa_cons (pe_gI (by rfl) T.c_MOST_SIZE) pa_nil)))))) (pss_one ps_never) pss_nil) (pss_cons (ps_if (PW.pt (pw_or (pt_not (pt_val (pe_callB call_isi (by rfl) T.f_isinstance (by decide +kernel) (pa_cons (pv 2) (pa_cons (pe_bltn (v := .ty "tuple") (by rfl) T.f_tuple (by decide +kernel) rfl) pa_nil))))) (pw_or1 (pt_cmpR (op_neX hr.units) (pe_callB call_lenX (by rfl) T.f_len PySem.boot_len (pa_cons (pv 2) pa_nil)) (pe_op op_mulX (pe_op op_mulX (pv 1) (pv 1)) (pv 1)) (nomark _))))) (pss_one ps_never) pss_nil) (pss_cons (ps_for PassesOwn.never rfl (Sq.pi_enS (by rfl) T.f_enumerate (pa_cons (pv 2) pa_nil)) (pg_tup (n := 2) rfl (pgs_cons (pg_name (i := 3) sc_Table_init.nd rfl (Or.inl rfl)) (pgs_cons (pg_name (i := 4) sc_Table_init.nd rfl (Or.inl rfl)) pgs_nil))) (pss_one (ps_if (pt_not (pt_val (pe_call G_is_cell hr_is_cell (by rfl) T.g_is_cell T.F_is_cell.kp b_is_cell .nil pass0 (pa_cons (pv 1) (pa_cons (pv 4) pa_nil))))) (pss_one ps_never) pss_nil))) (pss_cons (ps_fld (pv 0) (pv 1) (by rfl)) (pss_one (ps_fld (pv 0) (pv 2) (by rfl))))))), (by (try dsimp only [cxOf, Cx.nox, Cx.wish, Cx.blk, Cx.tr, Cx.suite]); exact inferInstance), fun args q h => ?_⟩
  obtain ⟨p, n, cs, rfl, ht, h⟩ := h
  have n2 := ht.n2
  have n4 := ht.n4
  refine sq (fun sd => sd = [.own p (.ins (He.ga K "Table") []), .d (.int n), .d (.tup (cs.map oD)), .no, .no]) (fun B hB => ?_) ?_
  · refine ⟨_, rfl, ok0 rfl, _, _, _, rfl, (fun z => nomatch z), _, rfl, ?_⟩
    rw [fromD_t n2 n4]
    exact hB _ rfl
  rintro _ rfl
  refine sq (fun sd => sd = [.own p (.ins (He.ga K "Table") []), .d (.int n), .d (.tup (cs.map oD)), .no, .no]) (fun B hB => ?_) ?_
  · refine ⟨_, rfl, _, isTupD_eq _ (by simp [tyD]), _, rfl, ⟨_, rfl, _, rfl, _, rfl, _, rfl, ⟨cmul_r (by omega) (by omega), _, rfl, ⟨cmul_r (by omega) (by omega), ⟨Or.inl rfl, _, rfl, ite_f ?_ (hB _ rfl)⟩⟩⟩⟩⟩
    rw [List.length_map, ht.len, eqD_int]
    simp
  rintro _ rfl
  refine sq (fun sd => ∃ a b : Sl, sd = [.own p (.ins (He.ga K "Table") []), .d (.int n), .d (.tup (cs.map oD)), a, b]) (fun B hB => ?_) ?_
  · refine ⟨_, rfl, _, rfl, fun i sd => ∃ a b : Sl, sd = [.own p (.ins (He.ga K "Table") []), .d (.int n), .d (.tup (cs.map oD)), a, b], ⟨_, _, rfl⟩, ?_, ?_⟩
    · rintro i _ _ hi ⟨a, b, rfl⟩
      obtain ⟨y, hy, rfl⟩ := enum_at hi
      obtain ⟨c, hc, rfl, il, cm⟩ := mapAt hy
      refine ⟨rfl, rfl, _, rfl, _, rfl, ok0 rfl, n, oD c, rfl, oD_ty c, _, rfl, ?_⟩
      rw [cell_ok (ht.ok c cm)]
      exact ⟨_, _, rfl⟩
    · rintro _ ⟨a, b, rfl⟩
      exact hB _ ⟨a, b, rfl⟩
  rintro _ ⟨a, b, rfl⟩
  refine ⟨_, rfl, p, _, [], rfl, ⟨T.cls_Table, T.na_Table_many⟩, by simp, _, rfl, p, _, _, rfl, ⟨T.cls_Table, T.na_Table_rows⟩, by simp [putFD], ⟨rfl, trivial⟩, h⟩
def Φ_at (K : PySem.W.Frag) : List Sl → (Sl → List Sl → Prop) → Prop := fun args k => ∃ (n : Int) (cs : List (Option Int)) (b m y : Int), args = [.d (objT K n cs), .d (.int b), .d (.int m), .d (.int y)] ∧ TabOk n cs ∧ In3 n (b, m, y) ∧ k (.d (oD (atC n cs b (some m) (some y)))) args
theorem ok_at {P : Program} {w : World} {K : PySem.W.Frag} {mg : Str → Option Value} {base : Heap} (T : Txt K mg) : FnOk P w K mg base CX0 1 (He.ga K "at") (fdAt K (He.ga K "at")) ["table", "base", "mine", "yours"] (spD K (Φ_at K)) := by
  refine okP T.F_at sc_at (fun args k h => by first | (obtain ⟨_, h, _⟩ := h; rw [h]; rfl) | (obtain ⟨_, _, h, _⟩ := h; rw [h]; rfl) | (obtain ⟨_, _, _, h, _⟩ := h; rw [h]; rfl) | (obtain ⟨_, _, _, _, h, _⟩ := h; rw [h]; rfl) | (obtain ⟨_, _, _, _, _, h, _⟩ := h; rw [h]; rfl) | (obtain ⟨_, _, _, _, _, _, h, _⟩ := h; rw [h]; rfl) | (obtain ⟨_, _, _, _, _, _, _, h, _⟩ := h; rw [h]; rfl) | (obtain ⟨_, _, _, _, _, _, _, _, h, _⟩ := h; rw [h]; rfl) | (obtain ⟨_, _, _, _, _, _, _, _, _, h, _⟩ := h; rw [h]; rfl) | (obtain ⟨_, _, _, _, _, _, _, _, _, _, h, _⟩ := h; rw [h]; rfl) | (obtain ⟨_, _, _, _, _, _, _, _, _, _, _, h, _⟩ := h; rw [h]; rfl)) (fun am cdv A outer s H E hr => ?_)
  refine ⟨_, _, (pss_one (ps_ret (pe_ix ix_seq (pe_fldK (K := K) rfl (pv 0) (by rfl)) (pe_op op_addX (pe_op op_mulX (pe_op op_addX (pe_op op_mulX (pv 1) (pe_fldK (K := K) rfl (pv 0) (by rfl))) (pv 2)) (pe_fldK (K := K) rfl (pv 0) (by rfl))) (pv 3)) (fun _ _ => rfl)))), (by (try dsimp only [cxOf, Cx.nox, Cx.wish, Cx.blk, Cx.tr, Cx.suite]); exact inferInstance), fun args q h => ?_⟩
  obtain ⟨n, cs, b, m, y, rfl, ht, hi, h⟩ := h
  refine ⟨_, rfl, _, _, _, rfl, ⟨T.cls_Table, T.na_Table_rows⟩, lkR _ _, _, rfl, _, rfl, _, _, _, rfl, ⟨T.cls_Table, T.na_Table_many⟩, lkM _ _, ⟨?_, _, rfl, _, rfl, _, _, _, rfl, ⟨T.cls_Table, T.na_Table_many⟩, lkM _ _, ⟨?_, _, rfl, _, ht.at_ hi, trivial, h⟩⟩⟩
  · exact cmul_r (by have := ht.n2; omega) (by have := ht.n4; omega)
  · exact cmul_r (by have := ht.n2; omega) (by have := ht.n4; omega)
def areF (n : Int) (many : Int) : D → Bool
  | .tup xs => decide ((xs.length : Int) = many) && xs.all (fromD 0 (n - 1))
  | _ => false
structure TyOk (x : D) : Prop where
  t : tyD x ≠ none
  k : ∀ xs, x ≠ .kt xs
  xs : ∀ xs, x = .tup xs → xs.length ≤ 1000000 ∧ ∀ y ∈ xs, tyD y ≠ none
def Φ_are_fields (K : PySem.W.Frag) : List Sl → (Sl → List Sl → Prop) → Prop := fun args k => ∃ (n : Int) (cs : List (Option Int)) (x : D) (many : Int), args = [.d (objT K n cs), .d x, .d (.int many)] ∧ TyOk x ∧ k (.d (.bl (areF n many x))) args
theorem ok_are_fields {P : Program} {w : World} {K : PySem.W.Frag} {mg : Str → Option Value} {base : Heap} (T : Txt K mg) : FnOk P w K mg base CX0 2 (He.ga K "are_fields") (fdAt K (He.ga K "are_fields")) ["table", "value", "many"] (spD K (Φ_are_fields K)) := by
  have G_is_from := ok_is_from (P := P) (w := w) (base := base) T
  refine okP T.F_are_fields sc_are_fields (fun args k h => by first | (obtain ⟨_, h, _⟩ := h; rw [h]; rfl) | (obtain ⟨_, _, h, _⟩ := h; rw [h]; rfl) | (obtain ⟨_, _, _, h, _⟩ := h; rw [h]; rfl) | (obtain ⟨_, _, _, _, h, _⟩ := h; rw [h]; rfl) | (obtain ⟨_, _, _, _, _, h, _⟩ := h; rw [h]; rfl) | (obtain ⟨_, _, _, _, _, _, h, _⟩ := h; rw [h]; rfl) | (obtain ⟨_, _, _, _, _, _, _, h, _⟩ := h; rw [h]; rfl) | (obtain ⟨_, _, _, _, _, _, _, _, h, _⟩ := h; rw [h]; rfl) | (obtain ⟨_, _, _, _, _, _, _, _, _, h, _⟩ := h; rw [h]; rfl) | (obtain ⟨_, _, _, _, _, _, _, _, _, _, h, _⟩ := h; rw [h]; rfl) | (obtain ⟨_, _, _, _, _, _, _, _, _, _, _, h, _⟩ := h; rw [h]; rfl)) (fun am cdv A outer s H E hr => ?_)
  have hr_is_from := hr.mono (show 1 ≤ 1 by decide)
  have b_is_from : Binds K (fdAt K (He.ga K "is_from")) ["value", "low", "high"] [] := T.F_is_from.bindsN fun _ _ _ _ _ _ us hl => match us, hl with | [_, _, _], _ => rfl
  refine ⟨_, _, (pss_cons (ps_if (PW.pt (pw_or (pt_not (pt_val (pe_callB call_isi (by rfl) T.f_isinstance (by decide +kernel) (pa_cons (pv 1) (pa_cons (pe_bltn (v := .ty "tuple") (by rfl) T.f_tuple (by decide +kernel) rfl) pa_nil))))) (pw_or1 (pt_cmpR (op_neX hr.units) (pe_callB call_lenX (by rfl) T.f_len PySem.boot_len (pa_cons (pv 1) pa_nil)) (pv 2) (nomark _))))) (pss_one (ps_ret pe_bl)) pss_nil) (pss_one (ps_ret (pe_callB (cr_all rfl) (by rfl) T.f_all (by decide +kernel) (pa_cons (pe_lc (own := [("one", 3)]) rfl sc_are_fields.nd (Sq.pi_seq (pv 1)) (blkOk_by (N := N_are_fields) (own := [("one", 3)]) (sc := defScope s_are_fields) (by decide +kernel)) (fun _ _ _ _ _ => (pg_name (i := 3) sc_are_fields.nd rfl (Or.inl rfl))) (fun _ _ _ _ _ => pts_nil) (fun _ _ _ _ _ => (pe_call G_is_from hr_is_from (by rfl) T.g_is_from T.F_is_from.kp b_is_from .nil pass0 (pa_cons (pv 3) (pa_cons pe_int (pa_cons (pe_op op_sub (pe_fldK (K := K) rfl (pv 0) (by rfl)) pe_int) pa_nil)))))) pa_nil))))), (by (try dsimp only [cxOf, Cx.nox, Cx.wish, Cx.blk, Cx.tr, Cx.suite]); exact inferInstance), fun args q h => ?_⟩
  obtain ⟨n, cs, x, many, rfl, ht, h⟩ := h
  refine ⟨_, rfl, _, isTupD_eq x ht.t, _, rfl, ?_⟩
  cases x with
  | tup xs =>
    obtain ⟨xl, xt⟩ := ht.xs xs rfl
    refine ⟨_, rfl, ⟨_, rfl, _, rfl, Or.inl rfl, _, rfl, ?_⟩⟩
    rw [eqD_int]
    by_cases c : (xs.length : Int) = many
    · refine ite_f (by simp [c]) ?_
      refine ⟨_, rfl, (fun j hj => hj), xl, fun i acc sd => sd = [.d (objT K n cs), .d (.tup xs), .d (.int many), .no] ∧ acc = ((xs.take i).map (fromD 0 (n - 1))).map D.bl, ⟨rfl, rfl⟩, ?_, ?_⟩
      · rintro i y _ _ hi ⟨rfl, rfl⟩
        refine ⟨_, rfl, _, rfl, _, _, _, rfl, ⟨T.cls_Table, T.na_Table_many⟩, lkM _ _, ok0 rfl, _, _, _, rfl, xt y (List.mem_of_getElem? hi), rfl, ?_⟩
        rw [takeS hi, List.map_append, List.map_append]
        rfl
      · rintro _ _ ⟨rfl, rfl⟩
        refine Or.inl ⟨_, bools_map _, trivial, ?_⟩
        rw [List.take_length, List.all_map]
        have e : areF n many (.tup xs) = xs.all (id ∘ fromD 0 (n - 1)) := by
          show (decide ((xs.length : Int) = many) && xs.all (fromD 0 (n - 1))) = _
          rw [decide_eq_true c]
          rfl
        rw [← e]
        exact h
    · refine ite_t (by simp [c]) ⟨trivial, ?_⟩
      have e : areF n many (.tup xs) = false := by
        show (decide ((xs.length : Int) = many) && xs.all (fromD 0 (n - 1))) = _
        rw [decide_eq_false c]
        rfl
      rw [e] at h
      exact h
  | kt xs => exact absurd rfl (ht.k xs)
  | _ => exact ⟨trivial, h⟩
def unT : D → List D
  | .tup xs => xs
  | _ => []
def toI : D → Int
  | .int i => i
  | _ => 0
def lenT (x : D) : Int := ((unT x).length : Int)
def F3 (n : Int) (cs : List (Option Int)) : List Int → List Int → List Int → List (Option Int)
  | b :: bs, m :: ms, y :: ys => atC n cs b (some m) (some y) :: F3 n cs bs ms ys
  | _, _, _ => []
def nonIx : Nat → List (Option Int) → List Int
  | _, [] => []
  | i, c :: cs => (if c = none then [(i : Int)] else []) ++ nonIx (i + 1) cs
def mfD (n : Int) (cs : List (Option Int)) (bs ms ys : List Int) : D := .tup [.tup ((F3 n cs bs ms ys).map oD), .lst ((nonIx 0 (F3 n cs bs ms ys)).map D.int)]
theorem from_int {lo hi : Int} {x : D} (h : fromD lo hi x = true) : ∃ i, x = .int i ∧ lo ≤ i ∧ i ≤ hi := by
  cases x with
  | int i =>
    have h' : (decide (lo ≤ i) && decide (i ≤ hi)) = true := h
    simp only [Bool.and_eq_true, decide_eq_true_eq] at h'
    exact ⟨i, rfl, h'.1, h'.2⟩
  | _ => cases h
/-- values of a table -/
structure Vals (n : Int) (xs : List Int) : Prop where
  ok : ∀ x ∈ xs, 0 ≤ x ∧ x < n
theorem areF_inv {n many : Int} {x : D} (h : areF n many x = true) : ∃ xs : List Int, x = .tup (xs.map D.int) ∧ (xs.length : Int) = many ∧ Vals n xs := by
  cases x with
  | tup ys =>
    have h' : (decide ((ys.length : Int) = many) && ys.all (fromD 0 (n - 1))) = true := h
    simp only [Bool.and_eq_true, decide_eq_true_eq, List.all_eq_true] at h'
    obtain ⟨h1, h2⟩ := h'
    have key : ∀ l : List D, (∀ x ∈ l, fromD 0 (n - 1) x = true) → ∃ xs : List Int, l = xs.map D.int ∧ Vals n xs := by
      intro l
      induction l with
      | nil => exact fun _ => ⟨[], rfl, ⟨fun x hx => by cases hx⟩⟩
      | cons a l ih =>
        intro hl
        obtain ⟨xs, e, v⟩ := ih fun x hx => hl x (List.mem_cons_of_mem _ hx)
        obtain ⟨i, rfl, i0, i1⟩ := from_int (hl a (List.mem_cons_self))
        refine ⟨i :: xs, by rw [e]; rfl, ⟨fun x hx => ?_⟩⟩
        rcases List.mem_cons.mp hx with rfl | hx
        · omega
        · exact v.ok x hx
    obtain ⟨xs, rfl, v⟩ := key ys h2
    exact ⟨xs, rfl, by rw [List.length_map] at h1; exact h1, v⟩
  | _ => cases h
theorem F3_len (n : Int) (cs : List (Option Int)) : ∀ bs ms ys : List Int, bs.length = ms.length → bs.length = ys.length → (F3 n cs bs ms ys).length = bs.length
  | [], [], [], _, _ => rfl
  | b :: bs, m :: ms, y :: ys, h1, h2 => by
    show (F3 n cs bs ms ys).length + 1 = bs.length + 1
    rw [F3_len n cs bs ms ys (by simpa using h1) (by simpa using h2)]
  | [], _ :: _, _, h, _ => by simp at h
  | _ :: _, [], _, h, _ => by simp at h
  | [], [], _ :: _, _, h => by simp at h
  | _ :: _, _ :: _, [], _, h => by simp at h
theorem zip_F3 : ∀ (bs ms ys : List Int), zip3D (bs.map D.int) (ms.map D.int) (ys.map D.int) = (bs.zip (ms.zip ys)).map fun t => D.tup [.int t.1, .int t.2.1, .int t.2.2]
  | [], ms, ys => by simp [zip3D]
  | b :: bs, [], ys => by simp [zip3D]
  | b :: bs, m :: ms, [] => by simp [zip3D]
  | b :: bs, m :: ms, y :: ys => by
    show D.tup [.int b, .int m, .int y] :: zip3D (bs.map D.int) (ms.map D.int) (ys.map D.int) = _
    rw [zip_F3 bs ms ys]
    rfl
theorem F3_zip (n : Int) (cs : List (Option Int)) : ∀ (bs ms ys : List Int), F3 n cs bs ms ys = (bs.zip (ms.zip ys)).map fun t => atC n cs t.1 (some t.2.1) (some t.2.2)
  | [], ms, ys => by simp [F3]
  | b :: bs, [], ys => by simp [F3]
  | b :: bs, m :: ms, [] => by simp [F3]
  | b :: bs, m :: ms, y :: ys => by
    show atC n cs b (some m) (some y) :: F3 n cs bs ms ys = _
    rw [F3_zip n cs bs ms ys]
    rfl
theorem nonIx_snoc : ∀ (i : Nat) (cs : List (Option Int)) (c : Option Int), nonIx i (cs ++ [c]) = nonIx i cs ++ if c = none then [((i + cs.length : Nat) : Int)] else []
  | i, [], c => by simp [nonIx]
  | i, x :: cs, c => by
    show (if x = none then [(i : Int)] else []) ++ nonIx (i + 1) (cs ++ [c]) = _
    rw [nonIx_snoc (i + 1) cs c, show i + 1 + cs.length = i + (x :: cs).length by simp; omega, ← List.append_assoc]
    rfl
def Φ_merged_fields (K : PySem.W.Frag) : PhX := fun args k kx => ∃ (n : Int) (cs : List (Option Int)) (b m y : D), args = [.d (objT K n cs), .d b, .d m, .d y] ∧ TabOk n cs ∧ (TyOk b ∧ TyOk m ∧ TyOk y) ∧
  (¬ (areF n (lenT b) b = true ∧ areF n (lenT b) m = true ∧ areF n (lenT b) y = true) → kx ⟨He.ga K "BadValues", []⟩ args) ∧
  ∀ bs ms ys : List Int, b = .tup (bs.map D.int) → m = .tup (ms.map D.int) → y = .tup (ys.map D.int) → Vals n bs → Vals n ms → Vals n ys → bs.length = ms.length → bs.length = ys.length → (20 < bs.length → kx ⟨He.ga K "TooGreat", []⟩ args) ∧ (bs.length ≤ 20 → k (.d (mfD n cs bs ms ys)) args)
theorem ok_merged_fields {P : Program} {w : World} {K : PySem.W.Frag} {mg : Str → Option Value} {base : Heap} (T : Txt K mg) : FnOk P w K mg base (L2.CX P w) 3 (He.ga K "merged_fields") (fdAt K (He.ga K "merged_fields")) ["table", "base", "mine", "yours"] (spX K (Φ_merged_fields K)) := by
  have G_are_fields := ok_are_fields (P := P) (w := w) (base := base) T
  have G_at := ok_at (P := P) (w := w) (base := base) T
  refine okX T.F_merged_fields sc_merged_fields (fun args k kx h => by first | (obtain ⟨_, h, _⟩ := h; rw [h]; rfl) | (obtain ⟨_, _, h, _⟩ := h; rw [h]; rfl) | (obtain ⟨_, _, _, h, _⟩ := h; rw [h]; rfl) | (obtain ⟨_, _, _, _, h, _⟩ := h; rw [h]; rfl) | (obtain ⟨_, _, _, _, _, h, _⟩ := h; rw [h]; rfl) | (obtain ⟨_, _, _, _, _, _, h, _⟩ := h; rw [h]; rfl) | (obtain ⟨_, _, _, _, _, _, _, h, _⟩ := h; rw [h]; rfl) | (obtain ⟨_, _, _, _, _, _, _, _, h, _⟩ := h; rw [h]; rfl) | (obtain ⟨_, _, _, _, _, _, _, _, _, h, _⟩ := h; rw [h]; rfl) | (obtain ⟨_, _, _, _, _, _, _, _, _, _, h, _⟩ := h; rw [h]; rfl) | (obtain ⟨_, _, _, _, _, _, _, _, _, _, _, h, _⟩ := h; rw [h]; rfl)) (fun am cdv A outer s H E ex xo hr => ?_)
  have hr_are_fields := hr.mono (show 2 ≤ 2 by decide)
  have b_are_fields : Binds K (fdAt K (He.ga K "are_fields")) ["table", "value", "many"] [] := T.F_are_fields.bindsN fun _ _ _ _ _ _ us hl => match us, hl with | [_, _, _], _ => rfl
  have hr_at := hr.mono (show 1 ≤ 2 by decide)
  have b_at : Binds K (fdAt K (He.ga K "at")) ["table", "base", "mine", "yours"] [] := T.F_at.bindsN fun _ _ _ _ _ _ us hl => match us, hl with | [_, _, _, _], _ => rfl
  have tk : Takes (cxOf (L2.CX P w) P w K mg base N_merged_fields "merged_fields" (defScope s_merged_fields) (He.ga K "merged_fields") cdv A outer s H E) (fun cls d _ H => E cls d H) := takes_of rfl rfl rfl rfl
  have pso : PassesOwn (model P w) (cxOf (L2.CX P w) P w K mg base N_merged_fields "merged_fields" (defScope s_merged_fields) (He.ga K "merged_fields") cdv A outer s H E).A (cxOf (L2.CX P w) P w K mg base N_merged_fields "merged_fields" (defScope s_merged_fields) (He.ga K "merged_fields") cdv A outer s H E).env (cxOf (L2.CX P w) P w K mg base N_merged_fields "merged_fields" (defScope s_merged_fields) (He.ga K "merged_fields") cdv A outer s H E).xe := passes_of rfl
  refine ⟨_, _, (pss_cons (ps_set (i := 4) sc_merged_fields.nd rfl (Or.inl rfl) (pe_ifExp (pt_val (pe_callB call_isi (by rfl) T.f_isinstance (by decide +kernel) (pa_cons (pv 1) (pa_cons (pe_bltn (v := .ty "tuple") (by rfl) T.f_tuple (by decide +kernel) rfl) pa_nil)))) (pe_callB call_lenX (by rfl) T.f_len PySem.boot_len (pa_cons (pv 1) pa_nil)) pe_int)) (pss_cons (ps_for pso rfl (Sq.pi_seq (pe_tup (pa_cons (pv 1) (pa_cons (pv 2) (pa_cons (pv 3) pa_nil))))) (pg_name (i := 5) sc_merged_fields.nd rfl (Or.inl rfl)) (pss_one (ps_if (pt_not (pt_val (pe_call G_are_fields hr_are_fields (by rfl) T.g_are_fields T.F_are_fields.kp b_are_fields .nil pass0 (pa_cons (pv 0) (pa_cons (pv 5) (pa_cons (pv 4) pa_nil)))))) (pss_one (ps_rs0 T.x_BadValues tk (by rfl) rfl)) pss_nil))) (pss_cons (ps_if (pt_cmpR op_gt (pv 4) (pe_gI (by rfl) T.c_MOST_FIELDS) (nomark _)) (pss_one (ps_rs0 T.x_TooGreat tk (by rfl) rfl)) pss_nil) (pss_cons (ps_set (i := 6) sc_merged_fields.nd rfl (Or.inl rfl) (pe_callTy call_tupX (by rfl) T.f_tuple (by decide +kernel) (pa_cons (pe_lc (own := [("b", 7), ("x", 8), ("y", 9)]) rfl sc_merged_fields.nd (Sq.pi_zip3 (by rfl) T.f_zip (pa_cons (pv 1) (pa_cons (pv 2) (pa_cons (pv 3) pa_nil)))) (blkOk_by (N := N_merged_fields) (own := [("b", 7), ("x", 8), ("y", 9)]) (sc := defScope s_merged_fields) (by decide +kernel)) (fun _ _ _ _ _ => (pg_tupK (K := K) (n := 3) rfl rfl (pgs_cons (pg_name (i := 7) sc_merged_fields.nd rfl (Or.inl rfl)) (pgs_cons (pg_name (i := 8) sc_merged_fields.nd rfl (Or.inl rfl)) (pgs_cons (pg_name (i := 9) sc_merged_fields.nd rfl (Or.inl rfl)) pgs_nil))))) (fun _ _ _ _ _ => pts_nil) (fun _ _ _ _ _ => (pe_call G_at hr_at (by rfl) T.g_at T.F_at.kp b_at .nil pass0 (pa_cons (pv 0) (pa_cons (pv 7) (pa_cons (pv 8) (pa_cons (pv 9) pa_nil))))))) pa_nil))) (pss_one (ps_ret (pe_tup (pa_cons (pv 6) (pa_cons (pe_lc (own := [("index", 10), ("cell", 11)]) rfl sc_merged_fields.nd (Sq.pi_enS (by rfl) T.f_enumerate (pa_cons (pv 6) pa_nil)) (blkOk_by (N := N_merged_fields) (own := [("index", 10), ("cell", 11)]) (sc := defScope s_merged_fields) (by decide +kernel)) (fun _ _ _ _ _ => (pg_tupK (K := K) (n := 2) rfl rfl (pgs_cons (pg_name (i := 10) sc_merged_fields.nd rfl (Or.inl rfl)) (pgs_cons (pg_name (i := 11) sc_merged_fields.nd rfl (Or.inl rfl)) pgs_nil)))) (fun _ _ _ _ _ => (pts_one (pt_cmp (pc_isN (pv 11))))) (fun _ _ _ _ _ => (pv 10))) pa_nil))))))))), (by (try dsimp only [cxOf, Cx.nox, Cx.wish, Cx.blk, Cx.tr, Cx.suite]); exact inferInstance), fun args q qx h hex => ?_⟩
  subst hex
  obtain ⟨n, cs, b, m, y, rfl, ht, ⟨tb, tm, ty⟩, hbad, hgood⟩ := h
  refine sq (fun sd => sd = [.d (objT K n cs), .d b, .d m, .d y, .d (.int (lenT b)), .no, .no, .no, .no, .no, .no, .no]) (fun B hB => ?_) ?_
  · refine ⟨_, rfl, _, isTupD_eq b tb.t, _, rfl, ?_⟩
    cases b with
    | tup xs => exact ⟨_, rfl, _, rfl, hB _ rfl⟩
    | kt xs => exact absurd rfl (tb.k xs)
    | _ => exact hB _ rfl
  rintro _ rfl
  refine sq (fun sd => (areF n (lenT b) b = true ∧ areF n (lenT b) m = true ∧ areF n (lenT b) y = true) ∧ ∃ s5, sd = [.d (objT K n cs), .d b, .d m, .d y, .d (.int (lenT b)), s5, .no, .no, .no, .no, .no, .no]) (fun B hB => ?_) ?_
  · refine ⟨_, rfl, _, rfl, _, rfl, by simp, fun i sd => (∀ (j : Nat) x, j < i → [b, m, y][j]? = some x → areF n (lenT b) x = true) ∧ ∃ s5, sd = [.d (objT K n cs), .d b, .d m, .d y, .d (.int (lenT b)), s5, .no, .no, .no, .no, .no, .no], ⟨fun j x hj => by omega, _, rfl⟩, ?_, ?_⟩
    · rintro i x _ hi ⟨hj, s5, rfl⟩
      have tx : TyOk x := by
        match i, hi with
        | 0, hi => cases hi; exact tb
        | 1, hi => cases hi; exact tm
        | 2, hi => cases hi; exact ty
        | i + 3, hi => cases hi
      refine ⟨_, rfl, _, rfl, _, rfl, ok0 rfl, n, cs, x, lenT b, rfl, tx, _, rfl, ?_⟩
      cases e : areF n (lenT b) x with
      | true =>
        refine ⟨fun j z hj2 hz => ?_, _, rfl⟩
        by_cases c : j < i
        · exact hj j z c hz
        · have : j = i := by omega
          subst this
          rw [hi] at hz
          cases hz
          exact e
      | false =>
        refine ⟨trivial, hbad fun ⟨h1, h2, h3⟩ => ?_⟩
        match i, hi with
        | 0, hi => cases hi; rw [e] at h1; cases h1
        | 1, hi => cases hi; rw [e] at h2; cases h2
        | 2, hi => cases hi; rw [e] at h3; cases h3
        | i + 3, hi => cases hi
    · rintro _ ⟨hj, s5, rfl⟩
      exact hB _ ⟨⟨hj 0 b (show 0 < 3 by decide) rfl, hj 1 m (show 1 < 3 by decide) rfl, hj 2 y (show 2 < 3 by decide) rfl⟩, s5, rfl⟩
  rintro _ ⟨⟨h1, h2, h3⟩, s5, rfl⟩
  obtain ⟨bs, rfl, l1, v1⟩ := areF_inv h1
  obtain ⟨ms, rfl, l2, v2⟩ := areF_inv h2
  obtain ⟨ys, rfl, l3, v3⟩ := areF_inv h3
  have lb : lenT (.tup (bs.map D.int)) = bs.length := by show (((bs.map D.int).length : Nat) : Int) = _; rw [List.length_map]
  rw [lb] at l1 l2 l3
  have e1 : bs.length = ms.length := by omega
  have e2 : bs.length = ys.length := by omega
  obtain ⟨hg, hk⟩ := hgood bs ms ys rfl rfl rfl v1 v2 v3 e1 e2
  rw [lb]
  refine sq (fun sd => bs.length ≤ 20 ∧ sd = [.d (objT K n cs), .d (.tup (bs.map D.int)), .d (.tup (ms.map D.int)), .d (.tup (ys.map D.int)), .d (.int bs.length), s5, .no, .no, .no, .no, .no, .no]) (fun B hB => ?_) ?_
  · refine ⟨_, rfl, _, rfl, ite_b (fun e => ?_) (fun e => ?_)⟩
    · have e := of_decide_eq_true e
      exact ⟨trivial, hg (by omega)⟩
    · have e := of_decide_eq_false e
      exact hB _ ⟨by omega, rfl⟩
  rintro _ ⟨l20, rfl⟩
  refine sq (fun sd => sd = [.d (objT K n cs), .d (.tup (bs.map D.int)), .d (.tup (ms.map D.int)), .d (.tup (ys.map D.int)), .d (.int bs.length), s5, .d (.tup ((F3 n cs bs ms ys).map oD)), .no, .no, .no, .no, .no]) (fun B hB => ?_) ?_
  · refine ⟨_, rfl, _, rfl, _, rfl, _, _, _, rfl, ?_⟩
    dsimp only [itemsD]
    rw [zip_F3]
    refine ⟨by decide, by simp; omega, fun i acc sd => sd = [.d (objT K n cs), .d (.tup (bs.map D.int)), .d (.tup (ms.map D.int)), .d (.tup (ys.map D.int)), .d (.int bs.length), s5, .no, .no, .no, .no, .no, .no] ∧ acc = (((bs.zip (ms.zip ys)).take i).map fun t => atC n cs t.1 (some t.2.1) (some t.2.2)).map oD, ⟨rfl, rfl⟩, ?_, ?_⟩
    · rintro i _ _ _ hi ⟨rfl, rfl⟩
      obtain ⟨⟨b, m, y⟩, hj, rfl, il, tm⟩ := mapAt hi
      have k1 := (List.of_mem_zip tm).1
      have k2 := List.of_mem_zip (List.of_mem_zip tm).2
      have b1 := v1.ok b k1
      have m1 := v2.ok m k2.1
      have y1 := v3.ok y k2.2
      refine ⟨rfl, rfl, _, rfl, _, rfl, _, rfl, _, rfl, ok0 rfl, n, cs, b, m, y, rfl, ht, ⟨b1.1, b1.2, m1.1, m1.2, y1.1, y1.2⟩, rfl, ?_⟩
      rw [takeS hj, List.map_append, List.map_append]
      rfl
    · rintro _ _ ⟨rfl, rfl⟩
      rw [List.length_map, List.take_length, ← F3_zip]
      exact Or.inl (hB _ rfl)
  rintro _ rfl
  refine ⟨_, rfl, _, rfl, _, rfl, by decide, ?_⟩
  have lf := F3_len n cs bs ms ys e1 e2
  have hk := hk l20
  unfold mfD at hk
  generalize F3 n cs bs ms ys = fs at lf hk ⊢
  refine ⟨by rw [enumD_len, List.length_map]; omega, fun i acc sd => sd = [.d (objT K n cs), .d (.tup (bs.map D.int)), .d (.tup (ms.map D.int)), .d (.tup (ys.map D.int)), .d (.int bs.length), s5, .d (.tup (fs.map oD)), .no, .no, .no, .no, .no] ∧ acc = (nonIx 0 (fs.take i)).map D.int, ⟨rfl, rfl⟩, ?_, ?_⟩
  · rintro i _ _ _ hi ⟨rfl, rfl⟩
    obtain ⟨z, hz, rfl⟩ := enum_at hi
    obtain ⟨c, hc, rfl, il, cm⟩ := mapAt hz
    have sn := nonIx_snoc 0 (fs.take i) c
    rw [← takeS hc, List.length_take, Nat.zero_add, Nat.min_eq_left (by omega)] at sn
    refine ⟨rfl, rfl, _, rfl, _, rfl, ?_⟩
    cases c with
    | none =>
      refine ⟨_, rfl, rfl, ?_⟩
      rw [sn]
      simp
    | some j =>
      refine ⟨rfl, ?_⟩
      rw [sn]
      simp
  · rintro _ _ ⟨rfl, rfl⟩
    rw [enumD_len, List.length_map, List.take_length]
    exact Or.inl ⟨by simp, trivial, hk⟩
def Φ__law_made (K : PySem.W.Frag) : List Sl → (Sl → List Sl → Prop) → Prop := fun args k => ∃ (n : Int) (cs : List (Option Int)), args = [.d (tabD n cs)] ∧ TabOk n cs ∧ k (.d (objT K n cs)) args
theorem ok__law_made {P : Program} {w : World} {K : PySem.W.Frag} {mg : Str → Option Value} {base : Heap} (T : Txt K mg) : FnOk P w K mg base CX0 5 (He.ga K "_law_made") (fdAt K (He.ga K "_law_made")) ["_law_d"] (spD K (Φ__law_made K)) := by
  have G_Table_init := ok_Table_init (P := P) (w := w) (base := base) T
  refine okP T.F__law_made sc__law_made (fun args k h => by first | (obtain ⟨_, h, _⟩ := h; rw [h]; rfl) | (obtain ⟨_, _, h, _⟩ := h; rw [h]; rfl) | (obtain ⟨_, _, _, h, _⟩ := h; rw [h]; rfl) | (obtain ⟨_, _, _, _, h, _⟩ := h; rw [h]; rfl) | (obtain ⟨_, _, _, _, _, h, _⟩ := h; rw [h]; rfl) | (obtain ⟨_, _, _, _, _, _, h, _⟩ := h; rw [h]; rfl) | (obtain ⟨_, _, _, _, _, _, _, h, _⟩ := h; rw [h]; rfl) | (obtain ⟨_, _, _, _, _, _, _, _, h, _⟩ := h; rw [h]; rfl) | (obtain ⟨_, _, _, _, _, _, _, _, _, h, _⟩ := h; rw [h]; rfl) | (obtain ⟨_, _, _, _, _, _, _, _, _, _, h, _⟩ := h; rw [h]; rfl) | (obtain ⟨_, _, _, _, _, _, _, _, _, _, _, h, _⟩ := h; rw [h]; rfl)) (fun am cdv A outer s H E hr => ?_)
  have hr_Table_init := hr.mono (show 4 ≤ 4 by decide)
  have b_Table_init : Binds K (fdAt K (He.ma K (He.ga K "Table") "__init__")) ["self", "size", "cells"] [] := T.F_Table_init.bindsN fun _ _ _ _ _ _ us hl => match us, hl with | [_, _, _], _ => rfl
  refine ⟨_, _, (pss_one (ps_ret (pe_make T.m_Table G_Table_init hr_Table_init (by rfl) T.g_Table b_Table_init .nil pass0 (pa_cons (pe_dget (hu_of hr) (pv 0) pe_str (fun _ _ => rfl)) (pa_cons (pe_dget (hu_of hr) (pv 0) pe_str (fun _ _ => rfl)) pa_nil))))), (by (try dsimp only [cxOf, Cx.nox, Cx.wish, Cx.blk, Cx.tr, Cx.suite]); exact inferInstance), fun args q h => ?_⟩
  obtain ⟨n, cs, rfl, ht, h⟩ := h
  exact ⟨_, rfl, _, rfl, _, rfl, _, rfl, ok0 rfl, fun x => ⟨x, n, cs, rfl, ht, rfl, _, _, rfl, Or.inl ⟨_, rfl, trivial, h⟩⟩⟩
def Φ__law_told_there (K : PySem.W.Frag) : List Sl → (Sl → List Sl → Prop) → Prop := fun args k => ∃ (n : Int) (cs : List (Option Int)) (b m y : D), args = [.d (objT K n cs), .d b, .d m, .d y] ∧ TabOk n cs ∧ (TyOk b ∧ TyOk m ∧ TyOk y) ∧
  (¬ (areF n (lenT b) b = true ∧ areF n (lenT b) m = true ∧ areF n (lenT b) y = true) → k (.d (.str "values")) args) ∧
  ∀ bs ms ys : List Int, b = .tup (bs.map D.int) → m = .tup (ms.map D.int) → y = .tup (ys.map D.int) → Vals n bs → Vals n ms → Vals n ys → bs.length = ms.length → bs.length = ys.length → (20 < bs.length → k (.d (.str "great")) args) ∧ (bs.length ≤ 20 → k (.d (mfD n cs bs ms ys)) args)
theorem ok__law_told_there {P : Program} {w : World} {K : PySem.W.Frag} {mg : Str → Option Value} {base : Heap} (T : Txt K mg) : FnOk P w K mg base CX0 4 (He.ga K "_law_told_there") (fdAt K (He.ga K "_law_told_there")) ["_law_table_here", "_law_base", "_law_mine", "_law_yours"] (spD K (Φ__law_told_there K)) := by
  have G_merged_fields := ok_merged_fields (P := P) (w := w) (base := base) T
  refine okP T.F__law_told_there sc__law_told_there (fun args k h => by first | (obtain ⟨_, h, _⟩ := h; rw [h]; rfl) | (obtain ⟨_, _, h, _⟩ := h; rw [h]; rfl) | (obtain ⟨_, _, _, h, _⟩ := h; rw [h]; rfl) | (obtain ⟨_, _, _, _, h, _⟩ := h; rw [h]; rfl) | (obtain ⟨_, _, _, _, _, h, _⟩ := h; rw [h]; rfl) | (obtain ⟨_, _, _, _, _, _, h, _⟩ := h; rw [h]; rfl) | (obtain ⟨_, _, _, _, _, _, _, h, _⟩ := h; rw [h]; rfl) | (obtain ⟨_, _, _, _, _, _, _, _, h, _⟩ := h; rw [h]; rfl) | (obtain ⟨_, _, _, _, _, _, _, _, _, h, _⟩ := h; rw [h]; rfl) | (obtain ⟨_, _, _, _, _, _, _, _, _, _, h, _⟩ := h; rw [h]; rfl) | (obtain ⟨_, _, _, _, _, _, _, _, _, _, _, h, _⟩ := h; rw [h]; rfl)) (fun am cdv A outer s H E hr => ?_)
  have hr_merged_fields := hr.mono (show 3 ≤ 3 by decide)
  have b_merged_fields : Binds K (fdAt K (He.ga K "merged_fields")) ["table", "base", "mine", "yours"] [] := T.F_merged_fields.bindsN fun _ _ _ _ _ _ us hl => match us, hl with | [_, _, _, _], _ => rfl
  refine ⟨_, _, (pss_cons (ps_set (i := 4) sc__law_told_there.nd rfl (Or.inl rfl) pe_non) (pss_cons (ps_tryD (i := 5) rfl rfl sc__law_told_there.nd rfl rfl takes0 (fun Wb pn xe hw => (pss_one (ps_set (i := 4) sc__law_told_there.nd rfl (Or.inl rfl) (pe_callS G_merged_fields hr_merged_fields (by rfl) T.g_merged_fields T.F_merged_fields.kp b_merged_fields (fun σ => passAt hw.1 σ) (pa_cons (pv 0) (pa_cons (pv 1) (pa_cons (pv 2) (pa_cons (pv 3) pa_nil)))))))) (cl_cons (C := He.ga K "BadValues") ⟨by rfl, by decide, Or.inl T.g_BadValues⟩ (fun a oe pn hz hv => (pss_one (ps_set (i := 4) sc__law_told_there.nd rfl (Or.inl rfl) (pe_ifExp (pt_val (pe_callB (call_isE T.ec_BadValues hz hv) (by rfl) T.f_isinstance (by decide +kernel) (pa_cons (pv 5) (pa_cons (pe_glob (v := .ref (He.ga K "MergeError")) (by rfl) T.g_MergeError rfl) pa_nil)))) pe_str pe_str)))) (cl_cons (C := He.ga K "TooGreat") ⟨by rfl, by decide, Or.inl T.g_TooGreat⟩ (fun a oe pn hz hv => (pss_one (ps_set (i := 4) sc__law_told_there.nd rfl (Or.inl rfl) (pe_ifExp (pt_val (pe_callB (call_isE T.ec_TooGreat hz hv) (by rfl) T.f_isinstance (by decide +kernel) (pa_cons (pv 5) (pa_cons (pe_glob (v := .ref (He.ga K "MergeError")) (by rfl) T.g_MergeError rfl) pa_nil)))) pe_str pe_str)))) cl_nil))) (pss_one (ps_ret (pv 4))))), (by (try dsimp only [cxOf, Cx.nox, Cx.wish, Cx.blk, Cx.tr, Cx.suite]); exact (ls_seqE inferInstance (ls_seqE (ls_tryE inferInstance (fun am W ex _ => inferInstance) inferInstance) inferInstance))), fun args q h => ?_⟩
  obtain ⟨n, cs, b, m, y, rfl, ht, ty, hbad, hgood⟩ := h
  refine sq (fun sd => sd = [.d (objT K n cs), .d b, .d m, .d y, .d .non, .no]) (fun B hB => hB _ rfl) ?_
  rintro _ rfl
  refine sq (fun sd => ∃ r, sd = [.d (objT K n cs), .d b, .d m, .d y, .d r, .no] ∧ q (.d r) [.d (objT K n cs), .d b, .d m, .d y]) (fun B hB => ?_) ?_
  · refine ⟨_, rfl, _, rfl, _, rfl, _, rfl, ok0 rfl, n, cs, b, m, y, rfl, ht, ty, fun z => ?_, fun bs ms ys e1 e2 e3 v1 v2 v3 l1 l2 => ⟨fun z => ?_, fun z => ?_⟩⟩
    · exact ⟨true, T.em_BadValues_BadValues, fun _ => ⟨⟨rfl, rfl⟩, fun a => ⟨rfl, _, T.ki_BadValues, _, rfl, hB _ ⟨_, rfl, hbad z⟩⟩⟩, fun z => nomatch z⟩
    · exact ⟨false, T.em_TooGreat_BadValues, (fun z => nomatch z), fun _ => ⟨true, T.em_TooGreat_TooGreat, fun _ => ⟨⟨rfl, rfl⟩, fun a => ⟨rfl, _, T.ki_TooGreat, _, rfl, hB _ ⟨_, rfl, (hgood bs ms ys e1 e2 e3 v1 v2 v3 l1 l2).1 z⟩⟩⟩, fun z => nomatch z⟩⟩
    · exact hB _ ⟨_, rfl, (hgood bs ms ys e1 e2 e3 v1 v2 v3 l1 l2).2 z⟩
  rintro _ ⟨r, rfl, hr⟩
  exact ⟨_, rfl, trivial, hr⟩
def Φ__law_at : List Sl → (Sl → List Sl → Prop) → Prop := fun args k => ∃ (n : Int) (cs : List (Option Int)) (b m y : Int) , args = [.d (tabD n cs), .d (.int b), .d (.int m), .d (.int y)] ∧ TabOk n cs ∧ In3 n (b, m, y) ∧ k (.d (oD (atC n cs b (some m) (some y)))) args
theorem ok__law_at {P : Program} {w : World} {K : PySem.W.Frag} {mg : Str → Option Value} {base : Heap} (T : Txt K mg) : FnOk P w K mg base CX0 1 (He.ga K "_law_at") (fdAt K (He.ga K "_law_at")) ["_law_d", "_law_base", "_law_mine", "_law_yours"] (spD K Φ__law_at) := by
  refine okP T.F__law_at sc__law_at (fun args k h => by first | (obtain ⟨_, h, _⟩ := h; rw [h]; rfl) | (obtain ⟨_, _, h, _⟩ := h; rw [h]; rfl) | (obtain ⟨_, _, _, h, _⟩ := h; rw [h]; rfl) | (obtain ⟨_, _, _, _, h, _⟩ := h; rw [h]; rfl) | (obtain ⟨_, _, _, _, _, h, _⟩ := h; rw [h]; rfl) | (obtain ⟨_, _, _, _, _, _, h, _⟩ := h; rw [h]; rfl) | (obtain ⟨_, _, _, _, _, _, _, h, _⟩ := h; rw [h]; rfl) | (obtain ⟨_, _, _, _, _, _, _, _, h, _⟩ := h; rw [h]; rfl) | (obtain ⟨_, _, _, _, _, _, _, _, _, h, _⟩ := h; rw [h]; rfl) | (obtain ⟨_, _, _, _, _, _, _, _, _, _, h, _⟩ := h; rw [h]; rfl) | (obtain ⟨_, _, _, _, _, _, _, _, _, _, _, h, _⟩ := h; rw [h]; rfl)) (fun am cdv A outer s H E hr => ?_)
  refine ⟨_, _, (pss_cons (ps_if (PW.pt (pw_or (pt_cmp (pc_isN (pv 2))) (pw_or1 (pt_cmp (pc_isN (pv 3)))))) (pss_one (ps_ret pe_non)) pss_nil) (pss_one (ps_ret (pe_ix ix_seq (pe_dget (hu_of hr) (pv 0) pe_str (fun _ _ => rfl)) (pe_op op_addX (pe_op op_mulX (pe_op op_addX (pe_op op_mulX (pv 1) (pe_dget (hu_of hr) (pv 0) pe_str (fun _ _ => rfl))) (pv 2)) (pe_dget (hu_of hr) (pv 0) pe_str (fun _ _ => rfl))) (pv 3)) (fun _ _ => rfl))))), (by (try dsimp only [cxOf, Cx.nox, Cx.wish, Cx.blk, Cx.tr, Cx.suite]); exact inferInstance), fun args q h => ?_⟩
  obtain ⟨n, cs, b, m, y, rfl, ht, hi, h⟩ := h
  refine ⟨_, rfl, _, rfl, _, rfl, _, rfl, ?_⟩
  refine ⟨_, rfl, _, rfl, _, rfl, _, rfl, _, rfl, ⟨?_, _, rfl, _, rfl, _, rfl, ⟨?_, _, rfl, _, ht.at_ hi, trivial, h⟩⟩⟩
  · exact cmul_r (by have := ht.n2; omega) (by have := ht.n4; omega)
  · exact cmul_r (by have := ht.n2; omega) (by have := ht.n4; omega)
end Lw
set_option Elab.async false
set_option linter.all false
set_option maxRecDepth 100000
set_option maxHeartbeats 1000000
set_option synthInstance.maxHeartbeats 2000000
set_option synthInstance.maxSize 4000
namespace Lw
open PySem PySem.Spec L2 Dl M13
theorem tup_ty (l : List Int) (hl : l.length ≤ 1000) : TyOk (tupI l) := ⟨by simp [tupI, tyD], (fun xs h => nomatch h), fun xs h => by
  cases h
  exact ⟨by rw [List.length_map]; omega, mem_map fun i _ => by simp [tyD]⟩⟩
theorem oD_sh {k : Nat} (c : Option Int) : Sh k (oD c) := by
  cases c with
  | none => exact .non
  | some i => exact .int i
theorem str_sh {k : Nat} {x : Str} (h : PyData.canLay0 (.str x) = true) : Sh k (.str x) := ⟨by simp only [py]; exact h, by simp [py, PyData.depth]⟩
def dueD (n : Int) (cs : List (Option Int)) (bs ms ys : List Int) : D := if bs.length ≤ 20 then mfD n cs bs ms ys else .str "great"
theorem due_sh (n : Int) (cs : List (Option Int)) (bs ms ys : List Int) : Sh 2 (dueD n cs bs ms ys) := by
  unfold dueD
  split
  · refine .tup fun x hx => ?_
    simp only [List.mem_cons, List.not_mem_nil, or_false] at hx
    rcases hx with rfl | rfl
    · exact .tup (mem_map fun c _ => oD_sh c)
    · exact .lst (mem_map fun i _ => .int i)
  · exact str_sh (by decide +kernel)
/-- a value that spoils -/
def Spoilt (n : Int) (many : Nat) (x : D) : Prop := TyOk x ∧ ((∀ M, areF n M x = false) ∨ ∃ zs, x = .tup zs ∧ zs.length ≠ many)
theorem good_len {n M : Int} {l : List Int} (h : areF n M (tupI l) = true) : (l.length : Int) = M := by
  obtain ⟨xs, e, h1, _⟩ := areF_inv h
  have e' : l.map D.int = xs.map D.int := by simpa [tupI] using e
  have := congrArg List.length e'
  simp at this
  omega
theorem lenI (l : List Int) : lenT (tupI l) = l.length := by show (((l.map D.int).length : Nat) : Int) = _; rw [List.length_map]
theorem spoils {n : Int} {many : Nat} {fs : List (List Int)} {v : D} {spot : Nat} (hf : fs.length = 3) (hl : ∀ f ∈ fs, f.length = many) (hv : Spoilt n many v) (hs : spot < 3) {b m y : D} (e : (fs.map tupI).set spot v = [b, m, y]) : ¬ (areF n (lenT b) b = true ∧ areF n (lenT b) m = true ∧ areF n (lenT b) y = true) := by
  match fs, hf with
  | [f, g, k], _ =>
    have hf := hl f (by simp)
    have hg := hl g (by simp)
    have hk := hl k (by simp)
    rintro ⟨h1, h2, h3⟩
    match spot, hs with
    | 0, _ =>
      cases e
      rcases hv.2 with z | ⟨zs, rfl, z⟩
      · rw [z] at h1; cases h1
      · have := good_len h2
        have e2 : lenT (.tup zs) = zs.length := rfl
        omega
    | 1, _ =>
      cases e
      rw [lenI] at h1 h2 h3
      rcases hv.2 with z | ⟨zs, rfl, z⟩
      · rw [z] at h2; cases h2
      · obtain ⟨xs, e, h4, _⟩ := areF_inv h2
        cases e
        simp at z
        omega
    | 2, _ =>
      cases e
      rw [lenI] at h1 h2 h3
      rcases hv.2 with z | ⟨zs, rfl, z⟩
      · rw [z] at h3; cases h3
      · obtain ⟨xs, e, h4, _⟩ := areF_inv h3
        cases e
        simp at z
        omega
theorem sp_no {n : Int} {many : Nat} {x : D} (t : tyD x ≠ none) (h : ∀ xs, x ≠ .tup xs) (k : ∀ xs, x ≠ .kt xs) : Spoilt n many x := by
  refine ⟨⟨t, k, fun xs e => absurd e (h xs)⟩, .inl fun M => ?_⟩
  cases x <;> first | rfl | exact absurd rfl (h _)
theorem sp_len {n : Int} {many : Nat} {l : List Int} (h : l.length ≠ many) (hl : l.length ≤ 1000) : Spoilt n many (tupI l) := ⟨tup_ty l hl, .inr ⟨_, rfl, by rw [List.length_map]; exact h⟩⟩
theorem sp_last {n : Int} {many : Nat} {l : List Int} {x : D} (hx : fromD 0 (n - 1) x = false) (tx : tyD x ≠ none) (hl : l.length ≤ 1000) : Spoilt n many (.tup (l.map D.int ++ [x])) := by
  refine ⟨⟨by simp [tyD], fun xs h => (nomatch h), fun xs h => ?_⟩, .inl fun M => ?_⟩
  · cases h
    refine ⟨by simp; omega, fun y hy => ?_⟩
    rcases List.mem_append.mp hy with z | z
    · obtain ⟨i, _, rfl⟩ := List.mem_map.mp z
      simp [tyD]
    · cases (List.mem_singleton.mp z)
      exact tx
  · show (decide (((l.map D.int ++ [x]).length : Int) = M) && (l.map D.int ++ [x]).all (fromD 0 (n - 1))) = false
    rw [List.all_append]
    simp [hx]
theorem areF_good {n M : Int} {l : List Int} (h : Vals n l) (e : (l.length : Int) = M) : areF n M (tupI l) = true := by
  show (decide (((l.map D.int).length : Int) = M) && (l.map D.int).all (fromD 0 (n - 1))) = true
  rw [List.length_map, decide_eq_true e, Bool.true_and, List.all_eq_true]
  exact mem_map fun i hi => fromD_t (h.ok i hi).1 (by have := (h.ok i hi).2; omega)
theorem tup_inj {a b : List Int} (h : tupI a = .tup (b.map D.int)) : a = b := by
  have e : a.map D.int = b.map D.int := by simpa [tupI] using h
  exact (List.map_inj_right (fun x y z => by cases z; rfl)).mp e
theorem cut_m1 {α : Type} (xs : List α) : cutD xs none (some (-1)) = xs.dropLast := by
  unfold cutD HT.sIx
  simp only [List.drop_zero]
  rw [if_pos (by decide), List.dropLast_eq_take]
  congr 1
  omega
def Φ_law : List Sl → (Sl → List Sl → Prop) → Prop := fun args k => ∃ (ns : List Int), args = [.d (.fz (ns.map D.int))] ∧ k (.d (.bl true)) args
theorem ok_law {P : Program} {w : World} {K : PySem.W.Frag} {mg : Str → Option Value} {base : Heap} (T : Txt K mg) : FnOk P w K mg base CX0 6 (He.ga K "law") (fdAt K (He.ga K "law")) ["_law_script"] (spD K Φ_law) := by
  have G__law_draws := ok__law_draws (P := P) (w := w) (base := base) T
  have G__law_pick := ok__law_pick (P := P) (w := w) (base := base) T
  have G__law_table := ok__law_table (P := P) (w := w) (base := base) T
  have G__law_made := ok__law_made (P := P) (w := w) (base := base) T
  have G__law_told_there := ok__law_told_there (P := P) (w := w) (base := base) T
  have G__law_at := ok__law_at (P := P) (w := w) (base := base) T
  refine okP T.F_law sc_law (fun args k h => by first | (obtain ⟨_, h, _⟩ := h; rw [h]; rfl) | (obtain ⟨_, _, h, _⟩ := h; rw [h]; rfl) | (obtain ⟨_, _, _, h, _⟩ := h; rw [h]; rfl) | (obtain ⟨_, _, _, _, h, _⟩ := h; rw [h]; rfl) | (obtain ⟨_, _, _, _, _, h, _⟩ := h; rw [h]; rfl) | (obtain ⟨_, _, _, _, _, _, h, _⟩ := h; rw [h]; rfl) | (obtain ⟨_, _, _, _, _, _, _, h, _⟩ := h; rw [h]; rfl) | (obtain ⟨_, _, _, _, _, _, _, _, h, _⟩ := h; rw [h]; rfl) | (obtain ⟨_, _, _, _, _, _, _, _, _, h, _⟩ := h; rw [h]; rfl) | (obtain ⟨_, _, _, _, _, _, _, _, _, _, h, _⟩ := h; rw [h]; rfl) | (obtain ⟨_, _, _, _, _, _, _, _, _, _, _, h, _⟩ := h; rw [h]; rfl)) (fun am cdv A outer s H E hr => ?_)
  have hr__law_draws := hr.mono (show 1 ≤ 5 by decide)
  have b__law_draws : Binds K (fdAt K (He.ga K "_law_draws")) ["_law_script"] [] := T.F__law_draws.bindsN fun _ _ _ _ _ _ us hl => match us, hl with | [_], _ => rfl
  have hr__law_pick := hr.mono (show 1 ≤ 5 by decide)
  have b__law_pick : Binds K (fdAt K (He.ga K "_law_pick")) ["_law_row", "_law_many"] [] := T.F__law_pick.bindsN fun _ _ _ _ _ _ us hl => match us, hl with | [_, _], _ => rfl
  have hr__law_table := hr.mono (show 2 ≤ 5 by decide)
  have b__law_table : Binds K (fdAt K (He.ga K "_law_table")) ["_law_row", "_law_most"] [] := T.F__law_table.bindsN fun _ _ _ _ _ _ us hl => match us, hl with | [_, _], _ => rfl
  have hr__law_made := hr.mono (show 5 ≤ 5 by decide)
  have b__law_made : Binds K (fdAt K (He.ga K "_law_made")) ["_law_d"] [] := T.F__law_made.bindsN fun _ _ _ _ _ _ us hl => match us, hl with | [_], _ => rfl
  have hr__law_told_there := hr.mono (show 4 ≤ 5 by decide)
  have b__law_told_there : Binds K (fdAt K (He.ga K "_law_told_there")) ["_law_table_here", "_law_base", "_law_mine", "_law_yours"] [] := T.F__law_told_there.bindsN fun _ _ _ _ _ _ us hl => match us, hl with | [_, _, _, _], _ => rfl
  have hr__law_at := hr.mono (show 1 ≤ 5 by decide)
  have b__law_at : Binds K (fdAt K (He.ga K "_law_at")) ["_law_d", "_law_base", "_law_mine", "_law_yours"] [] := T.F__law_at.bindsN fun _ _ _ _ _ _ us hl => match us, hl with | [_, _, _, _], _ => rfl
  refine ⟨_, _, (pss_cons (ps_set (i := 1) sc_law.nd rfl (Or.inr rfl) (pe_call G__law_draws hr__law_draws (by rfl) T.g__law_draws T.F__law_draws.kp b__law_draws .nil pass0 (pa_cons (pv 0) pa_nil))) (pss_cons (ps_for PassesOwn.never rfl (pi_range1 (by rfl) T.f_range (pa_cons pe_int pa_nil)) (pg_name (i := 2) sc_law.nd rfl (Or.inl rfl)) (pss_cons (ps_asg (pe_tup (pa_cons (pe_call G__law_table hr__law_table (by rfl) T.g__law_table T.F__law_table.kp b__law_table .nil pass0 (pa_cons (pv 1) (pa_cons pe_int pa_nil))) (pa_cons (pe_call G__law_pick hr__law_pick (by rfl) T.g__law_pick T.F__law_pick.kp b__law_pick .nil pass0 (pa_cons (pv 1) (pa_cons pe_int pa_nil))) pa_nil))) (pg_tup (n := 2) rfl (pgs_cons (pg_name (i := 9) sc_law.nd rfl (Or.inr rfl)) (pgs_cons (pg_name (i := 10) sc_law.nd rfl (Or.inl rfl)) pgs_nil)))) (pss_cons (ps_asg (pe_tup (pa_cons (pe_call G__law_made hr__law_made (by rfl) T.g__law_made T.F__law_made.kp b__law_made .nil pass0 (pa_cons (pv 9) pa_nil)) (pa_cons (pe_lst pa_nil) pa_nil))) (pg_tup (n := 2) rfl (pgs_cons (pg_name (i := 11) sc_law.nd rfl (Or.inl rfl)) (pgs_cons (pg_name (i := 12) sc_law.nd rfl (Or.inr rfl)) pgs_nil)))) (pss_cons (ps_for PassesOwn.never rfl (pi_range1 (by rfl) T.f_range (pa_cons pe_int pa_nil)) (pg_name (i := 3) sc_law.nd rfl (Or.inl rfl)) (pss_one (ps_expr (pe_bm PySem.F.plainAttrs_list PySem.F.slot_list_append PySem.F.type_list_append mt_append (pv 12) (pa_cons (pe_callTy call_tupX (by rfl) T.f_tuple (by decide +kernel) (pa_cons (pe_lc (own := [("_law_j", 13)]) rfl sc_law.nd (pi_range1 (by rfl) T.f_range (pa_cons (pv 10) pa_nil)) (blkOk_by (N := N_law) (own := [("_law_j", 13)]) (sc := defScope s_law) (by decide +kernel)) (fun _ _ _ _ _ => (pg_name (i := 13) sc_law.nd rfl (Or.inl rfl))) (fun _ _ _ _ _ => pts_nil) (fun _ _ _ _ _ => (pe_call G__law_pick hr__law_pick (by rfl) T.g__law_pick T.F__law_pick.kp b__law_pick .nil pass0 (pa_cons (pv 1) (pa_cons (pe_dget (hu_of hr) (pv 9) pe_str (fun _ _ => rfl)) pa_nil))))) pa_nil)) pa_nil))))) (pss_cons (ps_set (i := 4) sc_law.nd rfl (Or.inr rfl) (pe_callTy call_tupX (by rfl) T.f_tuple (by decide +kernel) (pa_cons (pe_lc (own := [("_law_k", 3)]) rfl sc_law.nd (pi_range1 (by rfl) T.f_range (pa_cons (pv 10) pa_nil)) (blkOk_by (N := N_law) (own := [("_law_k", 3)]) (sc := defScope s_law) (by decide +kernel)) (fun _ _ _ _ _ => (pg_name (i := 3) sc_law.nd rfl (Or.inl rfl))) (fun _ _ _ _ _ => pts_nil) (fun _ _ _ _ _ => (pe_call G__law_at hr__law_at (by rfl) T.g__law_at T.F__law_at.kp b__law_at .nil pass0 (pa_cons (pv 9) (pa_cons (pe_ix (ixK (K := K) rfl) (pe_ix (ixK (K := K) rfl) (pv 12) pe_int (fun _ _ => rfl)) (pv 3) (fun _ _ => rfl)) (pa_cons (pe_ix (ixK (K := K) rfl) (pe_ix (ixK (K := K) rfl) (pv 12) pe_int (fun _ _ => rfl)) (pv 3) (fun _ _ => rfl)) (pa_cons (pe_ix (ixK (K := K) rfl) (pe_ix (ixK (K := K) rfl) (pv 12) pe_int (fun _ _ => rfl)) (pv 3) (fun _ _ => rfl)) pa_nil))))))) pa_nil))) (pss_cons (ps_set (i := 5) sc_law.nd rfl (Or.inl rfl) (pe_ifExp (pt_cmpR op_le (pv 10) pe_int (nomark _)) (pe_tup (pa_cons (pv 4) (pa_cons (pe_lc (own := [("_law_k", 3)]) rfl sc_law.nd (pi_range1 (by rfl) T.f_range (pa_cons (pv 10) pa_nil)) (blkOk_by (N := N_law) (own := [("_law_k", 3)]) (sc := defScope s_law) (by decide +kernel)) (fun _ _ _ _ _ => (pg_name (i := 3) sc_law.nd rfl (Or.inl rfl))) (fun _ _ _ _ _ => (pts_one (pt_cmp (pc_isN (pe_ix (ixK (K := K) rfl) (pv 4) (pv 3) (fun _ _ => rfl)))))) (fun _ _ _ _ _ => (pv 3))) pa_nil))) pe_str)) (pss_cons (ps_if (pt_cmpR (op_neX hr.units) (pe_call G__law_told_there hr__law_told_there (by rfl) T.g__law_told_there T.F__law_told_there.kp b__law_told_there .nil pass0 (pa_cons (pv 11) (pa_cons (pe_ix ix_seq (pv 12) pe_int (fun _ _ => rfl)) (pa_cons (pe_ix ix_seq (pv 12) pe_int (fun _ _ => rfl)) (pa_cons (pe_ix ix_seq (pv 12) pe_int (fun _ _ => rfl)) pa_nil))))) (pv 5) (nomark _)) (pss_one (ps_ret pe_bl)) pss_nil) (pss_cons (ps_set (i := 6) sc_law.nd rfl (Or.inl rfl) (pe_call G__law_pick hr__law_pick (by rfl) T.g__law_pick T.F__law_pick.kp b__law_pick .nil pass0 (pa_cons (pv 1) (pa_cons pe_int pa_nil)))) (pss_cons (ps_set (i := 7) sc_law.nd rfl (Or.inl rfl) (pe_ix ix_seq (pv 12) (pv 6) (fun _ _ => rfl))) (pss_cons (ps_set (i := 8) sc_law.nd rfl (Or.inl rfl) (pe_lst (pa_cons pe_non (pa_cons (pe_callTy call_lstX (by rfl) T.f_list (by decide +kernel) (pa_cons (pv 7) pa_nil)) (pa_cons (pe_op op_addX (pv 7) (pe_tup (pa_cons pe_int pa_nil))) (pa_cons (pe_ifExp (pt_cmpR (op_neX hr.units) (pv 7) (pe_tup pa_nil) (nomark _)) (pe_slice sl_X (pv 7) (po_some pe_int) po_none) (pe_tup (pa_cons pe_int pa_nil))) (pa_cons (pe_op op_addX (pe_slice sl_X (pv 7) po_none (po_some (pe_un un_neg pe_int))) (pe_tup (pa_cons (pe_dget (hu_of hr) (pv 9) pe_str (fun _ _ => rfl)) pa_nil))) (pa_cons (pe_op op_addX (pe_slice sl_X (pv 7) po_none (po_some (pe_un un_neg pe_int))) (pe_tup (pa_cons pe_bl pa_nil))) (pa_cons pe_int pa_nil))))))))) (pss_cons (ps_asg (pe_ifExp (pt_cmpR op_gt (pv 10) pe_int (nomark _)) (pe_ix ix_seq (pv 8) (pe_call G__law_pick hr__law_pick (by rfl) T.g__law_pick T.F__law_pick.kp b__law_pick .nil pass0 (pa_cons (pv 1) (pa_cons pe_int pa_nil))) (fun _ _ => rfl)) (pe_ix ix_seq (pe_lst (pa_cons pe_non (pa_cons (pe_lst pa_nil) (pa_cons pe_int (pa_cons pe_str (pa_cons (pe_tup (pa_cons pe_int pa_nil)) (pa_cons pe_dnewK (pa_cons pe_bl pa_nil)))))))) (pe_call G__law_pick hr__law_pick (by rfl) T.g__law_pick T.F__law_pick.kp b__law_pick .nil pass0 (pa_cons (pv 1) (pa_cons pe_int pa_nil))) (fun _ _ => rfl))) (pg_sub (pv 12) (pv 6) set_list)) (pss_one (ps_if (pt_cmpR (op_neX hr.units) (pe_call G__law_told_there hr__law_told_there (by rfl) T.g__law_told_there T.F__law_told_there.kp b__law_told_there .nil pass0 (pa_cons (pv 11) (pa_cons (pe_ix ix_seq (pv 12) pe_int (fun _ _ => rfl)) (pa_cons (pe_ix ix_seq (pv 12) pe_int (fun _ _ => rfl)) (pa_cons (pe_ix ix_seq (pv 12) pe_int (fun _ _ => rfl)) pa_nil))))) pe_str (nomark _)) (pss_one (ps_ret pe_bl)) pss_nil))))))))))))) (pss_one (ps_ret pe_bl)))), (by (try dsimp only [cxOf, Cx.nox, Cx.wish, Cx.blk, Cx.tr, Cx.suite]); exact inferInstance), fun args q h => ?_⟩
  obtain ⟨ns, rfl, h⟩ := h
  refine ⟨_, rfl, ok0 rfl, ns, rfl, fun r row0 hr0 => ?_⟩
  refine ⟨_, rfl, by decide, by decide, fun i sd => ∃ (row : OD) (s2 s3 s4 s5 s6 s7 s8 s9 s10 s11 s12 : Sl), RowOk row ∧ sd = [.d (.fz (ns.map D.int)), .own r row, s2, s3, s4, s5, s6, s7, s8, s9, s10, s11, s12, .no], ⟨row0, _, _, _, _, _, _, _, _, _, _, _, hr0, rfl⟩, ?_, ?_⟩
  · rintro i _ _ hi ⟨row, s2, s3, s4, s5, s6, s7, s8, s9, s10, s11, s12, hr1, rfl⟩
    obtain ⟨_, rfl⟩ := ints0_at hi
    refine sq (fun sd => ∃ (n : Int) (cs : List (Option Int)) (many : Nat) (row : OD), TabOk n cs ∧ many < 23 ∧ RowOk row ∧ sd = [.d (.fz (ns.map D.int)), .own r row, .d (.int i), s3, s4, s5, s6, s7, s8, .d (tabD n cs), .d (.int many), s11, s12, .no]) (fun B hB => ?_) ?_
    · exact ⟨_, rfl, ok1 rfl rfl, r, row, 4, rfl, hr1, by decide, by decide, fun n cs row2 ht hr2 => ⟨_, rfl, ok1 rfl rfl, r, row2, 23, rfl, hr2, by decide, by decide, fun many row3 m0 m1 hr3 => ⟨_, _, rfl, hB _ ⟨n, cs, many.toNat, row3, ht, by omega, hr3, by rw [Int.toNat_of_nonneg m0]; rfl⟩⟩⟩⟩
    rintro _ ⟨n, cs, many, row, ht, m23, hr1, rfl⟩
    have n2 := ht.n2
    have n4 := ht.n4
    refine sq (fun sd => ∃ p : Addr, sd = [.d (.fz (ns.map D.int)), .own r row, .d (.int i), s3, s4, s5, s6, s7, s8, .d (tabD n cs), .d (.int many), .d (objT K n cs), .own p (.lst []), .no]) (fun B hB => ?_) ?_
    · exact ⟨_, rfl, ok0 rfl, n, cs, rfl, ht, by simp, Or.inr fun p => ⟨_, _, rfl, hB _ ⟨p, rfl⟩⟩⟩
    rintro _ ⟨p, rfl⟩
    refine sq (fun sd => ∃ (fs : List (List Int)) (row : OD) (s3 : Sl), fs.length = 3 ∧ (∀ f ∈ fs, f.length = many ∧ Vals n f) ∧ RowOk row ∧ sd = [.d (.fz (ns.map D.int)), .own r row, .d (.int i), s3, s4, s5, s6, s7, s8, .d (tabD n cs), .d (.int many), .d (objT K n cs), .own p (.lst (fs.map tupI)), .no]) (fun B hB => ?_) ?_
    · refine ⟨_, rfl, by decide, by decide, fun j sd => ∃ (fs : List (List Int)) (row : OD) (s3 : Sl), fs.length = j ∧ (∀ f ∈ fs, f.length = many ∧ Vals n f) ∧ RowOk row ∧ sd = [.d (.fz (ns.map D.int)), .own r row, .d (.int i), s3, s4, s5, s6, s7, s8, .d (tabD n cs), .d (.int many), .d (objT K n cs), .own p (.lst (fs.map tupI)), .no], ⟨[], row, _, rfl, (fun f hf => by cases hf), hr1, rfl⟩, ?_, ?_⟩
      · rintro j _ _ hj ⟨fs, row1, s3, fl, fo, hr2, rfl⟩
        obtain ⟨j3, rfl⟩ := ints0_at hj
        have j3 : j < 3 := j3
        refine ⟨p, _, rfl, ?_⟩
        refine ⟨_, rfl, _, rfl, by omega, by omega, (fun j hj => hj), by rw [intsD_len]; omega, fun l acc sd => ∃ (os : List Int) (row : OD), os.length = l ∧ Vals n os ∧ acc = os.map D.int ∧ RowOk row ∧ sd = [.d (.fz (ns.map D.int)), .own r row, .d (.int i), .d (.int j), s4, s5, s6, s7, s8, .d (tabD n cs), .d (.int many), .d (objT K n cs), .own p (.lst (fs.map tupI)), .no], ⟨[], row1, rfl, ⟨fun x hx => by cases hx⟩, rfl, hr2, rfl⟩, ?_, ?_⟩
        · rintro l _ _ _ hl ⟨os, row2, ol, ov, rfl, hr3, rfl⟩
          refine ⟨_, rfl, _, rfl, _, rfl, ok1 rfl rfl, r, row2, n, rfl, hr3, by omega, by omega, fun x row3 x0 x1 hr4 => ⟨os ++ [x], row3, by rw [List.length_append, ol]; rfl, ⟨fun z hz => ?_⟩, by rw [List.map_append]; rfl, hr4, rfl⟩⟩
          rcases List.mem_append.mp hz with y | y
          · exact ov.ok z y
          · cases (List.mem_singleton.mp y)
            exact ⟨x0, x1⟩
        · rintro _ _ ⟨os, row2, ol, ov, rfl, hr3, rfl⟩
          rw [intsD_len] at ol
          refine Or.inl ⟨_, rfl, by rw [List.length_map]; omega, fs ++ [os], row2, _, by rw [List.length_append, fl]; rfl, fun f hf => ?_, hr3, by rw [List.map_append]; rfl⟩
          rcases List.mem_append.mp hf with y | y
          · exact fo f y
          · cases (List.mem_singleton.mp y)
            exact ⟨by omega, ov⟩
      · rintro _ ⟨fs, row1, s3, fl, fo, hr2, rfl⟩
        rw [intsD_len] at fl
        exact hB _ ⟨fs, row1, _, fl, fo, hr2, rfl⟩
    rintro _ ⟨fs, row, s3, fl, fo, hr1, rfl⟩
    obtain ⟨bs, ms, ys, rfl⟩ : ∃ bs ms ys, fs = [bs, ms, ys] := by
      match fs, fl with
      | [a, b, c], _ => exact ⟨a, b, c, rfl⟩
    obtain ⟨b1, b2⟩ := fo bs (by simp)
    obtain ⟨m1, m2⟩ := fo ms (by simp)
    obtain ⟨y1, y2⟩ := fo ys (by simp)
    have lF := F3_len n cs bs ms ys (by omega) (by omega)
    have gF : ∀ j (hj : j < many), ∃ b m y, bs[j]? = some b ∧ ms[j]? = some m ∧ ys[j]? = some y ∧ In3 n (b, m, y) ∧ (F3 n cs bs ms ys)[j]? = some (atC n cs b (some m) (some y)) := fun j hj => by
      obtain ⟨b, h1⟩ : ∃ b, bs[j]? = some b := ⟨_, List.getElem?_eq_getElem (by omega)⟩
      obtain ⟨m, h2⟩ : ∃ b, ms[j]? = some b := ⟨_, List.getElem?_eq_getElem (by omega)⟩
      obtain ⟨y, h3⟩ : ∃ b, ys[j]? = some b := ⟨_, List.getElem?_eq_getElem (by omega)⟩
      have v1 := b2.ok _ (List.mem_of_getElem? h1)
      have v2 := m2.ok _ (List.mem_of_getElem? h2)
      have v3 := y2.ok _ (List.mem_of_getElem? h3)
      refine ⟨b, m, y, h1, h2, h3, ⟨v1.1, v1.2, v2.1, v2.2, v3.1, v3.2⟩, ?_⟩
      rw [F3_zip, List.getElem?_map, show (bs.zip (ms.zip ys))[j]? = some (b, m, y) from List.getElem?_zip_eq_some.mpr ⟨h1, List.getElem?_zip_eq_some.mpr ⟨h2, h3⟩⟩]
      rfl
    refine sq (fun sd => sd = [.d (.fz (ns.map D.int)), .own r row, .d (.int i), .no, .d (.tup ((F3 n cs bs ms ys).map oD)), s5, s6, s7, s8, .d (tabD n cs), .d (.int many), .d (objT K n cs), .own p (.lst [tupI bs, tupI ms, tupI ys]), .no]) (fun B hB => ?_) ?_
    · refine ⟨_, rfl, _, rfl, by omega, by omega, (fun j hj => hj), by rw [intsD_len]; omega, fun l acc sd => acc = ((F3 n cs bs ms ys).take l).map oD ∧ sd = [.d (.fz (ns.map D.int)), .own r row, .d (.int i), .no, s4, s5, s6, s7, s8, .d (tabD n cs), .d (.int many), .d (objT K n cs), .own p (.lst [tupI bs, tupI ms, tupI ys]), .no], ⟨rfl, rfl⟩, ?_, ?_⟩
      · rintro l _ _ _ hl ⟨rfl, rfl⟩
        obtain ⟨ll, rfl⟩ := ints0_at hl
        have ll : l < many := by simpa using ll
        obtain ⟨b, m, y, g1, g2, g3, g4, g5⟩ := gF l ll
        have ix : ∀ {zs : List Int} {z : Int}, zs[l]? = some z → atI (zs.map D.int) (l : Int) = some (.int z) := fun {zs z} e => atI_ok rfl (by rw [List.getElem?_map, e]; rfl)
        refine ⟨_, rfl, _, rfl, _, rfl, _, rfl, _, ix g1, _, rfl, _, rfl, _, rfl, _, ix g2, _, rfl, _, rfl, _, rfl, _, ix g3, ok0 rfl, n, cs, b, m, y, rfl, ht, g4, ?_, rfl⟩
        rw [takeS g5, List.map_append]
        rfl
      · rintro _ _ ⟨rfl, rfl⟩
        rw [intsD_len, List.take_of_length_le (by rw [lF]; omega)]
        exact Or.inl (hB _ rfl)
    rintro _ rfl
    refine sq (fun sd => ∃ s3, sd = [.d (.fz (ns.map D.int)), .own r row, .d (.int i), s3, .d (.tup ((F3 n cs bs ms ys).map oD)), .d (dueD n cs bs ms ys), s6, s7, s8, .d (tabD n cs), .d (.int many), .d (objT K n cs), .own p (.lst [tupI bs, tupI ms, tupI ys]), .no]) (fun B hB => ?_) ?_
    · refine ⟨_, rfl, _, rfl, ite_b (fun e => ?_) (fun e => ?_)⟩
      · have e : (many : Int) ≤ 20 := of_decide_eq_true e
        have e2 : dueD n cs bs ms ys = mfD n cs bs ms ys := if_pos (by omega)
        rw [e2] at hB
        unfold mfD at hB
        generalize F3 n cs bs ms ys = Fx at lF hB ⊢
        refine ⟨_, rfl, _, rfl, _, rfl, by omega, by omega, (fun j hj => hj), by rw [intsD_len]; omega, fun l acc sd => acc = (nonIx 0 (Fx.take l)).map D.int ∧ sd = [.d (.fz (ns.map D.int)), .own r row, .d (.int i), .no, .d (.tup (Fx.map oD)), s5, s6, s7, s8, .d (tabD n cs), .d (.int many), .d (objT K n cs), .own p (.lst [tupI bs, tupI ms, tupI ys]), .no], ⟨rfl, rfl⟩, ?_, ?_⟩
        · rintro l _ _ _ hl ⟨rfl, rfl⟩
          obtain ⟨ll, rfl⟩ := ints0_at hl
          have ll : l < Fx.length := by have : l < many := by simpa using ll
                                        omega
          have g := List.getElem?_eq_getElem ll
          generalize Fx[l]'ll = c at g
          have sn := nonIx_snoc 0 (Fx.take l) c
          rw [← takeS g, List.length_take, Nat.zero_add, Nat.min_eq_left (by omega)] at sn
          refine ⟨_, rfl, _, rfl, oD c, atI_ok rfl (by rw [List.getElem?_map, g]; rfl), _, rfl, ?_⟩
          cases c with
          | none =>
            refine ⟨_, rfl, ?_, rfl⟩
            rw [sn]
            simp
          | some z =>
            refine ⟨?_, rfl⟩
            rw [sn]
            simp
        · rintro _ _ ⟨rfl, rfl⟩
          rw [intsD_len, List.take_of_length_le (by rw [lF]; omega)]
          exact Or.inl ⟨by simp, hB _ ⟨_, rfl⟩⟩
      · have e : ¬ (many : Int) ≤ 20 := of_decide_eq_false e
        have e2 : dueD n cs bs ms ys = .str "great" := if_neg (by omega)
        rw [e2] at hB
        exact hB _ ⟨_, rfl⟩
    rintro _ ⟨s3, rfl⟩
    have tyb := tup_ty bs (by omega)
    have tym := tup_ty ms (by omega)
    have tyy := tup_ty ys (by omega)
    refine sq (fun sd => sd = [.d (.fz (ns.map D.int)), .own r row, .d (.int i), s3, .d (.tup ((F3 n cs bs ms ys).map oD)), .d (dueD n cs bs ms ys), s6, s7, s8, .d (tabD n cs), .d (.int many), .d (objT K n cs), .own p (.lst [tupI bs, tupI ms, tupI ys]), .no]) (fun B hB => ?_) ?_
    · have fin : ∀ x, x = dueD n cs bs ms ys → okEq x (dueD n cs bs ms ys) ∧ (!eqD x (dueD n cs bs ms ys)) = false := fun x e => by
        subst e
        refine ⟨okEq_sh (due_sh n cs bs ms ys) (due_sh n cs bs ms ys) (by decide) (by decide), ?_⟩
        rw [eqD_self (due_sh n cs bs ms ys)]
        rfl
      refine ⟨_, rfl, _, rfl, _, rfl, _, rfl, _, rfl, _, rfl, _, rfl, ok0 rfl, n, cs, tupI bs, tupI ms, tupI ys, rfl, ht, ⟨tyb, tym, tyy⟩, fun z => ?_, fun a b c e1 e2 e3 v1 v2 v3 l1 l2 => ?_⟩
      · exact absurd ⟨areF_good b2 (by rw [lenI]), areF_good m2 (by rw [lenI]; omega), areF_good y2 (by rw [lenI]; omega)⟩ z
      · cases tup_inj e1
        cases tup_inj e2
        cases tup_inj e3
        refine ⟨fun z => ?_, fun z => ?_⟩
        · obtain ⟨f1, f2⟩ := fin (.str "great") (by unfold dueD; rw [if_neg (by omega)])
          refine ⟨_, rfl, f1, _, rfl, ?_⟩
          rw [f2]
          exact hB _ rfl
        · obtain ⟨f1, f2⟩ := fin (mfD n cs bs ms ys) (by unfold dueD; rw [if_pos z])
          refine ⟨_, rfl, f1, _, rfl, ?_⟩
          rw [f2]
          exact hB _ rfl
    rintro _ rfl
    refine sq (fun sd => ∃ (spot : Nat) (row : OD), spot < 3 ∧ RowOk row ∧ sd = [.d (.fz (ns.map D.int)), .own r row, .d (.int i), s3, .d (.tup ((F3 n cs bs ms ys).map oD)), .d (dueD n cs bs ms ys), .d (.int spot), s7, s8, .d (tabD n cs), .d (.int many), .d (objT K n cs), .own p (.lst [tupI bs, tupI ms, tupI ys]), .no]) (fun B hB => ?_) ?_
    · exact ⟨_, rfl, ok1 rfl rfl, r, row, 3, rfl, hr1, by decide, by decide, fun j row2 j0 j1 hr2 => hB _ ⟨j.toNat, row2, by omega, hr2, by rw [Int.toNat_of_nonneg j0]; rfl⟩⟩
    rintro _ ⟨spot, row, sp3, hr1, rfl⟩
    obtain ⟨f, hf, f1, f2⟩ : ∃ f, [bs, ms, ys][spot]? = some f ∧ f.length = many ∧ Vals n f := by
      match spot, sp3 with
      | 0, _ => exact ⟨bs, rfl, b1, b2⟩
      | 1, _ => exact ⟨ms, rfl, m1, m2⟩
      | 2, _ => exact ⟨ys, rfl, y1, y2⟩
    have atf : atI [tupI bs, tupI ms, tupI ys] (spot : Int) = some (tupI f) := atI_ok rfl (by
      have := congrArg (Option.map tupI) hf
      rw [← List.getElem?_map] at this
      exact this)
    refine sq (fun sd => sd = [.d (.fz (ns.map D.int)), .own r row, .d (.int i), s3, .d (.tup ((F3 n cs bs ms ys).map oD)), .d (dueD n cs bs ms ys), .d (.int spot), .d (tupI f), s8, .d (tabD n cs), .d (.int many), .d (objT K n cs), .own p (.lst [tupI bs, tupI ms, tupI ys]), .no]) (fun B hB => ⟨_, rfl, _, rfl, _, atf, hB _ rfl⟩) ?_
    rintro _ rfl
    have fsh : Sh 1 (tupI f) := .tup (mem_map fun i _ => .int i)
    refine sq (fun sd => ∃ os : List D, os.length = 7 ∧ (0 < many → ∀ x ∈ os, Spoilt n many x) ∧ sd = [.d (.fz (ns.map D.int)), .own r row, .d (.int i), s3, .d (.tup ((F3 n cs bs ms ys).map oD)), .d (dueD n cs bs ms ys), .d (.int spot), .d (tupI f), .d (.lst os), .d (tabD n cs), .d (.int many), .d (objT K n cs), .own p (.lst [tupI bs, tupI ms, tupI ys]), .no]) (fun B hB => ?_) ?_
    · have all : ∀ x4 : D, (0 < many → Spoilt n many x4) → 0 < many → ∀ x ∈ [D.non, .lst (f.map D.int), .tup (f.map D.int ++ [.int 0]), x4, .tup (cutD (f.map D.int) none (some (-1)) ++ [.int n]), .tup (cutD (f.map D.int) none (some (-1)) ++ [.bl true]), .int 5], Spoilt n many x := fun x4 h4 hm x hx => by
        have ed : cutD (f.map D.int) none (some (-1)) = f.dropLast.map D.int := by rw [cut_m1, List.map_dropLast]
        rw [ed] at hx
        simp only [List.mem_cons, List.not_mem_nil, or_false] at hx
        rcases hx with rfl | rfl | rfl | rfl | rfl | rfl | rfl
        · exact sp_no (by simp [tyD]) (fun _ z => nomatch z) (fun _ z => nomatch z)
        · exact sp_no (by simp [tyD]) (fun _ z => nomatch z) (fun _ z => nomatch z)
        · have : Spoilt n many (tupI (f ++ [0])) := sp_len (by rw [List.length_append]; simp; omega) (by rw [List.length_append]; simp; omega)
          simpa [tupI] using this
        · exact h4 hm
        · exact sp_last (by show (decide (0 ≤ n) && decide (n ≤ n - 1)) = false; rw [decide_eq_false (show ¬ n ≤ n - 1 by omega)]; simp) (by simp [tyD]) (by rw [List.length_dropLast]; omega)
        · exact sp_last rfl (by simp [tyD]) (by rw [List.length_dropLast]; omega)
        · exact sp_no (by simp [tyD]) (fun _ z => nomatch z) (fun _ z => nomatch z)
      have lc : (cutD (f.map D.int) none (some (-1))).length ≤ 100 := by rw [cut_m1, List.length_dropLast, List.length_map]; omega
      refine ⟨_, rfl, _, rfl, by simp, ⟨by rw [List.length_map]; simp; omega, _, rfl, by simp, okEq_sh fsh (Sh.tup (k := 0) fun x hx => by cases hx) (by decide) (by decide), _, rfl, ite_b (fun e => ?_) (fun e => ?_)⟩⟩
      · refine ⟨_, rfl, _, rfl, _, rfl, _, rfl, _, rfl, _, rfl, by simp, ⟨by show _ + 1 ≤ _; omega, _, rfl, _, rfl, by simp, ⟨by show _ + 1 ≤ _; omega, by simp, Or.inl (hB _ ⟨_, rfl, all _ (fun hm => ?_), rfl⟩)⟩⟩⟩
        have e4 : cutD (f.map D.int) (some 1) none = (f.drop 1).map D.int := by rw [cut_from (i := 1) (j := 1) rfl, List.map_drop]
        rw [e4]
        exact sp_len (by rw [List.length_drop]; omega) (by rw [List.length_drop]; omega)
      · refine ⟨by simp, _, rfl, _, rfl, _, rfl, _, rfl, by simp, ⟨by show _ + 1 ≤ _; omega, _, rfl, _, rfl, by simp, ⟨by show _ + 1 ≤ _; omega, by simp, Or.inl (hB _ ⟨_, rfl, all _ (fun hm => ?_), rfl⟩)⟩⟩⟩
        cases f with
        | nil => simp at f1; omega
        | cons a l => exact absurd e (by show ¬ (!PyData.eqv (py (tupI (a :: l))) (py (.tup []))) = false; simp [tupI, py, pyL, PyData.eqv, PyData.eqvAll])
    rintro _ ⟨os, o7, oS, rfl⟩
    refine sq (fun sd => ∃ (v : D) (row : OD), Spoilt n many v ∧ RowOk row ∧ sd = [.d (.fz (ns.map D.int)), .own r row, .d (.int i), s3, .d (.tup ((F3 n cs bs ms ys).map oD)), .d (dueD n cs bs ms ys), .d (.int spot), .d (tupI f), .d (.lst os), .d (tabD n cs), .d (.int many), .d (objT K n cs), .own p (.lst ([tupI bs, tupI ms, tupI ys].set spot v)), .no]) (fun B hB => ?_) ?_
    · have ixs : ixN [tupI bs, tupI ms, tupI ys].length (spot : Int) = some spot := by
        match spot, sp3 with
        | 0, _ => rfl
        | 1, _ => rfl
        | 2, _ => rfl
      refine ⟨_, rfl, _, rfl, ite_b (fun e => ?_) (fun e => ?_)⟩
      · have e : (0 : Int) < many := of_decide_eq_true e
        refine ⟨_, rfl, _, rfl, ok1 rfl rfl, r, row, 7, rfl, hr1, by decide, by decide, fun j row2 j0 j1 hr2 => ?_⟩
        have jl : j.toNat < os.length := by omega
        refine ⟨_, atI_ok (j := j.toNat) (by omega) (List.getElem?_eq_getElem jl), p, _, rfl, _, rfl, _, _, _, rfl, rfl, ixs, hB _ ⟨_, row2, oS (by omega) _ (List.getElem_mem jl), hr2, rfl⟩⟩
      · have e : ¬ (0 : Int) < many := of_decide_eq_false e
        refine ⟨by simp, by simp, Or.inl ⟨by simp, _, rfl, ok1 rfl rfl, r, row, 7, rfl, hr1, by decide, by decide, fun j row2 j0 j1 hr2 => ?_⟩⟩
        have pick : ∃ v, atI [D.non, .lst [], .int 5, .str "", .tup [.int 0], .dk [], .bl true] j = some v ∧ Spoilt n many v := by
          rcases (by omega : j = 0 ∨ j = 1 ∨ j = 2 ∨ j = 3 ∨ j = 4 ∨ j = 5 ∨ j = 6) with rfl | rfl | rfl | rfl | rfl | rfl | rfl
          · exact ⟨_, rfl, sp_no (by simp [tyD]) (fun _ z => nomatch z) (fun _ z => nomatch z)⟩
          · exact ⟨_, rfl, sp_no (by simp [tyD]) (fun _ z => nomatch z) (fun _ z => nomatch z)⟩
          · exact ⟨_, rfl, sp_no (by simp [tyD]) (fun _ z => nomatch z) (fun _ z => nomatch z)⟩
          · exact ⟨_, rfl, sp_no (by simp [tyD]) (fun _ z => nomatch z) (fun _ z => nomatch z)⟩
          · exact ⟨_, rfl, (sp_len (l := [0]) (by simp; omega) (by simp) : Spoilt n many (tupI [0]))⟩
          · exact ⟨_, rfl, sp_no (by simp [tyD]) (fun _ z => nomatch z) (fun _ z => nomatch z)⟩
          · exact ⟨_, rfl, sp_no (by simp [tyD]) (fun _ z => nomatch z) (fun _ z => nomatch z)⟩
        obtain ⟨v, v1, v2⟩ := pick
        exact ⟨_, v1, p, _, rfl, _, rfl, _, _, _, rfl, rfl, ixs, hB _ ⟨v, row2, v2, hr2, rfl⟩⟩
    rintro _ ⟨v, row, hv, hr1, rfl⟩
    obtain ⟨x, y, z, exyz⟩ : ∃ x y z, [tupI bs, tupI ms, tupI ys].set spot v = [x, y, z] := by
      match spot, sp3 with
      | 0, _ => exact ⟨_, _, _, rfl⟩
      | 1, _ => exact ⟨_, _, _, rfl⟩
      | 2, _ => exact ⟨_, _, _, rfl⟩
    have tys : TyOk x ∧ TyOk y ∧ TyOk z := by
      match spot, sp3 with
      | 0, _ => cases exyz; exact ⟨hv.1, tym, tyy⟩
      | 1, _ => cases exyz; exact ⟨tyb, hv.1, tyy⟩
      | 2, _ => cases exyz; exact ⟨tyb, tym, hv.1⟩
    have bad := spoils (n := n) (many := many) (fs := [bs, ms, ys]) rfl (fun f hf => (fo f hf).1) hv sp3 exyz
    rw [exyz]
    refine ⟨_, rfl, _, rfl, _, rfl, _, rfl, _, rfl, _, rfl, _, rfl, ok0 rfl, n, cs, x, y, z, rfl, ht, tys, fun _ => ?_, fun a b c e1 e2 e3 v1 v2 v3 l1 l2 => ?_⟩
    · refine ⟨Or.inl rfl, _, rfl, ite_f ?_ ?_⟩
      · show ¬ (!eqD (.str "values") (.str "values")) = true
        rw [eqD_self (k := 0) (str_sh (by decide +kernel))]
        simp
      · exact ⟨row, _, _, _, _, _, _, _, _, _, _, _, hr1, rfl⟩
    · subst e1
      subst e2
      subst e3
      exact absurd ⟨areF_good v1 (lenI a).symm, areF_good v2 (by have := lenI a; unfold tupI at this; rw [this]; omega), areF_good v3 (by have := lenI a; unfold tupI at this; rw [this]; omega)⟩ bad
  · rintro _ ⟨row, s2, s3, s4, s5, s6, s7, s8, s9, s10, s11, s12, hr1, rfl⟩
    exact ⟨trivial, h⟩
end Lw
set_option Elab.async false
set_option linter.all false
set_option maxRecDepth 100000
set_option maxHeartbeats 0
namespace Lw
open PySem PySem.Spec PyProof.Rows L2 Dl
def d_is_from : He.DefD := ⟨("is_from", none), "is_from", "is_from", defArgs s_is_from, defBody s_is_from, defScope s_is_from, [], []⟩
def d_is_cell : He.DefD := ⟨("is_cell", none), "is_cell", "is_cell", defArgs s_is_cell, defBody s_is_cell, defScope s_is_cell, [], []⟩
def d_Table_init : He.DefD := ⟨("Table", some "__init__"), "__init__", "Table.__init__", defArgs s_Table_init, defBody s_Table_init, defScope s_Table_init, [], []⟩
def d_at : He.DefD := ⟨("at", none), "at", "at", defArgs s_at, defBody s_at, defScope s_at, [], []⟩
def d_are_fields : He.DefD := ⟨("are_fields", none), "are_fields", "are_fields", defArgs s_are_fields, defBody s_are_fields, defScope s_are_fields, [], []⟩
def d_merged_fields : He.DefD := ⟨("merged_fields", none), "merged_fields", "merged_fields", defArgs s_merged_fields, defBody s_merged_fields, defScope s_merged_fields, [], []⟩
def d__law_draws : He.DefD := ⟨("_law_draws", none), "_law_draws", "_law_draws", defArgs s__law_draws, defBody s__law_draws, defScope s__law_draws, [], []⟩
def d__law_pick : He.DefD := ⟨("_law_pick", none), "_law_pick", "_law_pick", defArgs s__law_pick, defBody s__law_pick, defScope s__law_pick, [], []⟩
def d__law_at : He.DefD := ⟨("_law_at", none), "_law_at", "_law_at", defArgs s__law_at, defBody s__law_at, defScope s__law_at, [], []⟩
def d__law_rows : He.DefD := ⟨("_law_rows", none), "_law_rows", "_law_rows", defArgs s__law_rows, defBody s__law_rows, defScope s__law_rows, [], []⟩
def d__law_plain_cell : He.DefD := ⟨("_law_plain_cell", none), "_law_plain_cell", "_law_plain_cell", defArgs s__law_plain_cell, defBody s__law_plain_cell, defScope s__law_plain_cell, [], []⟩
def d__law_table : He.DefD := ⟨("_law_table", none), "_law_table", "_law_table", defArgs s__law_table, defBody s__law_table, defScope s__law_table, [], []⟩
def d__law_made : He.DefD := ⟨("_law_made", none), "_law_made", "_law_made", defArgs s__law_made, defBody s__law_made, defScope s__law_made, [], []⟩
def d__law_told_there : He.DefD := ⟨("_law_told_there", none), "_law_told_there", "_law_told_there", defArgs s__law_told_there, defBody s__law_told_there, defScope s__law_told_there, [], []⟩
def d_law : He.DefD := ⟨("law", none), "law", "law", defArgs s_law, defBody s_law, defScope s_law, [], []⟩
def fn0 : List He.DefD := [d_is_from, d_is_cell, d_Table_init, d_at, d_are_fields, d_merged_fields, d__law_draws, d__law_pick, d__law_at, d__law_rows, d__law_plain_cell, d__law_table, d__law_made, d__law_told_there, d_law]
def fn : List He.DefD := fn0
def fa0 : List He.Fa := [.glo "is_from", .glo "is_cell", .glo "at", .glo "are_fields", .glo "merged_fields", .glo "_law_draws", .glo "_law_pick", .glo "_law_at", .glo "_law_rows", .glo "_law_plain_cell", .glo "_law_table", .glo "_law_made", .glo "_law_told_there", .glo "law", .glo "Table", .mkr "Table", .cls "Table", .noat "Table" "many", .noat "Table" "rows", .exc "BadValues", .glo "BadValues", .exc "TooGreat", .glo "TooGreat", .glo "MergeError", .exm "BadValues" "BadValues" true, .exm "BadValues" "TooGreat" false, .exm "TooGreat" "BadValues" false, .exm "TooGreat" "TooGreat" true, .free "len", .free "int"]
def fa1 : List He.Fa := [.free "tuple", .free "list", .free "max", .free "all", .free "isinstance", .free "range", .free "enumerate", .free "zip", .free "bool", .int "LEAST_SIZE" 2, .int "MOST_SIZE" 4, .int "MOST_FIELDS" 20]
def fa : List He.Fa := fa0 ++ fa1
def exs (K : PySem.W.Frag) : List Bool := [exB K "BadValues", exB K "TooGreat", kitB1 K "BadValues" "MergeError" true, kitB1 K "TooGreat" "MergeError" true]
def lo0 : List Str := ["MergeError", "BadSize", "BadValues", "TooGreat", "BadCells", "LEAST_SIZE", "MOST_SIZE", "MOST_FIELDS", "is_from", "is_cell", "Table", "at", "are_fields", "merged_fields", "_law_draws", "_law_pick", "_law_at", "_law_rows", "_law_plain_cell", "_law_table", "_law_made", "_law_told_there"]
def lo : List Str := lo0
abbrev R : PySem.W.OpenRow := PySem.W.OpenLaw.row PySem.Challenge.rw_mergetables_k03_several_fields
abbrev hk : PySem.W.Hook := hookF 4 fa fn exs
def ob (s : PySem.W.SharedT) : He.AlD × Bool := obF 4 fa fn exs s
theorem ob_eq (s : PySem.W.SharedT) : ob s = hk.obs s.abs := obF_eq s
theorem run (w : World) : HandSHeadRun.RunEq R (PySem.W.view R.prog [25]) hk ob 6000 lo w := by
  intro os
  kernel_rfl
theorem txt {K : PySem.W.Frag} {h : Heap} {mg : Str → Option Value} (X : K.In h) (G : h.Ns mainGlobals mg) (c : He.SaysD fa fn K ∧ (exs K).all id = true) : Txt K mg := ⟨fd_at (c.1.def_ 0 (d := d_is_from) rfl),
  He.glo_ok X G (c.1.fact 0 (f := .glo "is_from") rfl),
  fd_at (c.1.def_ 1 (d := d_is_cell) rfl),
  He.glo_ok X G (c.1.fact 1 (f := .glo "is_cell") rfl),
  fd_at (c.1.def_ 2 (d := d_Table_init) rfl),
  fd_at (c.1.def_ 3 (d := d_at) rfl),
  He.glo_ok X G (c.1.fact 2 (f := .glo "at") rfl),
  fd_at (c.1.def_ 4 (d := d_are_fields) rfl),
  He.glo_ok X G (c.1.fact 3 (f := .glo "are_fields") rfl),
  fd_at (c.1.def_ 5 (d := d_merged_fields) rfl),
  He.glo_ok X G (c.1.fact 4 (f := .glo "merged_fields") rfl),
  fd_at (c.1.def_ 6 (d := d__law_draws) rfl),
  He.glo_ok X G (c.1.fact 5 (f := .glo "_law_draws") rfl),
  fd_at (c.1.def_ 7 (d := d__law_pick) rfl),
  He.glo_ok X G (c.1.fact 6 (f := .glo "_law_pick") rfl),
  fd_at (c.1.def_ 8 (d := d__law_at) rfl),
  He.glo_ok X G (c.1.fact 7 (f := .glo "_law_at") rfl),
  fd_at (c.1.def_ 9 (d := d__law_rows) rfl),
  He.glo_ok X G (c.1.fact 8 (f := .glo "_law_rows") rfl),
  fd_at (c.1.def_ 10 (d := d__law_plain_cell) rfl),
  He.glo_ok X G (c.1.fact 9 (f := .glo "_law_plain_cell") rfl),
  fd_at (c.1.def_ 11 (d := d__law_table) rfl),
  He.glo_ok X G (c.1.fact 10 (f := .glo "_law_table") rfl),
  fd_at (c.1.def_ 12 (d := d__law_made) rfl),
  He.glo_ok X G (c.1.fact 11 (f := .glo "_law_made") rfl),
  fd_at (c.1.def_ 13 (d := d__law_told_there) rfl),
  He.glo_ok X G (c.1.fact 12 (f := .glo "_law_told_there") rfl),
  fd_at (c.1.def_ 14 (d := d_law) rfl),
  He.glo_ok X G (c.1.fact 13 (f := .glo "law") rfl),
  He.glo_ok X G (c.1.fact 14 (f := .glo "Table") rfl),
  He.mkr_ok (c.1.fact 15 (f := .mkr "Table") rfl),
  He.cls_ok (c.1.fact 16 (f := .cls "Table") rfl),
  He.noat_ok (c.1.fact 17 (f := .noat "Table" "many") rfl),
  He.noat_ok (c.1.fact 18 (f := .noat "Table" "rows") rfl),
  exF_ok X G (c.1.fact 19 (f := .exc "BadValues") rfl) (c.1.fact 20 (f := .glo "BadValues") rfl),
  exF_ok X G (c.1.fact 21 (f := .exc "TooGreat") rfl) (c.1.fact 22 (f := .glo "TooGreat") rfl),
  He.glo_ok X G (c.1.fact 20 (f := .glo "BadValues") rfl),
  exB_ok (ex_at c.2 (i := 0) rfl),
  He.glo_ok X G (c.1.fact 22 (f := .glo "TooGreat") rfl),
  exB_ok (ex_at c.2 (i := 1) rfl),
  He.glo_ok X G (c.1.fact 23 (f := .glo "MergeError") rfl),
  kitB1_ok (ex_at c.2 (i := 2) rfl),
  kitB1_ok (ex_at c.2 (i := 3) rfl),
  He.exm_ok (c.1.fact 24 (f := .exm "BadValues" "BadValues" true) rfl),
  He.exm_ok (c.1.fact 25 (f := .exm "BadValues" "TooGreat" false) rfl),
  He.exm_ok (c.1.fact 26 (f := .exm "TooGreat" "BadValues" false) rfl),
  He.exm_ok (c.1.fact 27 (f := .exm "TooGreat" "TooGreat" true) rfl),
  He.free_ok X G (c.1.fact 28 (f := .free "len") rfl),
  He.free_ok X G (c.1.fact 29 (f := .free "int") rfl),
  He.free_ok X G (c.1.fact 30 (f := .free "tuple") rfl),
  He.free_ok X G (c.1.fact 31 (f := .free "list") rfl),
  He.free_ok X G (c.1.fact 32 (f := .free "max") rfl),
  He.free_ok X G (c.1.fact 33 (f := .free "all") rfl),
  He.free_ok X G (c.1.fact 34 (f := .free "isinstance") rfl),
  He.free_ok X G (c.1.fact 35 (f := .free "range") rfl),
  He.free_ok X G (c.1.fact 36 (f := .free "enumerate") rfl),
  He.free_ok X G (c.1.fact 37 (f := .free "zip") rfl),
  He.free_ok X G (c.1.fact 38 (f := .free "bool") rfl),
  He.int_ok X G (c.1.fact 39 (f := .int "LEAST_SIZE" 2) rfl),
  He.int_ok X G (c.1.fact 40 (f := .int "MOST_SIZE" 4) rfl),
  He.int_ok X G (c.1.fact 41 (f := .int "MOST_FIELDS" 20) rfl)⟩
theorem facts {P : Program} {w : World} {K : PySem.W.Frag} {h : Heap} {mg : Str → Option Value} {f : Addr} (X : K.In h) (G : h.Ns mainGlobals mg) (hfa : mg ("law" : Str) = some (.ref f)) (c : He.SaysD fa fn K ∧ (exs K).all id = true) :
    ∃ fd : FuncData, (∀ (s : Shared) (v : Value), BindsTo s fd ⟨[v], []⟩ [("_law_script", v)]) ∧ ∀ base : Heap, K.In base → base.Ns mainGlobals mg → FnOk P w K mg base CX0 6 f fd ["_law_script"] (spD K Φ_law) := by
  have T := txt X G c
  have e := hfa.symm.trans T.g_law
  cases e
  have b := FunD.bindsA (ps := ["_law_script"]) T.F_law fun _ _ _ _ _ _ us hl => match us, hl with | [_], _ => rfl
  exact ⟨_, fun s v => b s [v] rfl, fun base _ _ => ok_law T⟩
theorem begin_ {K : PySem.W.Frag} {H : Hp} {a : Addr} {ns : List Int} (hS : SqL K H a (ns.map V.int)) : spD K Φ_law [.ref a] H (fun v _ => v = .bl true) fun _ _ _ => False := law_begin hS (fun k h => ⟨ns, rfl, h⟩)
end Lw
open PySem PySem.W PySem.Calls PyProof.Rows
theorem PySem.Challenge.cw_mergetables_k03_several_fields_holds : PySem.Challenge.rw_mergetables_k03_several_fields.Holds := by
  w_on; o_law
  refine HandSHeadRun.head_any (r := OpenLaw.row PySem.Challenge.rw_mergetables_k03_several_fields) (q := view (OpenLaw.row PySem.Challenge.rw_mergetables_k03_several_fields).prog [25]) (H := Lw.hk) (ob := Lw.ob) (M := 6000) (loose := Lw.lo) (d := HandSHeadRun.topDef (OpenLaw.row PySem.Challenge.rw_mergetables_k03_several_fields).prog 25) (kwd := []) Lw.ob_eq
    (by kernel_rfl) (fun s => by kernel_rfl) Lw.run (by kernel_rfl) (by kernel_rfl) (by kernel_rfl) (by rfl) (by first | assumption | decide +kernel) (by decide +kernel) ⟨rfl, rfl, rfl, rfl, rfl, by decide +kernel⟩ ?hw ?hc
  case hw => w_witness2
  case hc =>
    refine L2.walk_ofE (l := PySem.Challenge.rw_mergetables_k03_several_fields) (n := 63) (k := 6) (x := "_law_script") (CX := L2.CX0) rfl (by decide) (by kernel_rfl) ⟨rfl, by decide, by decide⟩ ?F (fun _ _ _ _ z => z)
    intro w mg fa h Y G hmg0
    obtain ⟨K, KX, c⟩ := Y
    have hmg : mg ("law" : PySem.Str) = some (.ref fa) := by
      have e : (HandSHeadRun.topDef (OpenLaw.row PySem.Challenge.rw_mergetables_k03_several_fields).prog 25).name = ("law" : PySem.Str) := by kernel_rfl
      rw [← e]
      exact hmg0
    obtain ⟨fd, hb, hF⟩ := Lw.facts (P := (PySem.Challenge.rw_mergetables_k03_several_fields).prog) (w := w) KX G hmg c
    exact ⟨K, fd, Dl.spD K Lw.Φ_law, KX, hb, fun H a ns hl hO hS => Lw.begin_ hS, hF⟩

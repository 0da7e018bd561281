import PyProof.Rows.All
import Wide.All
import OpenK.AllK
import Wide.FinOn
import KE.KeyNested
import KE.KDictKeyed
import HandS.ForMost
import HandS.Exc
import HandS.TryOnly
import HandS.ExcOwn
import HandS.WordsExc
import HandS.TupAny
import HandS.IsInst
import HandS.Style
import HandS.Defaults
import HandS.HeadHook1
import HandS.HeadHook2
import HandS.HeadHook3
import HandS.RepeatKit
import HandS.Iter
import KE.KDictDisplayH
import PyProof.Rows.TupDisplay
import HandS.DictTup
import KE.KDictSum
import KE.KDictCopyH
import KE.SortData
import HandS.Conv
import HandS.NoneIn
import HandS.Sort
import KE.KStateDown
import Lean
import HandS.Head0
import HandS.Head1
import HandS.Head2
import HandS.HeadEnd
import PySem.Challenge.RW_pickruns_k72_whole_counts_behind
set_option Elab.async false
set_option linter.all false
set_option maxRecDepth 100000
set_option maxHeartbeats 2000000
/-! DL, part A: data over the abstract heap; frames that own lists and dicts. -/
namespace DL
open PySem PySem.Spec PyProof.Rows L2
abbrev D := PyData
/-- the world of a proof -/
structure Wl where
  P : Program
  w : World
  K : PySem.W.Frag
abbrev wl (X : Cx) : Wl := ⟨X.prog, X.w, X.K⟩
abbrev NK := NestedKey
abbrev RelN : List (NK × Addr × V) → List (NK × Addr × Value) → Prop := Paired fun p q => p.1 = q.1 ∧ p.2.1 = q.2.1 ∧ RelV p.2.2 q.2.2
/-- an object that is a dict of tuple keys: each key, where its tuple stands, the value -/
def RawO (g : Wl) (o : Obj) (a : Addr) (xs : List (NK × Addr × V)) : Prop :=
  (a == sysModules) = false ∧ xs.length ≤ sizeLine ∧ (∀ x ∈ xs, x.1.depth ≤ 8) ∧ (xs.map (·.1)).Nodup ∧ ∃ vs, RelN xs vs ∧ ∃ es ep, o.ExactDict ∧ o.data = .dict es ep ∧ es.toList = vs.map (entryOfKey (nestedKind g.P g.w))
/-- .. as it lies, this very object -/
def dN (g : Wl) (a : Addr) (o : Obj) (xs : List (NK × Addr × V)) : HO := .ext fun h => h.get? a = some o ∧ RawO g o a xs
/-- an object that is a dict of keys that are whole numbers or texts; .. as it lies -/
def RawK (g : Wl) (o : Obj) (a : Addr) (xs : List (Key × V)) : Prop :=
  (a == sysModules) = false ∧ xs.length ≤ sizeLine ∧ ∃ vs, KV xs vs ∧ ∃ es ep, o.ExactDict ∧ o.data = .dict es ep ∧ es.size = xs.length ∧ ∀ h : Heap, h.get? a = some o → h.DictAt (mixKind g.P g.w) a vs ep
def dKp (g : Wl) (a : Addr) (o : Obj) (xs : List (Key × V)) : HO := .ext fun h => h.get? a = some o ∧ RawK g o a xs
/-- a list that is read only (the script), told apart from the lists of the run -/
abbrev scrD (ds : List D) : D := .dict [(.none, .list ds)]
/-- a text as the layer takes it -/
def okS (x : Str) : Bool := x.cps.all (· < 0x110000) && decide (x.length ≤ 1000000)
mutual
/-- the value v is the data d, all of it lying in F -/
inductive Rp (g : Wl) (F : Hp) : V → D → Prop
  | non : Rp g F .non .none
  | bl (b : Bool) : Rp g F (.bl b) (.bool b)
  | int (i : Int) : Rp g F (.int i) (.int i)
  | str (x : Str) : okS x = true → Rp g F (.str x) (.str x)
  | lst {a : Addr} {vs : List V} {ds : List D} : Rd F a (.lst vs) → Rps g F vs ds → Rp g F (.ref a) (.list ds)
  | scr {a : Addr} {vs : List V} {ds : List D} : SqL g.K F a vs → Rps g F vs ds → Rp g F (.ref a) (.dict [(.none, .list ds)])
  | tup {a : Addr} {vs : List V} {ds : List D} : SqT g.K F a vs → Rps g F vs ds → Rp g F (.ref a) (.tuple ds)
  | dct {a : Addr} {ob : Obj} {xs : List (NK × Addr × V)} {kvs : List (D × D)} : F a = some (dN g a ob xs) → Rpn g F xs kvs → Rp g F (.ref a) (.dict kvs)
  | dck {a : Addr} {ob : Obj} {xs : List (Key × V)} {kvs : List (D × D)} : F a = some (dKp g a ob xs) → Rpk g F xs kvs → Rp g F (.ref a) (.dict ((.bool true, .none) :: kvs))
inductive Rps (g : Wl) (F : Hp) : List V → List D → Prop
  | nil : Rps g F [] []
  | cons {v : V} {vs : List V} {d : D} {ds : List D} : Rp g F v d → Rps g F vs ds → Rps g F (v :: vs) (d :: ds)
inductive Rpn (g : Wl) (F : Hp) : List (NK × Addr × V) → List (D × D) → Prop
  | nil : Rpn g F [] []
  | cons {k : NK} {b : Addr} {v : V} {d : D} {xs : List (NK × Addr × V)} {kvs : List (D × D)} : Rp g F (.ref b) k.data → Rp g F v d → Rpn g F xs kvs → Rpn g F ((k, b, v) :: xs) ((k.data, d) :: kvs)
inductive Rpk (g : Wl) (F : Hp) : List (Key × V) → List (D × D) → Prop
  | nil : Rpk g F [] []
  | cons {k : Key} {v : V} {kd d : D} {xs : List (Key × V)} {kvs : List (D × D)} : Rp g F (kV k) kd → Rp g F v d → Rpk g F xs kvs → Rpk g F ((k, v) :: xs) ((kd, d) :: kvs)
end
theorem rd_mono {F F' : Hp} {a : Addr} {u : HO} (s : Same F F') (h : Rd F a u) : Rd F' a u := h.elim (fun e => .inl (s _ _ e)) fun ⟨o, e⟩ => .inr ⟨o, s _ _ e⟩
theorem sqt_mono {K : PySem.W.Frag} {F F' : Hp} {a : Addr} {xs : List V} (s : Same F F') (h : SqT K F a xs) : SqT K F' a xs := h.elim (fun e => .inl (rd_mono s e)) .inr
theorem sql_mono {K : PySem.W.Frag} {F F' : Hp} {a : Addr} {xs : List V} (s : Same F F') (h : SqL K F a xs) : SqL K F' a xs := s.seq h
section
variable {g : Wl} {F F' : Hp}
mutual
theorem Rp.mono (s : Same F F') : ∀ {d : D} {v : V}, Rp g F v d → Rp g F' v d
  | .none, _, h => by cases h; exact .non
  | .bool b, _, h => by cases h; exact .bl b
  | .int i, _, h => by cases h; exact .int i
  | .str x, _, h => by cases h with | str _ h => exact .str x h
  | .list ds, _, h => by cases h with | lst h1 h2 => exact .lst (rd_mono s h1) (Rps.mono s h2)
  | .tuple ds, _, h => by cases h with | tup h1 h2 => exact .tup (sqt_mono s h1) (Rps.mono s h2)
  | .dict kvs, _, h => by
    cases h with
    | scr h1 h2 => exact .scr (sql_mono s h1) (Rps.mono s h2)
    | dct h1 h2 => exact .dct (s _ _ h1) (Rpn.mono s h2)
    | dck h1 h2 => exact .dck (s _ _ h1) (Rpk.mono s h2)
theorem Rps.mono (s : Same F F') : ∀ {ds : List D} {vs : List V}, Rps g F vs ds → Rps g F' vs ds
  | [], _, h => by cases h; exact .nil
  | d :: ds, _, h => by cases h with | cons h1 h2 => exact .cons (Rp.mono s h1) (Rps.mono s h2)
theorem Rpn.mono (s : Same F F') : ∀ {kvs : List (D × D)} {xs : List (NK × Addr × V)}, Rpn g F xs kvs → Rpn g F' xs kvs
  | [], _, h => by cases h; exact .nil
  | (k, d) :: kvs, _, h => by cases h with | cons h0 h1 h2 => exact .cons (Rp.mono s h0) (Rp.mono s h1) (Rpn.mono s h2)
theorem Rpk.mono (s : Same F F') : ∀ {kvs : List (D × D)} {xs : List (Key × V)}, Rpk g F xs kvs → Rpk g F' xs kvs
  | [], _, h => by cases h; exact .nil
  | (k, d) :: kvs, _, h => by cases h with | cons h0 h1 h2 => exact .cons (Rp.mono s h0) (Rp.mono s h1) (Rpk.mono s h2)
end
theorem Rps.length : ∀ {vs : List V} {ds : List D}, Rps g F vs ds → vs.length = ds.length
  | _, _, .nil => rfl
  | _, _, .cons _ t => by simp [Rps.length t]
theorem Rps.get : ∀ {vs : List V} {ds : List D} {i : Nat} {d : D}, Rps g F vs ds → ds[i]? = some d → ∃ v, vs[i]? = some v ∧ Rp g F v d
  | _, _, _, _, .nil, e => by simp at e
  | _, _, 0, _, .cons r _, e => by simp at e; subst e; exact ⟨_, rfl, r⟩
  | _, _, i + 1, d, .cons _ t, e => by
    obtain ⟨u, h1, h2⟩ := Rps.get (i := i) (d := d) t (by simpa using e)
    exact ⟨u, by simpa using h1, h2⟩
theorem Rps.getV : ∀ {vs : List V} {ds : List D} {i : Nat} {v : V}, Rps g F vs ds → vs[i]? = some v → ∃ d, ds[i]? = some d ∧ Rp g F v d
  | _, _, _, _, .nil, e => by simp at e
  | _, _, 0, _, .cons r _, e => by simp at e; subst e; exact ⟨_, rfl, r⟩
  | _, _, i + 1, d, .cons _ t, e => by
    obtain ⟨u, h1, h2⟩ := Rps.getV (i := i) (v := d) t (by simpa using e)
    exact ⟨u, by simpa using h1, h2⟩
theorem Rps.append : ∀ {vs us : List V} {ds es : List D}, Rps g F vs ds → Rps g F us es → Rps g F (vs ++ us) (ds ++ es)
  | _, _, _, _, .nil, s => s
  | _, _, _, _, .cons r t, s => .cons r (Rps.append t s)
theorem Rps.take : ∀ {vs : List V} {ds : List D} (n : Nat), Rps g F vs ds → Rps g F (vs.take n) (ds.take n)
  | _, _, 0, _ => .nil
  | _, _, _ + 1, .nil => .nil
  | _, _, n + 1, .cons r t => .cons r (Rps.take n t)
theorem Rps.drop : ∀ {vs : List V} {ds : List D} (n : Nat), Rps g F vs ds → Rps g F (vs.drop n) (ds.drop n)
  | _, _, 0, r => r
  | _, _, _ + 1, .nil => .nil
  | _, _, n + 1, .cons _ t => Rps.drop n t
theorem Rps.set {v : V} {d : D} (r : Rp g F v d) : ∀ {vs : List V} {ds : List D} (i : Nat), Rps g F vs ds → Rps g F (vs.set i v) (ds.set i d)
  | _, _, _, .nil => .nil
  | _, _, 0, .cons _ t => .cons r t
  | _, _, i + 1, .cons q t => .cons q (Rps.set r i t)
theorem Rps.eraseIdx : ∀ {vs : List V} {ds : List D} (i : Nat), Rps g F vs ds → Rps g F (vs.eraseIdx i) (ds.eraseIdx i)
  | _, _, _, .nil => .nil
  | _, _, 0, .cons _ t => t
  | _, _, i + 1, .cons q t => .cons q (Rps.eraseIdx i t)
theorem Rps.dropLast {vs : List V} {ds : List D} (h : Rps g F vs ds) : Rps g F vs.dropLast ds.dropLast := by
  rw [List.dropLast_eq_take, List.dropLast_eq_take, h.length]
  exact h.take _
theorem Rps.reverse : ∀ {vs : List V} {ds : List D}, Rps g F vs ds → Rps g F vs.reverse ds.reverse
  | _, _, .nil => .nil
  | _, _, .cons r t => by
    rw [List.reverse_cons, List.reverse_cons]
    exact (Rps.reverse t).append (.cons r .nil)
theorem Rps.one {v : V} {d : D} (r : Rp g F v d) : Rps g F [v] [d] := .cons r .nil
end
/-! ### what is not a dict -/
mutual
def noDict : D → Bool
  | .dict _ => false
  | .list ds => noDicts ds
  | .tuple ds => noDicts ds
  | _ => true
def noDicts : List D → Bool
  | [] => true
  | d :: ds => noDict d && noDicts ds
end
section
variable {g : Wl} {F : Hp}
mutual
theorem Rp.dp : ∀ {d : D} {v : V}, noDict d = true → Rp g F v d → Dp g.K F v d
  | .none, _, _, h => by cases h; exact .non
  | .bool b, _, _, h => by cases h; exact .bl b
  | .int i, _, _, h => by cases h; exact .int i
  | .str x, _, _, h => by cases h; exact .str x
  | .list ds, _, n, h => by cases h with | lst h1 h2 => exact .lst (.inl h1) (Rps.dp n h2)
  | .tuple ds, _, n, h => by cases h with | tup h1 h2 => exact .tup h1 (Rps.dp n h2)
  | .dict kvs, _, n, _ => by cases n
theorem Rps.dp : ∀ {ds : List D} {vs : List V}, noDicts ds = true → Rps g F vs ds → DpAll g.K F vs ds
  | [], _, _, h => by cases h; exact .nil
  | d :: ds, _, n, h => by
    have n' : (noDict d && noDicts ds) = true := n
    obtain ⟨n1, n2⟩ := Bool.and_eq_true_iff.mp n'
    cases h with | cons h1 h2 => exact .cons (Rp.dp n1 h1) (Rps.dp n2 h2)
end
end
/-! ### what a slot owns -/
inductive OD where
  | lst (ds : List D) | dct (kvs : List (D × D)) | dck (kvs : List (D × D))
def OD.data : OD → D
  | .lst ds => .list ds
  | .dct kvs => .dict kvs
  | .dck kvs => .dict ((.bool true, .none) :: kvs)
def OwAt (g : Wl) (F H : Hp) (a : Addr) : OD → Prop
  | .lst ds => ∃ vs, H a = some (.lst vs) ∧ Rps g F vs ds
  | .dct kvs => ∃ ob xs, H a = some (dN g a ob xs) ∧ Rpn g F xs kvs
  | .dck kvs => ∃ ob xs, H a = some (dKp g a ob xs) ∧ Rpk g F xs kvs
theorem OwAt.there {g : Wl} {F H : Hp} {a : Addr} {o : OD} (h : OwAt g F H a o) : ∃ u, H a = some u := by
  cases o with
  | lst ds => obtain ⟨_, e, _⟩ := h; exact ⟨_, e⟩
  | dct ds => obtain ⟨_, _, e, _⟩ := h; exact ⟨_, e⟩
  | dck ds => obtain ⟨_, _, e, _⟩ := h; exact ⟨_, e⟩
theorem OwAt.mono {g : Wl} {F F' H H' : Hp} {a : Addr} {o : OD} (h : OwAt g F H a o) (s : Same F F') (e : H' a = H a) : OwAt g F' H' a o := by
  cases o with
  | lst ds => obtain ⟨_, e', r⟩ := h; exact ⟨_, e.trans e', r.mono s⟩
  | dct ds => obtain ⟨_, _, e', r⟩ := h; exact ⟨_, _, e.trans e', r.mono s⟩
  | dck ds => obtain ⟨_, _, e', r⟩ := h; exact ⟨_, _, e.trans e', r.mono s⟩
theorem OwAt.same {g : Wl} {F F' H H' : Hp} {a : Addr} {o : OD} (h : OwAt g F H a o) (s : Same F F') (t : Same H H') : OwAt g F' H' a o := by
  obtain ⟨u, e⟩ := h.there
  exact h.mono s (by rw [e, t _ _ e])
/-- frozen, it is data -/
theorem OwAt.rp {g : Wl} {F F' H : Hp} {a : Addr} {o : OD} (h : OwAt g F H a o) (s : Same F F') (e : F' a = H a) : Rp g F' (.ref a) o.data := by
  cases o with
  | lst ds => obtain ⟨_, e', r⟩ := h; exact .lst (.inl (e.trans e')) (r.mono s)
  | dct ds => obtain ⟨_, _, e', r⟩ := h; exact .dct (e.trans e') (r.mono s)
  | dck ds => obtain ⟨_, _, e', r⟩ := h; exact .dck (e.trans e') (r.mono s)
/-- a slot: nothing known; data that is shared; a list or dict of the frame's own; one of the caller's, lent -/
inductive Sl where
  | no | sh (d : D) | ow (o : OD) | io (o : OD)
abbrev Sv := List Sl
def ownI (e : Sv) (i : Nat) : Option OD := match e[i]? with
  | some (.ow o) => some o
  | some (.io o) => some o
  | _ => none
/-- the ground of a frame: where the lent ones stand (by slot), what was frozen, what stood at the entry -/
structure Gr where
  n : Nat
  M : Nat → Option Addr
  F0 : Hp
  H0 : Hp
structure FI (g : Wl) (G : Gr) (σ : L2.St) (e : Sv) (F H : Hp) : Prop where
  sub0 : Same G.F0 F
  sub : Same F H
  len : e.length = σ.length
  ln : σ.length = G.n
  sh : ∀ (i : Nat) (d : D), e[i]? = some (Sl.sh d) → ∃ v, σ[i]? = some (some v) ∧ Rp g F v d
  own : ∀ (i : Nat) (o : OD), ownI e i = some o → ∃ a : Addr, σ[i]? = some (some (V.ref a)) ∧ F a = none ∧ OwAt g F H a o
  dist : ∀ (i j : Nat) (a : Addr) (o o' : OD), ownI e i = some o → ownI e j = some o' → σ[i]? = some (some (V.ref a)) → σ[j]? = some (some (V.ref a)) → i = j
  low : ∀ (i : Nat) (o : OD) (a : Addr), e[i]? = some (Sl.ow o) → σ[i]? = some (some (V.ref a)) → G.H0 a = none
  io : ∀ (i : Nat) (o : OD), e[i]? = some (Sl.io o) → ∃ a : Addr, G.M i = some a ∧ σ[i]? = some (some (V.ref a))
  iom : ∀ (i : Nat) (a : Addr), G.M i = some a → ∃ o : OD, e[i]? = some (Sl.io o)
  keep : ∀ (a : Addr) (o : HO), G.H0 a = some o → (∀ i, G.M i ≠ some a) → H a = some o
  fre : ∀ (a : Addr) (o : HO), G.H0 a = some o → G.F0 a = none → (∀ i, G.M i ≠ some a) → F a = none
/-- only new things came -/
structure Grow (F H F' H' : Hp) : Prop where
  ff : Same F F'
  fh : Same F' H'
  hh : Same H H'
  fr : ∀ a, F a = none → H a ≠ none → F' a = none
theorem Grow.refl {F H : Hp} (s : Same F H) : Grow F H F H := ⟨Same.refl F, s, Same.refl H, fun _ h _ => h⟩
theorem Grow.trans {F H F1 H1 F2 H2 : Hp} (a : Grow F H F1 H1) (b : Grow F1 H1 F2 H2) : Grow F H F2 H2 := ⟨a.ff.trans b.ff, b.fh, a.hh.trans b.hh, fun p h1 h2 => b.fr p (a.fr p h1 h2) (by
  cases e : H p with
  | none => exact absurd e h2
  | some o => rw [a.hh _ _ e]; exact fun z => nomatch z)⟩
/-- a new object, frozen at once -/
theorem Grow.new {F H : Hp} {p : Addr} {o : HO} (s : Same F H) (h : H p = none) : Grow F H (upd F p o) (upd H p o) := by
  have hf : F p = none := s.free h
  refine ⟨fun b u e => ?_, fun b u e => ?_, fun b u e => ?_, fun b h1 h2 => ?_⟩
  · rw [upd_ne (ne_of_none e hf)]; exact e
  · by_cases q : b = p
    · subst q; rw [upd_same] at e ⊢; exact e
    · rw [upd_ne q] at e ⊢; exact s _ _ e
  · rw [upd_ne (ne_of_none e h)]; exact e
  · rw [upd_ne (fun q => h2 (by rw [q]; exact h))]; exact h1
/-- a new object, not frozen -/
theorem Grow.tmp {F H : Hp} {p : Addr} {o : HO} (s : Same F H) (h : H p = none) : Grow F H F (upd H p o) := by
  refine ⟨Same.refl F, fun b u e => ?_, fun b u e => ?_, fun b h1 h2 => h1⟩
  · have q : b ≠ p := ne_of_none (s _ _ e) h
    rw [upd_ne q]; exact s _ _ e
  · rw [upd_ne (ne_of_none e h)]; exact e
section
variable {g : Wl} {G : Gr} {σ : L2.St} {e : Sv} {F H F' H' : Hp}
theorem ownI_ow {i : Nat} {o : OD} (h : e[i]? = some (Sl.ow o)) : ownI e i = some o := by unfold ownI; rw [h]
theorem ownI_io {i : Nat} {o : OD} (h : e[i]? = some (Sl.io o)) : ownI e i = some o := by unfold ownI; rw [h]
theorem FI.grow (I : FI g G σ e F H) (w : Grow F H F' H') : FI g G σ e F' H' where
  sub0 := I.sub0.trans w.ff
  sub := w.fh
  len := I.len
  ln := I.ln
  sh := fun i d h => let ⟨v, h1, h2⟩ := I.sh i d h; ⟨v, h1, h2.mono w.ff⟩
  own := fun i o h => by
    obtain ⟨a, h1, h2, h3⟩ := I.own i o h
    obtain ⟨u, eu⟩ := h3.there
    exact ⟨a, h1, w.fr a h2 (by rw [eu]; exact fun z => nomatch z), h3.same w.ff w.hh⟩
  dist := I.dist
  low := I.low
  io := I.io
  iom := I.iom
  keep := fun a o h n => w.hh _ _ (I.keep a o h n)
  fre := fun a o h f n => w.fr a (I.fre a o h f n) (by rw [I.keep a o h n]; exact fun z => nomatch z)
theorem FI.fresh (I : FI g G σ e F H) {p : Addr} (h : H p = none) : G.H0 p = none := by
  cases q : G.H0 p with
  | none => rfl
  | some o =>
    by_cases m : ∀ i, G.M i ≠ some p
    · rw [I.keep p o q m] at h; cases h
    · have m' : ∃ i, G.M i = some p := by
        apply Classical.byContradiction
        intro z
        exact m fun i hi => z ⟨i, hi⟩
      obtain ⟨i, hi⟩ := m'
      obtain ⟨o', ho⟩ := I.iom i p hi
      obtain ⟨a, h1, h2⟩ := I.io i o' ho
      rw [hi] at h1
      obtain ⟨b, h3, _, h4⟩ := I.own i o' (ownI_io ho)
      rw [h2] at h3
      have eb : p = b := by
        have e1 := Option.some.inj h1
        have e2 : V.ref a = V.ref b := Option.some.inj (Option.some.inj h3)
        injection e2 with e2
        exact e1.trans e2
      subst eb
      obtain ⟨u, eu⟩ := h4.there
      rw [h] at eu; cases eu
theorem set_get {α : Type} {l : List α} {i j : Nat} {x y : α} (h : (l.set i x)[j]? = some y) : (i = j ∧ x = y ∧ i < l.length) ∨ (i ≠ j ∧ l[j]? = some y) := by
  by_cases q : i = j
  · subst q
    by_cases hl : i < l.length
    · rw [List.getElem?_set_self hl] at h; exact .inl ⟨rfl, Option.some.inj h, hl⟩
    · rw [List.getElem?_eq_none (by simpa using hl)] at h; cases h
  · rw [List.getElem?_set_ne q] at h; exact .inr ⟨q, h⟩
theorem ownI_set {i j : Nat} {x : Sl} {o : OD} (h : ownI (e.set i x) j = some o) : (i = j ∧ i < e.length ∧ (x = Sl.ow o ∨ x = Sl.io o)) ∨ (i ≠ j ∧ ownI e j = some o) := by
  unfold ownI at h
  cases q : (e.set i x)[j]? with
  | none => rw [q] at h; cases h
  | some y =>
    rw [q] at h
    rcases set_get q with ⟨h1, h2, h3⟩ | ⟨h1, h2⟩
    · subst h2
      refine .inl ⟨h1, h3, ?_⟩
      cases x with
      | no => cases h
      | sh d => cases h
      | ow o' => cases h; exact .inl rfl
      | io o' => cases h; exact .inr rfl
    · refine .inr ⟨h1, ?_⟩
      unfold ownI
      rw [h2]
      exact h
/-- a slot of one's own is frozen -/
theorem FI.freeze (I : FI g G σ e F H) {i : Nat} {o : OD} (h : e[i]? = some (Sl.ow o)) : ∃ F' a, σ[i]? = some (some (V.ref a)) ∧ Rp g F' (.ref a) o.data ∧ Same F F' ∧ FI g G σ (e.set i (.sh o.data)) F' H := by
  obtain ⟨a, h1, h2, h3⟩ := I.own i o (ownI_ow h)
  obtain ⟨u, eu⟩ := h3.there
  have s : Same F (upd F a u) := fun b x q => by rw [upd_ne (ne_of_none q h2)]; exact q
  have hr : Rp g (upd F a u) (.ref a) o.data := h3.rp s (by rw [upd_same, eu])
  have h0 := I.low i o a h h1
  have hi : i < e.length := (List.getElem?_eq_some_iff.mp h).1
  refine ⟨upd F a u, a, h1, hr, s, I.sub0.trans s, fun b x q => ?_, by simpa using I.len, I.ln, fun j d q => ?_, fun j o' q => ?_, fun j k b o1 o2 q1 q2 q3 q4 => ?_, fun j o' b q1 q2 => ?_, fun j o' q => ?_, fun j b q => ?_, I.keep, fun b o' q1 q2 q3 => ?_⟩
  · by_cases z : b = a
    · subst z; rw [upd_same] at q; cases q; exact eu
    · rw [upd_ne z] at q; exact I.sub _ _ q
  · rcases set_get q with ⟨r1, r2, r3⟩ | ⟨r1, r2⟩
    · subst r1
      cases r2
      exact ⟨_, h1, hr⟩
    · obtain ⟨v, r3, r4⟩ := I.sh j d r2
      exact ⟨v, r3, r4.mono s⟩
  · rcases ownI_set q with ⟨r1, r2, r3⟩ | ⟨r1, r2⟩
    · rcases r3 with r3 | r3 <;> cases r3
    · obtain ⟨b, r3, r4, r5⟩ := I.own j o' r2
      refine ⟨b, r3, ?_, r5.mono s rfl⟩
      rw [upd_ne]
      · exact r4
      · rintro rfl
        exact r1 (I.dist i j b o o' (ownI_ow h) r2 h1 r3)
  · rcases ownI_set q1 with ⟨_, _, r3⟩ | ⟨_, r2⟩
    · rcases r3 with r3 | r3 <;> cases r3
    · rcases ownI_set q2 with ⟨_, _, r4⟩ | ⟨_, r5⟩
      · rcases r4 with r4 | r4 <;> cases r4
      · exact I.dist j k b o1 o2 r2 r5 q3 q4
  · rcases set_get q1 with ⟨_, r2, _⟩ | ⟨_, r2⟩
    · cases r2
    · exact I.low j o' b r2 q2
  · rcases set_get q with ⟨_, r2, _⟩ | ⟨_, r2⟩
    · cases r2
    · exact I.io j o' r2
  · obtain ⟨o', r⟩ := I.iom j b q
    refine ⟨o', ?_⟩
    rw [List.getElem?_set_ne]
    · exact r
    · rintro rfl
      rw [h] at r; cases r
  · rw [upd_ne]
    · exact I.fre b o' q1 q2 q3
    · rintro rfl
      rw [h0] at q1; cases q1
/-- what a frame holds is forgotten -/
theorem FI.drop (I : FI g G σ e F H) {i : Nat} (h : ∀ o, e[i]? ≠ some (Sl.io o)) : FI g G σ (e.set i .no) F H where
  sub0 := I.sub0
  sub := I.sub
  len := by simpa using I.len
  ln := I.ln
  sh := fun j d q => by
    rcases set_get q with ⟨_, r2, _⟩ | ⟨_, r2⟩
    · cases r2
    · exact I.sh j d r2
  own := fun j o q => by
    rcases ownI_set q with ⟨_, _, r3⟩ | ⟨_, r2⟩
    · rcases r3 with r3 | r3 <;> cases r3
    · exact I.own j o r2
  dist := fun j k b o1 o2 q1 q2 q3 q4 => by
    rcases ownI_set q1 with ⟨_, _, r3⟩ | ⟨_, r2⟩
    · rcases r3 with r3 | r3 <;> cases r3
    · rcases ownI_set q2 with ⟨_, _, r4⟩ | ⟨_, r5⟩
      · rcases r4 with r4 | r4 <;> cases r4
      · exact I.dist j k b o1 o2 r2 r5 q3 q4
  low := fun j o b q1 q2 => by
    rcases set_get q1 with ⟨_, r2, _⟩ | ⟨_, r2⟩
    · cases r2
    · exact I.low j o b r2 q2
  io := fun j o q => by
    rcases set_get q with ⟨_, r2, _⟩ | ⟨_, r2⟩
    · cases r2
    · exact I.io j o r2
  iom := fun j b q => by
    obtain ⟨o', r⟩ := I.iom j b q
    refine ⟨o', ?_⟩
    rw [List.getElem?_set_ne]
    · exact r
    · rintro rfl
      exact h o' r
  keep := I.keep
  fre := I.fre
/-- a thing that stands by itself: new since the frame's entry, of no slot, not frozen -/
structure Tmp (g : Wl) (G : Gr) (σ : L2.St) (e : Sv) (F H : Hp) (a : Addr) (o : OD) : Prop where
  f : F a = none
  h0 : G.H0 a = none
  no : ∀ i o', ownI e i = some o' → σ[i]? ≠ some (some (V.ref a))
  at_ : OwAt g F H a o
/-- it is frozen -/
theorem FI.freezeT (I : FI g G σ e F H) {a : Addr} {o : OD} (t : Tmp g G σ e F H a o) : ∃ F', Rp g F' (.ref a) o.data ∧ Same F F' ∧ FI g G σ e F' H := by
  obtain ⟨u, eu⟩ := t.at_.there
  have h2 := t.f
  have s : Same F (upd F a u) := fun b x q => by rw [upd_ne (ne_of_none q h2)]; exact q
  refine ⟨upd F a u, t.at_.rp s (by rw [upd_same, eu]), s, I.sub0.trans s, fun b x q => ?_, I.len, I.ln, fun j d q => ?_, fun j o' q => ?_, I.dist, I.low, I.io, I.iom, I.keep, fun b o' q1 q2 q3 => ?_⟩
  · by_cases z : b = a
    · subst z; rw [upd_same] at q; cases q; exact eu
    · rw [upd_ne z] at q; exact I.sub _ _ q
  · obtain ⟨v, r3, r4⟩ := I.sh j d q
    exact ⟨v, r3, r4.mono s⟩
  · obtain ⟨b, r3, r4, r5⟩ := I.own j o' q
    refine ⟨b, r3, ?_, r5.mono s rfl⟩
    rw [upd_ne]
    · exact r4
    · rintro rfl
      exact t.no j o' q r3
  · rw [upd_ne]
    · exact I.fre b o' q1 q2 q3
    · rintro rfl
      have := t.h0
      rw [this] at q1; cases q1
/-- a slot of one's own is taken out -/
theorem FI.move (I : FI g G σ e F H) {i : Nat} {o : OD} (h : e[i]? = some (Sl.ow o)) : ∃ a, σ[i]? = some (some (V.ref a)) ∧ Tmp g G σ (e.set i .no) F H a o ∧ FI g G σ (e.set i .no) F H := by
  obtain ⟨a, h1, h2, h3⟩ := I.own i o (ownI_ow h)
  refine ⟨a, h1, ⟨h2, I.low i o a h h1, fun j o' q r => ?_, h3⟩, I.drop fun o' q => by rw [h] at q; cases q⟩
  rcases ownI_set q with ⟨_, _, r3⟩ | ⟨r1, r2⟩
  · rcases r3 with r3 | r3 <;> cases r3
  · exact r1 (I.dist i j a o o' (ownI_ow h) r2 h1 r)
/-- a slot that is not lent takes data -/
theorem FI.setSh (I : FI g G σ e F H) {i : Nat} {v : V} {d : D} (hi : i < e.length) (h : ∀ o, e[i]? ≠ some (Sl.io o)) (r : Rp g F v d) : FI g G (σ.set i (some v)) (e.set i (.sh d)) F H where
  sub0 := I.sub0
  sub := I.sub
  len := by simpa using I.len
  ln := by simpa using I.ln
  sh := fun j d' q => by
    rcases set_get q with ⟨r1, r2, r3⟩ | ⟨r1, r2⟩
    · subst r1; cases r2
      exact ⟨v, by rw [List.getElem?_set_self (by rw [← I.len]; exact hi)], r⟩
    · obtain ⟨u, r3, r4⟩ := I.sh j d' r2
      exact ⟨u, by rw [List.getElem?_set_ne r1]; exact r3, r4⟩
  own := fun j o q => by
    rcases ownI_set q with ⟨_, _, r3⟩ | ⟨r1, r2⟩
    · rcases r3 with r3 | r3 <;> cases r3
    · obtain ⟨b, r3, r4⟩ := I.own j o r2
      exact ⟨b, by rw [List.getElem?_set_ne r1]; exact r3, r4⟩
  dist := fun j k b o1 o2 q1 q2 q3 q4 => by
    rcases ownI_set q1 with ⟨_, _, r3⟩ | ⟨r1, r2⟩
    · rcases r3 with r3 | r3 <;> cases r3
    · rcases ownI_set q2 with ⟨_, _, r4⟩ | ⟨r4, r5⟩
      · rcases r4 with r4 | r4 <;> cases r4
      · rw [List.getElem?_set_ne r1] at q3
        rw [List.getElem?_set_ne r4] at q4
        exact I.dist j k b o1 o2 r2 r5 q3 q4
  low := fun j o b q1 q2 => by
    rcases set_get q1 with ⟨_, r2, _⟩ | ⟨r1, r2⟩
    · cases r2
    · rw [List.getElem?_set_ne r1] at q2
      exact I.low j o b r2 q2
  io := fun j o q => by
    rcases set_get q with ⟨_, r2, _⟩ | ⟨r1, r2⟩
    · cases r2
    · obtain ⟨a, r3, r4⟩ := I.io j o r2
      exact ⟨a, r3, by rw [List.getElem?_set_ne r1]; exact r4⟩
  iom := fun j b q => by
    obtain ⟨o', r⟩ := I.iom j b q
    refine ⟨o', ?_⟩
    rw [List.getElem?_set_ne]
    · exact r
    · rintro rfl
      exact h o' r
  keep := I.keep
  fre := I.fre
/-- a slot that is not lent takes a thing that stands by itself -/
theorem FI.setOw (I : FI g G σ e F H) {i : Nat} {a : Addr} {o : OD} (hi : i < e.length) (h : ∀ o, e[i]? ≠ some (Sl.io o)) (t : Tmp g G σ e F H a o) : FI g G (σ.set i (some (.ref a))) (e.set i (.ow o)) F H where
  sub0 := I.sub0
  sub := I.sub
  len := by simpa using I.len
  ln := by simpa using I.ln
  sh := fun j d' q => by
    rcases set_get q with ⟨r1, r2, r3⟩ | ⟨r1, r2⟩
    · cases r2
    · obtain ⟨u, r3, r4⟩ := I.sh j d' r2
      exact ⟨u, by rw [List.getElem?_set_ne r1]; exact r3, r4⟩
  own := fun j o' q => by
    rcases ownI_set q with ⟨r1, _, r3⟩ | ⟨r1, r2⟩
    · subst r1
      rcases r3 with r3 | r3 <;> cases r3
      exact ⟨a, by rw [List.getElem?_set_self (by rw [← I.len]; exact hi)], t.f, t.at_⟩
    · obtain ⟨b, r3, r4⟩ := I.own j o' r2
      exact ⟨b, by rw [List.getElem?_set_ne r1]; exact r3, r4⟩
  dist := fun j k b o1 o2 q1 q2 q3 q4 => by
    have hs : i < σ.length := by rw [← I.len]; exact hi
    rcases ownI_set q1 with ⟨r1, _, _⟩ | ⟨r1, r2⟩
    · subst r1
      rcases ownI_set q2 with ⟨r4, _, _⟩ | ⟨r4, r5⟩
      · exact r4
      · rw [List.getElem?_set_self hs] at q3
        rw [List.getElem?_set_ne r4] at q4
        cases q3
        exact absurd q4 (t.no k o2 r5)
    · rcases ownI_set q2 with ⟨r4, _, _⟩ | ⟨r4, r5⟩
      · subst r4
        rw [List.getElem?_set_self hs] at q4
        rw [List.getElem?_set_ne r1] at q3
        cases q4
        exact absurd q3 (t.no j o1 r2)
      · rw [List.getElem?_set_ne r1] at q3
        rw [List.getElem?_set_ne r4] at q4
        exact I.dist j k b o1 o2 r2 r5 q3 q4
  low := fun j o' b q1 q2 => by
    rcases set_get q1 with ⟨r1, r2, _⟩ | ⟨r1, r2⟩
    · subst r1
      rw [List.getElem?_set_self (by rw [← I.len]; exact hi)] at q2
      cases q2
      exact t.h0
    · rw [List.getElem?_set_ne r1] at q2
      exact I.low j o' b r2 q2
  io := fun j o q => by
    rcases set_get q with ⟨_, r2, _⟩ | ⟨r1, r2⟩
    · cases r2
    · obtain ⟨a, r3, r4⟩ := I.io j o r2
      exact ⟨a, r3, by rw [List.getElem?_set_ne r1]; exact r4⟩
  iom := fun j b q => by
    obtain ⟨o', r⟩ := I.iom j b q
    refine ⟨o', ?_⟩
    rw [List.getElem?_set_ne]
    · exact r
    · rintro rfl
      exact h o' r
  keep := I.keep
  fre := I.fre
/-- a slot with other content -/
def putO (e : Sv) (i : Nat) (o : OD) : Sv := match e[i]? with
  | some (.ow _) => e.set i (.ow o)
  | some (.io _) => e.set i (.io o)
  | _ => e
theorem putO_length {i : Nat} {o : OD} : (putO e i o).length = e.length := by
  unfold putO
  split <;> simp
theorem putO_get {i j : Nat} {o o0 : OD} {x : Sl} (h0 : ownI e i = some o0) (h : (putO e i o)[j]? = some x) : (i = j ∧ ((e[i]? = some (Sl.ow o0) ∧ x = Sl.ow o) ∨ (e[i]? = some (Sl.io o0) ∧ x = Sl.io o))) ∨ (i ≠ j ∧ e[j]? = some x) := by
  unfold putO at h
  unfold ownI at h0
  cases q : e[i]? with
  | none => rw [q] at h0; cases h0
  | some y =>
    rw [q] at h0 h
    cases y with
    | no => cases h0
    | sh d => cases h0
    | ow o' =>
      cases h0
      rcases set_get h with ⟨r1, r2, _⟩ | r
      · exact .inl ⟨r1, .inl ⟨rfl, r2.symm⟩⟩
      · exact .inr r
    | io o' =>
      cases h0
      rcases set_get h with ⟨r1, r2, _⟩ | r
      · exact .inl ⟨r1, .inr ⟨rfl, r2.symm⟩⟩
      · exact .inr r
theorem putO_own {i j : Nat} {o o0 o' : OD} (h0 : ownI e i = some o0) (h : ownI (putO e i o) j = some o') : (i = j ∧ o' = o) ∨ (i ≠ j ∧ ownI e j = some o') := by
  cases q : (putO e i o)[j]? with
  | none => unfold ownI at h; rw [q] at h; cases h
  | some x =>
    rcases putO_get h0 q with ⟨r1, r2⟩ | ⟨r1, r2⟩
    · refine .inl ⟨r1, ?_⟩
      unfold ownI at h
      rw [q] at h
      rcases r2 with ⟨_, r2⟩ | ⟨_, r2⟩ <;> (subst r2; cases h; rfl)
    · refine .inr ⟨r1, ?_⟩
      unfold ownI at h ⊢
      rw [q] at h
      rw [r2]
      exact h
/-- the object of a slot is written -/
theorem FI.write (I : FI g G σ e F H) {i : Nat} {a : Addr} {o o' : OD} {u : HO} (h : ownI e i = some o) (ha : σ[i]? = some (some (V.ref a))) (w : OwAt g F (upd H a u) a o') : FI g G σ (putO e i o') F (upd H a u) := by
  obtain ⟨a', h1, h2, h3⟩ := I.own i o h
  rw [ha] at h1
  cases h1
  refine ⟨I.sub0, fun b x q => ?_, by rw [putO_length]; exact I.len, I.ln, fun j d q => ?_, fun j o1 q => ?_, fun j k b o1 o2 q1 q2 q3 q4 => ?_, fun j o1 b q1 q2 => ?_, fun j o1 q => ?_, fun j b q => ?_, fun b o1 q1 q2 => ?_, I.fre⟩
  · rw [upd_ne (ne_of_none q h2)]; exact I.sub _ _ q
  · rcases putO_get h q with ⟨_, r2⟩ | ⟨_, r2⟩
    · rcases r2 with ⟨_, r2⟩ | ⟨_, r2⟩ <;> cases r2
    · exact I.sh j d r2
  · rcases putO_own h q with ⟨r1, r2⟩ | ⟨r1, r2⟩
    · subst r1; subst r2
      exact ⟨a, ha, h2, w⟩
    · obtain ⟨b, r3, r4, r5⟩ := I.own j o1 r2
      refine ⟨b, r3, r4, r5.mono (Same.refl F) ?_⟩
      rw [upd_ne]
      rintro rfl
      exact r1 (I.dist i j b o o1 h r2 ha r3)
  · have q1' : ∃ o, ownI e j = some o := (putO_own h q1).elim (fun z => ⟨o, by rw [← z.1]; exact h⟩) fun z => ⟨o1, z.2⟩
    have q2' : ∃ o, ownI e k = some o := (putO_own h q2).elim (fun z => ⟨o, by rw [← z.1]; exact h⟩) fun z => ⟨o2, z.2⟩
    obtain ⟨_, z1⟩ := q1'
    obtain ⟨_, z2⟩ := q2'
    exact I.dist j k b _ _ z1 z2 q3 q4
  · rcases putO_get h q1 with ⟨r1, r2⟩ | ⟨_, r2⟩
    · subst r1
      rcases r2 with ⟨r2, _⟩ | ⟨_, r2⟩
      · exact I.low i o b r2 q2
      · cases r2
    · exact I.low j o1 b r2 q2
  · rcases putO_get h q with ⟨r1, r2⟩ | ⟨_, r2⟩
    · subst r1
      rcases r2 with ⟨_, r2⟩ | ⟨r2, _⟩
      · cases r2
      · exact I.io i o r2
    · exact I.io j o1 r2
  · obtain ⟨o1, r⟩ := I.iom j b q
    by_cases z : i = j
    · subst z
      refine ⟨o', ?_⟩
      unfold putO
      rw [r]
      show (e.set i (.io o'))[i]? = _
      rw [List.getElem?_set_self (List.getElem?_eq_some_iff.mp r).1]
    · refine ⟨o1, ?_⟩
      unfold putO
      split
      · rw [List.getElem?_set_ne z]; exact r
      · rw [List.getElem?_set_ne z]; exact r
      · exact r
  · rw [upd_ne]
    · exact I.keep b o1 q1 q2
    · rintro rfl
      unfold ownI at h
      cases q : e[i]? with
      | none => rw [q] at h; cases h
      | some y =>
        rw [q] at h
        cases y with
        | no => cases h
        | sh d => cases h
        | ow o2 =>
          have := I.low i o2 b q ha
          rw [this] at q1; cases q1
        | io o2 =>
          obtain ⟨c, r1, r2⟩ := I.io i o2 q
          rw [ha] at r2
          cases r2
          exact q2 i r1
end
end DL
/-! DL, part B: expressions over data. -/
namespace DL
open PySem PySem.Spec PyProof.Rows L2
/-- what an expression hands on: data; a new thing of nobody's; what a slot owns -/
inductive Op where
  | vl (d : D) | tm (o : OD) | sl (i : Nat)
def pend : Op → Op
  | .vl d => .vl d
  | .tm o => .vl o.data
  | .sl i => .sl i
/-- the data of it -/
def withO (e : Sv) (r : Op) (k : D → Prop) : Prop := match r with
  | .vl d => k d
  | .tm o => k o.data
  | .sl i => match ownI e i with
    | some o => k o.data
    | none => False
def withOs (e : Sv) : List Op → (List D → Prop) → Prop
  | [], k => k []
  | r :: rs, k => withO e r fun d => withOs e rs fun ds => k (d :: ds)
/-- the bool that an operand is -/
def onB (r : Op) (k : Bool → Prop) : Prop := match r with
  | .vl (.bool c) => k c
  | _ => False
abbrev DE := Sv → (Op → Sv → Prop) → Prop
abbrev DT := Sv → (Bool → Sv → Prop) → Prop
abbrev DA := Sv → (List Op → Sv → Prop) → Prop
/-- v is what r tells -/
def RR (g : Wl) (G : Gr) (σ : L2.St) (e : Sv) (F H : Hp) (v : V) : Op → Prop
  | .vl d => Rp g F v d
  | .tm o => ∃ a, v = .ref a ∧ Tmp g G σ e F H a o
  | .sl i => σ[i]? = some (some v)
def RRs (g : Wl) (G : Gr) (σ : L2.St) (e : Sv) (F H : Hp) : List V → List Op → Prop := Paired fun v r => RR g G σ e F H v r
def liftE (g : Wl) (G : Gr) (t : DE) : TE := fun σ H Q => ∃ e F Qd, FI g G σ e F H ∧ t e Qd ∧ ∀ r v e' F' H', FI g G σ e' F' H' → Same F F' → RR g G σ e' F' H' v r → Qd r e' → Q v H'
def liftT (g : Wl) (G : Gr) (t : DT) : TT := fun σ H Q => ∃ e F Qd, FI g G σ e F H ∧ t e Qd ∧ ∀ b e' F' H', FI g G σ e' F' H' → Same F F' → Qd b e' → Q b H'
def liftA (g : Wl) (G : Gr) (t : DA) : TA := fun σ H Q => ∃ e F Qd, FI g G σ e F H ∧ t e Qd ∧ ∀ rs vs e' F' H', FI g G σ e' F' H' → Same F F' → RRs g G σ e' F' H' vs (rs.map pend) → Qd rs e' → Q vs H'
def PD (X : Cx) (G : Gr) (x : Expr) (t : DE) : Prop := PE X x (liftE (wl X) G t)
def PDT (X : Cx) (G : Gr) (x : Expr) (t : DT) : Prop := PT X x (liftT (wl X) G t)
def PDW (X : Cx) (G : Gr) (x : Expr) (t : DT) : Prop := PW X x (liftT (wl X) G t)
def PDA (X : Cx) (G : Gr) (xs : List Expr) (t : DA) : Prop := PA X xs (liftA (wl X) G t)
theorem pe_mono {X : Cx} {x : Expr} {t t' : TE} (h : PE X x t) (i : ∀ σ H Q, t' σ H Q → t σ H Q) : PE X x t' := ⟨fun pins s σ H Q I q => h.run pins s σ H Q I (i _ _ _ q)⟩
theorem pt_mono {X : Cx} {x : Expr} {t t' : TT} (h : PT X x t) (i : ∀ σ H Q, t' σ H Q → t σ H Q) : PT X x t' := ⟨fun pins s σ H Q I q => h.run pins s σ H Q I (i _ _ _ q)⟩
theorem pw_mono {X : Cx} {x : Expr} {t t' : TT} (h : PW X x t) (i : ∀ σ H Q, t' σ H Q → t σ H Q) : PW X x t' := ⟨fun wh pins s σ H Q I q => h.run wh pins s σ H Q I (i _ _ _ q)⟩
theorem pa_mono {X : Cx} {x : List Expr} {t t' : TA} (h : PA X x t) (i : ∀ σ H Q, t' σ H Q → t σ H Q) : PA X x t' := ⟨fun pos pins s σ H Q I q => h.run pos pins s σ H Q I (i _ _ _ q)⟩
/-- data that is read: frozen, or a thing one of whose levels may change -/
inductive Bp (g : Wl) (F H : Hp) : V → D → Prop
  | of {v : V} {d : D} : Rp g F v d → Bp g F H v d
  | ow {a : Addr} {o : OD} : OwAt g F H a o → Bp g F H (.ref a) o.data
abbrev Bps (g : Wl) (F H : Hp) : List V → List D → Prop := Paired (Bp g F H)
theorem Bp.rp {g : Wl} {F H : Hp} {v : V} {d : D} (s : Same F H) (h : Bp g F H v d) : Rp g H v d := by
  cases h with
  | of h => exact h.mono s
  | ow h => exact h.rp s rfl
theorem Bp.list {g : Wl} {F H : Hp} {v : V} {ds : List D} (s : Same F H) (h : Bp g F H v (.list ds)) : ∃ a vs, v = .ref a ∧ Rd H a (.lst vs) ∧ Rps g F vs ds := by
  generalize e : (PyData.list ds) = d at h
  cases h with
  | of h => subst e; cases h with | lst h1 h2 => exact ⟨_, _, rfl, rd_mono s h1, h2⟩
  | @ow a o h =>
    cases o with
    | lst es => cases e; obtain ⟨vs, h1, h2⟩ := h; exact ⟨_, _, rfl, .inl h1, h2⟩
    | dct es => cases e
    | dck es => cases e
theorem Bp.tuple {g : Wl} {F H : Hp} {v : V} {ds : List D} (s : Same F H) (h : Bp g F H v (.tuple ds)) : ∃ a vs, v = .ref a ∧ SqT g.K H a vs ∧ Rps g F vs ds := by
  generalize e : (PyData.tuple ds) = d at h
  cases h with
  | of h => subst e; cases h with | tup h1 h2 => exact ⟨_, _, rfl, sqt_mono s h1, h2⟩
  | @ow a o h =>
    cases o with
    | lst es => cases e
    | dct es => cases e
    | dck es => cases e
theorem Bp.frozenT {g : Wl} {F H : Hp} {v : V} {ds : List D} (h : Bp g F H v (.tuple ds)) : Rp g F v (.tuple ds) := by
  generalize e : (PyData.tuple ds) = d at h
  cases h with
  | of h => subst e; exact h
  | @ow a o h => cases o <;> cases e
theorem Bp.int {g : Wl} {F H : Hp} {v : V} {i : Int} (h : Bp g F H v (.int i)) : v = .int i := by
  generalize e : (PyData.int i) = d at h
  cases h with
  | of h => subst e; cases h; rfl
  | @ow a o h => cases o <;> cases e
theorem Bp.str {g : Wl} {F H : Hp} {v : V} {i : Str} (h : Bp g F H v (.str i)) : v = .str i ∧ okS i = true := by
  generalize e : (PyData.str i) = d at h
  cases h with
  | of h => subst e; cases h with | str _ h => exact ⟨rfl, h⟩
  | @ow a o h => cases o <;> cases e
theorem Bp.bool {g : Wl} {F H : Hp} {v : V} {i : Bool} (h : Bp g F H v (.bool i)) : v = .bl i := by
  generalize e : (PyData.bool i) = d at h
  cases h with
  | of h => subst e; cases h; rfl
  | @ow a o h => cases o <;> cases e
theorem Bp.non {g : Wl} {F H : Hp} {v : V} (h : Bp g F H v .none) : v = .non := by
  generalize e : (PyData.none) = d at h
  cases h with
  | of h => subst e; cases h; rfl
  | @ow a o h => cases o <;> cases e
/-- a new value by a step that only makes new things -/
def Nw (g : Wl) (F H F' H' : Hp) (v : V) : Op → Prop
  | .vl d => Rp g F' v d
  | .tm o => ∃ a, v = .ref a ∧ H a = none ∧ F' a = none ∧ OwAt g F' H' a o
  | .sl _ => False
section
variable {g : Wl} {G : Gr} {σ : L2.St} {e e' : Sv} {F H F' H' : Hp} {v : V} {r : Op}
theorem rr_of (I : FI g G σ e F H) (w : Grow F H F' H') (n : Nw g F H F' H' v r) : RR g G σ e F' H' v r := by
  cases r with
  | vl d => exact n
  | tm o =>
    obtain ⟨a, h1, h2, h3, h4⟩ := n
    refine ⟨a, h1, h3, I.fresh h2, fun i o' q z => ?_, h4⟩
    obtain ⟨b, q1, _, q3⟩ := I.own i o' q
    rw [z] at q1
    cases q1
    obtain ⟨u, eu⟩ := q3.there
    rw [h2] at eu; cases eu
  | sl i => exact n.elim
theorem bp_of (I : FI g G σ e F H) (h : RR g G σ e F H v r) {k : D → Prop} (w : withO e r k) : ∃ d, Bp g F H v d ∧ k d := by
  cases r with
  | vl d => exact ⟨d, .of h, w⟩
  | tm o => obtain ⟨a, rfl, t⟩ := h; exact ⟨_, .ow t.at_, w⟩
  | sl i =>
    have w' : (match ownI e i with | some o => k o.data | none => False) := w
    cases q : ownI e i with
    | none => rw [q] at w'; exact w'.elim
    | some o =>
      rw [q] at w'
      obtain ⟨a, h1, _, h3⟩ := I.own i o q
      have h' : σ[i]? = some (some v) := h
      rw [h1] at h'
      cases h'
      exact ⟨_, .ow h3, w'⟩
theorem bool_of {k : Bool → Prop} (h : RR g G σ e F H v r) (q : onB r k) : ∃ c, r = .vl (.bool c) ∧ v = .bl c ∧ k c := by
  cases r with
  | vl d =>
    cases d with
    | bool b =>
      have r1' : Rp g F v (.bool b) := h
      cases r1'
      exact ⟨b, rfl, rfl, q⟩
    | none => exact q.elim
    | int i => exact q.elim
    | str i => exact q.elim
    | list i => exact q.elim
    | tuple i => exact q.elim
    | dict i => exact q.elim
  | tm o => exact q.elim
  | sl i => exact q.elim
/-- what waits while another part is evaluated -/
theorem rr_pend (I : FI g G σ e F H) (h : RR g G σ e F H v r) : ∃ F1, FI g G σ e F1 H ∧ Same F F1 ∧ RR g G σ e F1 H v (pend r) := by
  cases r with
  | vl d => exact ⟨F, I, Same.refl F, h⟩
  | tm o =>
    obtain ⟨a, rfl, t⟩ := h
    obtain ⟨F1, h1, h2, h3⟩ := I.freezeT t
    exact ⟨F1, h3, h2, h1⟩
  | sl i => exact ⟨F, I, Same.refl F, h⟩
theorem rr_keep (s : Same F F') (h : RR g G σ e F H v (pend r)) : RR g G σ e' F' H' v (pend r) := by
  cases r with
  | vl d => exact Rp.mono s h
  | tm o => exact Rp.mono s h
  | sl i => exact h
theorem pend_pend : pend (pend r) = pend r := by cases r <;> rfl
end
/-! ### the base -/
section
variable {X : Cx} {G : Gr}
/-- a step behind an operand: the operand's value, then what is made of it -/
theorem pd_un {x : Expr} {te : TE} {ta t : DE} {r : V → Hp → VK → Prop} (h : PE X x (fun σ H Q => liftE (wl X) G ta σ H fun v H1 => r v H1 Q))
    (ht : ∀ e Q, t e Q → ta e fun ra e1 => ∃ tt : (Op → Prop) → Prop, tt (fun o => Q o e1) ∧ ∀ (σ : L2.St) (F H : Hp) (v : V) (Qd : Op → Prop) (Qv : VK), FI (wl X) G σ e1 F H → RR (wl X) G σ e1 F H v ra → tt Qd →
      (∀ rr v' F' H', Grow F H F' H' → Nw (wl X) F H F' H' v' rr → Qd rr → Qv v' H') → r v H Qv) : PD X G x t := by
  refine pe_mono h fun σ H Q => ?_
  rintro ⟨e, F, Qd, I, hh, k⟩
  refine ⟨e, F, _, I, ht e Qd hh, ?_⟩
  rintro ra v e1 F1 H1 I1 s1 r1 ⟨tt, htt, hr⟩
  exact hr σ F1 H1 v _ Q I1 r1 htt fun rr v' F' H' w n q => k rr v' e1 F' H' (I1.grow w) (s1.trans w.ff) (rr_of I1 w n) q
/-- a name, its data shared or lent to what reads it now -/
def dRef (i : Nat) : DE := fun e Q => match e[i]? with
  | some (.sh d) => Q (.vl d) e
  | some (.ow _) => Q (.sl i) e
  | some (.io _) => Q (.sl i) e
  | _ => False
/-- a name whose data is handed on: what was owned is frozen -/
def dVal (i : Nat) : DE := fun e Q => match e[i]? with
  | some (.sh d) => Q (.vl d) e
  | some (.ow o) => Q (.vl o.data) (e.set i (.sh o.data))
  | _ => False
/-- a name that gives its thing away -/
def dMov (i : Nat) : DE := fun e Q => match e[i]? with
  | some (.sh d) => Q (.vl d) e
  | some (.ow o) => Q (.tm o) (e.set i .no)
  | _ => False
theorem pd_ref {i : Nat} {x : Expr} (h : PE X x (tVar i)) : PD X G x (dRef i) := by
  refine pe_mono h fun σ H Q => ?_
  rintro ⟨e, F, Qd, I, hh, k⟩
  have hh' : (match e[i]? with
    | some (.sh d) => Qd (.vl d) e
    | some (.ow _) => Qd (.sl i) e
    | some (.io _) => Qd (.sl i) e
    | _ => False) := hh
  cases q : e[i]? with
  | none => rw [q] at hh'; exact hh'.elim
  | some y =>
    rw [q] at hh'
    cases y with
    | no => exact hh'.elim
    | sh d =>
      obtain ⟨v, h1, h2⟩ := I.sh i d q
      exact ⟨v, h1, k (.vl d) _ _ _ _ I (Same.refl F) h2 hh'⟩
    | ow o =>
      obtain ⟨a, h1, _⟩ := I.own i o (ownI_ow q)
      exact ⟨_, h1, k (.sl i) _ _ _ _ I (Same.refl F) h1 hh'⟩
    | io o =>
      obtain ⟨a, h1, _⟩ := I.own i o (ownI_io q)
      exact ⟨_, h1, k (.sl i) _ _ _ _ I (Same.refl F) h1 hh'⟩
theorem pd_val {i : Nat} {x : Expr} (h : PE X x (tVar i)) : PD X G x (dVal i) := by
  refine pe_mono h fun σ H Q => ?_
  rintro ⟨e, F, Qd, I, hh, k⟩
  have hh' : (match e[i]? with
    | some (.sh d) => Qd (.vl d) e
    | some (.ow o) => Qd (.vl o.data) (e.set i (.sh o.data))
    | _ => False) := hh
  cases q : e[i]? with
  | none => rw [q] at hh'; exact hh'.elim
  | some y =>
    rw [q] at hh'
    cases y with
    | no => exact hh'.elim
    | sh d =>
      obtain ⟨v, h1, h2⟩ := I.sh i d q
      exact ⟨v, h1, k (.vl d) _ _ _ _ I (Same.refl F) h2 hh'⟩
    | ow o =>
      obtain ⟨F', a, h1, h2, h3, h4⟩ := I.freeze q
      exact ⟨_, h1, k (.vl o.data) _ _ _ _ h4 h3 h2 hh'⟩
    | io o => exact hh'.elim
theorem pd_mov {i : Nat} {x : Expr} (h : PE X x (tVar i)) : PD X G x (dMov i) := by
  refine pe_mono h fun σ H Q => ?_
  rintro ⟨e, F, Qd, I, hh, k⟩
  have hh' : (match e[i]? with
    | some (.sh d) => Qd (.vl d) e
    | some (.ow o) => Qd (.tm o) (e.set i .no)
    | _ => False) := hh
  cases q : e[i]? with
  | none => rw [q] at hh'; exact hh'.elim
  | some y =>
    rw [q] at hh'
    cases y with
    | no => exact hh'.elim
    | sh d =>
      obtain ⟨v, h1, h2⟩ := I.sh i d q
      exact ⟨v, h1, k (.vl d) _ _ _ _ I (Same.refl F) h2 hh'⟩
    | ow o =>
      obtain ⟨a, h1, h2, h3⟩ := I.move q
      exact ⟨_, h1, k (.tm o) _ _ _ _ h3 (Same.refl F) ⟨a, rfl, h2⟩ hh'⟩
    | io o => exact hh'.elim
/-- a constant; a module's thing that is data whatever the heap -/
def dC (d : D) : DE := fun e Q => Q (.vl d) e
theorem pd_c {x : Expr} {v : V} {d : D} (h : PE X x (tC v)) (r : ∀ F : Hp, Rp (wl X) F v d) : PD X G x (dC d) := by
  refine pe_mono h fun σ H Q => ?_
  rintro ⟨e, F, Qd, I, hh, k⟩
  exact k (.vl d) _ _ _ _ I (Same.refl F) (r F) hh
theorem pd_int {i j pos} : PD X G (.Constant (.int i) j pos) (dC (.int i)) := pd_c pe_int fun _ => .int i
theorem pd_bl {b j pos} : PD X G (.Constant (.bool b) j pos) (dC (.bool b)) := pd_c pe_bl fun _ => .bl b
theorem pd_non {j pos} : PD X G (.Constant .none j pos) (dC .none) := pd_c pe_non fun _ => .non
theorem pd_str {x j pos} (h : okS x = true := by rfl) : PD X G (.Constant (.str x) j pos) (dC (.str x)) := pd_c pe_str fun _ => .str x h
end
/-! ### two operands -/
/-- a step on two values: what it tells of data -/
def OpD (g : Wl) (r : R2) (t : D → D → (Op → Prop) → Prop) : Prop := ∀ (F H : Hp) (x y : V) (dx dy : D) (Qd : Op → Prop) (Q : VK), Same F H → Bp g F H x dx → Bp g F H y dy → t dx dy Qd →
  (∀ rr v F' H', Grow F H F' H' → Nw g F H F' H' v rr → Qd rr → Q v H') → r x y H Q
def dOp (t : D → D → (Op → Prop) → Prop) (ta tb : DE) : DE := fun e Q => ta e fun ra e1 => tb e1 fun rb e2 => withO e2 (pend ra) fun x => withO e2 rb fun y => t x y fun r => Q r e2
section
variable {X : Cx} {G : Gr}
theorem lift_op {g : Wl} {r : R2} {t : D → D → (Op → Prop) → Prop} {ta tb : DE} (h : OpD g r t) {σ : L2.St} {H : Hp} {Q : VK} (q : liftE g G (dOp t ta tb) σ H Q) : tOp r (liftE g G ta) (liftE g G tb) σ H Q := by
  obtain ⟨e, F, Qd, I, hh, k⟩ := q
  refine ⟨e, F, _, I, hh, ?_⟩
  intro ra v e1 F1 H1 I1 s1 r1 q1
  obtain ⟨F1', I1', s1', r1'⟩ := rr_pend I1 r1
  refine ⟨e1, F1', _, I1', q1, ?_⟩
  intro rb u e2 F2 H2 I2 s2 r2 q2
  have ra2 : RR g G σ e2 F2 H2 v (pend ra) := rr_keep s2 r1'
  obtain ⟨dx, b1, q3⟩ := bp_of I2 ra2 q2
  obtain ⟨dy, b2, q4⟩ := bp_of I2 r2 q3
  exact h F2 H2 v u dx dy _ Q I2.sub b1 b2 q4 fun rr v' F' H' w n qq => k rr v' e2 F' H' (I2.grow w) (((s1.trans s1').trans s2).trans w.ff) (rr_of I2 w n) qq
theorem pd_op {op : Operator} {r : R2} {t : D → D → (Op → Prop) → Prop} {a b : Expr} {ta tb : DE} {pos : Pos} (ho : OpR X (binaryOp op) r) (hd : OpD (wl X) r t) (ha : PD X G a ta) (hb : PD X G b tb) : PD X G (.BinOp a op b pos) (dOp t ta tb) :=
  pe_mono (pe_op ho ha hb) fun _ _ _ q => lift_op hd q
theorem pd_cmp {op : CmpOp} {r : R2} {t : D → D → (Op → Prop) → Prop} {a b : Expr} {ta tb : DE} {pos : Pos} (ho : OpR X (compareOp op) r) (hd : OpD (wl X) r t) (ha : PD X G a ta) (hb : PD X G b tb) (hm : behindInMarks op b = false) :
    PD X G (.Compare a [op] [b] pos) (dOp t ta tb) := pe_mono (pe_cmpR ho ha hb hm) fun _ _ _ q => lift_op hd q
theorem pd_ix {r : R2} {t : D → D → (Op → Prop) → Prop} {a b : Expr} {ta tb : DE} {pos : Pos} (ho : IxR X r) (hd : OpD (wl X) r t) (ha : PD X G a ta) (hb : PD X G b tb) (hs : PlainIx b) : PD X G (.Subscript a b pos) (dOp t ta tb) :=
  pe_mono (pe_ix ho ha hb hs) fun _ _ _ q => lift_op hd q
/-- as a test -/
def dTst (t : DE) : DT := fun e Q => t e fun r e1 => onB r fun b => Q b e1
theorem lift_tst {g : Wl} {t : DE} {σ : L2.St} {H : Hp} {Q : Bool → Hp → Prop} (q : liftT g G (dTst t) σ H Q) : liftE g G t σ H fun x H' => ∃ k, x = .bl k ∧ Q k H' := by
  obtain ⟨e, F, Qd, I, hh, k⟩ := q
  refine ⟨e, F, _, I, hh, ?_⟩
  intro r v e1 F1 H1 I1 s1 r1 q1
  obtain ⟨b, rfl, rfl, q2⟩ := bool_of r1 q1
  exact ⟨b, rfl, k b e1 F1 H1 I1 s1 q2⟩
theorem pdt_val {x : Expr} {t : DE} (h : PD X G x t) (he : ∀ whole, isTrue x X.env whole = (do let v ← whole; standAt x.pos; holding [v] (truthy v)) := by intro _; rfl) : PDT X G x (dTst t) :=
  pt_mono (pt_val h he) fun _ _ _ q => lift_tst q
theorem pdt_cmp {op : CmpOp} {r : R2} {t : D → D → (Op → Prop) → Prop} {a b : Expr} {ta tb : DE} {pos : Pos} (ho : OpR X (compareOp op) r) (hd : OpD (wl X) r t) (ha : PD X G a ta) (hb : PD X G b tb) (hm : behindInMarks op b = false) :
    PDT X G (.Compare a [op] [b] pos) (dTst (dOp t ta tb)) := by
  refine pt_mono (pt_cmpR ho ha hb hm) fun σ H Q q => ?_
  exact lift_op hd (lift_tst q)
/-- a < b < c -/
def dChain (t t' : D → D → (Op → Prop) → Prop) (ta tb tc : DE) : DE := fun e Q => ta e fun ra e1 => tb e1 fun rb e2 => withO e2 (pend ra) fun x => withO e2 (pend rb) fun y => t x y fun r => onB r fun b =>
  if b = true then tc e2 fun rc e3 => withO e3 (pend rb) fun y => withO e3 rc fun z => t' y z fun r' => Q r' e3 else Q (.vl (.bool false)) e2
end
section
variable {X : Cx} {G : Gr} {A : DT} {B : DT}
def dAnd (t u : DT) : DT := fun e Q => t e fun c e1 => if c = true then u e1 Q else Q false e1
def dOr (t u : DT) : DT := fun e Q => t e fun c e1 => if c = true then Q true e1 else u e1 Q
def dNot (t : DT) : DT := fun e Q => t e fun c e1 => Q (!c) e1
theorem pdw_and1 {a : Expr} {pos : Pos} (h : PDT X G a A) : PDW X G (.BoolOp .And [a] pos) A := pw_and1 h
theorem pdw_or1 {a : Expr} {pos : Pos} (h : PDT X G a A) : PDW X G (.BoolOp .Or [a] pos) A := pw_or1 h
theorem lift_and {g : Wl} {t u : DT} {σ : L2.St} {H : Hp} {Q : Bool → Hp → Prop} (q : liftT g G (dAnd t u) σ H Q) : tAnd (liftT g G t) (liftT g G u) σ H Q := by
  obtain ⟨e, F, Qd, I, hh, k⟩ := q
  refine ⟨e, F, _, I, hh, ?_⟩
  intro b e1 F1 H1 I1 s1 q1
  cases b with
  | true => exact ⟨e1, F1, Qd, I1, q1, fun b e2 F2 H2 I2 s2 => k b e2 F2 H2 I2 (s1.trans s2)⟩
  | false => exact k false e1 F1 H1 I1 s1 q1
theorem lift_or {g : Wl} {t u : DT} {σ : L2.St} {H : Hp} {Q : Bool → Hp → Prop} (q : liftT g G (dOr t u) σ H Q) : tOr (liftT g G t) (liftT g G u) σ H Q := by
  obtain ⟨e, F, Qd, I, hh, k⟩ := q
  refine ⟨e, F, _, I, hh, ?_⟩
  intro b e1 F1 H1 I1 s1 q1
  cases b with
  | false => exact ⟨e1, F1, Qd, I1, q1, fun b e2 F2 H2 I2 s2 => k b e2 F2 H2 I2 (s1.trans s2)⟩
  | true => exact k true e1 F1 H1 I1 s1 q1
theorem pdw_and {a b : Expr} {rest : List Expr} {pos : Pos} (ha : PDT X G a A) (hb : PDW X G (.BoolOp .And (b :: rest) pos) B) : PDW X G (.BoolOp .And (a :: b :: rest) pos) (dAnd A B) := pw_mono (pw_and ha hb) fun _ _ _ q => lift_and q
theorem pdw_or {a b : Expr} {rest : List Expr} {pos : Pos} (ha : PDT X G a A) (hb : PDW X G (.BoolOp .Or (b :: rest) pos) B) : PDW X G (.BoolOp .Or (a :: b :: rest) pos) (dOr A B) := pw_mono (pw_or ha hb) fun _ _ _ q => lift_or q
theorem pdw_pt {a : Expr} (h : PDW X G a A) : PDT X G a A := PW.pt h
theorem pdt_not {a : Expr} {pos : Pos} (h : PDT X G a A) : PDT X G (.UnaryOp .Not a pos) (dNot A) := by
  refine pt_mono (pt_not h) fun σ H Q q => ?_
  obtain ⟨e, F, Qd, I, hh, k⟩ := q
  exact ⟨e, F, _, I, hh, fun b e1 F1 H1 I1 s1 q1 => k (!b) e1 F1 H1 I1 s1 q1⟩
/-- .. as values -/
def dAndV (ta tb : DE) : DE := fun e Q => ta e fun r e1 => onB r fun c => if c = true then tb e1 Q else Q (.vl (.bool false)) e1
def dOrV (ta tb : DE) : DE := fun e Q => ta e fun r e1 => onB r fun c => if c = true then Q (.vl (.bool true)) e1 else tb e1 Q
def dNotV (ta : DE) : DE := fun e Q => ta e fun r e1 => onB r fun c => Q (.vl (.bool (!c))) e1
variable {a b : Expr} {rest : List Expr} {pos : Pos} {ta tb : DE}
theorem pd_one {op} {t : DE} (h : PD X G a t) : PD X G (.BoolOp op [a] pos) t := pe_one h
theorem pd_and (ha : PD X G a ta) (hb : PD X G (.BoolOp .And (b :: rest) pos) tb) : PD X G (.BoolOp .And (a :: b :: rest) pos) (dAndV ta tb) := by
  refine pe_mono (pe_and ha hb) fun σ H Q q => ?_
  obtain ⟨e, F, Qd, I, hh, k⟩ := q
  refine ⟨e, F, _, I, hh, ?_⟩
  intro r v e1 F1 H1 I1 s1 r1 q1
  obtain ⟨c, rfl, rfl, q2⟩ := bool_of r1 q1
  refine ⟨c, rfl, ?_⟩
  cases c with
  | true => exact ⟨e1, F1, Qd, I1, q2, fun r v e2 F2 H2 I2 s2 => k r v e2 F2 H2 I2 (s1.trans s2)⟩
  | false => exact k (.vl (.bool false)) _ e1 F1 H1 I1 s1 (Rp.bl false) q2
theorem pd_or (ha : PD X G a ta) (hb : PD X G (.BoolOp .Or (b :: rest) pos) tb) : PD X G (.BoolOp .Or (a :: b :: rest) pos) (dOrV ta tb) := by
  refine pe_mono (pe_or ha hb) fun σ H Q q => ?_
  obtain ⟨e, F, Qd, I, hh, k⟩ := q
  refine ⟨e, F, _, I, hh, ?_⟩
  intro r v e1 F1 H1 I1 s1 r1 q1
  obtain ⟨c, rfl, rfl, q2⟩ := bool_of r1 q1
  refine ⟨c, rfl, ?_⟩
  cases c with
  | false => exact ⟨e1, F1, Qd, I1, q2, fun r v e2 F2 H2 I2 s2 => k r v e2 F2 H2 I2 (s1.trans s2)⟩
  | true => exact k (.vl (.bool true)) _ e1 F1 H1 I1 s1 (Rp.bl true) q2
theorem pd_not (ha : PD X G a ta) : PD X G (.UnaryOp .Not a pos) (dNotV ta) := by
  refine pe_mono (pe_not ha) fun σ H Q q => ?_
  obtain ⟨e, F, Qd, I, hh, k⟩ := q
  refine ⟨e, F, _, I, hh, ?_⟩
  intro r v e1 F1 H1 I1 s1 r1 q1
  obtain ⟨c, rfl, rfl, q2⟩ := bool_of r1 q1
  exact ⟨c, rfl, k (.vl (.bool (!c))) _ e1 F1 H1 I1 s1 (Rp.bl (!c)) q2⟩
/-- a if t else b -/
def dIfE (t : DT) (ta tb : DE) : DE := fun e Q => t e fun c e1 => if c = true then ta e1 Q else tb e1 Q
theorem pd_ifE {c : Expr} (hc : PDT X G c A) (ha : PD X G a ta) (hb : PD X G b tb) : PD X G (.IfExp c a b pos) (dIfE A ta tb) := by
  refine pe_mono (pe_ifExp hc ha hb) fun σ H Q q => ?_
  obtain ⟨e, F, Qd, I, hh, k⟩ := q
  refine ⟨e, F, _, I, hh, ?_⟩
  intro c e1 F1 H1 I1 s1 q1
  cases c with
  | true => exact ⟨e1, F1, Qd, I1, q1, fun r v e2 F2 H2 I2 s2 => k r v e2 F2 H2 I2 (s1.trans s2)⟩
  | false => exact ⟨e1, F1, Qd, I1, q1, fun r v e2 F2 H2 I2 s2 => k r v e2 F2 H2 I2 (s1.trans s2)⟩
end
section
variable {X : Cx} {G : Gr} {a b c : Expr} {ta tb tc : DE} {pos : Pos}
theorem lift_chain {g : Wl} {r r' : R2} {t t' : D → D → (Op → Prop) → Prop} (h : OpD g r t) (h' : OpD g r' t') {σ : L2.St} {H : Hp} {Q : VK} (q : liftE g G (dChain t t' ta tb tc) σ H Q) : tChain r r' (liftE g G ta) (liftE g G tb) (liftE g G tc) σ H Q := by
  obtain ⟨e, F, Qd, I, hh, k⟩ := q
  refine ⟨e, F, _, I, hh, ?_⟩
  intro ra v e1 F1 H1 I1 s1 r1 q1
  obtain ⟨F1', I1', s1', r1'⟩ := rr_pend I1 r1
  refine ⟨e1, F1', _, I1', q1, ?_⟩
  intro rb u e2 F2 H2 I2 s2 r2 q2
  obtain ⟨F2', I2', s2', r2'⟩ := rr_pend I2 r2
  have ra2 : RR g G σ e2 F2' H2 v (pend ra) := rr_keep (s2.trans s2') r1'
  obtain ⟨dx, b1, q3⟩ := bp_of I2' ra2 q2
  obtain ⟨dy, b2, q4⟩ := bp_of I2' r2' q3
  have s02 : Same F F2' := ((s1.trans s1').trans s2).trans s2'
  refine h F2' H2 v u dx dy _ _ I2'.sub b1 b2 q4 fun rr v' F' H' w n qq => ?_
  have I3 := I2'.grow w
  obtain ⟨kk, e3, e4, q5⟩ := bool_of (rr_of I2' w n) qq
  subst e3; subst e4
  refine ⟨kk, rfl, ?_⟩
  cases kk with
  | false => exact k (.vl (.bool false)) _ e2 F' H' I3 (s02.trans w.ff) (Rp.bl false) q5
  | true =>
    refine ⟨e2, F', _, I3, q5, ?_⟩
    intro rc z e3 F3 H3 I4 s3 r3 q6
    have rb3 : RR g G σ e3 F3 H3 u (pend rb) := rr_keep (w.ff.trans s3) r2'
    obtain ⟨dy', b3, q7⟩ := bp_of I4 rb3 q6
    obtain ⟨dz, b4, q8⟩ := bp_of I4 r3 q7
    exact h' F3 H3 u z dy' dz _ Q I4.sub b3 b4 q8 fun rr v' F'' H'' w' n' qq' => k rr v' e3 F'' H'' (I4.grow w') (((s02.trans w.ff).trans s3).trans w'.ff) (rr_of I4 w' n') qq'
theorem pd_chain {op op' : CmpOp} {r r' : R2} {t t' : D → D → (Op → Prop) → Prop} (ho : OpR X (compareOp op) r) (ho' : OpR X (compareOp op') r') (hd : OpD (wl X) r t) (hd' : OpD (wl X) r' t') (ha : PD X G a ta) (hb : PD X G b tb) (hc : PD X G c tc)
    (hm : lastMarks [op, op'] [b, c] = false) : PD X G (.Compare a [op, op'] [b, c] pos) (dChain t t' ta tb tc) :=
  pe_mono (pe_chain ho ho' ha hb hc hm) fun _ _ _ q => lift_chain hd hd' q
theorem pdt_chain {op op' : CmpOp} {r r' : R2} {t t' : D → D → (Op → Prop) → Prop} (ho : OpR X (compareOp op) r) (ho' : OpR X (compareOp op') r') (hd : OpD (wl X) r t) (hd' : OpD (wl X) r' t') (ha : PD X G a ta) (hb : PD X G b tb) (hc : PD X G c tc)
    (hm : lastMarks [op, op'] [b, c] = false) : PDT X G (.Compare a [op, op'] [b, c] pos) (dTst (dChain t t' ta tb tc)) :=
  pt_mono (pt_chain ho ho' ha hb hc hm) fun _ _ _ q => lift_chain hd hd' (lift_tst q)
end
/-! ### several operands -/
def dAs : List DE → DA
  | [], e, Q => Q [] e
  | t :: ts, e, Q => t e fun r e1 => dAs ts e1 fun rs e2 => Q (pend r :: rs) e2
section
variable {X : Cx} {G : Gr}
theorem rrs_keep {g : Wl} {σ : L2.St} {e e' : Sv} {F F' H H' : Hp} (s : Same F F') : ∀ {vs : List V} {rs : List Op}, RRs g G σ e F H vs (rs.map pend) → RRs g G σ e' F' H' vs (rs.map pend)
  | _, [], h => by cases h; exact .nil
  | _, r :: rs, h => by cases h with | cons h1 h2 => exact .cons (rr_keep s h1) (rrs_keep s h2)
theorem pda_nil : PDA X G [] (dAs []) := by
  refine pa_mono pa_nil fun σ H Q q => ?_
  obtain ⟨e, F, Qd, I, hh, k⟩ := q
  exact k [] [] e F H I (Same.refl F) .nil hh
theorem pda_cons {x : Expr} {xs : List Expr} {t : DE} {ts : List DE} (h : PD X G x t) (hs : PDA X G xs (dAs ts)) (he : starEach (x :: xs) X.env = (false, eval x X.env) :: starEach xs X.env := by rfl) : PDA X G (x :: xs) (dAs (t :: ts)) := by
  refine pa_mono (pa_cons h hs he) fun σ H Q q => ?_
  obtain ⟨e, F, Qd, I, hh, k⟩ := q
  refine ⟨e, F, _, I, hh, ?_⟩
  intro r v e1 F1 H1 I1 s1 r1 q1
  obtain ⟨F1', I1', s1', r1'⟩ := rr_pend I1 r1
  refine ⟨e1, F1', _, I1', q1, ?_⟩
  intro rs vs e2 F2 H2 I2 s2 r2 q2
  refine k (pend r :: rs) (v :: vs) e2 F2 H2 I2 ((s1.trans s1').trans s2) ?_ q2
  show RRs _ _ _ _ _ _ (v :: vs) (pend (pend r) :: rs.map pend)
  rw [pend_pend]
  exact .cons (rr_keep s2 r1') r2
theorem bps_of {g : Wl} {σ : L2.St} {e : Sv} {F H : Hp} (I : FI g G σ e F H) : ∀ {rs : List Op} {vs : List V} {k : List D → Prop}, RRs g G σ e F H vs (rs.map pend) → withOs e rs k → ∃ ds, Bps g F H vs ds ∧ k ds
  | [], _, k, h, w => by cases h; exact ⟨[], .nil, w⟩
  | r :: rs, _, k, h, w => by
    cases h with
    | cons h1 h2 =>
      have w1 : withO e (pend r) fun d => withOs e rs fun ds => k (d :: ds) := by
        cases r with
        | vl d => exact w
        | tm o => exact w
        | sl i => exact w
      obtain ⟨d, b, q⟩ := bp_of I h1 w1
      obtain ⟨ds, bs, q'⟩ := bps_of I h2 q
      exact ⟨d :: ds, .cons b bs, q'⟩
/-- a step on several values -/
def CallD (g : Wl) (r : List V → Hp → VK → Prop) (t : List D → (Op → Prop) → Prop) : Prop := ∀ (F H : Hp) (vs : List V) (ds : List D) (Qd : Op → Prop) (Q : VK), Same F H → Bps g F H vs ds → t ds Qd →
  (∀ rr v F' H', Grow F H F' H' → Nw g F H F' H' v rr → Qd rr → Q v H') → r vs H Q
def dCB (t : List D → (Op → Prop) → Prop) (ts : List DE) : DE := fun e Q => dAs ts e fun rs e1 => withOs e1 rs fun ds => t ds fun r => Q r e1
theorem lift_cb {g : Wl} {r : List V → Hp → VK → Prop} {t : List D → (Op → Prop) → Prop} {ts : List DE} (hd : CallD g r t) {σ : L2.St} {H : Hp} {Q : VK} (q : liftE g G (dCB t ts) σ H Q) : tCB r (liftA g G (dAs ts)) σ H Q := by
  obtain ⟨e, F, Qd, I, hh, k⟩ := q
  refine ⟨e, F, _, I, hh, ?_⟩
  intro rs vs e1 F1 H1 I1 s1 r1 q1
  obtain ⟨ds, bs, q2⟩ := bps_of I1 r1 q1
  exact hd F1 H1 vs ds _ Q I1.sub bs q2 fun rr v F' H' w n qq => k rr v e1 F' H' (I1.grow w) (s1.trans w.ff) (rr_of I1 w n) qq
variable {x : Str} {p pos : Pos} {e : Expr} {es : List Expr} {ts : List DE} {t : List D → (Op → Prop) → Prop} {r : List V → Hp → VK → Prop} {id T : String}
theorem pd_callB (hc : CallR X (.builtin id) r) (hd : CallD (wl X) r t) (hg : Gl X x) (hm : X.mg x = none) (hv : bootBuiltins x = some (.builtin id)) (ha : PDA X G (e :: es) (dAs ts)) (hn : x ≠ "__name__" := by decide) (hdb : (x == ("__debug__" : Str)) = false := by decide)
    (he : starEach (e :: es) X.env = (false, eval e X.env) :: starEach es X.env := by rfl) (hpl : (backTo pos (starEach es X.env)).any (·.1) = false := by rfl) : PD X G (.Call (.Name x p) (e :: es) [] pos) (dCB t ts) :=
  pe_mono (pe_callB hc hg hm hv ha hn hdb he hpl) fun _ _ _ q => lift_cb hd q
theorem pd_callTy (hc : CallR X (.type T) r) (hd : CallD (wl X) r t) (hg : Gl X x) (hm : X.mg x = none) (hv : bootBuiltins x = some (.type T)) (ha : PDA X G (e :: es) (dAs ts)) (hn : x ≠ "__name__" := by decide) (hdb : (x == ("__debug__" : Str)) = false := by decide)
    (he : starEach (e :: es) X.env = (false, eval e X.env) :: starEach es X.env := by rfl) (hpl : (backTo pos (starEach es X.env)).any (·.1) = false := by rfl) : PD X G (.Call (.Name x p) (e :: es) [] pos) (dCB t ts) :=
  pe_mono (pe_callTy hc hg hm hv ha hn hdb he hpl) fun _ _ _ q => lift_cb hd q
/-- the values of operands, all frozen: slots are told by data alone -/
def dVs (ts : List DE) (e : Sv) (Q : List D → Sv → Prop) : Prop := dAs ts e fun rs e1 => vals rs (fun ds => Q ds e1)
where vals : List Op → (List D → Prop) → Prop
  | [], k => k []
  | .vl d :: rs, k => vals rs fun ds => k (d :: ds)
  | _ :: _, _ => False
theorem rps_of {g : Wl} {σ : L2.St} {e : Sv} {F H : Hp} : ∀ {rs : List Op} {vs : List V} {k : List D → Prop}, RRs g G σ e F H vs (rs.map pend) → dVs.vals rs k → ∃ ds, Rps g F vs ds ∧ k ds
  | [], _, k, h, w => by cases h; exact ⟨[], .nil, w⟩
  | .vl d :: rs, _, k, h, w => by
    cases h with
    | cons h1 h2 =>
      obtain ⟨ds, bs, q'⟩ := rps_of h2 w
      exact ⟨d :: ds, .cons h1 bs, q'⟩
  | .tm o :: rs, _, k, h, w => w.elim
  | .sl i :: rs, _, k, h, w => w.elim
/-- (a, b, ..) and [a, b, ..] -/
def dTup (ts : List DE) : DE := fun e Q => dVs ts e fun ds e1 => ds.length ≤ 100000 ∧ Q (.vl (.tuple ds)) e1
def dLst (ts : List DE) : DE := fun e Q => dVs ts e fun ds e1 => ds.length ≤ 100000 ∧ Q (.tm (.lst ds)) e1
theorem line_le {n : Nat} (h : n ≤ 100000) : n ≤ sizeLine := Nat.le_trans h (by rw [sizeLine_eq]; decide)
theorem grow_tup {g : Wl} {F H : Hp} {p : Addr} {vs : List V} {ds : List D} (s : Same F H) (h : H p = none) (r : Rps g F vs ds) : Grow F H (upd F p (.tup vs)) (upd H p (.tup vs)) ∧ Rp g (upd F p (.tup vs)) (.ref p) (.tuple ds) :=
  ⟨Grow.new s h, .tup (.of upd_same) (r.mono (Grow.new s h).ff)⟩
theorem grow_lst {g : Wl} {F H : Hp} {p : Addr} {vs : List V} {ds : List D} (s : Same F H) (h : H p = none) (r : Rps g F vs ds) : Grow F H F (upd H p (.lst vs)) ∧ Nw g F H F (upd H p (.lst vs)) (.ref p) (.tm (.lst ds)) :=
  ⟨Grow.tmp s h, p, rfl, h, s.free h, vs, upd_same, r⟩
theorem pd_tup {x1} (h : PDA X G es (dAs ts)) : PD X G (.Tuple es x1 pos) (dTup ts) := by
  refine pe_mono (pe_tup h) fun σ H Q q => ?_
  obtain ⟨e, F, Qd, I, hh, k⟩ := q
  refine ⟨e, F, _, I, hh, ?_⟩
  intro rs vs e1 F1 H1 I1 s1 r1 q1
  obtain ⟨ds, bs, hl, q2⟩ := rps_of r1 q1
  refine ⟨line_le (by rw [bs.length]; exact hl), fun p hp => ?_⟩
  obtain ⟨w, r⟩ := grow_tup I1.sub hp bs
  exact k (.vl (.tuple ds)) _ e1 _ _ (I1.grow w) (s1.trans w.ff) r q2
theorem pd_lst (h : PDA X G es (dAs ts)) : PD X G (.List es pos) (dLst ts) := by
  refine pe_mono (pe_lst h) fun σ H Q q => ?_
  obtain ⟨e, F, Qd, I, hh, k⟩ := q
  refine ⟨e, F, _, I, hh, ?_⟩
  intro rs vs e1 F1 H1 I1 s1 r1 q1
  obtain ⟨ds, bs, hl, q2⟩ := rps_of r1 q1
  refine ⟨line_le (by rw [bs.length]; exact hl), fun p hp => ?_⟩
  obtain ⟨w, n⟩ := grow_lst I1.sub hp bs
  exact k (.tm (.lst ds)) _ e1 _ _ (I1.grow w) (s1.trans w.ff) (rr_of I1 w n) q2
end
end DL
/-! DL, part C: statements, loops, comprehensions, calls over data. -/
namespace DL
open PySem PySem.Spec PyProof.Rows L2
structure DEn where
  nx : Sv → Prop
  rt : Op → Sv → Prop
  bk : Sv → Prop := fun _ => False
  ct : Sv → Prop := fun _ => False
abbrev DS := DEn → Sv → Prop
def liftS (g : Wl) (G : Gr) (t : DS) : TS := fun D σ H => ∃ e F DD, FI g G σ e F H ∧ t DD e ∧
  (∀ σ' e' F' H', FI g G σ' e' F' H' → Same F F' → DD.nx e' → D.nx σ' H') ∧
  (∀ r v σ' e' F' H', FI g G σ' e' F' H' → Same F F' → RR g G σ' e' F' H' v r → DD.rt r e' → D.rt v H') ∧
  (∀ σ' e' F' H', FI g G σ' e' F' H' → Same F F' → DD.bk e' → D.bk σ' H') ∧
  (∀ σ' e' F' H', FI g G σ' e' F' H' → Same F F' → DD.ct e' → D.ct σ' H')
def PDS (X : Cx) (G : Gr) (x : Stmt) (t : DS) : Prop := PS X x (liftS (wl X) G t)
def PDB (X : Cx) (G : Gr) (xs : List Stmt) (t : DS) : Prop := PSs X xs (liftS (wl X) G t)
theorem ps_mono {X : Cx} {x : Stmt} {t t' : TS} (h : PS X x t) (i : ∀ D σ H, t' D σ H → t D σ H) : PS X x t' := ⟨fun pins s σ H D I q => h.run pins s σ H D I (i _ _ _ q)⟩
theorem pss_mono {X : Cx} {x : List Stmt} {t t' : TS} (h : PSs X x t) (i : ∀ D σ H, t' D σ H → t D σ H) : PSs X x t' := ⟨fun pins s σ H D I q => h.run pins s σ H D I (i _ _ _ q)⟩
def dSeq (t u : DS) : DS := fun D e => t { D with nx := u D } e
def dNext : DS := fun D e => D.nx e
def dBrk : DS := fun D e => D.bk e
def dCnt : DS := fun D e => D.ct e
def dIf (c : DT) (t u : DS) : DS := fun D e => c e fun b e1 => if b = true then t D e1 else u D e1
def dRet (t : DE) : DS := fun D e => t e D.rt
def dRetN : DS := fun D e => D.rt (.vl .none) e
def dDrop (t : DE) : DS := fun D e => t e fun _ e1 => D.nx e1
def notIo (e : Sv) (i : Nat) : Prop := match e[i]? with
  | some (.io _) => False
  | none => False
  | _ => True
/-- x = r -/
def setS (e : Sv) (i : Nat) (r : Op) (k : Sv → Prop) : Prop := notIo e i ∧ match r with
  | .vl d => k (e.set i (.sh d))
  | .tm o => k (e.set i (.ow o))
  | .sl _ => False
def dSet (i : Nat) (t : DE) : DS := fun D e => t e fun r e1 => setS e1 i r D.nx
section
variable {X : Cx} {G : Gr} {g : Wl} {σ : L2.St} {H : Hp} {D : Ends}
theorem pdb_nil : PDB X G [] dNext := by
  refine pss_mono pss_nil fun D σ H q => ?_
  obtain ⟨e, F, DD, I, hh, k1, _⟩ := q
  exact k1 σ e F H I (Same.refl F) hh
theorem lift_seq {t u : DS} (q : liftS g G (dSeq t u) D σ H) : tSeq (liftS g G t) (liftS g G u) D σ H := by
  obtain ⟨e, F, DD, I, hh, k1, k2, k3, k4⟩ := q
  refine ⟨e, F, _, I, hh, fun σ' e' F' H' I' s' q' => ?_, k2, k3, k4⟩
  exact ⟨e', F', DD, I', q', fun a b c d i s => k1 a b c d i (s'.trans s), fun a b c d f h i s => k2 a b c d f h i (s'.trans s), fun a b c d i s => k3 a b c d i (s'.trans s), fun a b c d i s => k4 a b c d i (s'.trans s)⟩
theorem pdb_cons {st : Stmt} {rest : List Stmt} {t u : DS} (h1 : PDS X G st t) (h2 : PDB X G rest u) : PDB X G (st :: rest) (dSeq t u) := pss_mono (pss_cons h1 h2) fun _ _ _ q => lift_seq q
theorem pdb_one {st : Stmt} {t : DS} (h : PDS X G st t) : PDB X G [st] t := pss_one h
theorem pds_pass {pos : Pos} : PDS X G (.Pass pos) dNext := by
  refine ps_mono ps_pass fun D σ H q => ?_
  obtain ⟨e, F, DD, I, hh, k1, _⟩ := q
  exact k1 σ e F H I (Same.refl F) hh
theorem pds_break {pos : Pos} : PDS X G (.Break pos) dBrk := by
  refine ps_mono ps_break fun D σ H q => ?_
  obtain ⟨e, F, DD, I, hh, _, _, k3, _⟩ := q
  exact k3 σ e F H I (Same.refl F) hh
theorem pds_continue {pos : Pos} : PDS X G (.Continue pos) dCnt := by
  refine ps_mono ps_continue fun D σ H q => ?_
  obtain ⟨e, F, DD, I, hh, _, _, _, k4⟩ := q
  exact k4 σ e F H I (Same.refl F) hh
theorem pds_if {c : Expr} {a b : List Stmt} {tc : DT} {t u : DS} {pos : Pos} (hc : PDT X G c tc) (ha : PDB X G a t) (hb : PDB X G b u) : PDS X G (.If c a b pos) (dIf tc t u) := by
  refine ps_mono (ps_if hc ha hb) fun D σ H q => ?_
  obtain ⟨e, F, DD, I, hh, k1, k2, k3, k4⟩ := q
  refine ⟨e, F, _, I, hh, ?_⟩
  intro b e1 F1 H1 I1 s1 q1
  cases b with
  | true => exact ⟨e1, F1, DD, I1, q1, fun a b c d i s => k1 a b c d i (s1.trans s), fun a b c d f h i s => k2 a b c d f h i (s1.trans s), fun a b c d i s => k3 a b c d i (s1.trans s), fun a b c d i s => k4 a b c d i (s1.trans s)⟩
  | false => exact ⟨e1, F1, DD, I1, q1, fun a b c d i s => k1 a b c d i (s1.trans s), fun a b c d f h i s => k2 a b c d f h i (s1.trans s), fun a b c d i s => k3 a b c d i (s1.trans s), fun a b c d i s => k4 a b c d i (s1.trans s)⟩
theorem pds_ret {x : Expr} {t : DE} {pos : Pos} (h : PD X G x t) : PDS X G (.Return (some x) pos) (dRet t) := by
  refine ps_mono (ps_ret h) fun D σ H q => ?_
  obtain ⟨e, F, DD, I, hh, k1, k2, k3, k4⟩ := q
  exact ⟨e, F, _, I, hh, fun r v e1 F1 H1 I1 s1 r1 q1 => k2 r v σ e1 F1 H1 I1 s1 r1 q1⟩
theorem pds_retN {pos : Pos} : PDS X G (.Return none pos) dRetN := by
  refine ps_mono ps_retN fun D σ H q => ?_
  obtain ⟨e, F, DD, I, hh, k1, k2, k3, k4⟩ := q
  exact k2 (.vl .none) _ σ e F H I (Same.refl F) Rp.non hh
theorem pds_expr {x : Expr} {t : DE} {pos : Pos} (h : PD X G x t) (hs : swapsWith x none pos.line X.env = pure false := by rfl) : PDS X G (.Expr x pos) (dDrop t) := by
  refine ps_mono (ps_expr h hs) fun D σ H q => ?_
  obtain ⟨e, F, DD, I, hh, k1, k2, k3, k4⟩ := q
  exact ⟨e, F, _, I, hh, fun r v e1 F1 H1 I1 s1 _ q1 => k1 σ e1 F1 H1 I1 s1 q1⟩
theorem notIo_ne {e : Sv} {i : Nat} (h : notIo e i) : i < e.length ∧ ∀ o, e[i]? ≠ some (Sl.io o) := by
  have h' : (match e[i]? with
    | some (.io _) => False
    | none => False
    | _ => True) := h
  cases q : e[i]? with
  | none => rw [q] at h'; exact h'.elim
  | some y =>
    refine ⟨(List.getElem?_eq_some_iff.mp q).1, fun o z => ?_⟩
    rw [q] at h'
    cases z
    exact h'
/-- a slot takes what was told -/
theorem setS_ok {e : Sv} {F : Hp} {i : Nat} {r : Op} {v : V} {k : Sv → Prop} (I : FI g G σ e F H) (h : RR g G σ e F H v r) (q : setS e i r k) : ∃ e', FI g G (σ.set i (some v)) e' F H ∧ k e' := by
  obtain ⟨q0, q⟩ := q
  obtain ⟨hi, hn⟩ := notIo_ne q0
  cases r with
  | vl d => exact ⟨_, I.setSh hi hn h, q⟩
  | tm o =>
    obtain ⟨a, rfl, t⟩ := h
    exact ⟨_, I.setOw hi hn t, q⟩
  | sl j => exact q.elim
theorem pds_set {i : Nat} {x : Str} {y : Expr} {t : DE} {pos pos' : Pos} (hN : X.N.Nodup) (hi : X.N[i]? = some x) (hx : Loc X.env.scope x) (h : PD X G y t) (hs : swapsWith y (some (.Name x pos')) pos.line X.env = pure false := by rfl) (hf : X.fn x = true ∨ X.env.scope.names.lookup x = some .local := by first | exact .inl rfl | exact .inr rfl | assumption) :
    PDS X G (.Assign [.Name x pos'] y pos) (dSet i t) := by
  refine ps_mono (ps_set hN hi hx h hs hf) fun D σ H q => ?_
  obtain ⟨e, F, DD, I, hh, k1, k2, k3, k4⟩ := q
  refine ⟨e, F, _, I, hh, ?_⟩
  intro r v e1 F1 H1 I1 s1 r1 q1
  obtain ⟨e2, I2, q2⟩ := setS_ok I1 r1 q1
  exact k1 _ e2 F1 H1 I2 s1 q2
/-- x op= e, whole numbers -/
def dAug (i : Nat) (f : Int → Int → Int) (t : DE) : DS := fun D e => match e[i]? with
  | some (.sh (.int a)) => t e fun r e1 => (match r with
    | .vl (.int b) => setS e1 i (.vl (.int (f a b))) D.nx
    | _ => False)
  | _ => False
theorem pds_aug {i : Nat} {x : Str} {y : Expr} {t : DE} {op : Operator} {f : Int → Int → Int} {pos pos' : Pos} (hN : X.N.Nodup) (hi : X.N[i]? = some x) (hx : Loc X.env.scope x) (h : PD X G y t) (ho : PIp X op (ipI f)) (hf : X.fn x = true ∨ X.env.scope.names.lookup x = some .local := by first | exact .inl rfl | exact .inr rfl | assumption) :
    PDS X G (.AugAssign (.Name x pos') op y pos) (dAug i f t) := by
  refine ps_mono (ps_aug hN hi hx h ho hf) fun D σ H q => ?_
  obtain ⟨e, F, DD, I, hh, k1, k2, k3, k4⟩ := q
  have hh' : (match e[i]? with
    | some (.sh (.int a)) => t e fun r e1 => (match r with
      | .vl (.int b) => setS e1 i (.vl (.int (f a b))) DD.nx
      | _ => False)
    | _ => False) := hh
  split at hh'
  · rename_i a hq
    obtain ⟨v, h1, h2⟩ := I.sh i _ hq
    cases h2
    refine ⟨_, h1, e, F, _, I, hh', ?_⟩
    intro r u e1 F1 H1 I1 s1 r1 q1
    split at q1
    · rename_i b
      have r1' : Rp (wl X) F1 u (.int b) := r1
      cases r1'
      refine ⟨a, b, rfl, rfl, ?_⟩
      obtain ⟨e2, I2, q2⟩ := setS_ok (r := .vl (.int (f a b))) I1 (Rp.int (f a b)) q1
      exact k1 _ e2 F1 H1 I2 s1 q2
    · exact q1.elim
  · exact hh'.elim
end
/-! ### targets -/
inductive Tg where
  | nm (i : Nat) | tp (ts : List Tg) | ls (ts : List Tg)
mutual
def asgT : Tg → D → Sv → (Sv → Prop) → Prop
  | .nm i, d, e, k => setS e i (.vl d) k
  | .tp ts, .tuple ds, e, k => asgTs ts ds e k
  | .ls ts, .list ds, e, k => asgTs ts ds e k
  | _, _, _, _ => False
def asgTs : List Tg → List D → Sv → (Sv → Prop) → Prop
  | [], [], e, k => k e
  | t :: ts, d :: ds, e, k => asgT t d e fun e1 => asgTs ts ds e1 k
  | _, _, _, _ => False
end
mutual
theorem asgT_ex : ∀ {t : Tg} {d : D} {e : Sv} {k : Sv → Prop}, asgT t d e k → ∃ e1, k e1
  | .nm i, d, e, k, h => ⟨_, h.2⟩
  | .tp ts, .tuple ds, e, k, h => let ⟨e1, q, _⟩ := asgTs_ex (ts := ts) (ds := ds) (e := e) (k := k) h; ⟨e1, q⟩
  | .tp ts, .none, e, k, h => h.elim
  | .tp ts, .bool _, e, k, h => h.elim
  | .tp ts, .int _, e, k, h => h.elim
  | .tp ts, .str _, e, k, h => h.elim
  | .tp ts, .list _, e, k, h => h.elim
  | .tp ts, .dict _, e, k, h => h.elim
  | .ls ts, .list ds, e, k, h => let ⟨e1, q, _⟩ := asgTs_ex (ts := ts) (ds := ds) (e := e) (k := k) h; ⟨e1, q⟩
  | .ls ts, .none, e, k, h => h.elim
  | .ls ts, .bool _, e, k, h => h.elim
  | .ls ts, .int _, e, k, h => h.elim
  | .ls ts, .str _, e, k, h => h.elim
  | .ls ts, .tuple _, e, k, h => h.elim
  | .ls ts, .dict _, e, k, h => h.elim
theorem asgTs_ex : ∀ {ts : List Tg} {ds : List D} {e : Sv} {k : Sv → Prop}, asgTs ts ds e k → ∃ e1, k e1 ∧ ts.length = ds.length
  | [], [], e, k, h => ⟨e, h, rfl⟩
  | [], _ :: _, _, _, h => h.elim
  | _ :: _, [], _, _, h => h.elim
  | t :: ts, d :: ds, e, k, h => by
    have h' : asgT t d e fun e1 => asgTs ts ds e1 k := h
    obtain ⟨e1, q⟩ := asgT_ex (t := t) (d := d) (e := e) h'
    obtain ⟨e2, q2, l⟩ := asgTs_ex (ts := ts) (ds := ds) (e := e1) (k := k) q
    exact ⟨e2, q2, by rw [List.length_cons, List.length_cons, l]⟩
end
theorem asgTs_len {ts : List Tg} {ds : List D} {e : Sv} {k : Sv → Prop} (h : asgTs ts ds e k) : ts.length = ds.length := let ⟨_, _, l⟩ := asgTs_ex h; l
mutual
def Tg.slots : Tg → List Nat
  | .nm i => [i]
  | .tp ts => Tg.slotss ts
  | .ls ts => Tg.slotss ts
def Tg.slotss : List Tg → List Nat
  | [] => []
  | t :: ts => t.slots ++ Tg.slotss ts
end
/-- nothing but these slots differs -/
def Off (is : List Nat) (σ σ' : L2.St) : Prop := σ'.length = σ.length ∧ ∀ j, j ∉ is → σ'[j]? = σ[j]?
theorem Off.refl {is : List Nat} {σ : L2.St} : Off is σ σ := ⟨rfl, fun _ _ => rfl⟩
theorem Off.trans {is js : List Nat} {a b c : L2.St} (h : Off is a b) (k : Off js b c) : Off (is ++ js) a c := ⟨k.1.trans h.1, fun j hj => (k.2 j fun z => hj (List.mem_append_right _ z)).trans (h.2 j fun z => hj (List.mem_append_left _ z))⟩
theorem wipe_get {σ : L2.St} {j : Nat} : ∀ {vs : List Nat}, (wipe σ vs)[j]? = if j ∈ vs ∧ j < σ.length then some none else σ[j]?
  | [] => by simp [wipe]
  | v :: vs => by
    have ih := wipe_get (σ := σ) (j := j) (vs := vs)
    unfold wipe
    by_cases hv : v = j
    · subst hv
      by_cases hl : v < σ.length
      · rw [List.getElem?_set_self (by rw [wipe_length]; exact hl)]
        simp [hl]
      · rw [List.getElem?_eq_none (by rw [List.length_set, wipe_length]; omega), List.getElem?_eq_none (by omega)]
        simp [hl]
    · rw [List.getElem?_set_ne hv, ih]
      simp [Ne.symm hv]
theorem Off.wipe {is : List Nat} {σ σ' : L2.St} (h : Off is σ σ') : L2.wipe σ' is = L2.wipe σ is := by
  apply List.ext_getElem?
  intro j
  rw [wipe_get, wipe_get, h.1]
  by_cases q : j ∈ is
  · by_cases hl : j < σ.length
    · simp [q, hl]
    · have z1 := h.1
      have z2 : σ'[j]? = none := List.getElem?_eq_none (by omega)
      have z3 : σ[j]? = none := List.getElem?_eq_none (by omega)
      simp [hl, z2, z3]
  · simp only [q, false_and, if_false]
    exact h.2 j q
def liftG (g : Wl) (G : Gr) (tg : Tg) : TG := fun v σ H Q => ∃ e F Qd d, FI g G σ e F H ∧ Rp g F v d ∧ asgT tg d e Qd ∧ ∀ σ' e' F' H', FI g G σ' e' F' H' → Same F F' → Off tg.slots σ σ' → Qd e' → Q σ' H'
def liftGs (g : Wl) (G : Gr) (ts : List Tg) : TGs := fun vs σ H Q => ∃ e F Qd ds, FI g G σ e F H ∧ Rps g F vs ds ∧ asgTs ts ds e Qd ∧ ∀ σ' e' F' H', FI g G σ' e' F' H' → Same F F' → Off (Tg.slotss ts) σ σ' → Qd e' → Q σ' H'
def PDG (X : Cx) (G : Gr) (x : Expr) (tg : Tg) : Prop := PG X x (liftG (wl X) G tg)
def PDGs (X : Cx) (G : Gr) (xs : List Expr) (ts : List Tg) : Prop := PGs X xs (liftGs (wl X) G ts)
theorem pg_mono {X : Cx} {x : Expr} {t t' : TG} (h : PG X x t) (i : ∀ v σ H Q, t' v σ H Q → t v σ H Q) : PG X x t' := ⟨fun pins s σ H v u Q I r q => h.run pins s σ H v u Q I r (i _ _ _ _ q)⟩
theorem pgs_mono {X : Cx} {x : List Expr} {t t' : TGs} (h : PGs X x t) (i : ∀ v σ H Q, t' v σ H Q → t v σ H Q) : PGs X x t' := ⟨fun pins s σ H v u Q I r q => h.run pins s σ H v u Q I r (i _ _ _ _ q)⟩
section
variable {X : Cx} {G : Gr} {g : Wl} {σ : L2.St} {H : Hp} {D : Ends}
theorem pdg_name {i : Nat} {x : Str} {pos : Pos} (hN : X.N.Nodup) (hi : X.N[i]? = some x) (hx : Loc X.env.scope x) (hf : X.fn x = true ∨ X.env.scope.names.lookup x = some .local := by first | exact .inl rfl | exact .inr rfl | assumption) : PDG X G (.Name x pos) (.nm i) := by
  refine pg_mono (pg_name hN hi hx hf) fun v σ H Q q => ?_
  obtain ⟨e, F, Qd, d, I, r, hh, k⟩ := q
  obtain ⟨e2, I2, q2⟩ := setS_ok (r := .vl d) I r hh
  exact k _ e2 F H I2 (Same.refl F) ⟨by simp, fun j hj => by
    have : i ≠ j := fun z => hj (by rw [z]; exact List.mem_cons_self)
    rw [List.getElem?_set_ne this]⟩ q2
theorem pdgs_nil : PDGs X G [] [] := by
  refine pgs_mono pgs_nil fun v σ H Q q => ?_
  obtain ⟨e, F, Qd, ds, I, r, hh, k⟩ := q
  cases ds with
  | nil => cases r; exact ⟨rfl, k σ e F H I (Same.refl F) Off.refl hh⟩
  | cons d ds => exact hh.elim
theorem pdgs_cons {x : Expr} {xs : List Expr} {t : Tg} {ts : List Tg} (h1 : PDG X G x t) (h2 : PDGs X G xs ts) (hs : (assignEach (x :: xs) X.env).map (·.2) = assign x X.env :: (assignEach xs X.env).map (·.2) := by rfl) : PDGs X G (x :: xs) (t :: ts) := by
  refine pgs_mono (pgs_cons h1 h2 hs) fun v σ H Q q => ?_
  obtain ⟨e, F, Qd, ds, I, r, hh, k⟩ := q
  cases ds with
  | nil => exact hh.elim
  | cons d ds =>
    cases r with
    | cons r1 r2 =>
      refine ⟨_, _, rfl, e, F, _, d, I, r1, hh, fun σ1 e1 F1 H1 I1 s1 o1 q1 => ?_⟩
      exact ⟨e1, F1, Qd, ds, I1, r2.mono s1, q1, fun σ2 e2 F2 H2 I2 s2 o2 q2 => k σ2 e2 F2 H2 I2 (s1.trans s2) (o1.trans o2) q2⟩
theorem pdg_tup {es : List Expr} {k : Nat} {ts : List Tg} {n : Nat} {pos : Pos} (hc : X.calm = true) (h : PDGs X G es ts) (hl : ts.length = n) (hn : (assignEach es X.env).length = n := by rfl) (hst : (assignEach es X.env).findIdx? (·.1) = none := by rfl) : PDG X G (.Tuple es k pos) (.tp ts) := by
  refine pg_mono (pg_tup hc h hn hst) fun v σ H Q q => ?_
  obtain ⟨e, F, Qd, d, I, r, hh, k⟩ := q
  cases d with
  | tuple ds =>
    cases r with
    | tup h1 h2 =>
      refine ⟨_, _, rfl, sqt_mono I.sub h1, ?_, e, F, Qd, ds, I, h2, hh, k⟩
      rw [h2.length, ← hl]
      exact (asgTs_len hh).symm
  | none => exact hh.elim
  | bool b => exact hh.elim
  | int b => exact hh.elim
  | str b => exact hh.elim
  | list b => exact hh.elim
  | dict b => exact hh.elim
end
/-! ### what is walked -/
/-- J hands on just the data ds, one by one, only new things made -/
def Wk (g : Wl) (J : It) (F : Hp) (ds : List D) : Prop := ∀ (i : Nat) (F1 H1 : Hp), Same F F1 → Same F1 H1 →
  (∀ d, ds[i]? = some d → J.go i H1 ∧ ∀ x H2, J.yld i H1 x H2 → ∃ F2, Grow F1 H1 F2 H2 ∧ Rp g F2 x d) ∧ (ds.length ≤ i → J.stop i H1)
abbrev DI := Sv → (List D → Sv → Prop) → Prop
def liftI (g : Wl) (G : Gr) (it : DI) : TI := fun σ H R => ∃ e F Qd, FI g G σ e F H ∧ it e Qd ∧ ∀ ds J e' F' H', FI g G σ e' F' H' → Same F F' → Wk g J F' ds → Qd ds e' → R J H'
def PDI (X : Cx) (G : Gr) (tg iter : Expr) (it : DI) : Prop := PI X tg iter (liftI (wl X) G it)
theorem pi_mono {X : Cx} {tg x : Expr} {t t' : TI} (h : PI X tg x t) (i : ∀ σ H R, t' σ H R → t σ H R) : PI X tg x t' := ⟨fun pins s σ H R I q => h.run pins s σ H R I (i _ _ _ q)⟩
/-- a list, a tuple (frozen), a text sign by sign -/
def dSeqI (t : DE) : DI := fun e Q => t e fun r e1 => match r with
  | .vl (.list ds) => Q ds e1
  | .vl (.tuple ds) => Q ds e1
  | .vl (.str x) => Q (x.cps.toList.map fun c => .str ⟨#[c]⟩) e1
  | .tm (.lst ds) => Q ds e1
  | _ => False
/-- iter(v), v a list, a tuple, a text -/
def iSeq (K : PySem.W.Frag) (tl : TE) : TI := fun σ H R => tl σ H fun x H1 => (∃ a, x = .ref a ∧ (∃ xs, SqL K H1 a xs) ∧ R (Itl K a) H1) ∨ (∃ a, x = .ref a ∧ (∃ xs, SqT K H1 a xs) ∧ R (Itt K a) H1) ∨ ∃ z, x = .str z ∧ R (Its z) H1
theorem pi_seq {X : Cx} {tg l : Expr} {tl : TE} (hl : PE X l tl) : PI X tg l (iSeq X.K tl) := by
  refine ⟨fun pins s σ H R I h => ?_⟩
  refine thn (hl.run pins s σ H _ I h) fun v s1 ⟨x, H1, I1, r1, q1⟩ => ?_
  rcases q1 with ⟨a, e, ⟨xs, hq⟩, q⟩ | ⟨a, e, ⟨xs, hq⟩, q⟩ | ⟨z, e, q⟩
  · subst e
    cases r1
    obtain ⟨its, rv, p, hz⟩ := I1.list hq
    refine wpAny_pyIter_list p.isList ?_
    refine ⟨s1.heap.objs.size, [s1.heap.objs.size], _, _, H1, rfl, I1.kept (t' := s1.toks) fun b o e => Heap.get?_push_of_some _ e, turn_list a _, ⟨_, Heap.get?_push_size _ rfl, rfl, rfl⟩, fun b hb => ?_, q⟩
    have e : b = s1.heap.objs.size := by simpa using hb
    subst e
    exact I1.fpOk (Nat.le_refl _) (I1.hok.fresh (Nat.le_refl _))
  · subst e
    cases r1
    obtain ⟨its, rv, p, hz⟩ := I1.tuple hq
    refine wpAny_pyIter_tuple (show s1.heap.IsTuple a its.toArray from p) ?_
    refine ⟨s1.heap.objs.size, [s1.heap.objs.size], _, _, H1, rfl, I1.kept (t' := s1.toks) fun b o e => Heap.get?_push_of_some _ e, turn_tuple a _, ⟨_, Heap.get?_push_size _ rfl, rfl, rfl⟩, fun b hb => ?_, q⟩
    have e : b = s1.heap.objs.size := by simpa using hb
    subst e
    exact I1.fpOk (Nat.le_refl _) (I1.hok.fresh (Nat.le_refl _))
  · subst e
    obtain ⟨t, rfl⟩ := r1
    cases ha : z.cps.all (· < 128)
    · exact wpAny_pyIter_wide ha (pi_one (tk := s1.toks) I1 _ (turn_str _ z t "str_iterator" (.inr rfl)) ⟨_, Heap.get?_push_size _ rfl, rfl, rfl⟩ q)
    · exact wpAny_pyIter_ascii ha (pi_one (tk := s1.toks) I1 _ (turn_str _ z t "str_ascii_iterator" (.inl rfl)) ⟨_, Heap.get?_push_size _ rfl, rfl, rfl⟩ q)
section
variable {X : Cx} {G : Gr} {g : Wl} {F : Hp} {tg : Expr}
theorem wk_list {a : Addr} {vs : List V} {ds : List D} (h : SqL g.K F a vs) (r : Rps g F vs ds) : Wk g (Itl g.K a) F ds := fun i F1 H1 s1 s2 => by
  have h' := sql_mono (s1.trans s2) h
  refine ⟨fun d hd => ?_, fun hl => ⟨vs, h', by rw [r.length]; exact hl⟩⟩
  obtain ⟨v, hv, rv⟩ := r.get hd
  refine ⟨⟨vs, v, h', hv⟩, fun x H2 y => ?_⟩
  obtain ⟨e, y⟩ := y
  subst e
  have e2 := y vs h'
  rw [hv] at e2
  cases e2
  exact ⟨F1, Grow.refl s2, rv.mono s1⟩
theorem wk_tup {a : Addr} {vs : List V} {ds : List D} (h : SqT g.K F a vs) (r : Rps g F vs ds) : Wk g (Itt g.K a) F ds := fun i F1 H1 s1 s2 => by
  have h' := sqt_mono (s1.trans s2) h
  refine ⟨fun d hd => ?_, fun hl => ⟨vs, h', by rw [r.length]; exact hl⟩⟩
  obtain ⟨v, hv, rv⟩ := r.get hd
  refine ⟨⟨vs, v, h', hv⟩, fun x H2 y => ?_⟩
  obtain ⟨e, y⟩ := y
  subst e
  have e2 := y vs h'
  rw [hv] at e2
  cases e2
  exact ⟨F1, Grow.refl s2, rv.mono s1⟩
theorem ok_sign {z : Str} (h : okS z = true) {c : Nat} (hc : c ∈ z.cps.toList) : okS ⟨#[c]⟩ = true := by
  unfold okS at h ⊢
  simp only [Bool.and_eq_true, decide_eq_true_eq, Array.all_eq_true_iff_forall_mem] at h ⊢
  refine ⟨fun x hx => ?_, by show 1 ≤ 1000000; decide⟩
  have e : x = c := by simpa using hx
  subst e
  exact h.1 x (by simpa using hc)
theorem wk_str {z : Str} (hz : okS z = true) : Wk g (Its z) F (z.cps.toList.map fun c => .str ⟨#[c]⟩) := fun i F1 H1 s1 s2 => by
  refine ⟨fun d hd => ?_, fun hl => (by simpa using hl : z.cps.size ≤ i)⟩
  rw [List.getElem?_map] at hd
  cases q : z.cps.toList[i]? with
  | none => rw [q] at hd; cases hd
  | some c =>
    rw [q] at hd
    cases hd
    have q' : z.cps[i]? = some c := by simpa using q
    refine ⟨(Array.getElem?_eq_some_iff.mp q').1, fun x H2 y => ?_⟩
    obtain ⟨e, c', h1, h2⟩ := y
    subst e
    rw [q'] at h1
    cases h1
    subst h2
    exact ⟨F1, Grow.refl s2, .str _ (ok_sign hz (List.mem_of_getElem? q))⟩
def rngD (lo : Int) (n : Nat) : List D := (List.range n).map fun (i : Nat) => .int (lo + (i : Int))
theorem wk_rng {lo : Int} {n : Nat} : Wk g (Itr lo n) F (rngD lo n) := fun i F1 H1 s1 s2 => by
  refine ⟨fun d hd => ?_, fun hl => (by simpa [rngD] using hl : n ≤ i)⟩
  unfold rngD at hd
  rw [List.getElem?_map] at hd
  cases q : (List.range n)[i]? with
  | none => rw [q] at hd; cases hd
  | some c =>
    rw [q] at hd
    cases hd
    obtain ⟨h1, h2⟩ := List.getElem?_eq_some_iff.mp q
    rw [List.getElem_range] at h2
    subst h2
    rw [List.length_range] at h1
    refine ⟨h1, fun x H2 y => ?_⟩
    obtain ⟨e, h2⟩ := y
    subst e; subst h2
    exact ⟨F1, Grow.refl s2, .int _⟩
theorem pdi_seq {l : Expr} {t : DE} (h : PD X G l t) : PDI X G tg l (dSeqI t) := by
  refine pi_mono (pi_seq h) fun σ H R q => ?_
  obtain ⟨e, F, Qd, I, hh, k⟩ := q
  refine ⟨e, F, _, I, hh, ?_⟩
  intro r v e1 F1 H1 I1 s1 r1 q1
  split at q1
  · rename_i ds
    have r1' : Rp (wl X) F1 v (.list ds) := r1
    cases r1' with
    | lst h1 h2 => exact .inl ⟨_, rfl, ⟨_, sql_mono I1.sub (.inl h1)⟩, k ds _ e1 F1 H1 I1 s1 (wk_list (.inl h1) h2) q1⟩
  · rename_i ds
    have r1' : Rp (wl X) F1 v (.tuple ds) := r1
    cases r1' with
    | tup h1 h2 => exact .inr (.inl ⟨_, rfl, ⟨_, sqt_mono I1.sub h1⟩, k ds _ e1 F1 H1 I1 s1 (wk_tup h1 h2) q1⟩)
  · rename_i z
    have r1' : Rp (wl X) F1 v (.str z) := r1
    cases r1' with
    | str _ hz => exact .inr (.inr ⟨_, rfl, k _ _ e1 F1 H1 I1 s1 (wk_str hz) q1⟩)
  · rename_i ds
    obtain ⟨a, rfl, t⟩ := r1
    obtain ⟨F2, h1, h2, h3⟩ := I1.freezeT t
    have h1' : Rp (wl X) F2 (.ref a) (.list ds) := h1
    cases h1' with
    | lst h4 h5 => exact .inl ⟨_, rfl, ⟨_, sql_mono h3.sub (.inl h4)⟩, k ds _ e1 F2 H1 h3 (s1.trans h2) (wk_list (.inl h4) h5) q1⟩
  · exact q1.elim
/-- range(n), range(a, b), range(a, b, c) -/
def dRng1 (ts : List DE) : DI := fun e Q => dVs ts e fun ds e1 => match ds with
  | [.int n] => n ≤ 1000000 ∧ -1000000 ≤ n ∧ Q (rngD 0 n.toNat) e1
  | _ => False
def dRng2 (ts : List DE) : DI := fun e Q => dVs ts e fun ds e1 => match ds with
  | [.int a, .int n] => (a ≤ 1000000 ∧ -1000000 ≤ a ∧ n ≤ 1000000 ∧ -1000000 ≤ n) ∧ Q (rngD a (n - a).toNat) e1
  | _ => False
theorem pdi_range1 {a : Expr} {t : DE} {p pos : Pos} (hg : Gl X "range") (hm : X.mg "range" = none) (ha : PDA X G [a] (dAs [t])) (hs : starEach [a] X.env = [(false, eval a X.env)] := by rfl) : PDI X G tg (.Call (.Name "range" p) [a] [] pos) (dRng1 [t]) := by
  refine pi_mono (pi_range1 hg hm ha hs) fun σ H R q => ?_
  obtain ⟨e, F, Qd, I, hh, k⟩ := q
  have hh' : dVs [t] e fun ds e1 => match ds with
    | [.int n] => n ≤ 1000000 ∧ -1000000 ≤ n ∧ Qd (rngD 0 n.toNat) e1
    | _ => False := hh
  refine ⟨e, F, _, I, hh', ?_⟩
  intro rs vs e1 F1 H1 I1 s1 r1 q1
  obtain ⟨ds, bs, q2⟩ := rps_of r1 q1
  split at q2
  · rename_i n
    obtain ⟨h1, h2, q3⟩ := q2
    cases bs with
    | cons b1 b2 =>
      cases b2
      cases b1
      exact ⟨n, rfl, by omega, by omega, k _ _ e1 F1 H1 I1 s1 wk_rng q3⟩
  · exact q2.elim
theorem pdi_range2 {a b : Expr} {t u : DE} {p pos : Pos} (hg : Gl X "range") (hm : X.mg "range" = none) (ha : PDA X G [a, b] (dAs [t, u])) (hs : starEach [a, b] X.env = [(false, eval a X.env), (false, eval b X.env)] := by rfl) (hs2 : starEach [b] X.env = [(false, eval b X.env)] := by rfl) : PDI X G tg (.Call (.Name "range" p) [a, b] [] pos) (dRng2 [t, u]) := by
  refine pi_mono (pi_range2 hg hm ha hs hs2) fun σ H R q => ?_
  obtain ⟨e, F, Qd, I, hh, k⟩ := q
  have hh' : dVs [t, u] e fun ds e1 => match ds with
    | [.int a, .int n] => (a ≤ 1000000 ∧ -1000000 ≤ a ∧ n ≤ 1000000 ∧ -1000000 ≤ n) ∧ Qd (rngD a (n - a).toNat) e1
    | _ => False := hh
  refine ⟨e, F, _, I, hh', ?_⟩
  intro rs vs e1 F1 H1 I1 s1 r1 q1
  obtain ⟨ds, bs, q2⟩ := rps_of r1 q1
  split at q2
  · rename_i a n
    obtain ⟨⟨h1, h2, h3, h4⟩, q3⟩ := q2
    cases bs with
    | cons b1 b2 =>
      cases b2 with
      | cons b2 b3 =>
        cases b3
        cases b1
        cases b2
        exact ⟨a, n, rfl, ⟨by omega, by omega, by omega, by omega⟩, k _ _ e1 F1 H1 I1 s1 wk_rng q3⟩
  · exact q2.elim
end
/-! ### for, while -/
def dLoop (tg : Tg) (body : DS) (DD : DEn) : List D → Sv → Prop
  | [], e => DD.nx e
  | d :: ds, e => asgT tg d e fun e1 => body { DD with nx := dLoop tg body DD ds, ct := dLoop tg body DD ds, bk := DD.nx } e1
def dFor (it : DI) (tg : Tg) (body : DS) : DS := fun DD e => it e fun ds e1 => dLoop tg body DD ds e1
def dWhile (c : DT) (body : DS) : DS := fun DD e => ∃ W : Nat → Sv → Prop, (∃ m, W m e) ∧ ∀ m e, W m e → c e fun b e1 =>
  if b = true then body { DD with nx := fun e2 => ∃ m', m' < m ∧ W m' e2, ct := fun e2 => ∃ m', m' < m ∧ W m' e2, bk := DD.nx } e1 else DD.nx e1
section
variable {X : Cx} {G : Gr} {g : Wl}
theorem lift_for {it : DI} {tg : Tg} {body : DS} {σ : L2.St} {H : Hp} {D : Ends} (q : liftS g G (dFor it tg body) D σ H) : tFor (liftI g G it) (liftG g G tg) (liftS g G body) D σ H := by
  obtain ⟨e, F, DD, I, hh, k1, k2, k3, k4⟩ := q
  refine ⟨e, F, _, I, hh, ?_⟩
  intro ds J e1 F1 H1 I1 s1 wk q1
  refine ⟨fun i m σ' H' => m = ds.length - i ∧ i ≤ ds.length ∧ ∃ e' F', FI g G σ' e' F' H' ∧ Same F1 F' ∧ dLoop tg body DD (ds.drop i) e', ⟨_, rfl, Nat.zero_le _, e1, F1, I1, Same.refl F1, q1⟩, ?_⟩
  rintro i m σ' H' ⟨rfl, hi, e', F', I', s', q'⟩
  obtain ⟨wk1, wk2⟩ := wk i F' H' s' I'.sub
  by_cases hlt : i < ds.length
  · obtain ⟨go, yl⟩ := wk1 ds[i] (by simp [hlt])
    refine .inr ⟨go, fun σ2 H2 => ∃ e2 F2, FI g G σ2 e2 F2 H2 ∧ Same F1 F2 ∧ dLoop tg body DD (ds.drop (i + 1)) e2, fun σ2 H2 ⟨e2, F2, I2, s2, q2⟩ => ⟨ds.length - (i + 1), by omega, rfl, hlt, e2, F2, I2, s2, q2⟩, fun x H2 y => ?_⟩
    obtain ⟨F2, w, rx⟩ := yl x H2 y
    have I2 := I'.grow w
    rw [List.drop_eq_getElem_cons hlt] at q'
    refine ⟨e', F2, _, ds[i], I2, rx, q', fun σ3 e3 F3 H3 I3 s3 _ q3 => ?_⟩
    have t3 : Same F1 F3 := (s'.trans w.ff).trans s3
    refine ⟨e3, F3, _, I3, q3, fun σ4 e4 F4 H4 I4 s4 q4 => ⟨e4, F4, I4, t3.trans s4, q4⟩, fun r v a b c d f h i => k2 r v a b c d f ((s1.trans t3).trans h) i, fun a b c d f h => k1 a b c d f ((s1.trans t3).trans h), fun σ4 e4 F4 H4 I4 s4 q4 => ⟨e4, F4, I4, t3.trans s4, q4⟩⟩
  · have e : i = ds.length := by omega
    subst e
    rw [List.drop_length] at q'
    exact .inl ⟨wk2 (Nat.le_refl _), k1 σ' e' F' H' I' (s1.trans s') q'⟩
theorem pds_for {iter x : Expr} {body : List Stmt} {it : DI} {tg : Tg} {tb : DS} {pos : Pos} (hp : PassesOwn (model X.prog X.w) X.A X.env X.xe) (hc : X.calm = true) (hi : PDI X G x iter it) (hg : PDG X G x tg) (hb : PDB X G body tb)
    (hs : ∀ z, foldedSetIterable iter X.env z = pure z := by intro _; rfl) : PDS X G (.For x iter body [] pos) (dFor it tg tb) := ps_mono (ps_for hp hc hi hg hb hs) fun _ _ _ q => lift_for q
theorem lift_while {c : DT} {body : DS} {σ : L2.St} {H : Hp} {D : Ends} (q : liftS g G (dWhile c body) D σ H) : tWhile (liftT g G c) (liftS g G body) D σ H := by
  obtain ⟨e, F, DD, I, ⟨W, ⟨m0, w0⟩, turn⟩, k1, k2, k3, k4⟩ := q
  refine ⟨fun m σ' H' => ∃ e' F', FI g G σ' e' F' H' ∧ Same F F' ∧ W m e', ⟨m0, e, F, I, Same.refl F, w0⟩, ?_⟩
  rintro m σ' H' ⟨e', F', I', s', w'⟩
  refine ⟨e', F', _, I', turn m e' w', ?_⟩
  intro b e1 F1 H1 I1 s1 q1
  have t1 := s'.trans s1
  cases b with
  | true =>
    refine ⟨fun σ2 H2 => ∃ e2 F2, FI g G σ2 e2 F2 H2 ∧ Same F F2 ∧ ∃ m', m' < m ∧ W m' e2, fun σ2 H2 ⟨e2, F2, I2, s2, m', hm, w2⟩ => ⟨m', hm, e2, F2, I2, s2, w2⟩, ?_⟩
    exact ⟨e1, F1, _, I1, q1, fun σ4 e4 F4 H4 I4 s4 q4 => ⟨e4, F4, I4, t1.trans s4, q4⟩, fun r v a b c d f h i => k2 r v a b c d f (t1.trans h) i, fun a b c d f h => k1 a b c d f (t1.trans h), fun σ4 e4 F4 H4 I4 s4 q4 => ⟨e4, F4, I4, t1.trans s4, q4⟩⟩
  | false => exact k1 σ' e1 F1 H1 I1 t1 q1
theorem pds_while {c : Expr} {body : List Stmt} {tc : DT} {tb : DS} {pos : Pos} (hp : PassesOwn (model X.prog X.w) X.A X.env X.xe) (hc : PDT X G c tc) (hb : PDB X G body tb) : PDS X G (.While c body [] pos) (dWhile tc tb) := ps_mono (ps_while hp hc hb) fun _ _ _ q => lift_while q
end
/-! ### what a def promises, over data -/
/-- an error: its class, the field of its own where it has one -/
abbrev XD := Addr × Option D
/-- from the arguments (data, or lent lists) to what is wanted of the result and of the lent ones, or of an error -/
abbrev FS := List Sl → (Op → List OD → Prop) → (XD → List OD → Prop) → Prop
/-- where the lent ones stand -/
def lentAt : List V → List Sl → List Addr
  | .ref a :: vs, .io _ :: as => a :: lentAt vs as
  | _ :: vs, _ :: as => lentAt vs as
  | _, _ => []
inductive ArgR (g : Wl) (F H : Hp) : List V → List Sl → Prop
  | nil : ArgR g F H [] []
  | sh {v : V} {d : D} {vs : List V} {as : List Sl} : Rp g F v d → ArgR g F H vs as → ArgR g F H (v :: vs) (.sh d :: as)
  | io {a : Addr} {o : OD} {vs : List V} {as : List Sl} : F a = none → OwAt g F H a o → a ∉ lentAt vs as → ArgR g F H vs as → ArgR g F H (.ref a :: vs) (.io o :: as)
/-- the lent ones behind the call -/
def OutR (g : Wl) (F H : Hp) : List Addr → List OD → Prop := Paired fun a o => F a = none ∧ OwAt g F H a o
/-- what a call leaves of the rest -/
structure Kp (L : List Addr) (F H F' H' : Hp) : Prop where
  ff : Same F F'
  fh : Same F' H'
  keep : ∀ (a : Addr) (o : HO), H a = some o → a ∉ L → H' a = some o
  fre : ∀ (a : Addr) (o : HO), H a = some o → F a = none → a ∉ L → F' a = none
def XR (g : Wl) (F H : Hp) (cls : Value) (dx : Option Addr) (x : XD) : Prop := cls = .ref x.1 ∧ match x.2 with
  | none => dx = none
  | some d => ∃ dd v, dx = some dd ∧ H dd = some (.xd [(("at" : Str), v)]) ∧ Rp g F v d
def spOf (g : Wl) (sp : FS) : Sp := fun vs H Q E => ∃ F as Qd Ed, Same F H ∧ ArgR g F H vs as ∧ sp as Qd Ed ∧
  (∀ r os v F' H', Kp (lentAt vs as) F H F' H' → OutR g F' H' (lentAt vs as) os → Nw g F H F' H' v r → Qd r os → Q v H') ∧
  (∀ x os cls dx F' H', Kp (lentAt vs as) F H F' H' → OutR g F' H' (lentAt vs as) os → XR g F' H' cls dx x → Ed x os → E cls dx H')
theorem ArgR.length {g : Wl} {F H : Hp} {vs : List V} {as : List Sl} (h : ArgR g F H vs as) : vs.length = as.length := by
  induction h with
  | nil => rfl
  | sh _ _ ih => simp [ih]
  | io _ _ _ _ ih => simp [ih]
/-- the lent contents of a frame's first n slots -/
def iosN : Nat → Sv → List OD
  | 0, _ => []
  | _, [] => []
  | n + 1, .io o :: e => o :: iosN n e
  | n + 1, _ :: e => iosN n e
/-! ### a call -/
def cArgs (e : Sv) : List Op → (List Sl → Prop) → Prop
  | [], k => k []
  | .vl d :: rs, k => cArgs e rs fun as => k (.sh d :: as)
  | .sl i :: rs, k => match ownI e i with
    | some o => cArgs e rs fun as => k (.io o :: as)
    | none => False
  | .tm _ :: _, _ => False
def slotsO : List Op → List Nat
  | [] => []
  | .sl i :: rs => i :: slotsO rs
  | _ :: rs => slotsO rs
def putAll (e : Sv) : List Nat → List OD → Sv
  | i :: is, o :: os => putAll (putO e i o) is os
  | _, _ => e
def dCall (sp : FS) (ts : List DE) : DE := fun e Q => dAs ts e fun rs e1 => (slotsO rs).Nodup ∧ cArgs e1 rs fun as => sp as (fun r os => Q r (putAll e1 (slotsO rs) os)) fun _ _ => False
section
variable {g : Wl} {G : Gr} {σ : L2.St} {e : Sv} {F H F' H' : Hp}
theorem putAll_off {j : Nat} : ∀ {is : List Nat} {os : List OD} {e : Sv}, j ∉ is → (putAll e is os)[j]? = e[j]?
  | [], _, _, _ => rfl
  | i :: is, [], _, _ => rfl
  | i :: is, o :: os, e, h => by
    show (putAll (putO e i o) is os)[j]? = _
    rw [putAll_off fun z => h (List.mem_cons_of_mem _ z)]
    have hij : i ≠ j := fun z => h (by rw [z]; exact List.mem_cons_self)
    unfold putO
    split
    · rw [List.getElem?_set_ne hij]
    · rw [List.getElem?_set_ne hij]
    · rfl
theorem putAll_length : ∀ {is : List Nat} {os : List OD} {e : Sv}, (putAll e is os).length = e.length
  | [], _, _ => rfl
  | i :: is, [], _ => rfl
  | i :: is, o :: os, e => by
    show (putAll (putO e i o) is os).length = _
    rw [putAll_length, putO_length]
/-- a lent slot behind: its kind, its new content -/
theorem putAll_at {j : Nat} : ∀ {is : List Nat} {as : List Addr} {os : List OD} {e : Sv}, j ∈ is → is.Nodup → (∀ i ∈ is, ∃ o, ownI e i = some o) → Paired (fun i a => σ[i]? = some (some (V.ref a))) is as → OutR g F' H' as os →
    ∃ a o, σ[j]? = some (some (V.ref a)) ∧ F' a = none ∧ OwAt g F' H' a o ∧ ((putAll e is os)[j]? = some (Sl.ow o) ∧ (∃ o', e[j]? = some (Sl.ow o')) ∨ (putAll e is os)[j]? = some (Sl.io o) ∧ ∃ o', e[j]? = some (Sl.io o'))
  | [], _, _, _, h, _, _, _, _ => by cases h
  | i :: is, _, _, e, h, nd, ow, .cons p1 p2, .cons q1 q2 => by
    rename_i a as o os
    obtain ⟨nd1, nd2⟩ := List.nodup_cons.mp nd
    by_cases hj : j = i
    · subst hj
      refine ⟨a, o, p1, q1.1, q1.2, ?_⟩
      show ((putAll (putO e j o) is os)[j]? = _ ∧ _) ∨ ((putAll (putO e j o) is os)[j]? = _ ∧ _)
      rw [putAll_off nd1]
      obtain ⟨o', ho⟩ := ow j List.mem_cons_self
      unfold ownI at ho
      unfold putO
      cases q : e[j]? with
      | none => rw [q] at ho; cases ho
      | some y =>
        have hl : j < e.length := (List.getElem?_eq_some_iff.mp q).1
        rw [q] at ho
        cases y with
        | no => cases ho
        | sh d => cases ho
        | ow o2 => exact .inl ⟨List.getElem?_set_self hl, o2, rfl⟩
        | io o2 => exact .inr ⟨List.getElem?_set_self hl, o2, rfl⟩
    · have hm : j ∈ is := (List.mem_cons.mp h).resolve_left hj
      have ow' : ∀ i' ∈ is, ∃ o', ownI (putO e i o) i' = some o' := fun i' hi' => by
        obtain ⟨o', ho⟩ := ow i' (List.mem_cons_of_mem _ hi')
        have hne : i ≠ i' := fun z => nd1 (by rw [z]; exact hi')
        refine ⟨o', ?_⟩
        unfold ownI at ho ⊢
        have : (putO e i o)[i']? = e[i']? := by
          unfold putO
          split
          · rw [List.getElem?_set_ne hne]
          · rw [List.getElem?_set_ne hne]
          · rfl
        rw [this]; exact ho
      obtain ⟨a', o', h1, h2, h3, h4⟩ := putAll_at (e := putO e i o) hm nd2 ow' p2 q2
      have hne : i ≠ j := fun z => hj z.symm
      have ej : (putO e i o)[j]? = e[j]? := by
        unfold putO
        split
        · rw [List.getElem?_set_ne hne]
        · rw [List.getElem?_set_ne hne]
        · rfl
      rw [ej] at h4
      exact ⟨a', o', h1, h2, h3, h4⟩
/-- a frame behind a call that was lent the slots is -/
theorem FI.after (I : FI g G σ e F H) {is : List Nat} {as : List Addr} {os : List OD} (nd : is.Nodup) (ow : ∀ i ∈ is, ∃ o, ownI e i = some o) (pa : Paired (fun i a => σ[i]? = some (some (V.ref a))) is as) (kp : Kp as F H F' H') (out : OutR g F' H' as os) :
    FI g G σ (putAll e is os) F' H' := by
  have mem : ∀ {is : List Nat} {as : List Addr}, Paired (fun i a => σ[i]? = some (some (V.ref a))) is as → ∀ a ∈ as, ∃ i ∈ is, σ[i]? = some (some (V.ref a)) := by
    intro is as h
    induction h with
    | nil => intro a ha; cases ha
    | cons p1 p2 ih =>
      intro a ha
      rcases List.mem_cons.mp ha with rfl | ha
      · exact ⟨_, List.mem_cons_self, p1⟩
      · obtain ⟨i, hi, e⟩ := ih a ha
        exact ⟨i, List.mem_cons_of_mem _ hi, e⟩
  have at_ : ∀ j, j ∈ is → _ := fun j hj => putAll_at (e := e) hj nd ow pa out
  have offL : ∀ (j : Nat) (a : Addr) (o : OD), j ∉ is → ownI e j = some o → σ[j]? = some (some (V.ref a)) → a ∉ as := fun j a o hj ho ha z => by
    obtain ⟨i, hi, e2⟩ := mem pa a z
    obtain ⟨o2, ho2⟩ := ow i hi
    exact hj (by rw [I.dist j i a o o2 ho ho2 ha e2]; exact hi)
  have ownOff : ∀ j, j ∉ is → ownI (putAll e is os) j = ownI e j := fun j hj => by unfold ownI; rw [putAll_off hj]
  have ownEx : ∀ (j : Nat) (o : OD), ownI (putAll e is os) j = some o → ∃ o', ownI e j = some o' := fun j o h => by
    by_cases hj : j ∈ is
    · exact ow j hj
    · rw [ownOff j hj] at h; exact ⟨o, h⟩
  refine ⟨I.sub0.trans kp.ff, kp.fh, by rw [putAll_length]; exact I.len, I.ln, fun j d q => ?_, fun j o q => ?_, fun i j a o o' q1 q2 q3 q4 => ?_, fun j o a q1 q2 => ?_, fun j o q => ?_, fun j a q => ?_, fun a o q1 q2 => ?_, fun a o q1 q2 q3 => ?_⟩
  · by_cases hj : j ∈ is
    · obtain ⟨_, _, _, _, _, h | h⟩ := at_ j hj
      · rw [h.1] at q; cases q
      · rw [h.1] at q; cases q
    · rw [putAll_off hj] at q
      obtain ⟨v, h1, h2⟩ := I.sh j d q
      exact ⟨v, h1, h2.mono kp.ff⟩
  · by_cases hj : j ∈ is
    · obtain ⟨a, o', h1, h2, h3, h | h⟩ := at_ j hj
      · unfold ownI at q; rw [h.1] at q; cases q; exact ⟨a, h1, h2, h3⟩
      · unfold ownI at q; rw [h.1] at q; cases q; exact ⟨a, h1, h2, h3⟩
    · rw [ownOff j hj] at q
      obtain ⟨a, h1, h2, h3⟩ := I.own j o q
      obtain ⟨u, eu⟩ := h3.there
      have na := offL j a o hj q h1
      exact ⟨a, h1, kp.fre a u eu h2 na, h3.mono kp.ff (by rw [eu, kp.keep a u eu na])⟩
  · obtain ⟨_, z1⟩ := ownEx _ _ q1
    obtain ⟨_, z2⟩ := ownEx _ _ q2
    exact I.dist i j a _ _ z1 z2 q3 q4
  · by_cases hj : j ∈ is
    · obtain ⟨_, _, _, _, _, h | h⟩ := at_ j hj
      · obtain ⟨o', ho⟩ := h.2
        exact I.low j o' a ho q2
      · rw [h.1] at q1; cases q1
    · rw [putAll_off hj] at q1
      exact I.low j o a q1 q2
  · by_cases hj : j ∈ is
    · obtain ⟨_, _, _, _, _, h | h⟩ := at_ j hj
      · rw [h.1] at q; cases q
      · obtain ⟨o', ho⟩ := h.2
        exact I.io j o' ho
    · rw [putAll_off hj] at q
      exact I.io j o q
  · obtain ⟨o, ho⟩ := I.iom j a q
    by_cases hj : j ∈ is
    · obtain ⟨_, o2, _, _, _, h | h⟩ := at_ j hj
      · obtain ⟨o', ho'⟩ := h.2
        rw [ho] at ho'; cases ho'
      · exact ⟨o2, h.1⟩
    · exact ⟨o, by rw [putAll_off hj]; exact ho⟩
  · have h1 := I.keep a o q1 q2
    refine kp.keep a o h1 fun z => ?_
    obtain ⟨i, hi, e2⟩ := mem pa a z
    obtain ⟨o2, ho2⟩ := ow i hi
    unfold ownI at ho2
    cases q : e[i]? with
    | none => rw [q] at ho2; cases ho2
    | some y =>
      rw [q] at ho2
      cases y with
      | no => cases ho2
      | sh d => cases ho2
      | ow o3 => have := I.low i o3 a q e2; rw [this] at q1; cases q1
      | io o3 =>
        obtain ⟨b, r1, r2⟩ := I.io i o3 q
        rw [e2] at r2; cases r2
        exact q2 i r1
  · have h1 := I.keep a o q1 q3
    refine kp.fre a o h1 (I.fre a o q1 q2 q3) fun z => ?_
    obtain ⟨i, hi, e2⟩ := mem pa a z
    obtain ⟨o2, ho2⟩ := ow i hi
    unfold ownI at ho2
    cases q : e[i]? with
    | none => rw [q] at ho2; cases ho2
    | some y =>
      rw [q] at ho2
      cases y with
      | no => cases ho2
      | sh d => cases ho2
      | ow o3 => have := I.low i o3 a q e2; rw [this] at q1; cases q1
      | io o3 =>
        obtain ⟨b, r1, r2⟩ := I.io i o3 q
        rw [e2] at r2; cases r2
        exact q3 i r1
/-- the arguments of a call as they lie -/
theorem args_of (I : FI g G σ e F H) : ∀ {rs : List Op} {vs : List V} {k : List Sl → Prop}, RRs g G σ e F H vs (rs.map pend) → (slotsO rs).Nodup → cArgs e rs k →
    ∃ as, ArgR g F H vs as ∧ Paired (fun i a => σ[i]? = some (some (V.ref a))) (slotsO rs) (lentAt vs as) ∧ (∀ i ∈ slotsO rs, ∃ o, ownI e i = some o) ∧ k as
  | [], _, k, h, nd, q => by
    cases h
    exact ⟨[], .nil, .nil, (fun i hi => nomatch hi), q⟩
  | .vl d :: rs, _, k, h, nd, q => by
    cases h with
    | cons h1 h2 =>
      rename_i v vs
      obtain ⟨as, a1, a2, a3, a4⟩ := args_of I h2 nd q
      refine ⟨.sh d :: as, .sh h1 a1, ?_, a3, a4⟩
      have el : lentAt (v :: vs) (.sh d :: as) = lentAt vs as := by cases v <;> rfl
      rw [el]
      exact a2
  | .sl i :: rs, _, k, h, nd, q => by
    have q' : (match ownI e i with
      | some o => cArgs e rs fun as => k (.io o :: as)
      | none => False) := q
    have nd' : (i :: slotsO rs).Nodup := nd
    obtain ⟨nd1, nd2⟩ := List.nodup_cons.mp nd'
    cases qo : ownI e i with
    | none => rw [qo] at q'; exact q'.elim
    | some o =>
      rw [qo] at q'
      cases h with
      | cons h1 h2 =>
        rename_i v vs
        obtain ⟨as, a1, a2, a3, a4⟩ := args_of I h2 nd2 q'
        obtain ⟨a, b1, b2, b3⟩ := I.own i o qo
        have h1' : σ[i]? = some (some v) := h1
        rw [b1] at h1'
        cases h1'
        refine ⟨.io o :: as, .io b2 b3 (fun z => ?_) a1, .cons b1 a2, fun j hj => ?_, a4⟩
        · have mem : ∀ {is : List Nat} {bs : List Addr}, Paired (fun i a => σ[i]? = some (some (V.ref a))) is bs → ∀ a ∈ bs, ∃ i ∈ is, σ[i]? = some (some (V.ref a)) := by
            intro is bs h
            induction h with
            | nil => intro a ha; cases ha
            | cons p1 p2 ih =>
              intro a ha
              rcases List.mem_cons.mp ha with rfl | ha
              · exact ⟨_, List.mem_cons_self, p1⟩
              · obtain ⟨i, hi, e⟩ := ih a ha
                exact ⟨i, List.mem_cons_of_mem _ hi, e⟩
          obtain ⟨j, hj, ej⟩ := mem a2 a z
          obtain ⟨o2, ho2⟩ := a3 j hj
          exact nd1 (by rw [I.dist i j a o o2 qo ho2 b1 ej]; exact hj)
        · rcases List.mem_cons.mp hj with rfl | hj
          · exact ⟨o, qo⟩
          · exact a3 j hj
  | .tm o :: rs, _, k, h, nd, q => q.elim
end
section
variable {X : Cx} {G : Gr} {g : Wl}
theorem nw_rr {σ : L2.St} {e e' : Sv} {F H F' H' : Hp} {v : V} {r : Op} (I : FI g G σ e F H) (n : Nw g F H F' H' v r) (ho : ∀ (j : Nat) (o : OD), ownI e' j = some o → ∃ o', ownI e j = some o') : RR g G σ e' F' H' v r := by
  cases r with
  | vl d => exact n
  | tm o =>
    obtain ⟨a, h1, h2, h3, h4⟩ := n
    refine ⟨a, h1, h3, I.fresh h2, fun i o' q z => ?_, h4⟩
    obtain ⟨o2, q2⟩ := ho i o' q
    obtain ⟨b, q1, _, q3⟩ := I.own i o2 q2
    rw [z] at q1
    cases q1
    obtain ⟨u, eu⟩ := q3.there
    rw [h2] at eu; cases eu
  | sl i => exact n.elim
theorem putO_ownEx {e : Sv} {i j : Nat} {x o1 : OD} (h : ownI (putO e i x) j = some o1) : ∃ o', ownI e j = some o' := by
  cases q : e[i]? with
  | none =>
    unfold putO at h; rw [q] at h; exact ⟨o1, h⟩
  | some y =>
    cases y with
    | no => unfold putO at h; rw [q] at h; exact ⟨o1, h⟩
    | sh d => unfold putO at h; rw [q] at h; exact ⟨o1, h⟩
    | ow o2 =>
      rcases putO_own (ownI_ow q) h with ⟨r1, _⟩ | ⟨_, r2⟩
      · subst r1; exact ⟨o2, ownI_ow q⟩
      · exact ⟨o1, r2⟩
    | io o2 =>
      rcases putO_own (ownI_io q) h with ⟨r1, _⟩ | ⟨_, r2⟩
      · subst r1; exact ⟨o2, ownI_io q⟩
      · exact ⟨o1, r2⟩
theorem putAll_own {j : Nat} : ∀ {is : List Nat} {os : List OD} {e : Sv} {o : OD}, ownI (putAll e is os) j = some o → ∃ o', ownI e j = some o'
  | [], _, _, o, h => ⟨o, h⟩
  | i :: is, [], _, o, h => ⟨o, h⟩
  | i :: is, x :: os, e, o, h => by
    obtain ⟨o1, h1⟩ := putAll_own (is := is) (os := os) (e := putO e i x) h
    exact putO_ownEx h1
theorem lift_call {sp : FS} {ts : List DE} {E : XK} {σ : L2.St} {H : Hp} {Q : VK} (q : liftE g G (dCall sp ts) σ H Q) : tCall (spOf g sp) [] E (liftA g G (dAs ts)) σ H Q := by
  obtain ⟨e, F, Qd, I, hh, k⟩ := q
  refine ⟨e, F, _, I, hh, ?_⟩
  intro rs vs e1 F1 H1 I1 s1 r1 q1
  obtain ⟨nd, q2⟩ := q1
  obtain ⟨as, a1, a2, a3, a4⟩ := args_of I1 r1 nd q2
  rw [List.append_nil]
  refine ⟨F1, as, _, _, I1.sub, a1, a4, fun r os v F' H' kp out n qq => ?_, fun _ _ _ _ _ _ _ _ _ z => z.elim⟩
  exact k r v _ F' H' (I1.after nd a3 a2 kp out) (s1.trans kp.ff) (nw_rr I1 n fun j o h => putAll_own h) qq
variable {CX : CXT} {k : Nat} {f : Addr} {fd : FuncData} {ps : List Str} {sp : FS} {E : XK} {x : Str} {p pos : Pos} {e : Expr} {es : List Expr} {ts : List DE}
theorem pd_call (F : FnOk X.prog X.w X.K X.mg X.base CX k f fd ps (spOf (wl X) sp)) (hr : Room k X.A) (hg : Gl X x) (hm : X.mg x = some (.ref f)) (hk : PySem.W.keepIn X.K (.ref f) = true) (hb : Binds X.K fd ps []) (hx : Passes CX X E)
    (ha : PDA X G (e :: es) (dAs ts)) (hdb : (x == ("__debug__" : Str)) = false := by decide) (he : starEach (e :: es) X.env = (false, eval e X.env) :: starEach es X.env := by rfl) (hpl : (backTo pos (starEach es X.env)).any (·.1) = false := by rfl) :
    PD X G (.Call (.Name x p) (e :: es) [] pos) (dCall sp ts) := pe_mono (pe_call F hr hg hm hk hb .nil hx ha hdb he hpl) fun _ _ _ q => lift_call q
end
end DL
/-! DL, part D: a def's entry; comprehensions. -/
namespace DL
open PySem PySem.Spec PyProof.Rows L2
/-! ### a def -/
def rtQ (n : Nat) (Q : Op → List OD → Prop) (r : Op) (e : Sv) : Prop := match r with
  | .sl _ => False
  | r => Q r (iosN n e)
/-- the slots at a def's entry -/
def start0 (n : Nat) (as : List Sl) : Sv := as ++ List.replicate (n - as.length) .no
section
variable {g : Wl} {F H F' H' : Hp}
def entM (vs : List V) (as : List Sl) (i : Nat) : Option Addr := match as[i]?, vs[i]? with
  | some (.io _), some (.ref a) => some a
  | _, _ => none
theorem lentAt_mem : ∀ {vs : List V} {as : List Sl} {a : Addr}, ArgR g F H vs as → (a ∈ lentAt vs as ↔ ∃ i, entM vs as i = some a)
  | _, _, a, .nil => by simp [lentAt, entM]
  | _, _, a, .sh (v := v) (d := d) (vs := vs) (as := as) h1 h2 => by
    have el : lentAt (v :: vs) (.sh d :: as) = lentAt vs as := by cases v <;> rfl
    rw [el, lentAt_mem h2]
    constructor
    · rintro ⟨i, h⟩; exact ⟨i + 1, h⟩
    · rintro ⟨i, h⟩
      cases i with
      | zero => simp [entM] at h
      | succ i => exact ⟨i, h⟩
  | _, _, a, .io (a := b) (o := o) (vs := vs) (as := as) h1 h2 h3 h4 => by
    have el : lentAt (.ref b :: vs) (.io o :: as) = b :: lentAt vs as := rfl
    rw [el, List.mem_cons, lentAt_mem h4]
    constructor
    · rintro (rfl | ⟨i, h⟩)
      · exact ⟨0, rfl⟩
      · exact ⟨i + 1, h⟩
    · rintro ⟨i, h⟩
      cases i with
      | zero => exact .inl (Option.some.inj h).symm
      | succ i => exact .inr ⟨i, h⟩
theorem argR_at : ∀ {vs : List V} {as : List Sl} {i : Nat} {s : Sl}, ArgR g F H vs as → as[i]? = some s → (∃ v d, vs[i]? = some v ∧ s = .sh d ∧ Rp g F v d) ∨ ∃ a o, vs[i]? = some (.ref a) ∧ s = .io o ∧ F a = none ∧ OwAt g F H a o
  | _, _, i, s, .nil, e => by simp at e
  | _, _, 0, s, .sh h1 h2, e => by simp at e; subst e; exact .inl ⟨_, _, rfl, rfl, h1⟩
  | _, _, i + 1, s, .sh h1 h2, e => argR_at (i := i) h2 (by simpa using e)
  | _, _, 0, s, .io h1 h2 h3 h4, e => by simp at e; subst e; exact .inr ⟨_, _, rfl, rfl, h1, h2⟩
  | _, _, i + 1, s, .io h1 h2 h3 h4, e => argR_at (i := i) h4 (by simpa using e)
theorem entM_inj : ∀ {vs : List V} {as : List Sl} {i j : Nat} {a : Addr}, ArgR g F H vs as → entM vs as i = some a → entM vs as j = some a → i = j
  | _, _, i, j, a, .nil, h1, h2 => by simp [entM] at h1
  | _, _, 0, j, a, .sh _ _, h1, h2 => by simp [entM] at h1
  | _, _, i + 1, 0, a, .sh _ _, h1, h2 => by simp [entM] at h2
  | _, _, i + 1, j + 1, a, .sh _ h, h1, h2 => congrArg (· + 1) (entM_inj (i := i) (j := j) h h1 h2)
  | _, _, 0, 0, a, .io _ _ _ _, h1, h2 => rfl
  | _, _, 0, j + 1, a, .io q1 q2 q3 q4, h1, h2 => by
    have e : _ = a := Option.some.inj h1
    subst e
    exact absurd ((lentAt_mem q4).mpr ⟨j, h2⟩) q3
  | _, _, i + 1, 0, a, .io q1 q2 q3 q4, h1, h2 => by
    have e : _ = a := Option.some.inj h2
    subst e
    exact absurd ((lentAt_mem q4).mpr ⟨i, h1⟩) q3
  | _, _, i + 1, j + 1, a, .io _ _ _ h, h1, h2 => congrArg (· + 1) (entM_inj (i := i) (j := j) h h1 h2)
theorem start_get {N : List Str} {vs : List V} {i : Nat} {v : V} (h : vs[i]? = some v) : (L2.start N vs)[i]? = some (some v) := by
  have hi : i < vs.length := (List.getElem?_eq_some_iff.mp h).1
  unfold L2.start
  rw [List.getElem?_append_left (by simpa using hi), List.getElem?_map, h]
  rfl
theorem start0_get {n : Nat} {as : List Sl} {i : Nat} {s : Sl} (h : (start0 n as)[i]? = some s) : as[i]? = some s ∨ s = .no := by
  unfold start0 at h
  by_cases hi : i < as.length
  · rw [List.getElem?_append_left hi] at h; exact .inl h
  · rw [List.getElem?_append_right (by omega), List.getElem?_replicate] at h
    split at h
    · exact .inr (Option.some.inj h).symm
    · cases h
/-- the frame at the entry -/
theorem FI.entry {N : List Str} {vs : List V} {as : List Sl} (s : Same F H) (h : ArgR g F H vs as) (hl : as.length ≤ N.length) : FI g ⟨N.length, entM vs as, F, H⟩ (L2.start N vs) (start0 N.length as) F H := by
  have own : ∀ (i : Nat) (o : OD), ownI (start0 N.length as) i = some o → as[i]? = some (.io o) ∧ ∃ a, vs[i]? = some (.ref a) ∧ F a = none ∧ OwAt g F H a o := fun i o q => by
    unfold ownI at q
    cases e : (start0 N.length as)[i]? with
    | none => rw [e] at q; cases q
    | some y =>
      rw [e] at q
      rcases start0_get e with e2 | e2
      · rcases argR_at h e2 with ⟨v, d, h1, h2, h3⟩ | ⟨a, o', h1, h2, h3, h4⟩
        · subst h2; cases q
        · subst h2; cases q; exact ⟨e2, a, h1, h3, h4⟩
      · subst e2; cases q
  refine ⟨Same.refl F, s, ?_, ?_, fun i d q => ?_, fun i o q => ?_, fun i j a o o' q1 q2 q3 q4 => ?_, fun i o a q _ => ?_, fun i o q => ?_, fun i a q => ?_, fun a o q _ => q, fun a o q1 q2 _ => q2⟩
  · unfold L2.start start0
    simp only [List.length_append, List.length_replicate, List.length_map]
    rw [h.length]
  · unfold L2.start
    simp only [List.length_append, List.length_replicate, List.length_map]
    rw [h.length]
    omega
  · rcases start0_get q with e2 | e2
    · rcases argR_at h e2 with ⟨v, d', h1, h2, h3⟩ | ⟨a, o', h1, h2, h3, h4⟩
      · cases h2; exact ⟨v, start_get h1, h3⟩
      · cases h2
    · cases e2
  · obtain ⟨_, a, h1, h2, h3⟩ := own i o q
    exact ⟨a, start_get h1, h2, h3⟩
  · obtain ⟨p1, b, h1, _⟩ := own i o q1
    obtain ⟨p2, c, h2, _⟩ := own j o' q2
    rw [start_get h1] at q3
    rw [start_get h2] at q4
    cases q3
    cases q4
    exact entM_inj h (a := a) (by unfold entM; rw [p1, h1]) (by unfold entM; rw [p2, h2])
  · rcases start0_get q with e2 | e2
    · rcases argR_at h e2 with ⟨v, d', h1, h2, h3⟩ | ⟨a, o', h1, h2, h3, h4⟩
      · cases h2
      · cases h2
    · cases e2
  · obtain ⟨p1, b, h1, _⟩ := own i o (ownI_io q)
    exact ⟨b, by show entM vs as i = _; unfold entM; rw [p1, h1], start_get h1⟩
  · have q' : entM vs as i = some a := q
    unfold entM at q'
    cases e : as[i]? with
    | none => rw [e] at q'; cases q'
    | some y =>
      rw [e] at q'
      cases y with
      | no => cases q'
      | sh d => cases q'
      | ow o => cases q'
      | io o =>
        refine ⟨o, ?_⟩
        unfold start0
        rw [List.getElem?_append_left (List.getElem?_eq_some_iff.mp e).1, e]
theorem outs : ∀ {vs : List V} {as : List Sl} {e : Sv}, ArgR g F H vs as → as.length ≤ e.length → (∀ (i : Nat) (a : Addr), entM vs as i = some a → ∃ o', e[i]? = some (.io o') ∧ F' a = none ∧ OwAt g F' H' a o') →
    (∀ (i : Nat) (o : OD), i < as.length → e[i]? = some (.io o) → ∃ a, entM vs as i = some a) → OutR g F' H' (lentAt vs as) (iosN as.length e)
  | _, _, e, .nil, _, _, _ => by
    have : iosN 0 e = [] := by unfold iosN; rfl
    show OutR g F' H' [] (iosN 0 e)
    rw [this]
    exact .nil
  | _, _, [], .sh _ _, hl, _, _ => by simp at hl
  | _, _, [], .io _ _ _ _, hl, _, _ => by simp at hl
  | _, _, s :: e, .sh (v := v) (d := d) (vs := vs) (as := as) h1 h2, hl, m1, m2 => by
    have el : lentAt (v :: vs) (.sh d :: as) = lentAt vs as := by cases v <;> rfl
    rw [el]
    have hs : ∀ o, s ≠ .io o := fun o z => by
      obtain ⟨a, ha⟩ := m2 0 o (by simp) (by rw [z]; rfl)
      simp [entM] at ha
    have ei : iosN (as.length + 1) (s :: e) = iosN as.length e := by
      cases s with
      | io o => exact absurd rfl (hs o)
      | no => rfl
      | sh d => rfl
      | ow o => rfl
    show OutR g F' H' (lentAt vs as) (iosN (as.length + 1) (s :: e))
    rw [ei]
    exact outs h2 (by simpa using hl) (fun i a q => m1 (i + 1) a q) fun i o hi q => m2 (i + 1) o (by simpa using hi) q
  | _, _, s :: e, .io (a := a) (o := o) (vs := vs) (as := as) h1 h2 h3 h4, hl, m1, m2 => by
    obtain ⟨o', q1, q2, q3⟩ := m1 0 a rfl
    have hs : s = .io o' := by simpa using q1
    subst hs
    show OutR g F' H' (a :: lentAt vs as) (o' :: iosN as.length e)
    exact .cons ⟨q2, q3⟩ (outs h4 (by simpa using hl) (fun i a q => m1 (i + 1) a q) fun i o hi q => m2 (i + 1) o (by simpa using hi) q)
/-- behind the body -/
theorem FI.exit {N : List Str} {vs : List V} {as : List Sl} {σ : L2.St} {e : Sv} (h : ArgR g F H vs as) (hl : as.length ≤ N.length) (I : FI g ⟨N.length, entM vs as, F, H⟩ σ e F' H') :
    Kp (lentAt vs as) F H F' H' ∧ OutR g F' H' (lentAt vs as) (iosN as.length e) := by
  refine ⟨⟨I.sub0, I.sub, fun a o q1 q2 => I.keep a o q1 fun i z => q2 ((lentAt_mem h).mpr ⟨i, z⟩), fun a o q1 q2 q3 => I.fre a o q1 q2 fun i z => q3 ((lentAt_mem h).mpr ⟨i, z⟩)⟩, ?_⟩
  refine outs h (by rw [I.len, I.ln]; exact hl) (fun i a q => ?_) fun i o hi q => ?_
  · obtain ⟨o', ho⟩ := I.iom i a q
    obtain ⟨b, h1, h2⟩ := I.io i o' ho
    obtain ⟨c, h3, h4, h5⟩ := I.own i o' (ownI_io ho)
    rw [h2] at h3
    cases h3
    have h1' : entM vs as i = some b := h1
    rw [q] at h1'
    cases h1'
    exact ⟨o', ho, h4, h5⟩
  · obtain ⟨b, h1, h2⟩ := I.io i o q
    exact ⟨b, h1⟩
theorem rr_nw {G : Gr} {σ : L2.St} {e : Sv} {v : V} {r : Op} (h : RR g ⟨G.n, G.M, F, H⟩ σ e F' H' v r) (hr : ∀ i, r ≠ .sl i) : Nw g F H F' H' v r := by
  cases r with
  | vl d => exact h
  | tm o =>
    obtain ⟨a, rfl, t⟩ := h
    exact ⟨a, rfl, t.h0, t.f, t.at_⟩
  | sl i => exact absurd rfl (hr i)
end
section
variable {P : Program} {w : World} {K : PySem.W.Frag} {mg : Str → Option Value} {base : Heap}
/-- the ends of a body, over data -/
def defEnds (n : Nat) (Q : Op → List OD → Prop) : DEn := { nx := fun e => Q (.vl .none) (iosN n e), rt := rtQ n Q }
theorem FI_len {X : Cx} {pins : List (Addr × Obj)} {σ : L2.St} {H : Hp} {s : Shared} (I : Inv X pins σ H s) : σ.length = X.N.length := I.len
/-- a def that lets no error out: the body's derivation t, and what it says of data -/
theorem Fun.okD {x qual : Str} {st : Stmt} {f : Addr} {fd : FuncData} {N ps : List Str} {k : Nat} {sp : FS} (Fn : Fun K x qual st f fd) (S : FnScope N ps (defScope st)) (hps : ps.length ≤ N.length)
    (len : ∀ as Q E, sp as Q E → as.length = ps.length) (t : DS)
    (body : ∀ (cdv : Value) (A : Around) (outer : List Env) (s : Shared) (H : Hp) (E : XK) (G : Gr), Room k (A.deeper (envOfC qual (defScope st) s.heap.objs.size f cdv)) →
      PDB (cxOf CX0 P w K mg base N qual (defScope st) f cdv A outer s H E).nox G (defBody st) t)
    (vc : ∀ as Q E, sp as Q E → t (defEnds ps.length Q) (start0 N.length as)) : FnOk P w K mg base CX0 (k + 1) f fd ps (spOf ⟨P, w, K⟩ sp) := by
  refine Fn.ok S (fun vs H Q E h => ?_) (fun cdv A outer s H vs Q E hr h => ?_)
  · obtain ⟨F, as, Qd, Ed, _, ha, hsp, _⟩ := h
    rw [ha.length]
    exact len _ _ _ hsp
  · obtain ⟨F, as, Qd, Ed, sF, ha, hsp, kQ, _⟩ := h
    have hl := len _ _ _ hsp
    refine ⟨liftS ⟨P, w, K⟩ ⟨N.length, entM vs as, F, H⟩ t, body cdv A outer s H E ⟨N.length, entM vs as, F, H⟩ hr, ?_⟩
    · have hN : as.length ≤ N.length := by rw [hl]; exact hps
      refine ⟨start0 N.length as, F, _, FI.entry sF ha hN, vc as Qd Ed hsp, fun σ' e' F' H' I s q => ?_, fun r v σ' e' F' H' I s rr q => ?_, fun _ _ _ _ _ _ z => z.elim, fun _ _ _ _ _ _ z => z.elim⟩
      · obtain ⟨kp, out⟩ := I.exit ha hN
        rw [hl] at out
        exact kQ (.vl .none) _ _ F' H' kp out Rp.non q
      · obtain ⟨kp, out⟩ := I.exit ha hN
        rw [hl] at out
        cases r with
        | vl d => exact kQ (.vl d) _ v F' H' kp out (rr_nw (G := ⟨N.length, entM vs as, F, H⟩) rr fun i z => nomatch z) q
        | tm o => exact kQ (.tm o) _ v F' H' kp out (rr_nw (G := ⟨N.length, entM vs as, F, H⟩) rr fun i z => nomatch z) q
        | sl i => exact q.elim
end
end DL
/-! DL, part E: comprehensions over data. -/
namespace DL
open PySem PySem.Spec PyProof.Rows L2
def wipeS (e : Sv) : List Nat → Sv
  | [] => e
  | v :: vs => (wipeS e vs).set v .no
def lend1 : Sl → Sl
  | .ow o => .io o
  | s => s
def lend : Sv → Sv
  | [] => []
  | s :: e => lend1 s :: lend e
def unl1 : Sl → Sl → Sl
  | .ow _, .io o => .ow o
  | _, s => s
def unlend : Sv → Sv → Sv
  | s0 :: e0, s :: e => unl1 s0 s :: unlend e0 e
  | _, _ => []
def frzS (e : Sv) : List Nat → Sv
  | [] => e
  | i :: is => match (frzS e is)[i]? with
    | some (.ow o) => (frzS e is).set i (.sh o.data)
    | _ => frzS e is
/-- the slots of a comprehension's own names, as they were ahead of it -/
def backS (e0 : Sv) (e : Sv) : List Nat → Sv
  | [] => e
  | v :: vs => match e0[v]? with
    | some (.sh d) => (backS e0 e vs).set v (.sh d)
    | _ => backS e0 e vs
def noIoS (e : Sv) : List Nat → Prop
  | [] => True
  | v :: vs => notIo e v ∧ noIoS e vs
def noOw : Sv → Prop
  | [] => True
  | .ow _ :: _ => False
  | _ :: e => noOw e
def onD (r : Op) (k : D → Prop) : Prop := match r with
  | .vl d => k d
  | .tm o => k o.data
  | .sl _ => False
/-- the turns: what is left, what is made -/
def dCl (tg : Tg) (tt : DT) (te : DE) (Q : List D → Sv → Prop) : List D → List D → Sv → Prop
  | [], acc, e => Q acc e
  | d :: ds, acc, e => noOw e ∧ asgT tg d e fun e1 => tt e1 fun b e2 =>
    if b = true then te e2 fun r e3 => acc.length < 100000 ∧ onD r fun x => dCl tg tt te Q ds (acc ++ [x]) (wipeS e3 tg.slots) else dCl tg tt te Q ds acc (wipeS e2 tg.slots)
/-- [te for tg in it if tt], ahead of which the slots fz are frozen: behind the iterable -/
@[irreducible] def dLcK (tg : Tg) (fz : List Nat) (tt : DT) (te : DE) (Q : Op → Sv → Prop) (ds : List D) (e1 : Sv) : Prop := noIoS (frzS e1 fz) tg.slots ∧
  dCl tg tt te (fun acc e3 => Q (.tm (.lst acc)) (backS (frzS e1 fz) (unlend (wipeS (frzS e1 fz) tg.slots) e3) tg.slots)) ds [] (lend (wipeS (frzS e1 fz) tg.slots))
def dLc (it : DI) (tg : Tg) (fz : List Nat) (tt : DT) (te : DE) : DE := fun e Q => it e fun ds e1 => dLcK tg fz tt te Q ds e1
section
variable {g : Wl} {G : Gr} {σ : L2.St} {e : Sv} {F H F' H' : Hp}
theorem FI.frzS : ∀ (is : List Nat), FI g G σ e F H → ∃ F', Same F F' ∧ FI g G σ (frzS e is) F' H
  | [], I => ⟨F, Same.refl F, I⟩
  | i :: is, I => by
    obtain ⟨F1, s1, I1⟩ := FI.frzS is I
    unfold DL.frzS
    split
    · rename_i o q
      obtain ⟨F2, a, _, _, s2, I2⟩ := I1.freeze q
      exact ⟨F2, s1.trans s2, I2⟩
    · exact ⟨F1, s1, I1⟩
theorem wipeS_get {e : Sv} {j : Nat} : ∀ {vs : List Nat}, (wipeS e vs)[j]? = if j ∈ vs ∧ j < e.length then some .no else e[j]?
  | [] => by simp [wipeS]
  | v :: vs => by
    have ih := wipeS_get (e := e) (j := j) (vs := vs)
    have hl : ∀ {vs : List Nat}, (wipeS e vs).length = e.length := by
      intro vs
      induction vs with
      | nil => rfl
      | cons v vs ih => unfold wipeS; rw [List.length_set, ih]
    unfold wipeS
    by_cases hv : v = j
    · subst hv
      by_cases hl' : v < e.length
      · rw [List.getElem?_set_self (by rw [hl]; exact hl')]
        simp [hl']
      · have z2 : ((wipeS e vs).set v Sl.no)[v]? = none := List.getElem?_eq_none (by rw [List.length_set, hl]; omega)
        have z3 : e[v]? = none := List.getElem?_eq_none (by omega)
        simp [hl', z2, z3]
    · rw [List.getElem?_set_ne hv, ih]
      simp [Ne.symm hv]
theorem wipeS_length {e : Sv} : ∀ {vs : List Nat}, (wipeS e vs).length = e.length
  | [] => rfl
  | v :: vs => by unfold wipeS; rw [List.length_set, wipeS_length]
theorem noIoS_ne {e : Sv} : ∀ {vs : List Nat}, noIoS e vs → ∀ v ∈ vs, ∀ o, e[v]? ≠ some (Sl.io o)
  | [], _, v, hv, _ => by cases hv
  | u :: vs, h, v, hv, o => by
    rcases List.mem_cons.mp hv with rfl | hv
    · exact (notIo_ne h.1).2 o
    · exact noIoS_ne h.2 v hv o
/-- slots forgotten, in the frame too -/
theorem FI.wipe (I : FI g G σ e F H) {vs : List Nat} (h : ∀ v ∈ vs, ∀ o, e[v]? ≠ some (Sl.io o)) : FI g G (L2.wipe σ vs) (wipeS e vs) F H := by
  have ge : ∀ {j : Nat} {x : Sl}, x ≠ .no → (wipeS e vs)[j]? = some x → j ∉ vs ∧ e[j]? = some x := fun {j x} hx q => by
    rw [wipeS_get] at q
    split at q
    · exact absurd (Option.some.inj q).symm hx
    · rename_i hn
      refine ⟨fun z => hn ⟨z, ?_⟩, q⟩
      exact (List.getElem?_eq_some_iff.mp q).1
  have gs : ∀ {j : Nat}, j ∉ vs → (L2.wipe σ vs)[j]? = σ[j]? := fun {j} hj => by rw [wipe_get]; simp [hj]
  have go : ∀ {j : Nat} {o : OD}, ownI (wipeS e vs) j = some o → j ∉ vs ∧ ownI e j = some o := fun {j o} q => by
    cases r : (wipeS e vs)[j]? with
    | none => unfold ownI at q; rw [r] at q; cases q
    | some y =>
      have hy : y ≠ .no := fun z => by unfold ownI at q; rw [r, z] at q; cases q
      obtain ⟨h1, h2⟩ := ge hy r
      refine ⟨h1, ?_⟩
      unfold ownI at q ⊢
      rw [r] at q
      rw [h2]; exact q
  refine ⟨I.sub0, I.sub, by rw [wipeS_length, wipe_length]; exact I.len, by rw [wipe_length]; exact I.ln, fun j d q => ?_, fun j o q => ?_, fun i j a o o' q1 q2 q3 q4 => ?_, fun j o a q1 q2 => ?_, fun j o q => ?_, fun j a q => ?_, I.keep, I.fre⟩
  · obtain ⟨h1, h2⟩ := ge (x := .sh d) (fun z => nomatch z) q
    obtain ⟨v, h3, h4⟩ := I.sh j d h2
    exact ⟨v, (gs h1).trans h3, h4⟩
  · obtain ⟨h1, h2⟩ := go q
    obtain ⟨a, h3, h4⟩ := I.own j o h2
    exact ⟨a, (gs h1).trans h3, h4⟩
  · obtain ⟨h1, h2⟩ := go q1
    obtain ⟨h3, h4⟩ := go q2
    exact I.dist i j a o o' h2 h4 ((gs h1).symm.trans q3) ((gs h3).symm.trans q4)
  · obtain ⟨h1, h2⟩ := ge (x := .ow o) (fun z => nomatch z) q1
    exact I.low j o a h2 ((gs h1).symm.trans q2)
  · obtain ⟨h1, h2⟩ := ge (x := .io o) (fun z => nomatch z) q
    obtain ⟨a, h3, h4⟩ := I.io j o h2
    exact ⟨a, h3, (gs h1).trans h4⟩
  · obtain ⟨o, ho⟩ := I.iom j a q
    refine ⟨o, ?_⟩
    rw [wipeS_get]
    split
    · rename_i hz
      exact absurd ho (h j hz.1 o)
    · exact ho
theorem lend_get {j : Nat} : ∀ {e : Sv}, (lend e)[j]? = (e[j]?).map lend1
  | [] => by simp [lend]
  | s :: e => by
    cases j with
    | zero => rfl
    | succ j => simpa [lend] using lend_get (j := j) (e := e)
theorem lend_length : ∀ {e : Sv}, (lend e).length = e.length
  | [] => rfl
  | s :: e => by
    show (lend e).length + 1 = e.length + 1
    rw [lend_length]
theorem lend_own {e : Sv} {j : Nat} : ownI (lend e) j = ownI e j := by
  unfold ownI
  rw [lend_get]
  cases e[j]? with
  | none => rfl
  | some y => cases y <;> rfl
theorem unlend_get {j : Nat} : ∀ {e0 e : Sv}, e0.length = e.length → (unlend e0 e)[j]? = match e0[j]? with
    | some s0 => (e[j]?).map (unl1 s0)
    | none => none
  | [], [], _ => by simp [unlend]
  | [], _ :: _, h => by simp at h
  | _ :: _, [], h => by simp at h
  | s0 :: e0, s :: e, h => by
    cases j with
    | zero => rfl
    | succ j => simpa [unlend] using unlend_get (j := j) (e0 := e0) (e := e) (by simpa using h)
theorem unlend_length : ∀ {e0 e : Sv}, e0.length = e.length → (unlend e0 e).length = e.length
  | [], [], _ => rfl
  | [], _ :: _, h => by simp at h
  | _ :: _, [], h => by simp at h
  | s0 :: e0, s :: e, h => by
    show (unlend e0 e).length + 1 = e.length + 1
    rw [unlend_length (by simpa using h)]
/-- a slot that came back -/
theorem unlend_some {e0 e : Sv} {j : Nat} {x : Sl} (hl : e0.length = e.length) (h : (unlend e0 e)[j]? = some x) : ∃ s0 s, e0[j]? = some s0 ∧ e[j]? = some s ∧ x = unl1 s0 s := by
  rw [unlend_get hl] at h
  cases r : e0[j]? with
  | none => rw [r] at h; cases h
  | some s0 =>
    rw [r] at h
    cases r' : e[j]? with
    | none => rw [r'] at h; cases h
    | some s => rw [r'] at h; exact ⟨s0, s, rfl, rfl, (Option.some.inj h).symm⟩
def addrO : Option (Option V) → Option Addr
  | some (some (.ref a)) => some a
  | _ => none
def lentG (n : Nat) (σ : L2.St) (e : Sv) (F H : Hp) : Gr := ⟨n, fun i => match ownI e i with
  | some _ => addrO σ[i]?
  | none => none, F, H⟩
theorem lentM {n : Nat} {i : Nat} {a : Addr} (I : FI g G σ e F H) : (lentG n σ e F H).M i = some a ↔ ∃ o, ownI e i = some o ∧ σ[i]? = some (some (V.ref a)) := by
  show (match ownI e i with
    | some _ => addrO σ[i]?
    | none => none) = some a ↔ _
  cases q : ownI e i with
  | none => simp
  | some o =>
    obtain ⟨b, h1, _⟩ := I.own i o q
    simp only [h1, addrO]
    constructor
    · intro h; cases h; exact ⟨o, rfl, rfl⟩
    · rintro ⟨_, _, h⟩; cases h; rfl
/-- all that is owned is lent to a part -/
theorem FI.lend (I : FI g G σ e F H) : FI g (lentG G.n σ e F H) σ (lend e) F H := by
  refine ⟨Same.refl F, I.sub, by rw [lend_length]; exact I.len, I.ln, fun j d q => ?_, fun j o q => ?_, fun i j a o o' q1 q2 q3 q4 => ?_, fun j o a q1 q2 => ?_, fun j o q => ?_, fun j a q => ?_, fun a o q _ => q, fun a o q1 q2 _ => q2⟩
  · rw [lend_get] at q
    cases r : e[j]? with
    | none => rw [r] at q; cases q
    | some y =>
      rw [r] at q
      cases y with
      | sh d' => cases q; exact I.sh j d r
      | no => cases q
      | ow o => cases q
      | io o => cases q
  · rw [lend_own] at q; exact I.own j o q
  · rw [lend_own] at q1 q2; exact I.dist i j a o o' q1 q2 q3 q4
  · rw [lend_get] at q1
    cases r : e[j]? with
    | none => rw [r] at q1; cases q1
    | some y => rw [r] at q1; cases y <;> cases q1
  · have q' := q
    obtain ⟨a, h1, _⟩ := I.own j o (by rw [← lend_own]; exact ownI_io q)
    exact ⟨a, (lentM I).mpr ⟨o, by rw [← lend_own]; exact ownI_io q, h1⟩, h1⟩
  · obtain ⟨o, h1, h2⟩ := (lentM I).mp q
    refine ⟨o, ?_⟩
    rw [lend_get]
    unfold ownI at h1
    cases r : e[j]? with
    | none => rw [r] at h1; cases h1
    | some y =>
      rw [r] at h1
      cases y with
      | no => cases h1
      | sh d => cases h1
      | ow o' => cases h1; rfl
      | io o' => cases h1; rfl
/-- it comes back -/
theorem FI.unlend (I : FI g G σ e F H) {e' : Sv} (J : FI g (lentG G.n σ e F H) σ e' F' H') : FI g G σ (unlend e e') F' H' := by
  have hl : e.length = e'.length := I.len.trans J.len.symm
  have own : ∀ (j : Nat), ownI (DL.unlend e e') j = ownI e' j := fun j => by
    unfold ownI
    rw [unlend_get hl]
    cases r : e[j]? with
    | none =>
      have z : e'[j]? = none := List.getElem?_eq_none (by rw [← hl]; exact List.getElem?_eq_none_iff.mp r)
      rw [z]
    | some y =>
      cases r' : e'[j]? with
      | none => rfl
      | some z => cases y <;> cases z <;> rfl
  have notM : ∀ (a : Addr) (o : HO), G.H0 a = some o → (∀ i, G.M i ≠ some a) → ∀ i, (lentG G.n σ e F H).M i ≠ some a := fun a o q1 q2 i z => by
    obtain ⟨o', h1, h2⟩ := (lentM I).mp z
    unfold ownI at h1
    cases r : e[i]? with
    | none => rw [r] at h1; cases h1
    | some y =>
      rw [r] at h1
      cases y with
      | no => cases h1
      | sh d => cases h1
      | ow o2 => have := I.low i o2 a r h2; rw [this] at q1; cases q1
      | io o2 =>
        obtain ⟨b, h3, h4⟩ := I.io i o2 r
        rw [h2] at h4; cases h4
        exact q2 i h3
  refine ⟨I.sub0.trans J.sub0, J.sub, by rw [unlend_length hl]; exact J.len, J.ln, fun j d q => ?_, fun j o q => ?_, fun i j a o o' q1 q2 q3 q4 => ?_, fun j o a q1 q2 => ?_, fun j o q => ?_, fun j a q => ?_, fun a o q1 q2 => ?_, fun a o q1 q2 q3 => ?_⟩
  · obtain ⟨s0, s1, r1, r2, r3⟩ := unlend_some hl q
    have : s1 = .sh d := by cases s0 <;> cases s1 <;> first | exact r3.symm | cases r3
    subst this
    exact J.sh j d r2
  · rw [own] at q; exact J.own j o q
  · rw [own] at q1 q2; exact J.dist i j a o o' q1 q2 q3 q4
  · obtain ⟨s0, s1, r1, r2, r3⟩ := unlend_some hl q1
    cases s0 with
    | ow o1 => exact I.low j o1 a r1 q2
    | no => cases s1 <;> first | exact I.fresh (J.low j _ a r2 q2) | cases r3
    | sh d => cases s1 <;> first | exact I.fresh (J.low j _ a r2 q2) | cases r3
    | io o1 => cases s1 <;> first | exact I.fresh (J.low j _ a r2 q2) | cases r3
  · obtain ⟨s0, s1, r1, r2, r3⟩ := unlend_some hl q
    have e1 : s1 = .io o := by cases s0 <;> cases s1 <;> first | exact r3.symm | cases r3
    subst e1
    obtain ⟨a, h1, h2⟩ := J.io j o r2
    obtain ⟨o2, h3, h4⟩ := (lentM I).mp h1
    unfold ownI at h3
    rw [r1] at h3
    cases s0 with
    | no => cases h3
    | sh d => cases h3
    | ow o3 => cases r3
    | io o3 =>
      obtain ⟨b, h5, h6⟩ := I.io j o3 r1
      rw [h4] at h6; cases h6
      exact ⟨a, h5, h4⟩
  · obtain ⟨o, ho⟩ := I.iom j a q
    obtain ⟨b, h1, h2⟩ := I.io j o ho
    rw [q] at h1; cases h1
    obtain ⟨o', ho'⟩ := J.iom j a ((lentM I).mpr ⟨o, ownI_io ho, h2⟩)
    refine ⟨o', ?_⟩
    rw [unlend_get hl, ho, ho']
    rfl
  · exact J.keep a o (I.keep a o q1 q2) (notM a o q1 q2)
  · exact J.fre a o (I.keep a o q1 q3) (I.fre a o q1 q2 q3) (notM a o q1 q3)
theorem noOw_get : ∀ {e : Sv}, noOw e → ∀ (j : Nat) (o : OD), e[j]? ≠ some (Sl.ow o)
  | [], _, j, o, h => by simp at h
  | .ow _ :: _, h, _, _, _ => h.elim
  | .no :: e, h, 0, o, q => by simp at q
  | .sh _ :: e, h, 0, o, q => by simp at q
  | .io _ :: e, h, 0, o, q => by simp at q
  | .no :: e, h, j + 1, o, q => noOw_get (e := e) h j o (by simpa using q)
  | .sh _ :: e, h, j + 1, o, q => noOw_get (e := e) h j o (by simpa using q)
  | .io _ :: e, h, j + 1, o, q => noOw_get (e := e) h j o (by simpa using q)
/-- the ground moved on to where the frame stands -/
theorem FI.rebase (I : FI g G σ e F H) (h : noOw e) : FI g ⟨G.n, G.M, F, H⟩ σ e F H :=
  ⟨Same.refl F, I.sub, I.len, I.ln, I.sh, I.own, I.dist, fun j o a q _ => absurd q (noOw_get h j o), I.io, I.iom, fun _ _ q _ => q, fun _ _ _ q _ => q⟩
theorem FI.back (I : FI g G σ e F H) {σ' : L2.St} {e' : Sv} (J : FI g ⟨G.n, G.M, F, H⟩ σ' e' F' H') : FI g G σ' e' F' H' :=
  ⟨I.sub0.trans J.sub0, J.sub, J.len, J.ln, J.sh, J.own, J.dist, fun j o a q1 q2 => I.fresh (J.low j o a q1 q2), J.io, J.iom, fun a o q1 q2 => J.keep a o (I.keep a o q1 q2) q2, fun a o q1 q2 q3 => J.fre a o (I.keep a o q1 q3) (I.fre a o q1 q2 q3) q3⟩
/-- a thing of nobody's is written -/
theorem FI.offw (I : FI g G σ e F H) {a : Addr} {u : HO} (hF : F a = none) (h0 : G.H0 a = none) (hn : ∀ i o, ownI e i = some o → σ[i]? ≠ some (some (V.ref a))) : FI g G σ e F (upd H a u) :=
  ⟨I.sub0, fun b x q => by rw [upd_ne (ne_of_none q hF)]; exact I.sub _ _ q, I.len, I.ln, I.sh, fun j o q => by
    obtain ⟨b, h1, h2, h3⟩ := I.own j o q
    refine ⟨b, h1, h2, h3.mono (Same.refl F) (upd_ne fun z => ?_)⟩
    rw [z] at h1
    exact hn j o q h1, I.dist, I.low, I.io, I.iom, fun b x q1 q2 => by rw [upd_ne (ne_of_none q1 h0)]; exact I.keep b x q1 q2, I.fre⟩
theorem backS_length {e0 e : Sv} : ∀ {vs : List Nat}, (backS e0 e vs).length = e.length
  | [] => rfl
  | v :: vs => by
    unfold backS
    split
    · rw [List.length_set, backS_length]
    · exact backS_length
/-- the comprehension's own names are as they were -/
theorem FI.backS {e0 : Sv} {F0 H0 : Hp} (I0 : FI g G σ e0 F0 H0) (s : Same F0 F) : ∀ {vs : List Nat} {τ : L2.St}, (∀ j, j ∉ vs → τ[j]? = σ[j]?) → (∀ v ∈ vs, ∀ x, τ[v]? ≠ some (some x)) → (∀ v ∈ vs, ∀ o, e0[v]? ≠ some (Sl.io o)) → (∀ v ∈ vs, e[v]? = some .no ∨ e[v]? = none) → FI g G τ e F H → FI g G σ (backS e0 e vs) F H := by
  intro vs τ h1 h2 h3 h4 I
  have hl : σ.length = τ.length := I0.ln.trans I.ln.symm
  -- the slots: of vs what e0 shares; else as in e
  have ge : ∀ {us : List Nat}, (∀ u ∈ us, u ∈ vs) → ∀ (j : Nat) (x : Sl), (DL.backS e0 e us)[j]? = some x → (j ∈ us ∧ ∃ d, e0[j]? = some (.sh d) ∧ x = .sh d) ∨ (e[j]? = some x) := by
    intro us
    induction us with
    | nil => intro _ j x q; exact .inr q
    | cons u us ih =>
      intro hu j x q
      unfold DL.backS at q
      split at q
      · rename_i d hd
        rcases set_get q with ⟨r1, r2, _⟩ | ⟨r1, r2⟩
        · subst r1; exact .inl ⟨List.mem_cons_self, d, hd, r2.symm⟩
        · rcases ih (fun u' hu' => hu u' (List.mem_cons_of_mem _ hu')) j x r2 with ⟨m, r⟩ | r
          · exact .inl ⟨List.mem_cons_of_mem _ m, r⟩
          · exact .inr r
      · rcases ih (fun u' hu' => hu u' (List.mem_cons_of_mem _ hu')) j x q with ⟨m, r⟩ | r
        · exact .inl ⟨List.mem_cons_of_mem _ m, r⟩
        · exact .inr r
  have ge' := fun (j : Nat) (x : Sl) => ge (us := vs) (fun _ h => h) j x
  have off : ∀ {j : Nat} {x : Sl}, x ≠ .no → e[j]? = some x → j ∉ vs := fun {j x} hx q hj => by
    rcases h4 j hj with r | r
    · rw [r] at q; exact hx (Option.some.inj q).symm
    · rw [r] at q; cases q
  have go : ∀ {j : Nat} {o : OD}, ownI (DL.backS e0 e vs) j = some o → j ∉ vs ∧ ownI e j = some o := fun {j o} q => by
    cases r : (DL.backS e0 e vs)[j]? with
    | none => unfold ownI at q; rw [r] at q; cases q
    | some y =>
      unfold ownI at q
      rw [r] at q
      rcases ge' j y r with ⟨_, d, _, r2⟩ | r2
      · subst r2; cases q
      · refine ⟨off (fun z => by rw [z] at q; cases q) r2, ?_⟩
        unfold ownI; rw [r2]; exact q
  refine ⟨I.sub0, I.sub, by rw [backS_length]; exact I.len.trans hl.symm, I0.ln, fun j d q => ?_, fun j o q => ?_, fun i j a o o' q1 q2 q3 q4 => ?_, fun j o a q1 q2 => ?_, fun j o q => ?_, fun j a q => ?_, I.keep, I.fre⟩
  · rcases ge' j _ q with ⟨_, d', r1, r2⟩ | r
    · cases r2
      obtain ⟨v, h5, h6⟩ := I0.sh j d r1
      exact ⟨v, h5, h6.mono s⟩
    · obtain ⟨v, h5, h6⟩ := I.sh j d r
      exact ⟨v, by rw [← h1 j (off (x := .sh d) (fun z => nomatch z) r)]; exact h5, h6⟩
  · obtain ⟨r1, r2⟩ := go q
    obtain ⟨a, h5, h6⟩ := I.own j o r2
    exact ⟨a, by rw [← h1 j r1]; exact h5, h6⟩
  · obtain ⟨r1, r2⟩ := go q1
    obtain ⟨r3, r4⟩ := go q2
    exact I.dist i j a o o' r2 r4 (by rw [h1 i r1]; exact q3) (by rw [h1 j r3]; exact q4)
  · rcases ge' j _ q1 with ⟨_, d', r1, r2⟩ | r
    · cases r2
    · exact I.low j o a r (by rw [h1 j (off (x := .ow o) (fun z => nomatch z) r)]; exact q2)
  · rcases ge' j _ q with ⟨_, d', r1, r2⟩ | r
    · cases r2
    · obtain ⟨a, h5, h6⟩ := I.io j o r
      exact ⟨a, h5, by rw [← h1 j (off (x := .io o) (fun z => nomatch z) r)]; exact h6⟩
  · obtain ⟨o, ho⟩ := I.iom j a q
    have nj : j ∉ vs := off (x := .io o) (fun z => nomatch z) ho
    refine ⟨o, ?_⟩
    have keep : ∀ {us : List Nat}, j ∉ us → (DL.backS e0 e us)[j]? = e[j]? := by
      intro us
      induction us with
      | nil => intro _; rfl
      | cons u us ih =>
        intro hj
        have hne : u ≠ j := fun z => hj (by rw [z]; exact List.mem_cons_self)
        unfold DL.backS
        split
        · rw [List.getElem?_set_ne hne]; exact ih fun z => hj (List.mem_cons_of_mem _ z)
        · exact ih fun z => hj (List.mem_cons_of_mem _ z)
    rw [keep nj]; exact ho
theorem backS_own {e0 e : Sv} {j : Nat} {o : OD} : ∀ {vs : List Nat}, (∀ v ∈ vs, e[v]? = some .no ∨ e[v]? = none) → ownI (DL.backS e0 e vs) j = some o → j ∉ vs ∧ ownI e j = some o := by
  intro vs h4 q
  have ge : ∀ {us : List Nat}, (DL.backS e0 e us)[j]? = e[j]? ∨ ∃ d, (DL.backS e0 e us)[j]? = some (.sh d) := by
    intro us
    induction us with
    | nil => exact .inl rfl
    | cons u us ih =>
      unfold DL.backS
      split
      · rename_i d hd
        by_cases hj : u = j
        · subst hj
          by_cases hl : u < (DL.backS e0 e us).length
          · exact .inr ⟨d, List.getElem?_set_self hl⟩
          · refine .inl ?_
            have z1 : ((DL.backS e0 e us).set u (Sl.sh d))[u]? = none := List.getElem?_eq_none (by rw [List.length_set]; omega)
            have z2 : e[u]? = none := List.getElem?_eq_none (by rw [backS_length] at hl; omega)
            rw [z1, z2]
        · rw [List.getElem?_set_ne hj]; exact ih
      · exact ih
  have q2 : ownI e j = some o := by
    rcases ge (us := vs) with r | ⟨d, r⟩
    · unfold ownI at q ⊢; rw [r] at q; exact q
    · unfold ownI at q; rw [r] at q; cases q
  refine ⟨fun hj => ?_, q2⟩
  unfold ownI at q2
  rcases h4 j hj with r | r
  · rw [r] at q2; cases q2
  · rw [r] at q2; cases q2
theorem wipe_wipe {vs : List Nat} : L2.wipe (L2.wipe σ vs) vs = L2.wipe σ vs := by
  apply List.ext_getElem?
  intro j
  rw [wipe_get, wipe_get, wipe_length]
  by_cases h : j ∈ vs ∧ j < σ.length
  · simp [h]
  · simp [h]
end
def exE (g : Wl) (t : DE) : TE := fun σ H Q => ∃ G, liftE g G t σ H Q
def exT (g : Wl) (t : DT) : TT := fun σ H Q => ∃ G, liftT g G t σ H Q
def exG (g : Wl) (t : Tg) : TG := fun v σ H Q => ∃ G, liftG g G t v σ H Q
theorem lift_lc {g : Wl} {G : Gr} {it : DI} {tg : Tg} {fz : List Nat} {tt : DT} {te : DE} {σ : L2.St} {H : Hp} {Q : VK} (q : liftE g G (dLc it tg fz tt te) σ H Q) :
    tLc (liftI g G it) (exG g tg) (exT g tt) (exE g te) tg.slots σ H Q := by
  obtain ⟨e, F, Qd, I, hh, k⟩ := q
  refine ⟨e, F, _, I, hh, ?_⟩
  intro ds J e1 F1 H1 I1 s1 wk q1
  unfold dLcK at q1
  obtain ⟨nio, q1⟩ := q1
  intro Dl hD
  obtain ⟨F2, s2, I2⟩ := I1.frzS fz
  have nv := noIoS_ne nio
  have I3 := I2.wipe nv
  have I4 := I3.lend
  generalize hvs : tg.slots = vs at *
  generalize he2 : frzS e1 fz = e2 at *
  have nM : ∀ v ∈ vs, ∀ a, (lentG G.n (L2.wipe σ vs) (wipeS e2 vs) F2 H1).M v ≠ some a := fun v hv a z => by
    obtain ⟨o, h1, h2⟩ := (lentM I3).mp z
    rw [wipe_get] at h2
    split at h2
    · cases h2
    · rename_i hn
      have : ¬ v < σ.length := fun z2 => hn ⟨hv, z2⟩
      rw [List.getElem?_eq_none (by omega)] at h2
      cases h2
  have mT : ∀ (i : Nat) (a : Addr), (lentG G.n (L2.wipe σ vs) (wipeS e2 vs) F2 H1).M i = some a → a ≠ Dl := fun i a z z2 => by
    obtain ⟨o, h1, h2⟩ := (lentM I3).mp z
    obtain ⟨b, h3, _, h4⟩ := I3.own i o h1
    rw [h2] at h3
    cases h3
    obtain ⟨u, eu⟩ := h4.there
    rw [z2, hD] at eu
    cases eu
  have I5 := I4.grow (Grow.tmp (p := Dl) (o := .lst []) I4.sub hD)
  have noD0 : ∀ (i : Nat) (o : OD), ownI (lend (wipeS e2 vs)) i = some o → (L2.wipe σ vs)[i]? ≠ some (some (V.ref Dl)) := fun i o h z => by
    obtain ⟨b, h3, _, h4⟩ := I4.own i o h
    rw [z] at h3
    cases h3
    obtain ⟨u, eu⟩ := h4.there
    rw [hD] at eu
    cases eu
  have no0 : ∀ v ∈ vs, (lend (wipeS e2 vs))[v]? = some .no ∨ (lend (wipeS e2 vs))[v]? = none := fun v hv => by
    rw [lend_get, wipeS_get]
    by_cases hl : v < e2.length
    · rw [if_pos ⟨hv, hl⟩]; exact .inl rfl
    · rw [if_neg (fun z => hl z.2)]
      have z : e2[v]? = none := List.getElem?_eq_none (by omega)
      rw [z]; exact .inr rfl
  have hf2 : F2 Dl = none := I4.sub.free hD
  -- a turn's end
  let St' : List D → Hp → Prop := fun ds' H' => ∃ e' F' acc vacc, FI g (lentG G.n (L2.wipe σ vs) (wipeS e2 vs) F2 H1) (L2.wipe σ vs) e' F' H' ∧ Same F2 F' ∧ F' Dl = none ∧ H' Dl = some (.lst vacc) ∧ Rps g F' vacc acc ∧
    (∀ (i : Nat) (o : OD), ownI e' i = some o → (L2.wipe σ vs)[i]? ≠ some (some (V.ref Dl))) ∧ (∀ v ∈ vs, e'[v]? = some .no ∨ e'[v]? = none) ∧
    dCl tg tt te (fun acc e3 => Qd (.tm (.lst acc)) (DL.backS e2 (unlend (wipeS e2 vs) e3) vs)) ds' acc e'
  refine ⟨fun i m H' => m = ds.length - i ∧ i ≤ ds.length ∧ St' (ds.drop i) H', ⟨_, rfl, Nat.zero_le _, lend (wipeS e2 vs), F2, [], [], I5, Same.refl F2, hf2, upd_same, .nil, noD0, no0, q1⟩, ?_⟩
  rintro i m H' ⟨rfl, hi, e', F', acc, vacc, I', s', hF, hH, hr, noD, no, q'⟩
  obtain ⟨wk1, wk2⟩ := wk i F' H' (s2.trans s') I'.sub
  by_cases hlt : i < ds.length
  · obtain ⟨go, yl⟩ := wk1 ds[i] (by simp [hlt])
    rw [List.drop_eq_getElem_cons hlt] at q'
    obtain ⟨now, q'⟩ := q'
    have It := I'.rebase now
    -- what a turn leaves
    have turnEnd : ∀ {σ3 : L2.St} {e5 : Sv} {F6 H5 : Hp}, L2.wipe σ3 vs = L2.wipe σ vs → FI g ⟨G.n, (lentG G.n (L2.wipe σ vs) (wipeS e2 vs) F2 H1).M, F', H'⟩ σ3 e5 F6 H5 →
        FI g (lentG G.n (L2.wipe σ vs) (wipeS e2 vs) F2 H1) (L2.wipe σ vs) (wipeS e5 vs) F6 H5 ∧ H5 Dl = some (.lst vacc) ∧ F6 Dl = none ∧ (∀ (i : Nat) (o : OD), ownI (wipeS e5 vs) i = some o → (L2.wipe σ vs)[i]? ≠ some (some (V.ref Dl))) ∧ (∀ v ∈ vs, (wipeS e5 vs)[v]? = some .no ∨ (wipeS e5 vs)[v]? = none) := by
      intro σ3 e5 F6 H5 hw I5'
      have h1 : ∀ i, (lentG G.n (L2.wipe σ vs) (wipeS e2 vs) F2 H1).M i ≠ some Dl := fun i z => mT i Dl z rfl
      have h2 := I5'.keep Dl _ hH h1
      have h3 := I5'.fre Dl _ hH hF h1
      have I6 := I5'.wipe (vs := vs) fun v hv o z => by
        obtain ⟨a, h4, _⟩ := I5'.io v o z
        exact nM v hv a h4
      rw [hw] at I6
      refine ⟨I'.back I6, h2, h3, fun j o h z => ?_, fun v hv => ?_⟩
      · have : (∃ o', (wipeS e5 vs)[j]? = some (.ow o')) ∨ ∃ o', (wipeS e5 vs)[j]? = some (.io o') := by
          unfold ownI at h
          cases r : (wipeS e5 vs)[j]? with
          | none => rw [r] at h; cases h
          | some y =>
            rw [r] at h
            cases y with
            | no => cases h
            | sh d => cases h
            | ow o2 => exact .inl ⟨o2, rfl⟩
            | io o2 => exact .inr ⟨o2, rfl⟩
        rcases this with ⟨o', r⟩ | ⟨o', r⟩
        · have h5 := I6.low j o' Dl r z
          have h5' : H' Dl = none := h5
          rw [hH] at h5'; cases h5'
        · obtain ⟨a, h5, h6⟩ := I6.io j o' r
          rw [z] at h6; cases h6
          exact h1 j h5
      · rw [wipeS_get]
        by_cases hl : v < e5.length
        · rw [if_pos ⟨hv, hl⟩]; exact .inl rfl
        · rw [if_neg (fun z => hl z.2)]
          exact .inr (List.getElem?_eq_none (by omega))
    refine .inr ⟨go, fun H'' => St' (ds.drop (i + 1)) H'', fun H'' p => ⟨ds.length - (i + 1), by omega, rfl, hlt, p⟩, fun x H'' y => ?_⟩
    obtain ⟨F'', w, rx⟩ := yl x H'' y
    refine ⟨_, e', F'', _, ds[i], It.grow w, rx, q', fun σ3 e3 F3 H3 I3' s3 off q3 => ?_⟩
    have hw : L2.wipe σ3 vs = L2.wipe σ vs := by
      have z := off.wipe
      rw [hvs] at z
      rw [z, wipe_wipe]
    refine ⟨hw, _, e3, F3, _, I3', q3, fun b e4 F4 H4 I4' s4 q4 => ?_⟩
    cases b with
    | false =>
      obtain ⟨z1, z2, z3, z4, z5⟩ := turnEnd hw I4'
      rw [hvs] at q4
      exact ⟨wipeS e4 vs, F4, acc, vacc, z1, ((s'.trans w.ff).trans s3).trans s4, z3, z2, hr.mono ((w.ff.trans s3).trans s4), z4, z5, q4⟩
    | true =>
      refine ⟨_, e4, F4, _, I4', q4, fun r v e5 F5 H5 I5' s5 rr q5 => ?_⟩
      obtain ⟨hz, q5⟩ := q5
      rw [hvs] at q5
      have fin : ∀ {F6 : Hp} {x : D}, Same F5 F6 → FI g ⟨G.n, (lentG G.n (L2.wipe σ vs) (wipeS e2 vs) F2 H1).M, F', H'⟩ σ3 e5 F6 H5 → Rp g F6 v x →
          dCl tg tt te (fun acc e3 => Qd (.tm (.lst acc)) (DL.backS e2 (unlend (wipeS e2 vs) e3) vs)) (ds.drop (i + 1)) (acc ++ [x]) (wipeS e5 vs) →
          ∃ acc, H5 Dl = some (.lst acc) ∧ acc.length < sizeLine ∧ St' (ds.drop (i + 1)) (upd H5 Dl (.lst (acc ++ [v]))) := by
        intro F6 x s6 I6 rv qq
        obtain ⟨z1, z2, z3, z4, z5⟩ := turnEnd hw I6
        have sAll : Same F' F6 := (((w.ff.trans s3).trans s4).trans s5).trans s6
        refine ⟨vacc, z2, ?_, wipeS e5 vs, F6, acc ++ [x], vacc ++ [v], z1.offw z3 (by show H1 Dl = none; exact hD) z4, s'.trans sAll, z3, upd_same, (hr.mono sAll).append (.one rv), z4, z5, qq⟩
        rw [hr.length]
        exact Nat.lt_of_lt_of_le hz (by rw [sizeLine_eq]; decide)
      cases r with
      | vl d => exact fin (Same.refl F5) I5' rr q5
      | tm o =>
        obtain ⟨a, rfl, t⟩ := rr
        obtain ⟨F6, h1, h2, h3⟩ := I5'.freezeT t
        exact fin h2 h3 h1 q5
      | sl j => exact q5.elim
  · have ei : i = ds.length := by omega
    subst ei
    rw [List.drop_length] at q'
    have K1 := I3.unlend I'
    have hl : (wipeS e2 vs).length = e'.length := I3.len.trans I'.len.symm
    have no' : ∀ v ∈ vs, (unlend (wipeS e2 vs) e')[v]? = some .no ∨ (unlend (wipeS e2 vs) e')[v]? = none := fun v hv => by
      rw [unlend_get hl]
      cases r : (wipeS e2 vs)[v]? with
      | none => exact .inr rfl
      | some s0 =>
        rcases no v hv with z | z
        · rw [z]
          left
          cases s0 <;> rfl
        · rw [z]; exact .inr rfl
    have own' : ∀ (j : Nat) (o : OD), ownI (unlend (wipeS e2 vs) e') j = some o → ∃ o', ownI e' j = some o' := fun j o h => by
      cases r : (unlend (wipeS e2 vs) e')[j]? with
      | none => unfold ownI at h; rw [r] at h; cases h
      | some x =>
        obtain ⟨s0, s, r1, r2, r3⟩ := unlend_some hl r
        unfold ownI at h
        rw [r, r3] at h
        cases s with
        | ow o' => exact ⟨o', ownI_ow r2⟩
        | io o' => exact ⟨o', ownI_io r2⟩
        | no => cases s0 <;> cases h
        | sh d => cases s0 <;> cases h
    have sw : ∀ j, j ∉ vs → (L2.wipe σ vs)[j]? = σ[j]? := fun j hj => by rw [wipe_get, if_neg fun z => hj z.1]
    have K2 := FI.backS (vs := vs) (τ := L2.wipe σ vs) I2 s' sw (fun v hv x z => by
      rw [wipe_get] at z
      split at z
      · cases z
      · rename_i hn
        have : ¬ v < σ.length := fun z2 => hn ⟨hv, z2⟩
        rw [List.getElem?_eq_none (by omega)] at z
        cases z) nv no' K1
    refine .inl ⟨wk2 (Nat.le_refl _), k (.tm (.lst acc)) (.ref Dl) _ F' H' K2 ((s1.trans s2).trans s') ⟨Dl, rfl, hF, I1.fresh hD, fun j o h z => ?_, vacc, hH, hr⟩ q'⟩
    obtain ⟨h1, h2⟩ := backS_own no' h
    obtain ⟨o', h3⟩ := own' j o h2
    exact noD j o' h3 ((sw j h1).trans z)
section
variable {X : Cx} {G : Gr}
def PDTs (X : Cx) (G : Gr) (ifs : List Expr) (t : DT) : Prop := PTs X ifs (liftT (wl X) G t)
def dYes : DT := fun e Q => Q true e
theorem pdts_nil : PDTs X G [] dYes := ⟨fun pins s σ H Q I q => by
  obtain ⟨e, F, Qd, I', hh, k⟩ := q
  exact pts_nil.run pins s σ H Q I (k true e F H I' (Same.refl F) hh)⟩
theorem pdts_one {c : Expr} {t : DT} (h : PDT X G c t) : PDTs X G [c] t := pts_one h
theorem pd_lc {elt tgx iter : Expr} {ifs : List Expr} {scope : Scope} {own : List (Str × Nat)} {pos : Pos} {it : DI} {tg : Tg} {tt : DT} {te : DE} (fz : List Nat) (ho : own.map (·.2) = tg.slots) (hc : X.calm = true) (hN : X.N.Nodup) (hi : PDI X G tgx iter it) (ok : BlkOk X.N X.env.scope scope own)
    (hg : ∀ (s : Shared) (H : Hp) (C : Addr) (cl : List (Str × Addr)) (fp : List Addr) (G' : Gr), PDG (X.blk s H scope (compEnvC scope cl C X.env) fp) G' tgx tg) (ht : ∀ (s : Shared) (H : Hp) (C : Addr) (cl : List (Str × Addr)) (fp : List Addr) (G' : Gr), PDTs (X.blk s H scope (compEnvC scope cl C X.env) fp) G' ifs tt)
    (he : ∀ (s : Shared) (H : Hp) (C : Addr) (cl : List (Str × Addr)) (fp : List Addr) (G' : Gr), PD (X.blk s H scope (compEnvC scope cl C X.env) fp) G' elt te) (hs : ∀ x, foldedSetIterable iter X.env x = pure x := by intro _; rfl) :
    PD X G (.ListComp elt [⟨tgx, iter, ifs, 0⟩] scope pos) (dLc it tg fz tt te) := by
  refine pe_mono (pe_lc (own := own) (g := exG (wl X) tg) (tt := exT (wl X) tt) (te := exE (wl X) te) hc hN hi ok (fun s H C cl fp => ?_) (fun s H C cl fp => ?_) (fun s H C cl fp => ?_) hs) fun σ H Q q => by rw [ho]; exact lift_lc q
  · exact ⟨fun pins s' σ H' v u Q I r ⟨G', q⟩ => (hg s H C cl fp G').run pins s' σ H' v u Q I r q⟩
  · exact ⟨fun pins s' σ H' Q I ⟨G', q⟩ => (ht s H C cl fp G').run pins s' σ H' Q I q⟩
  · exact ⟨fun pins s' σ H' Q I ⟨G', q⟩ => (he s H C cl fp G').run pins s' σ H' Q I q⟩
theorem pds_setLc {i : Nat} {y : Str} {py : Pos} {elt tgx iter : Expr} {ifs : List Expr} {scope : Scope} {own : List (Str × Nat)} {pos spos : Pos} {it : DI} {tg : Tg} {tt : DT} {te : DE} (fz : List Nat) (ho : own.map (·.2) = tg.slots) (hc : X.calm = true) (hN : X.N.Nodup) (hy : X.N[i]? = some y) (hyl : X.env.scope.names.lookup y = some .local)
    (hsw : swapsWith (.ListComp elt [⟨tgx, iter, ifs, 0⟩] scope pos) (some (.Name y py)) spos.line X.env = pure true) (hi : PDI X G tgx iter it) (ok : BlkOk X.N X.env.scope scope own)
    (hg : ∀ (s : Shared) (H : Hp) (C : Addr) (cl : List (Str × Addr)) (fp : List Addr) (G' : Gr), PDG (X.blk s H scope (compEnvC scope cl C X.env) fp) G' tgx tg) (ht : ∀ (s : Shared) (H : Hp) (C : Addr) (cl : List (Str × Addr)) (fp : List Addr) (G' : Gr), PDTs (X.blk s H scope (compEnvC scope cl C X.env) fp) G' ifs tt)
    (he : ∀ (s : Shared) (H : Hp) (C : Addr) (cl : List (Str × Addr)) (fp : List Addr) (G' : Gr), PD (X.blk s H scope (compEnvC scope cl C X.env) fp) G' elt te) (hs : ∀ x, foldedSetIterable iter X.env x = pure x := by intro _; rfl) :
    PDS X G (.Assign [.Name y py] (.ListComp elt [⟨tgx, iter, ifs, 0⟩] scope pos) spos) (dSet i (dLc it tg fz tt te)) := by
  refine ps_mono (ps_setLc (own := own) (g := exG (wl X) tg) (tt := exT (wl X) tt) (te := exE (wl X) te) hc hN hy hyl hsw hi ok (fun s H C cl fp => ?_) (fun s H C cl fp => ?_) (fun s H C cl fp => ?_) hs) fun D σ H q => ?_
  · exact ⟨fun pins s' σ H' v u Q I r ⟨G', q⟩ => (hg s H C cl fp G').run pins s' σ H' v u Q I r q⟩
  · exact ⟨fun pins s' σ H' Q I ⟨G', q⟩ => (ht s H C cl fp G').run pins s' σ H' Q I q⟩
  · exact ⟨fun pins s' σ H' Q I ⟨G', q⟩ => (he s H C cl fp G').run pins s' σ H' Q I q⟩
  · rw [ho]
    obtain ⟨e, F, DD, I, hh, k1, k2, k3, k4⟩ := q
    refine lift_lc (Q := fun x H1 => gName i x σ H1 D.nx) ⟨e, F, _, I, hh, ?_⟩
    intro r v e1 F1 H1 I1 s1 r1 q1
    obtain ⟨e2, I2, q2⟩ := setS_ok I1 r1 q1
    exact k1 _ e2 F1 H1 I2 s1 q2
end
end DL
/-! DL, part F: operators, subscripts, built-ins over data. -/
namespace DL
open PySem PySem.Spec PyProof.Rows L2
section
variable {g : Wl} {F H : Hp}
mutual
theorem Rp.can : ∀ {d : D} {v : V}, noDict d = true → Rp g F v d → d.canLay0 = true
  | .none, _, _, _ => rfl
  | .bool b, _, _, _ => rfl
  | .int i, _, _, _ => rfl
  | .str x, _, _, h => by
    cases h with
    | str _ h =>
      unfold okS at h
      show x.cps.all (· < 0x110000) = true
      exact (Bool.and_eq_true_iff.mp h).1
  | .list ds, _, n, h => by cases h with | lst h1 h2 => exact Rps.can (ds := ds) n h2
  | .tuple ds, _, n, h => by cases h with | tup h1 h2 => exact Rps.can (ds := ds) n h2
  | .dict kvs, _, n, _ => by cases n
theorem Rps.can : ∀ {ds : List D} {vs : List V}, noDicts ds = true → Rps g F vs ds → PyData.canLayAll0 ds = true
  | [], _, _, _ => rfl
  | d :: ds, _, n, h => by
    have n' : (noDict d && noDicts ds) = true := n
    obtain ⟨n1, n2⟩ := Bool.and_eq_true_iff.mp n'
    cases h with
    | cons h1 h2 =>
      show (d.canLay0 && PyData.canLayAll0 ds) = true
      rw [Rp.can n1 h1, Rps.can n2 h2] <;> rfl
end
end
/-! ### == and != -/
def tEq (x y : D) (Q : Op → Prop) : Prop := (noDict x = true ∧ noDict y = true ∧ min x.depth y.depth ≤ 60) ∧ Q (.vl (.bool (PyData.eqv x y)))
def tNe (x y : D) (Q : Op → Prop) : Prop := (noDict x = true ∧ noDict y = true ∧ min x.depth y.depth ≤ 60) ∧ Q (.vl (.bool (!PyData.eqv x y)))
def rEqP (g : Wl) (f : D → D → Bool) : R2 := fun x y H Q => ∃ d e, Rp g H x d ∧ Rp g H y e ∧ (noDict d = true ∧ noDict e = true ∧ min d.depth e.depth ≤ 60) ∧ Q (.bl (f d e)) H
section
variable {X : Cx}
theorem op_eqP (hu : X.A.units + 64 < cLine) : OpR X (compareOp .Eq) (rEqP (wl X) PyData.eqv) := by
  intro pins s σ H x y v u Q I rx ry h
  obtain ⟨d, e, hd, he, ⟨n1, n2, dp⟩, q⟩ := h
  obtain ⟨as, r1⟩ := Dp.reads I d x v (Rp.dp n1 hd) rx
  obtain ⟨bs, r2⟩ := Dp.reads I e y u (Rp.dp n2 he) ry
  exact SeqAt.compareEq_reads r1 r2 (Rp.can n1 hd) (Rp.can n2 he) (by omega) ⟨.bl _, H, I, rfl, q⟩
theorem op_neP (hu : X.A.units + 64 < cLine) : OpR X (compareOp .NotEq) (rEqP (wl X) fun d e => !PyData.eqv d e) := by
  intro pins s σ H x y v u Q I rx ry h
  obtain ⟨d, e, hd, he, ⟨n1, n2, dp⟩, q⟩ := h
  obtain ⟨as, r1⟩ := Dp.reads I d x v (Rp.dp n1 hd) rx
  obtain ⟨bs, r2⟩ := Dp.reads I e y u (Rp.dp n2 he) ry
  exact SeqAt.compareNe_reads r1 r2 (Rp.can n1 hd) (Rp.can n2 he) (by omega) ⟨.bl _, H, I, rfl, q⟩
end
/-- a result that needs nothing new -/
theorem grow0 {g : Wl} {F H : Hp} {d : D} {v : V} (s : Same F H) (r : Rp g F v d) : Grow F H F H ∧ Nw g F H F H v (.vl d) := ⟨Grow.refl s, r⟩
theorem od_eq {g : Wl} : OpD g (rEqP g PyData.eqv) tEq := by
  intro F H x y dx dy Qd Q s hx hy ⟨c, q⟩ k
  exact ⟨dx, dy, hx.rp s, hy.rp s, c, k (.vl (.bool _)) _ F H (Grow.refl s) (Rp.bl _) q⟩
theorem od_ne {g : Wl} : OpD g (rEqP g fun d e => !PyData.eqv d e) tNe := by
  intro F H x y dx dy Qd Q s hx hy ⟨c, q⟩ k
  exact ⟨dx, dy, hx.rp s, hy.rp s, c, k (.vl (.bool _)) _ F H (Grow.refl s) (Rp.bl _) q⟩
/-! ### whole numbers -/
def onI2 (x y : D) (k : Int → Int → Prop) : Prop := match x, y with
  | .int a, .int b => k a b
  | _, _ => False
def tI (C : Int → Int → Prop) (f : Int → Int → Int) (x y : D) (Q : Op → Prop) : Prop := onI2 x y fun a b => C a b ∧ Q (.vl (.int (f a b)))
def tI0 (f : Int → Int → Int) (x y : D) (Q : Op → Prop) : Prop := onI2 x y fun a b => Q (.vl (.int (f a b)))
def tB0 (f : Int → Int → Bool) (x y : D) (Q : Op → Prop) : Prop := onI2 x y fun a b => Q (.vl (.bool (f a b)))
theorem onI2_of {g : Wl} {F H : Hp} {x y : V} {dx dy : D} {k : Int → Int → Prop} (hx : Bp g F H x dx) (hy : Bp g F H y dy) (q : onI2 dx dy k) : ∃ a b, x = .int a ∧ y = .int b ∧ k a b := by
  cases dx <;> first | exact q.elim | skip
  cases dy <;> first | exact q.elim | skip
  exact ⟨_, _, hx.int, hy.int, q⟩
theorem od_I {g : Wl} {C : Int → Int → Prop} {f : Int → Int → Int} : OpD g (rI C fun i j => .int (f i j)) (tI C f) := by
  intro F H x y dx dy Qd Q s hx hy q k
  obtain ⟨a, b, e1, e2, c, q⟩ := onI2_of hx hy q
  exact ⟨a, b, e1, e2, c, k (.vl (.int _)) _ F H (Grow.refl s) (Rp.int _) q⟩
theorem od_I0 {g : Wl} {f : Int → Int → Int} : OpD g (rI0 fun i j => .int (f i j)) (tI0 f) := by
  intro F H x y dx dy Qd Q s hx hy q k
  obtain ⟨a, b, e1, e2, q⟩ := onI2_of hx hy q
  exact ⟨a, b, e1, e2, k (.vl (.int _)) _ F H (Grow.refl s) (Rp.int _) q⟩
theorem od_B0 {g : Wl} {f : Int → Int → Bool} : OpD g (rI0 fun i j => .bl (f i j)) (tB0 f) := by
  intro F H x y dx dy Qd Q s hx hy q k
  obtain ⟨a, b, e1, e2, q⟩ := onI2_of hx hy q
  exact ⟨a, b, e1, e2, k (.vl (.bool _)) _ F H (Grow.refl s) (Rp.bl _) q⟩
/-- a unary step -/
def UnD (g : Wl) (r : V → Hp → VK → Prop) (t : D → (Op → Prop) → Prop) : Prop := ∀ (F H : Hp) (x : V) (dx : D) (Qd : Op → Prop) (Q : VK), Same F H → Bp g F H x dx → t dx Qd →
  (∀ rr v F' H', Grow F H F' H' → Nw g F H F' H' v rr → Qd rr → Q v H') → r x H Q
def dUn (t : D → (Op → Prop) → Prop) (ta : DE) : DE := fun e Q => ta e fun ra e1 => withO e1 ra fun x => t x fun r => Q r e1
theorem lift_un {g : Wl} {G : Gr} {r : V → Hp → VK → Prop} {t : D → (Op → Prop) → Prop} {ta : DE} (h : UnD g r t) {σ : L2.St} {H : Hp} {Q : VK} (q : liftE g G (dUn t ta) σ H Q) : tUn r (liftE g G ta) σ H Q := by
  obtain ⟨e, F, Qd, I, hh, k⟩ := q
  refine ⟨e, F, _, I, hh, ?_⟩
  intro ra v e1 F1 H1 I1 s1 r1 q1
  obtain ⟨dx, b1, q3⟩ := bp_of I1 r1 q1
  exact h F1 H1 v dx _ Q I1.sub b1 q3 fun rr v' F' H' w n qq => k rr v' e1 F' H' (I1.grow w) (s1.trans w.ff) (rr_of I1 w n) qq
def tNeg (x : D) (Q : Op → Prop) : Prop := match x with
  | .int a => Q (.vl (.int (-a)))
  | _ => False
theorem ud_neg {g : Wl} : UnD g (rU fun i => .int (-i)) tNeg := by
  intro F H x dx Qd Q s hx q k
  cases dx <;> first | exact q.elim | skip
  exact ⟨_, hx.int, k (.vl (.int _)) _ F H (Grow.refl s) (Rp.int _) q⟩
theorem pd_neg {X : Cx} {G : Gr} {a : Expr} {ta : DE} {pos : Pos} (ha : PD X G a ta) : PD X G (.UnaryOp .USub a pos) (dUn tNeg ta) := pe_mono (pe_un un_neg ha) fun _ _ _ q => lift_un ud_neg q
/-! ### + -/
theorem okS_of {x : Str} (h : okS x = true) : (∀ c ∈ x.cps.toList, c < 0x110000) ∧ x.length ≤ 1000000 := by
  unfold okS at h
  simp only [Bool.and_eq_true, decide_eq_true_eq, Array.all_eq_true_iff_forall_mem] at h
  exact ⟨fun c hc => h.1 c (by simpa using hc), h.2⟩
theorem okS_mk {x : Str} (h : ∀ c ∈ x.cps.toList, c < 0x110000) (hl : x.length ≤ 1000000) : okS x = true := by
  unfold okS
  simp only [Bool.and_eq_true, decide_eq_true_eq, Array.all_eq_true_iff_forall_mem]
  exact ⟨fun c hc => h c (by simpa using hc), hl⟩
theorem str_app_list (x y : Str) : (x ++ y).cps.toList = x.cps.toList ++ y.cps.toList := by
  show (x.cps ++ y.cps).toList = _
  simp
theorem str_len_list (x : Str) : x.length = x.cps.toList.length := by simp [Str.length]
theorem okS_app {x y : Str} (hx : okS x = true) (hy : okS y = true) (hl : x.length + y.length ≤ 1000000) : okS (x ++ y) = true := by
  refine okS_mk (fun c hc => ?_) ?_
  · rw [str_app_list] at hc
    rcases List.mem_append.mp hc with h | h
    · exact (okS_of hx).1 c h
    · exact (okS_of hy).1 c h
  · rw [str_len_list, str_app_list, List.length_append, ← str_len_list, ← str_len_list]; exact hl
def tAdd (x y : D) (Q : Op → Prop) : Prop := match x, y with
  | .int a, .int b => Q (.vl (.int (a + b)))
  | .str a, .str b => a.length + b.length ≤ 1000000 ∧ Q (.vl (.str (a ++ b)))
  | .list a, .list b => a.length + b.length ≤ 100000 ∧ Q (.tm (.lst (a ++ b)))
  | .tuple a, .tuple b => a.length + b.length ≤ 100000 ∧ Q (.vl (.tuple (a ++ b)))
  | _, _ => False
def rCatR : R2 := fun x y H Q => ∃ l b xs zs, x = .ref l ∧ y = .ref b ∧ Rd H l (.lst xs) ∧ Rd H b (.lst zs) ∧ xs.length + zs.length ≤ sizeLine ∧ ∀ p, H p = none → Q (.ref p) (upd H p (.lst (xs ++ zs)))
section
variable {X : Cx}
theorem op_catR : OpR X (binaryOp .Add) rCatR := by
  intro pins s σ H x y v u Q I rx ry h
  obtain ⟨l, b, xs, zs, rfl, rfl, hH, hB, hz, q⟩ := h
  cases rx
  cases ry
  obtain ⟨z, its, n, r, e⟩ := hH.ok I.hok
  obtain ⟨z2, its2, n2, r2, e2⟩ := hB.ok I.hok
  have hl := r.length
  have hl2 := r2.length
  refine PySem.P.add_list e e2 ?_ (by rw [List.size_toArray, List.size_toArray]; omega)
  have ea : its.toArray ++ its2.toArray = (its ++ its2).toArray := by simp
  rw [ea]
  exact ⟨.ref _, _, I.lnew (t' := s.toks) (r.append r2) (by rw [List.length_append]; omega), rfl, q _ I.fresh⟩
def rAddU (K : PySem.W.Frag) : R2 := fun x y H Q => rI0 (fun i j => .int (i + j)) x y H Q ∨ (∃ i j, x = .str i ∧ y = .str j ∧ i.length + j.length ≤ sizeLine ∧ Q (.str (i ++ j)) H) ∨ rCatR x y H Q ∨ rCatA K x y H Q
theorem op_addU : OpR X (binaryOp .Add) (rAddU X.K) := op_add.or (op_add_str.or (op_catR.or op_catA))
end
theorem od_add {g : Wl} : OpD g (rAddU g.K) tAdd := by
  intro F H x y dx dy Qd Q s hx hy q k
  cases dx <;> cases dy <;> first | exact q.elim | skip
  · exact .inl ⟨_, _, hx.int, hy.int, k (.vl (.int _)) _ F H (Grow.refl s) (Rp.int _) q⟩
  · obtain ⟨hl, q⟩ := q
    obtain ⟨e1, o1⟩ := hx.str
    obtain ⟨e2, o2⟩ := hy.str
    exact .inr (.inl ⟨_, _, e1, e2, Nat.le_trans hl (by rw [sizeLine_eq]; decide), k (.vl (.str _)) _ F H (Grow.refl s) (Rp.str _ (okS_app o1 o2 hl)) q⟩)
  · obtain ⟨hl, q⟩ := q
    obtain ⟨a, vs, rfl, h1, r1⟩ := hx.list s
    obtain ⟨b, us, rfl, h2, r2⟩ := hy.list s
    refine .inr (.inr (.inl ⟨a, b, vs, us, rfl, rfl, h1, h2, line_le (by rw [r1.length, r2.length]; exact hl), fun p hp => ?_⟩))
    obtain ⟨w, n⟩ := grow_lst s hp (r1.append r2)
    exact k (.tm (.lst _)) _ _ _ w n q
  · obtain ⟨hl, q⟩ := q
    obtain ⟨a, vs, rfl, h1, r1⟩ := hx.tuple s
    obtain ⟨b, us, rfl, h2, r2⟩ := hy.tuple s
    refine .inr (.inr (.inr ⟨a, b, vs, us, rfl, rfl, h1, h2, line_le (by rw [r1.length, r2.length]; exact hl), fun e => ?_, fun e1 e2 => ?_, fun _ _ p hp => ?_⟩))
    · subst e
      cases r1
      exact k (.vl (.tuple _)) _ F H (Grow.refl s) hy.frozenT q
    · subst e2
      cases r2
      rw [List.append_nil] at q
      exact k (.vl (.tuple _)) _ F H (Grow.refl s) hx.frozenT q
    · obtain ⟨w, n⟩ := grow_tup s hp (r1.append r2)
      exact k (.vl (.tuple _)) _ _ _ w n q
/-! ### subscripts -/
theorem atI_map {g : Wl} {F : Hp} {vs : List V} {ds : List D} {i : Int} {d : D} (r : Rps g F vs ds) (h : atI ds i = some d) : ∃ v, atI vs i = some v ∧ Rp g F v d := by
  unfold atI at h ⊢
  rw [r.length]
  cases e : ixN ds.length i with
  | none => rw [e] at h; cases h
  | some j =>
    rw [e] at h
    exact r.get h
/-- what stands at a place -/
def ixD (ds : List D) (i : Int) (k : D → Prop) : Prop := ∃ d, atI ds i = some d ∧ k d
def tIx (x y : D) (Q : Op → Prop) : Prop := match x, y with
  | .list ds, .int i => ixD ds i fun d => Q (.vl d)
  | .tuple ds, .int i => ixD ds i fun d => Q (.vl d)
  | .str z, .int i => ∃ c, atI z.cps.toList i = some c ∧ Q (.vl (.str ⟨#[c]⟩))
  | .dict [(.none, .list ds)], .int i => ixD ds i fun d => Q (.vl d)
  | _, _ => False
theorem Rpn.nn {g : Wl} {F : Hp} : ∀ {kvs : List (D × D)} {xs : List (NK × Addr × V)}, Rpn g F xs kvs → ∀ kv ∈ kvs, kv.1 ≠ .none
  | [], _, _, kv, hm => nomatch hm
  | p :: kvs, _, h, kv, hm => by
    generalize e : (p :: kvs) = l at h
    cases h with
    | nil => cases e
    | cons q1 q2 q3 =>
      rename_i k b v d xs kvs'
      injection e with e1 e2
      rcases List.mem_cons.mp hm with hm | hm
      · intro z
        rw [hm, e1] at z
        have z' : k.data = PyData.none := z
        rw [z'] at q1
        cases q1
      · rw [← e2] at q3
        exact Rpn.nn q3 kv hm
theorem Rpk.nn {g : Wl} {F : Hp} : ∀ {kvs : List (D × D)} {xs : List (Key × V)}, Rpk g F xs kvs → ∀ kv ∈ kvs, kv.1 ≠ .none
  | [], _, _, kv, hm => nomatch hm
  | p :: kvs, _, h, kv, hm => by
    generalize e : (p :: kvs) = l at h
    cases h with
    | nil => cases e
    | cons q1 q2 q3 =>
      rename_i k v kd d xs kvs'
      injection e with e1 e2
      rcases List.mem_cons.mp hm with hm | hm
      · intro z
        rw [hm, e1] at z
        have z' : kd = PyData.none := z
        rw [z'] at q1
        cases k <;> cases q1
      · rw [← e2] at q3
        exact Rpk.nn q3 kv hm
theorem scr_of {g : Wl} {F H : Hp} {v : V} {ds : List D} (s : Same F H) (h : Bp g F H v (scrD ds)) : ∃ a vs, v = .ref a ∧ SqL g.K H a vs ∧ Rps g F vs ds := by
  generalize e : scrD ds = d at h
  cases h with
  | of h =>
    subst e
    cases h with
    | scr h1 h2 => exact ⟨_, _, rfl, sql_mono s h1, h2⟩
    | dct h1 h2 => exact absurd rfl (h2.nn _ List.mem_cons_self)
  | @ow a o h =>
    cases o with
    | lst es => cases e
    | dct es =>
      cases e
      obtain ⟨_, xs, h1, h2⟩ := h
      exact absurd rfl (h2.nn _ List.mem_cons_self)
    | dck es => cases e
theorem od_ix {g : Wl} : OpD g (rIx g.K) tIx := by
  intro F H x y dx dy Qd Q s hx hy q k
  unfold tIx at q
  split at q
  · rename_i ds i
    obtain ⟨d, h1, q⟩ := q
    obtain ⟨a, vs, rfl, h2, r⟩ := hx.list s
    obtain ⟨v, h3, rv⟩ := atI_map r h1
    exact .inl ⟨a, vs, i, v, rfl, hy.int, .inl h2, h3, k (.vl d) v F H (Grow.refl s) rv q⟩
  · rename_i ds i
    obtain ⟨d, h1, q⟩ := q
    obtain ⟨a, vs, rfl, h2, r⟩ := hx.tuple s
    obtain ⟨v, h3, rv⟩ := atI_map r h1
    exact .inr (.inl ⟨a, vs, i, v, rfl, hy.int, h2, h3, k (.vl d) v F H (Grow.refl s) rv q⟩)
  · rename_i z i
    obtain ⟨c, h1, q⟩ := q
    obtain ⟨e1, o1⟩ := hx.str
    obtain ⟨j, _, hj, _⟩ := atI_get h1
    exact .inr (.inr ⟨z, i, c, e1, hy.int, Nat.le_trans (okS_of o1).2 (by rw [sizeLine_eq]; decide), h1, k (.vl (.str _)) _ F H (Grow.refl s) (Rp.str _ (ok_sign o1 (List.mem_of_getElem? hj))) q⟩)
  · rename_i ds i
    obtain ⟨d, h1, q⟩ := q
    obtain ⟨a, vs, rfl, h2, r⟩ := scr_of s hx
    obtain ⟨v, h3, rv⟩ := atI_map r h1
    exact .inl ⟨a, vs, i, v, rfl, hy.int, h2, h3, k (.vl d) v F H (Grow.refl s) rv q⟩
  · exact q.elim
/-! ### slices -/
def cutD {α : Type} (xs : List α) (lo hi : Option Int) : List α := (xs.drop (HT.sIx xs.length 0 lo)).take (HT.sIx xs.length xs.length hi - HT.sIx xs.length 0 lo)
theorem cut_rps {g : Wl} {F : Hp} {vs : List V} {ds : List D} (r : Rps g F vs ds) (lo hi : Option Int) : Rps g F (cutV vs lo hi) (cutD ds lo hi) := by
  unfold cutV cutD
  rw [r.length]
  exact (r.drop _).take _
/-- a part of a slice: none, or a whole number -/
def dPart : Option DE → Sv → (Option Int → Sv → Prop) → Prop
  | none, e, Q => Q none e
  | some t, e, Q => t e fun r e1 => match r with
    | .vl (.int i) => Q (some i) e1
    | _ => False
def tSlD (x : D) (lo hi : Option Int) (Q : Op → Prop) : Prop := match x with
  | .list ds => Q (.tm (.lst (cutD ds lo hi)))
  | .tuple ds => Q (.vl (.tuple (cutD ds lo hi)))
  | .str z => Q (.vl (.str (cutS z lo hi)))
  | _ => False
def dSl (ta : DE) (tl th : Option DE) : DE := fun e Q => ta e fun ra e1 => dPart tl e1 fun lo e2 => dPart th e2 fun hi e3 => withO e3 (pend ra) fun x => tSlD x lo hi fun r => Q r e3
def liftO (g : Wl) (G : Gr) (t : Option DE) : TO := fun σ H Q => ∃ e F Qd, FI g G σ e F H ∧ dPart t e Qd ∧ ∀ o e' F' H', FI g G σ e' F' H' → Same F F' → Qd o e' → Q o H'
section
variable {X : Cx} {G : Gr}
def PDO (X : Cx) (G : Gr) (x : Option Expr) (t : Option DE) : Prop := PO X x (liftO (wl X) G t)
theorem pdo_none : PDO X G none none := ⟨fun pins s σ H Q I q => by
  obtain ⟨e, F, Qd, I', hh, k⟩ := q
  exact po_none.run pins s σ H Q I (k none e F H I' (Same.refl F) hh)⟩
theorem pdo_some {x : Expr} {t : DE} (h : PD X G x t) : PDO X G (some x) (some t) := ⟨fun pins s σ H Q I q => by
  refine (po_some h).run pins s σ H Q I ?_
  obtain ⟨e, F, Qd, I', hh, k⟩ := q
  refine ⟨e, F, _, I', hh, ?_⟩
  intro r v e1 F1 H1 I1 s1 r1 q1
  split at q1
  · rename_i i
    have r1' : Rp (wl X) F1 v (.int i) := r1
    cases r1'
    exact ⟨i, rfl, k (some i) e1 F1 H1 I1 s1 q1⟩
  · exact q1.elim⟩
def rSlU (K : PySem.W.Frag) : V → Option Int → Option Int → Hp → VK → Prop := fun x lo hi H Q => rSlL K x lo hi H Q ∨ rSlA K x lo hi H Q ∨ rSlS x lo hi H Q
theorem sl_U : SlR X (rSlU X.K) := sl_list.or (sl_tupA.or sl_str)
theorem cutS_mem {z : Str} {lo hi : Option Int} {c : Nat} (h : c ∈ (cutS z lo hi).cps.toList) : c ∈ z.cps.toList := by
  unfold cutS at h
  exact List.mem_of_mem_drop (List.mem_of_mem_take (by simpa using h))
theorem okS_cut {z : Str} (h : okS z = true) (lo hi : Option Int) : okS (cutS z lo hi) = true :=
  okS_mk (fun c hc => (okS_of h).1 c (cutS_mem hc)) (Nat.le_trans (cutS_length z lo hi) (okS_of h).2)
theorem pd_sl {x : Expr} {lo hi : Option Expr} {ta : DE} {tl th : Option DE} {p2 pos : Pos} (ha : PD X G x ta) (hl : PDO X G lo tl) (hh : PDO X G hi th) : PD X G (.Subscript x (.Slice lo hi none p2) pos) (dSl ta tl th) := by
  refine pe_mono (pe_slice sl_U ha hl hh) fun σ H Q q => ?_
  obtain ⟨e, F, Qd, I, hh, k⟩ := q
  refine ⟨e, F, _, I, hh, ?_⟩
  intro ra v e1 F1 H1 I1 s1 r1 q1
  obtain ⟨F1', I1', s1', r1'⟩ := rr_pend I1 r1
  refine ⟨e1, F1', _, I1', q1, ?_⟩
  intro lo e2 F2 H2 I2 s2 q2
  refine ⟨e2, F2, _, I2, q2, ?_⟩
  intro hi e3 F3 H3 I3 s3 q3
  have ra3 : RR (wl X) G σ e3 F3 H3 v (pend ra) := rr_keep (s2.trans s3) r1'
  obtain ⟨dx, b1, q4⟩ := bp_of I3 ra3 q3
  have fin : ∀ rr v' F' H', Grow F3 H3 F' H' → Nw (wl X) F3 H3 F' H' v' rr → Qd rr e3 → Q v' H' := fun rr v' F' H' w n qq => k rr v' e3 F' H' (I3.grow w) ((((s1.trans s1').trans s2).trans s3).trans w.ff) (rr_of I3 w n) qq
  unfold tSlD at q4
  split at q4
  · rename_i ds
    obtain ⟨a, vs, rfl, h2, r⟩ := b1.list I3.sub
    refine .inl ⟨a, vs, rfl, .inl h2, fun p hp => ?_⟩
    obtain ⟨w, n⟩ := grow_lst I3.sub hp (cut_rps r lo hi)
    exact fin _ _ _ _ w n q4
  · rename_i ds
    obtain ⟨a, vs, rfl, h2, r⟩ := b1.tuple I3.sub
    refine .inr (.inl ⟨a, vs, rfl, h2, fun hw => ?_, fun _ p hp => ?_⟩)
    · have e : cutD ds lo hi = ds := by
        unfold cutD
        rw [← r.length, hw.1, hw.2]
        simp [r.length]
      rw [e] at q4
      exact fin (.vl (.tuple ds)) _ F3 H3 (Grow.refl I3.sub) b1.frozenT q4
    · obtain ⟨w, n⟩ := grow_tup I3.sub hp (cut_rps r lo hi)
      exact fin (.vl (.tuple _)) _ _ _ w n q4
  · rename_i z
    obtain ⟨e1, o1⟩ := b1.str
    exact .inr (.inr ⟨z, e1, Nat.le_trans (okS_of o1).2 (by rw [sizeLine_eq]; decide), fin (.vl (.str _)) _ F3 H3 (Grow.refl I3.sub) (Rp.str _ (okS_cut o1 lo hi)) q4⟩)
  · exact q4.elim
end
/-! ### in -/
def atom : D → Bool
  | .none => true
  | .bool _ => true
  | .int _ => true
  | .str _ => true
  | _ => false
theorem Rp.flat {g : Wl} {F : Hp} {v : V} {d : D} (h : Rp g F v d) (ha : atom d = true) : flatV v = true := by
  cases h <;> first | rfl | cases ha
theorem eqV_eqv {g : Wl} {F : Hp} {v u : V} {d e : D} (h : Rp g F v d) (k : Rp g F u e) (ha : atom d = true) (hb : atom e = true) : eqV v u = PyData.eqv d e := by
  cases d <;> first | cases ha | skip
  all_goals (cases e <;> first | cases hb | skip)
  all_goals (cases h; cases k; first | rfl | (simp [eqV, PyData.eqv]))
theorem any_eqv {g : Wl} {F : Hp} {u : V} {e : D} (k : Rp g F u e) (hb : atom e = true) : ∀ {vs : List V} {ds : List D}, Rps g F vs ds → ds.all atom = true → (vs.all flatV = true ∧ inV u vs = ds.any fun d => PyData.eqv d e)
  | _, _, .nil, _ => ⟨rfl, rfl⟩
  | v :: vs, d :: ds, .cons h1 h2, ha => by
    have ha' : (atom d && ds.all atom) = true := by simpa using ha
    obtain ⟨a1, a2⟩ := Bool.and_eq_true_iff.mp ha'
    obtain ⟨i1, i2⟩ := any_eqv k hb h2 a2
    unfold inV at i2 ⊢
    refine ⟨by simp [i1, h1.flat a1], ?_⟩
    rw [List.any_cons, List.any_cons, i2, eqV_eqv h1 k a1 hb]
def tInB (neg : Bool) (x y : D) (Q : Op → Prop) : Prop := match x, y with
  | x, .list ds => (atom x = true ∧ ds.all atom = true) ∧ Q (.vl (.bool (if neg then !(ds.any fun d => PyData.eqv d x) else ds.any fun d => PyData.eqv d x)))
  | x, .tuple ds => (atom x = true ∧ ds.all atom = true) ∧ Q (.vl (.bool (if neg then !(ds.any fun d => PyData.eqv d x) else ds.any fun d => PyData.eqv d x)))
  | .str c, .str z => ∃ n, c = ⟨#[n]⟩ ∧ Q (.vl (.bool (if neg then !decide (n ∈ z.cps.toList) else decide (n ∈ z.cps.toList))))
  | _, _ => False
def rInU (K : PySem.W.Frag) (neg : Bool) : R2 := fun x y H Q => rIn K neg x y H Q ∨ ∃ (c : Nat) (z : Str), x = .str ⟨#[c]⟩ ∧ y = .str z ∧ Q (.bl (if neg then !decide (c ∈ z.cps.toList) else decide (c ∈ z.cps.toList))) H
section
variable {X : Cx}
theorem op_inU : OpR X (compareOp .In) (rInU X.K false) := op_in_seq.or fun pins s σ H x y v u Q I rx ry ⟨c, z, e1, e2, q⟩ => op_in_sign pins s σ H x y v u Q I rx ry ⟨c, z, e1, e2, q⟩
theorem op_notInU : OpR X (compareOp .NotIn) (rInU X.K true) := op_notIn_seq.or fun pins s σ H x y v u Q I rx ry ⟨c, z, e1, e2, q⟩ => op_notIn_sign pins s σ H x y v u Q I rx ry ⟨c, z, e1, e2, q⟩
end
theorem Bp.atomR {g : Wl} {F H : Hp} {v : V} {d : D} (h : Bp g F H v d) (ha : atom d = true) : Rp g F v d := by
  cases h with
  | of h => exact h
  | @ow a o h => cases o <;> cases ha
theorem od_in {g : Wl} {neg : Bool} : OpD g (rInU g.K neg) (tInB neg) := by
  intro F H x y dx dy Qd Q s hx hy q k
  unfold tInB at q
  split at q
  · rename_i ds
    obtain ⟨⟨a1, a2⟩, q⟩ := q
    obtain ⟨a, vs, rfl, h2, r⟩ := hy.list s
    obtain ⟨f, e⟩ := any_eqv (hx.atomR a1) a1 r a2
    refine .inl ⟨a, vs, rfl, .inl (.inl h2), (hx.atomR a1).flat a1, f, ?_⟩
    rw [e]
    exact k (.vl (.bool _)) _ F H (Grow.refl s) (Rp.bl _) q
  · rename_i ds
    obtain ⟨⟨a1, a2⟩, q⟩ := q
    obtain ⟨a, vs, rfl, h2, r⟩ := hy.tuple s
    obtain ⟨f, e⟩ := any_eqv (hx.atomR a1) a1 r a2
    refine .inl ⟨a, vs, rfl, .inr h2, (hx.atomR a1).flat a1, f, ?_⟩
    rw [e]
    exact k (.vl (.bool _)) _ F H (Grow.refl s) (Rp.bl _) q
  · obtain ⟨n, rfl, q⟩ := q
    exact .inr ⟨n, _, (hx.str).1, (hy.str).1, k (.vl (.bool _)) _ F H (Grow.refl s) (Rp.bl _) q⟩
  · exact q.elim
end DL
/-! DL, part G: built-ins and methods over data. -/
namespace DL
open PySem PySem.Spec PyProof.Rows L2
theorem bps1 {g : Wl} {F H : Hp} {vs : List V} {d : D} (h : Bps g F H vs [d]) : ∃ v, vs = [v] ∧ Bp g F H v d := by
  cases h with
  | cons h1 h2 => cases h2; exact ⟨_, rfl, h1⟩
theorem bps2 {g : Wl} {F H : Hp} {vs : List V} {d e : D} (h : Bps g F H vs [d, e]) : ∃ v u, vs = [v, u] ∧ Bp g F H v d ∧ Bp g F H u e := by
  cases h with
  | cons h1 h2 =>
    cases h2 with
    | cons h2 h3 => cases h3; exact ⟨_, _, rfl, h1, h2⟩
/-! ### len, int, str, list, tuple, min, max -/
def tLen (ds : List D) (Q : Op → Prop) : Prop := match ds with
  | [.list xs] => Q (.vl (.int xs.length))
  | [.tuple xs] => Q (.vl (.int xs.length))
  | [.str z] => Q (.vl (.int z.length))
  | [.dict [(.none, .list xs)]] => Q (.vl (.int xs.length))
  | _ => False
def rLenU (K : PySem.W.Frag) : List V → Hp → VK → Prop := fun xs H Q => ∃ x n, xs = [x] ∧ LenV K x H n ∧ Q (.int n) H
theorem cd_len {g : Wl} : CallD g (rLenU g.K) tLen := by
  intro F H vs ds Qd Q s hb q k
  unfold tLen at q
  split at q
  · obtain ⟨v, rfl, b⟩ := bps1 hb
    obtain ⟨a, us, rfl, h, r⟩ := b.list s
    refine ⟨_, us.length, rfl, .inl ⟨us, .inl h, rfl⟩, ?_⟩
    rw [r.length]
    exact k (.vl (.int _)) _ F H (Grow.refl s) (Rp.int _) q
  · obtain ⟨v, rfl, b⟩ := bps1 hb
    obtain ⟨a, us, rfl, h, r⟩ := b.tuple s
    refine ⟨_, us.length, rfl, .inr ⟨us, h, rfl⟩, ?_⟩
    rw [r.length]
    exact k (.vl (.int _)) _ F H (Grow.refl s) (Rp.int _) q
  · obtain ⟨v, rfl, b⟩ := bps1 hb
    obtain ⟨rfl, o⟩ := b.str
    exact ⟨_, _, rfl, ⟨Nat.le_trans (okS_of o).2 (by rw [sizeLine_eq]; decide), rfl⟩, k (.vl (.int _)) _ F H (Grow.refl s) (Rp.int _) q⟩
  · obtain ⟨v, rfl, b⟩ := bps1 hb
    obtain ⟨a, us, rfl, h, r⟩ := scr_of s b
    refine ⟨_, us.length, rfl, .inl ⟨us, h, rfl⟩, ?_⟩
    rw [r.length]
    exact k (.vl (.int _)) _ F H (Grow.refl s) (Rp.int _) q
  · exact q.elim
def tInt1 (ds : List D) (Q : Op → Prop) : Prop := match ds with
  | [.int i] => Q (.vl (.int i))
  | [.bool b] => Q (.vl (.int (if b then 1 else 0)))
  | _ => False
def rInt1 : List V → Hp → VK → Prop := fun xs H Q => (∃ i, xs = [.int i] ∧ Q (.int i) H) ∨ ∃ k, xs = [.bl k] ∧ Q (.int (if k then 1 else 0)) H
theorem cd_int1 {g : Wl} : CallD g rInt1 tInt1 := by
  intro F H vs ds Qd Q s hb q k
  unfold tInt1 at q
  split at q
  · obtain ⟨v, rfl, b⟩ := bps1 hb
    exact .inl ⟨_, by rw [b.int], k (.vl (.int _)) _ F H (Grow.refl s) (Rp.int _) q⟩
  · obtain ⟨v, rfl, b⟩ := bps1 hb
    exact .inr ⟨_, by rw [b.bool], k (.vl (.int _)) _ F H (Grow.refl s) (Rp.int _) q⟩
  · exact q.elim
def tMM (f : Int → Int → Int) (ds : List D) (Q : Op → Prop) : Prop := match ds with
  | [.int i, .int j] => Q (.vl (.int (f i j)))
  | _ => False
def rMM (f : Int → Int → Int) : List V → Hp → VK → Prop := fun xs H Q => ∃ i j, xs = [.int i, .int j] ∧ Q (.int (f i j)) H
theorem cd_MM {g : Wl} {f : Int → Int → Int} : CallD g (rMM f) (tMM f) := by
  intro F H vs ds Qd Q s hb q k
  unfold tMM at q
  split at q
  · obtain ⟨v, u, rfl, b, c⟩ := bps2 hb
    exact ⟨_, _, by rw [b.int, c.int], k (.vl (.int _)) _ F H (Grow.refl s) (Rp.int _) q⟩
  · exact q.elim
def tList1 (ds : List D) (Q : Op → Prop) : Prop := match ds with
  | [.list xs] => Q (.tm (.lst xs))
  | [.tuple xs] => Q (.tm (.lst xs))
  | _ => False
def rList1 (K : PySem.W.Frag) : List V → Hp → VK → Prop := fun xs H Q => ∃ p ys, xs = [.ref p] ∧ (SqL K H p ys ∨ SqT K H p ys) ∧ ∀ l, H l = none → Q (.ref l) (upd H l (.lst ys))
theorem cd_list1 {g : Wl} : CallD g (rList1 g.K) tList1 := by
  intro F H vs ds Qd Q s hb q k
  unfold tList1 at q
  split at q
  · obtain ⟨v, rfl, b⟩ := bps1 hb
    obtain ⟨a, us, rfl, h, r⟩ := b.list s
    refine ⟨a, us, rfl, .inl (.inl h), fun p hp => ?_⟩
    obtain ⟨w, n⟩ := grow_lst s hp r
    exact k (.tm (.lst _)) _ _ _ w n q
  · obtain ⟨v, rfl, b⟩ := bps1 hb
    obtain ⟨a, us, rfl, h, r⟩ := b.tuple s
    refine ⟨a, us, rfl, .inr h, fun p hp => ?_⟩
    obtain ⟨w, n⟩ := grow_lst s hp r
    exact k (.tm (.lst _)) _ _ _ w n q
  · exact q.elim
def tTup1 (ds : List D) (Q : Op → Prop) : Prop := match ds with
  | [.list xs] => Q (.vl (.tuple xs))
  | [.tuple xs] => Q (.vl (.tuple xs))
  | _ => False
def rTup1 (K : PySem.W.Frag) : List V → Hp → VK → Prop := fun xs H Q => ∃ p ys, xs = [.ref p] ∧ ((SqL K H p ys ∧ ∀ l, H l = none → Q (.ref l) (upd H l (.tup ys))) ∨ (SqT K H p ys ∧ Q (.ref p) H))
theorem cd_tup1 {g : Wl} : CallD g (rTup1 g.K) tTup1 := by
  intro F H vs ds Qd Q s hb q k
  unfold tTup1 at q
  split at q
  · obtain ⟨v, rfl, b⟩ := bps1 hb
    obtain ⟨a, us, rfl, h, r⟩ := b.list s
    refine ⟨a, us, rfl, .inl ⟨.inl h, fun p hp => ?_⟩⟩
    obtain ⟨w, n⟩ := grow_tup s hp r
    exact k (.vl (.tuple _)) _ _ _ w n q
  · obtain ⟨v, rfl, b⟩ := bps1 hb
    obtain ⟨a, us, rfl, h, r⟩ := b.tuple s
    exact ⟨a, us, rfl, .inr ⟨h, k (.vl (.tuple _)) _ F H (Grow.refl s) b.frozenT q⟩⟩
  · exact q.elim
/-! ### isinstance(x, T), T a built-in class -/
def tyD : D → String
  | .none => "NoneType"
  | .bool _ => "bool"
  | .int _ => "int"
  | .str _ => "str"
  | .list _ => "list"
  | .tuple _ => "tuple"
  | .dict _ => "dict"
def dIsi (n : String) (ta : DE) : DE := fun e Q => ta e fun ra e1 => withO e1 ra fun x => noDict x = true ∧ ∃ b, kitB (tyD x) n = some b ∧ Q (.vl (.bool b)) e1
theorem Bp.tyX {g : Wl} {F H : Hp} {v : V} {d : D} (s : Same F H) (h : Bp g F H v d) (n : noDict d = true) : TyX g.K H v (.type (tyD d)) := by
  cases d with
  | none => rw [h.non]; exact .base .non
  | bool b => rw [h.bool]; exact .base (.bl b)
  | int b => rw [h.int]; exact .base (.int b)
  | str b => rw [(h.str).1]; exact .base (.str b)
  | list ds =>
    obtain ⟨a, vs, rfl, h1, _⟩ := h.list s
    rcases h1 with h1 | ⟨o, h1⟩
    · exact .base (.lst h1)
    · exact .base (.frz h1)
  | tuple ds =>
    obtain ⟨a, vs, rfl, h1, _⟩ := h.tuple s
    rcases h1 with h1 | ⟨o, its, n, h1, h2, _⟩
    · rcases h1 with h1 | ⟨o, h1⟩
      · exact .base (.tup h1)
      · exact .fTuple h1
    · exact .kTuple h1 h2
  | dict kvs => cases n
section
variable {X : Cx} {G : Gr}
theorem pd_isi {n : String} {a c : Expr} {ta : DE} {p pos : Pos} (hg : Gl X "isinstance") (hm : X.mg "isinstance" = none) (ha : PD X G a ta) (hc : PE X c (tC (.ty n)))
    (he : starEach (a :: [c]) X.env = (false, eval a X.env) :: starEach [c] X.env := by rfl) (he2 : starEach (c :: []) X.env = (false, eval c X.env) :: starEach [] X.env := by rfl) (hpl : (backTo pos (starEach [c] X.env)).any (·.1) = false := by rfl) :
    PD X G (.Call (.Name "isinstance" p) [a, c] [] pos) (dIsi n ta) := by
  refine pe_mono (pe_callB call_isi hg hm (by decide +kernel) (pa_cons ha (pa_cons hc pa_nil he2) he) (by decide) (by decide) he hpl) fun σ H Q q => ?_
  obtain ⟨e, F, Qd, I, hh, k⟩ := q
  refine ⟨e, F, _, I, hh, ?_⟩
  intro ra v e1 F1 H1 I1 s1 r1 q1
  obtain ⟨d, b1, nd, b, kb, q2⟩ := bp_of I1 r1 q1
  exact ⟨v, .ty n, _, _, b, rfl, .ty n, b1.tyX I1.sub nd, kit_ty kb, k (.vl (.bool b)) _ e1 F1 H1 I1 s1 (Rp.bl b) q2⟩
end
/-! ### methods that read -/
def dBM (ck : D → Prop) (t : D → List D → (Op → Prop) → Prop) (to : DE) (ts : List DE) : DE := fun e Q => to e fun ro e1 => withO e1 ro ck ∧ dAs ts e1 fun rs e2 => withO e2 (pend ro) fun x => withOs e2 rs fun ds => t x ds fun r => Q r e2
def MetD (g : Wl) (r : V → List V → Hp → VK → Prop) (t : D → List D → (Op → Prop) → Prop) : Prop := ∀ (F H : Hp) (x : V) (dx : D) (vs : List V) (ds : List D) (Qd : Op → Prop) (Q : VK), Same F H → Bp g F H x dx → Bps g F H vs ds → t dx ds Qd →
  (∀ rr v F' H', Grow F H F' H' → Nw g F H F' H' v rr → Qd rr → Q v H') → r x vs H Q
def ckL (d : D) : Prop := match d with
  | .list _ => True
  | _ => False
def ckS (d : D) : Prop := match d with
  | .str _ => True
  | _ => False
theorem ckL_ty {g : Wl} {F H : Hp} {v : V} {d : D} (s : Same F H) (h : Bp g F H v d) (c : ckL d) : tyV g.K "list" v H := by
  cases d <;> first | exact c.elim | skip
  obtain ⟨a, vs, rfl, h1, _⟩ := h.list s
  exact .inl ⟨rfl, vs, .inl h1⟩
theorem ckS_ty {g : Wl} {F H : Hp} {v : V} {d : D} (s : Same F H) (h : Bp g F H v d) (c : ckS d) : tyV g.K "str" v H := by
  cases d <;> first | exact c.elim | skip
  rw [(h.str).1]
  exact rfl
section
variable {X : Cx} {G : Gr} {o e : Expr} {es : List Expr} {to : DE} {ts : List DE} {name : Str} {apos cpos : Pos} {T id : String} {r : V → List V → Hp → VK → Prop} {t : D → List D → (Op → Prop) → Prop} {ck : D → Prop}
theorem lift_bm {g : Wl} (hck : ∀ {F H : Hp} {v : V} {d : D}, Same F H → Bp g F H v d → ck d → tyV g.K T v H) (hd : MetD g r t) {σ : L2.St} {H : Hp} {Q : VK} (q : liftE g G (dBM ck t to ts) σ H Q) : tBM g.K T r (liftE g G to) (liftA g G (dAs ts)) σ H Q := by
  obtain ⟨e, F, Qd, I, hh, k⟩ := q
  refine ⟨e, F, _, I, hh, ?_⟩
  intro ro v e1 F1 H1 I1 s1 r1 q1
  obtain ⟨q0, q1⟩ := q1
  obtain ⟨d0, b0, c0⟩ := bp_of I1 r1 q0
  refine ⟨hck I1.sub b0 c0, ?_⟩
  obtain ⟨F1', I1', s1', r1'⟩ := rr_pend I1 r1
  refine ⟨e1, F1', _, I1', q1, ?_⟩
  intro rs vs e2 F2 H2 I2 s2 r2 q2
  have ro2 : RR g G σ e2 F2 H2 v (pend ro) := rr_keep s2 r1'
  obtain ⟨dx, b1, q3⟩ := bp_of I2 ro2 q2
  obtain ⟨ds, bs, q4⟩ := bps_of I2 r2 q3
  exact hd F2 H2 v dx vs ds _ Q I2.sub b1 bs q4 fun rr v' F' H' w n qq => k rr v' e2 F' H' (I2.grow w) (((s1.trans s1').trans s2).trans w.ff) (rr_of I2 w n) qq
theorem pd_bm (pa : PlainAttrs T) (slot : Slot T name id) (hty : typeOf (.builtin id) = pure (.type "method_descriptor")) (hm : MtR X id r) (hck : ∀ {F H : Hp} {v : V} {d : D}, Same F H → Bp (wl X) F H v d → ck d → tyV X.K T v H) (hd : MetD (wl X) r t) (ho : PD X G o to) (ha : PDA X G (e :: es) (dAs ts))
    (hbase : attributeBase o name X.env (eval o X.env) = eval o X.env := by rfl)
    (hfew : ((backTo cpos (starEach (e :: es) X.env)).all (fun x => !x.1) && (backToKw cpos (keywordEach [] X.env)).all (fun x => x.1.isSome)
      && decide ((e :: es).length + ([] : List Keyword).length + (if ([] : List Keyword).isEmpty then 0 else 1) < 30)) = true := by rfl)
    (hline : (apos.endLine == cpos.line) = true := by rfl) (hs : starEach (e :: es) X.env = (false, eval e X.env) :: starEach es X.env := by rfl) (hplain : (backTo cpos (starEach es X.env)).any (·.1) = false := by rfl) :
    PD X G (.Call (.Attribute o name apos) (e :: es) [] cpos) (dBM ck t to ts) :=
  pe_mono (pe_bm pa slot hty hm ho ha hbase hfew hline hs hplain) fun _ _ _ q => lift_bm hck hd q
end
/-- xs.index(x), of things that are no lists or tuples -/
@[irreducible] def tIndex (x : D) (ds : List D) (Q : Op → Prop) : Prop := match x, ds with
  | .list xs, [y] => (atom y = true ∧ xs.all atom = true) ∧ ∃ j : Nat, (∃ z, xs[j]? = some z ∧ PyData.eqv z y = true) ∧ (∀ m : Nat, m < j → ∀ z, xs[m]? = some z → PyData.eqv z y = false) ∧ Q (.vl (.int j))
  | _, _ => False
theorem md_index {g : Wl} : MetD g (rIndex g.K) tIndex := by
  intro F H x dx vs ds Qd Q s hx hb q k
  unfold tIndex at q
  split at q
  · rename_i xs y
    obtain ⟨⟨a1, a2⟩, j, ⟨z, hz, hzy⟩, hno, q⟩ := q
    obtain ⟨a, us, rfl, h, r⟩ := hx.list s
    obtain ⟨v, rfl, b⟩ := bps1 hb
    have rb := b.atomR a1
    obtain ⟨f, _⟩ := any_eqv rb a1 r a2
    obtain ⟨u, hu, ru⟩ := r.get hz
    have atm : ∀ {m : Nat} {w : D}, xs[m]? = some w → atom w = true := fun h => List.all_eq_true.mp a2 _ (List.mem_of_getElem? h)
    refine ⟨a, us, v, j, u, rfl, rfl, .inl h, rb.flat a1, f, hu, ?_, fun m w hm hw => ?_, k (.vl (.int j)) _ F H (Grow.refl s) (Rp.int _) q⟩
    · rw [eqV_eqv ru rb (atm hz) a1]; exact hzy
    · obtain ⟨d, hd, rd⟩ := r.getV hw
      rw [eqV_eqv rd rb (atm hd) a1]; exact hno m hm d hd
  · exact q.elim
/-! ### methods that change a slot's list -/
section
variable {X : Cx} {G : Gr}
def dApp (i : Nat) (t : DE) : DE := fun e Q => (∃ ds, ownI e i = some (.lst ds)) ∧ t e fun r e1 => onD r fun d => ∃ ds, ownI e1 i = some (.lst ds) ∧ ds.length < 100000 ∧ Q (.vl .none) (putO e1 i (.lst (ds ++ [d])))
theorem lt_line {n : Nat} (h : n < 100000) : n < sizeLine := Nat.lt_of_lt_of_le h (by rw [sizeLine_eq]; decide)
/-- an operand as frozen data -/
theorem frozen_of {g : Wl} {σ : L2.St} {e : Sv} {F H : Hp} {v : V} {r : Op} {k : D → Prop} (I : FI g G σ e F H) (h : RR g G σ e F H v r) (q : onD r k) : ∃ F1 d, FI g G σ e F1 H ∧ Same F F1 ∧ Rp g F1 v d ∧ k d := by
  cases r with
  | vl d => exact ⟨F, d, I, Same.refl F, h, q⟩
  | tm o =>
    obtain ⟨a, rfl, t⟩ := h
    obtain ⟨F1, h1, h2, h3⟩ := I.freezeT t
    exact ⟨F1, _, h3, h2, h1, q⟩
  | sl i => exact q.elim
theorem own_lst {g : Wl} {σ : L2.St} {e : Sv} {F H : Hp} {i : Nat} {ds : List D} (I : FI g G σ e F H) (h : ownI e i = some (.lst ds)) : ∃ a vs, σ[i]? = some (some (.ref a)) ∧ H a = some (.lst vs) ∧ Rps g F vs ds := by
  obtain ⟨a, h1, _, vs, h2, h3⟩ := I.own i _ h
  exact ⟨a, vs, h1, h2, h3⟩
theorem pd_append {i : Nat} {o x : Expr} {t : DE} {apos cpos : Pos} (ho : PE X o (tVar i)) (hx : PD X G x t)
    (hbase : attributeBase o "append" X.env (eval o X.env) = eval o X.env := by rfl)
    (hfew : ((backTo cpos (starEach (x :: []) X.env)).all (fun x => !x.1) && (backToKw cpos (keywordEach [] X.env)).all (fun x => x.1.isSome)
      && decide ((x :: []).length + ([] : List Keyword).length + (if ([] : List Keyword).isEmpty then 0 else 1) < 30)) = true := by rfl)
    (hline : (apos.endLine == cpos.line) = true := by rfl) (hs : starEach (x :: []) X.env = (false, eval x X.env) :: starEach [] X.env := by rfl) (hplain : (backTo cpos (starEach [] X.env)).any (·.1) = false := by rfl) :
    PD X G (.Call (.Attribute o "append" apos) [x] [] cpos) (dApp i t) := by
  refine pe_mono (pe_bm PySem.F.plainAttrs_list PySem.F.slot_list_append PySem.F.type_list_append mt_append ho (pa_cons hx pa_nil hs) hbase hfew hline hs hplain) fun σ H Q q => ?_
  obtain ⟨e, F, Qd, I, ⟨⟨ds0, h0⟩, hh⟩, k⟩ := q
  obtain ⟨a, vs0, a1, a2, a3⟩ := own_lst I h0
  refine ⟨.ref a, a1, .inl ⟨rfl, vs0, .of a2⟩, e, F, _, I, hh, ?_⟩
  intro r v e1 F1 H1 I1 s1 r1 q1
  obtain ⟨F2, d, I2, s2, rd, ds, h1, hl, q2⟩ := frozen_of I1 r1 q1
  obtain ⟨b, vs, b1, b2, b3⟩ := own_lst I2 h1
  rw [a1] at b1
  cases b1
  refine ⟨a, vs, v, rfl, rfl, b2, by rw [b3.length]; exact lt_line hl, ?_⟩
  exact k (.vl .none) _ _ F2 _ (I2.write h1 a1 (o' := .lst (ds ++ [d])) ⟨_, upd_same, b3.append (.one rd)⟩) (s1.trans s2) Rp.non q2
def dExt (i : Nat) (t : DE) : DE := fun e Q => (∃ ds, ownI e i = some (.lst ds)) ∧ t e fun r e1 => onD r fun d => ∃ ds es, d = .list es ∧ ownI e1 i = some (.lst ds) ∧ ds.length + es.length < 100000 ∧ Q (.vl .none) (putO e1 i (.lst (ds ++ es)))
def rExtendR : V → List V → Hp → VK → Prop := fun x vs H Q => ∃ l b xs zs, x = .ref l ∧ vs = [.ref b] ∧ H l = some (.lst xs) ∧ Rd H b (.lst zs) ∧ xs.length + zs.length ≤ sizeLine ∧ Q .non (upd H l (.lst (xs ++ zs)))
theorem mt_extendR : MtR X "list.extend" rExtendR := by
  intro pins s σ H x vs v us Q I rx rv h
  obtain ⟨l, b, xs, zs, rfl, rfl, hH, hB, hz, q⟩ := h
  cases rx
  obtain ⟨u, rfl, ru⟩ := rv.one
  cases ru
  obtain ⟨z, its, n, r, hl, e⟩ := I.lstM hH
  obtain ⟨z2, its2, n2, r2, e2⟩ := hB.ok I.hok
  have hl2 := r2.length
  have hsz : its.toArray.size + its2.toArray.size ≤ sizeLine := by rw [List.size_toArray, List.size_toArray]; omega
  have hlong : ¬ (!its.toArray.isEmpty && Builtin.List.listTooLong (its.toArray.size + its2.toArray.size)) = true := by
    rw [notLongL hsz, Bool.and_false]
    exact Bool.false_ne_true
  refine call_meets F.slot_list_extend ⟨_, e, rfl⟩ F.entry_list_extend (F.args_list_extend_2 _ _)
    (AutoSeq1.list_extend_list_list_0 l its.toArray n b its2.toArray n2 hlong (by rw [List.size_toArray]; omega) (by omega)) ⟨e, e2, ?_⟩
  refine ⟨.non, _, I.lset (its' := its ++ its2) hH e (by simp) (r.append r2) ?_, rfl, q⟩
  rw [List.length_append]
  omega
/-- xs[::-1] -/
def dRevL (t : DE) : DE := fun e Q => t e fun r e1 => withO e1 r fun d => match d with
  | .list ds => Q (.tm (.lst ds.reverse)) e1
  | _ => False
theorem pd_revL {x : Expr} {t : DE} {k : Nat} {p1 p2 p3 pos : Pos} (h : PD X G x t) : PD X G (.Subscript x (.Slice none none (some (.UnaryOp .USub (.Constant (.int 1) k p1) p2)) p3) pos) (dRevL t) := by
  refine pe_mono (pe_revL h) fun σ H Q q => ?_
  obtain ⟨e, F, Qd, I, hh, k⟩ := q
  refine ⟨e, F, _, I, hh, ?_⟩
  intro r v e1 F1 H1 I1 s1 r1 q1
  obtain ⟨d, b, q2⟩ := bp_of I1 r1 q1
  split at q2
  · rename_i ds
    obtain ⟨a, vs, rfl, h1, rr⟩ := b.list I1.sub
    refine ⟨a, vs, rfl, .inl h1, fun p hp => ?_⟩
    obtain ⟨w, n⟩ := grow_lst I1.sub hp rr.reverse
    exact k (.tm (.lst _)) _ e1 _ _ (I1.grow w) (s1.trans w.ff) (rr_of I1 w n) q2
  · exact q2.elim
theorem pd_extend {i : Nat} {o x : Expr} {t : DE} {apos cpos : Pos} (ho : PE X o (tVar i)) (hx : PD X G x t)
    (hbase : attributeBase o "extend" X.env (eval o X.env) = eval o X.env := by rfl)
    (hfew : ((backTo cpos (starEach (x :: []) X.env)).all (fun x => !x.1) && (backToKw cpos (keywordEach [] X.env)).all (fun x => x.1.isSome)
      && decide ((x :: []).length + ([] : List Keyword).length + (if ([] : List Keyword).isEmpty then 0 else 1) < 30)) = true := by rfl)
    (hline : (apos.endLine == cpos.line) = true := by rfl) (hs : starEach (x :: []) X.env = (false, eval x X.env) :: starEach [] X.env := by rfl) (hplain : (backTo cpos (starEach [] X.env)).any (·.1) = false := by rfl) :
    PD X G (.Call (.Attribute o "extend" apos) [x] [] cpos) (dExt i t) := by
  refine pe_mono (pe_bm PySem.F.plainAttrs_list PySem.F.slot_list_extend PySem.F.type_list_extend mt_extendR ho (pa_cons hx pa_nil hs) hbase hfew hline hs hplain) fun σ H Q q => ?_
  obtain ⟨e, F, Qd, I, ⟨⟨ds0, h0⟩, hh⟩, k⟩ := q
  obtain ⟨a, vs0, a1, a2, a3⟩ := own_lst I h0
  refine ⟨.ref a, a1, .inl ⟨rfl, vs0, .of a2⟩, e, F, _, I, hh, ?_⟩
  intro r v e1 F1 H1 I1 s1 r1 q1
  obtain ⟨F2, d, I2, s2, rd, ds, es, rfl, h1, hl, q2⟩ := frozen_of I1 r1 q1
  obtain ⟨b, vs, b1, b2, b3⟩ := own_lst I2 h1
  rw [a1] at b1
  cases b1
  cases rd with
  | lst c1 c2 =>
    rename_i c us
    refine ⟨a, c, vs, us, rfl, rfl, b2, rd_mono I2.sub c1, by rw [b3.length, c2.length]; exact Nat.le_of_lt (lt_line hl), ?_⟩
    exact k (.vl .none) _ _ F2 _ (I2.write h1 a1 (o' := .lst (ds ++ es)) ⟨_, upd_same, b3.append c2⟩) (s1.trans s2) Rp.non q2
/-- xs.pop() -/
def dPop (i : Nat) : DE := fun e Q => ∃ ds d, ownI e i = some (.lst (ds ++ [d])) ∧ Q (.vl d) (putO e i (.lst ds))
theorem pd_pop {i : Nat} {o : Expr} {apos cpos : Pos} (ho : PE X o (tVar i))
    (hbase : attributeBase o "pop" X.env (eval o X.env) = eval o X.env := by rfl) (hline : (apos.endLine == cpos.line) = true := by rfl) : PD X G (.Call (.Attribute o "pop" apos) [] [] cpos) (dPop i) := by
  refine pe_mono (pe_bm0 PySem.F.plainAttrs_list PySem.F.slot_list_pop PySem.F.type_list_pop mt_pop ho hbase hline) fun σ H Q q => ?_
  obtain ⟨e, F, Qd, I, ⟨ds, d, h0, hh⟩, k⟩ := q
  obtain ⟨a, vs, a1, a2, a3⟩ := own_lst I h0
  have hl := a3.length
  rw [List.length_append, List.length_singleton] at hl
  obtain ⟨v, hv, rv⟩ := a3.get (i := ds.length) (d := d) (by simp)
  refine ⟨.ref a, a1, .inl ⟨rfl, vs, .of a2⟩, a, vs, v, rfl, rfl, a2, by rw [hl]; exact hv, ?_⟩
  have rd := a3.dropLast
  rw [List.dropLast_concat] at rd
  exact k (.vl d) _ _ F _ (I.write h0 a1 (o' := .lst ds) ⟨_, upd_same, rd⟩) (Same.refl F) rv hh
/-- xs.pop(k) -/
def dPopAt (i : Nat) (t : DE) : DE := fun e Q => (∃ ds, ownI e i = some (.lst ds)) ∧ t e fun r e1 => match r with
  | .vl (.int n) => ∃ ds j d, ownI e1 i = some (.lst ds) ∧ n = (j : Nat) ∧ ds[j]? = some d ∧ ds.length ≤ 100000 ∧ Q (.vl d) (putO e1 i (.lst (ds.eraseIdx j)))
  | _ => False
theorem pd_popAt {i : Nat} {o x : Expr} {t : DE} {apos cpos : Pos} (ho : PE X o (tVar i)) (hx : PD X G x t)
    (hbase : attributeBase o "pop" X.env (eval o X.env) = eval o X.env := by rfl)
    (hfew : ((backTo cpos (starEach (x :: []) X.env)).all (fun x => !x.1) && (backToKw cpos (keywordEach [] X.env)).all (fun x => x.1.isSome)
      && decide ((x :: []).length + ([] : List Keyword).length + (if ([] : List Keyword).isEmpty then 0 else 1) < 30)) = true := by rfl)
    (hline : (apos.endLine == cpos.line) = true := by rfl) (hs : starEach (x :: []) X.env = (false, eval x X.env) :: starEach [] X.env := by rfl) (hplain : (backTo cpos (starEach [] X.env)).any (·.1) = false := by rfl) :
    PD X G (.Call (.Attribute o "pop" apos) [x] [] cpos) (dPopAt i t) := by
  refine pe_mono (pe_bm PySem.F.plainAttrs_list PySem.F.slot_list_pop PySem.F.type_list_pop mt_popAt ho (pa_cons hx pa_nil hs) hbase hfew hline hs hplain) fun σ H Q q => ?_
  obtain ⟨e, F, Qd, I, ⟨⟨ds0, h0⟩, hh⟩, k⟩ := q
  obtain ⟨a, vs0, a1, a2, a3⟩ := own_lst I h0
  refine ⟨.ref a, a1, .inl ⟨rfl, vs0, .of a2⟩, e, F, _, I, hh, ?_⟩
  intro r v e1 F1 H1 I1 s1 r1 q1
  split at q1
  · rename_i n
    obtain ⟨ds, j, d, h1, rfl, hd, hl, q2⟩ := q1
    have r1' : Rp (wl X) F1 v (.int (j : Nat)) := r1
    cases r1'
    obtain ⟨b, vs, b1, b2, b3⟩ := own_lst I1 h1
    rw [a1] at b1
    cases b1
    obtain ⟨u, hu, ru⟩ := b3.get hd
    have hj : j < vs.length := (List.getElem?_eq_some_iff.mp hu).1
    have hj2 : vs.length ≤ 100000 := by rw [b3.length]; exact hl
    refine ⟨a, vs, _, j, u, rfl, rfl, b2, by omega, by omega, ?_, hu, ?_⟩
    · rw [seqIndex_of (by omega) (by omega)]; simp
    exact k (.vl d) _ _ F1 _ (I1.write h1 a1 (o' := .lst (ds.eraseIdx j)) ⟨_, upd_same, b3.eraseIdx j⟩) s1 ru q2
  · exact q1.elim
end
end DL
/-! DL, part H: defs of a text, called; short words. -/
namespace DL
open PySem PySem.Spec PyProof.Rows L2
/-- a def that stands in the module, with its promise -/
structure Cal (P : Program) (w : World) (K : PySem.W.Frag) (mg : Str → Option Value) (base : Heap) (CX : CXT) (k : Nat) (x : Str) (ps : List Str) (sp : FS) (f : Addr) (fd : FuncData) : Prop where
  ok : FnOk P w K mg base CX k f fd ps (spOf ⟨P, w, K⟩ sp)
  g : mg x = some (.ref f)
  kp : PySem.W.keepIn K (.ref f) = true
  b : Binds K fd ps []
section
variable {X : Cx} {G : Gr} {k : Nat} {f : Addr} {fd : FuncData} {ps : List Str} {sp : FS} {x : Str} {p pos : Pos} {e : Expr} {es : List Expr} {ts : List DE}
theorem pd_cal (C : Cal X.prog X.w X.K X.mg X.base CX0 k x ps sp f fd) (hr : Room k X.A) (ha : PDA X G (e :: es) (dAs ts)) (hg : Gl X x := by rfl) (hdb : (x == ("__debug__" : Str)) = false := by decide)
    (he : starEach (e :: es) X.env = (false, eval e X.env) :: starEach es X.env := by rfl) (hpl : (backTo pos (starEach es X.env)).any (·.1) = false := by rfl) :
    PD X G (.Call (.Name x p) (e :: es) [] pos) (dCall sp ts) := pd_call (CX := CX0) (E := E0) C.ok hr hg C.g C.kp C.b pass0 ha hdb he hpl
end
/-- a def's text, its function object -/
abbrev FnP (K : PySem.W.Frag) (x : Str) (st : Stmt) (f : Addr) (fd : FuncData) : Prop := FunD K x x (defArgs st) (defBody st) (defScope st) [] [] f fd
/-- code never come to -/
def dNever : DS := fun _ _ => False
section
variable {X : Cx} {G : Gr}
theorem pds_never {st : Stmt} : PDS X G st dNever := ps_mono ps_never fun D σ H q => by
  obtain ⟨e, F, DD, I, hh, _⟩ := q
  exact hh.elim
/-- a, b, .. = e -/
def dAsg (tg : Tg) (t : DE) : DS := fun D e => t e fun r e1 => onD r fun d => asgT tg d e1 D.nx
theorem pds_asg {x y : Expr} {tg : Tg} {t : DE} {pos : Pos} (h : PD X G y t) (hg : PDG X G x tg) (hs : swapsWithSole [x] y pos.line X.env = pure false := by rfl) (hw : swappedStores [x] y X.env = pure none := by rfl)
    (h1 : (assignEach [x] X.env).map (·.2) = [assign x X.env] := by rfl) : PDS X G (.Assign [x] y pos) (dAsg tg t) := by
  refine ps_mono (ps_asg h hg hs hw h1) fun D σ H q => ?_
  obtain ⟨e, F, DD, I, hh, k1, k2, k3, k4⟩ := q
  refine ⟨e, F, _, I, hh, ?_⟩
  intro r v e1 F1 H1 I1 s1 r1 q1
  obtain ⟨F2, d, I2, s2, rd, q2⟩ := frozen_of I1 r1 q1
  exact ⟨e1, F2, _, d, I2, rd, q2, fun σ' e' F' H' I' s' _ q' => k1 σ' e' F' H' I' ((s1.trans s2).trans s') q'⟩
/-- x is None, x is not None -/
def isNone : D → Bool
  | .none => true
  | _ => false
def dIsN (neg : Bool) (t : DE) : DE := fun e Q => t e fun r e1 => withO e1 r fun d => Q (.vl (.bool (if neg then !isNone d else isNone d))) e1
theorem bp_none {g : Wl} {F H : Hp} {v : V} {d : D} (h : Bp g F H v d) : decide (v = .non) = isNone d := by
  cases h with
  | of h => cases h <;> first | rfl | exact decide_eq_false (fun z => nomatch z)
  | @ow a o h => cases o <;> exact decide_eq_false (fun z => nomatch z)
theorem pd_isN {a : Expr} {t : DE} {j : Nat} {pos' pos : Pos} (h : PD X G a t) : PD X G (.Compare a [.Is] [.Constant .none j pos'] pos) (dIsN false t) := by
  refine pe_mono (pe_cmp (pc_isN h)) fun σ H Q q => ?_
  obtain ⟨e, F, Qd, I, hh, k⟩ := q
  refine ⟨e, F, _, I, hh, ?_⟩
  intro r v e1 F1 H1 I1 s1 r1 q1
  obtain ⟨d, b, q2⟩ := bp_of I1 r1 q1
  rw [bp_none b]
  exact k (.vl (.bool _)) _ e1 F1 H1 I1 s1 (Rp.bl _) q2
theorem pd_notN {a : Expr} {t : DE} {j : Nat} {pos' pos : Pos} (h : PD X G a t) : PD X G (.Compare a [.IsNot] [.Constant .none j pos'] pos) (dIsN true t) := by
  refine pe_mono (pe_cmp (pc_notN h)) fun σ H Q q => ?_
  obtain ⟨e, F, Qd, I, hh, k⟩ := q
  refine ⟨e, F, _, I, hh, ?_⟩
  intro r v e1 F1 H1 I1 s1 r1 q1
  obtain ⟨d, b, q2⟩ := bp_of I1 r1 q1
  rw [bp_none b]
  exact k (.vl (.bool _)) _ e1 F1 H1 I1 s1 (Rp.bl _) q2
theorem pdt_of {x : Expr} {t : DE} {op : CmpOp} {a b : Expr} {pos : Pos} (h : PC X op a b (liftE (wl X) G t)) (h1 : behindInMarks op b = false := by first | exact nobehind _ (by decide) (by decide) | rfl) : PDT X G (.Compare a [op] [b] pos) (dTst t) :=
  pt_mono (pt_cmp h h1) fun _ _ _ q => lift_tst q
theorem pdt_isN {a : Expr} {t : DE} {j : Nat} {pos' pos : Pos} (h : PD X G a t) : PDT X G (.Compare a [.Is] [.Constant .none j pos'] pos) (dTst (dIsN false t)) := by
  refine pt_mono (pt_cmp (pc_isN h)) fun σ H Q q => ?_
  obtain ⟨e, F, Qd, I, hh, k⟩ := lift_tst q
  refine ⟨e, F, _, I, hh, ?_⟩
  intro r v e1 F1 H1 I1 s1 r1 q1
  obtain ⟨d, b, q2⟩ := bp_of I1 r1 q1
  rw [bp_none b]
  exact k (.vl (.bool _)) _ e1 F1 H1 I1 s1 (Rp.bl _) q2
theorem pdt_notN {a : Expr} {t : DE} {j : Nat} {pos' pos : Pos} (h : PD X G a t) : PDT X G (.Compare a [.IsNot] [.Constant .none j pos'] pos) (dTst (dIsN true t)) := by
  refine pt_mono (pt_cmp (pc_notN h)) fun σ H Q q => ?_
  obtain ⟨e, F, Qd, I, hh, k⟩ := lift_tst q
  refine ⟨e, F, _, I, hh, ?_⟩
  intro r v e1 F1 H1 I1 s1 r1 q1
  obtain ⟨d, b, q2⟩ := bp_of I1 r1 q1
  rw [bp_none b]
  exact k (.vl (.bool _)) _ e1 F1 H1 I1 s1 (Rp.bl _) q2
end
end DL
/-! DL, part I: a def of the text keeps its promise; the module's constants; a hook with tuples. -/
namespace DL
open PySem PySem.Spec PyProof.Rows L2
section
variable {P : Program} {w : World} {K : PySem.W.Frag} {mg : Str → Option Value} {base : Heap}
/-- a def that lets no error out: the body's derivation t, and what it says of data -/
theorem okD {x : Str} {st : Stmt} {f : Addr} {fd : FuncData} {N ps : List Str} {k : Nat} {sp : FS} (Fn : FnP K x st f fd) (S : FnScope N ps (defScope st)) (hps : ps.length ≤ N.length)
    (len : ∀ as Q E, sp as Q E → as.length = ps.length) (t : DS)
    (body : ∀ (cdv : Value) (A : Around) (outer : List Env) (s : Shared) (H : Hp) (E : XK) (G : Gr), Room k (A.deeper (envOfC x (defScope st) s.heap.objs.size f cdv)) →
      PDB (cxOf CX0 P w K mg base N x (defScope st) f cdv A outer s H E).nox G (defBody st) t)
    (vc : ∀ as Q E, sp as Q E → t (defEnds ps.length Q) (start0 N.length as)) : FnOk P w K mg base CX0 (k + 1) f fd ps (spOf ⟨P, w, K⟩ sp) := by
  refine FunD.ok Fn S (fun vs H Q E h => ?_) (fun cdv A outer s H vs Q E hr h => ?_)
  · obtain ⟨F, as, Qd, Ed, _, ha, hsp, _⟩ := h
    rw [ha.length]
    exact len _ _ _ hsp
  · obtain ⟨F, as, Qd, Ed, sF, ha, hsp, kQ, _⟩ := h
    have hl := len _ _ _ hsp
    refine ⟨liftS ⟨P, w, K⟩ ⟨N.length, entM vs as, F, H⟩ t, (body cdv A outer s H E ⟨N.length, entM vs as, F, H⟩ hr).nox, ?_⟩
    have hN : as.length ≤ N.length := by rw [hl]; exact hps
    refine ⟨start0 N.length as, F, _, FI.entry sF ha hN, vc as Qd Ed hsp, fun σ' e' F' H' I s q => ?_, fun r v σ' e' F' H' I s rr q => ?_, fun _ _ _ _ _ _ z => z.elim, fun _ _ _ _ _ _ z => z.elim⟩
    · obtain ⟨kp, out⟩ := I.exit ha hN
      rw [hl] at out
      exact kQ (.vl .none) _ _ F' H' kp out Rp.non q
    · obtain ⟨kp, out⟩ := I.exit ha hN
      rw [hl] at out
      cases r with
      | vl d => exact kQ (.vl d) _ v F' H' kp out (rr_nw (G := ⟨N.length, entM vs as, F, H⟩) rr fun i z => nomatch z) q
      | tm o => exact kQ (.tm o) _ v F' H' kp out (rr_nw (G := ⟨N.length, entM vs as, F, H⟩) rr fun i z => nomatch z) q
      | sl i => exact q.elim
end
/-- a def of the module stands, under its name -/
def Stands (K : PySem.W.Frag) (mg : Str → Option Value) (x : Str) (st : Stmt) : Prop := ∃ f fd, FnP K x st f fd ∧ mg x = some (.ref f)
/-- .. and keeps its promise -/
def Can (P : Program) (w : World) (K : PySem.W.Frag) (mg : Str → Option Value) (base : Heap) (k : Nat) (x : Str) (ps : List Str) (sp : FS) : Prop := ∃ f fd, Cal P w K mg base CX0 k x ps sp f fd
section
variable {X : Cx} {G : Gr} {k : Nat} {ps : List Str} {sp : FS} {x : Str} {p pos : Pos} {e : Expr} {es : List Expr} {ts : List DE}
theorem pd_can (C : Can X.prog X.w X.K X.mg X.base k x ps sp) (hr : Room k X.A) (ha : PDA X G (e :: es) (dAs ts)) (hg : Gl X x := by rfl) (hdb : (x == ("__debug__" : Str)) = false := by decide)
    (he : starEach (e :: es) X.env = (false, eval e X.env) :: starEach es X.env := by rfl) (hpl : (backTo pos (starEach es X.env)).any (·.1) = false := by rfl) :
    PD X G (.Call (.Name x p) (e :: es) [] pos) (dCall sp ts) := by
  obtain ⟨f, fd, C⟩ := C
  exact pd_cal C hr ha hg hdb he hpl
/-- a whole number of the module -/
theorem pd_gi {i : Int} (hm : ∃ t, X.mg x = some (.int i t)) (hg : Gl X x := by rfl) (hd : (x == ("__debug__" : Str)) = false := by decide) : PD X G (.Name x pos) (dC (.int i)) := by
  obtain ⟨t, hm⟩ := hm
  exact pd_c (pe_glob hg hm (v := .int i) ⟨t, rfl⟩ hd) fun _ => .int i
/-- a tuple of the module -/
theorem pd_gt {ds : List D} (hm : ∃ a, X.mg x = some (.ref a) ∧ ∀ F : Hp, Rp (wl X) F (.ref a) (.tuple ds)) (hg : Gl X x := by rfl) (hd : (x == ("__debug__" : Str)) = false := by decide) : PD X G (.Name x pos) (dC (.tuple ds)) := by
  obtain ⟨a, hm, h⟩ := hm
  exact pd_c (pe_glob hg hm (v := .ref a) rfl hd) h
end
theorem can_of {P : Program} {w : World} {K : PySem.W.Frag} {mg : Str → Option Value} {base : Heap} {k : Nat} {x : Str} {ps : List Str} {sp : FS} {st : Stmt} (S : Stands K mg x st) (ok : ∀ f fd, FnP K x st f fd → FnOk P w K mg base CX0 k f fd ps (spOf ⟨P, w, K⟩ sp))
    (h : ∀ (kV doc pm : Value) (an : Option Addr) (cdv ct : Value) (us : List Value), us.length = ps.length → bindArgs (PySem.W.fnOf x x (defArgs st) (defBody st) (defScope st) .none kV doc pm an cdv ct) ⟨us, []⟩ = pure (ps.zip us)) : Can P w K mg base k x ps sp := by
  obtain ⟨f, fd, F, g⟩ := S
  exact ⟨f, fd, ok f fd F, g, F.kp, FunD.bindsN F h⟩
/-! ### the hook, with tuples of the module -/
def obsE (fa : List He.Fa) (tu : List (Str × List He.Dv)) (fn : List He.DefD) (K : PySem.W.Frag) : He.AlD := (((fa.all fun f => f.ok K) && fn.all fun d => d.ok K) && tu.all fun p => He.eqO (PySem.W.nsIn K mainGlobals p.1) (some (some (.ref (He.ga K p.1)))) && He.tupB K p.1 p.2, fn.map fun d => He.fnW K d.at_)
def SaysE (fa : List He.Fa) (tu : List (Str × List He.Dv)) (fn : List He.DefD) (K : PySem.W.Frag) : Prop := obsE fa tu fn K = He.valD fn
def obsEG (n : Nat) (fa : List He.Fa) (tu : List (Str × List He.Dv)) (fn : List He.DefD) (g : Addr → Option Obj) : He.AlD := obsE fa tu fn (He.frG g (He.asD g n))
def hookE (n : Nat) (fa : List He.Fa) (tu : List (Str × List He.Dv)) (fn : List He.DefD) : PySem.W.Hook where
  α := He.AlD
  obs := fun s => obsEG n fa tu fn s.heap.get?
  val := fun _ => He.valD fn
  says := fun _ h => ∃ K : PySem.W.Frag, K.In h ∧ SaysE fa tu fn K
  of := fun _ _ e => ⟨_, He.frG_in, e⟩
  keeps := fun _ _ _ ⟨K, hK, c⟩ k => ⟨K, PySem.W.Frag.In.keeps hK k, c⟩
theorem obsEG_eq {n : Nat} {fa : List He.Fa} {tu : List (Str × List He.Dv)} {fn : List He.DefD} {g : Addr → Option Obj} {s : Shared} (h : ∀ a, g a = s.heap.get? a) : obsEG n fa tu fn g = (hookE n fa tu fn).obs s := by
  have e : g = s.heap.get? := funext h
  rw [e] <;> rfl
section
variable {fa : List He.Fa} {tu : List (Str × List He.Dv)} {fn : List He.DefD} {K : PySem.W.Frag}
theorem SaysE.d (c : SaysE fa tu fn K) : He.SaysD fa fn K := by
  have h1 : (((fa.all fun f => f.ok K) && fn.all fun d => d.ok K) && tu.all fun p => He.eqO (PySem.W.nsIn K mainGlobals p.1) (some (some (.ref (He.ga K p.1)))) && He.tupB K p.1 p.2) = true := congrArg (fun z : He.AlD => z.1) c
  have h2 := congrArg (fun z : He.AlD => z.2) c
  exact Prod.ext (Bool.and_eq_true_iff.mp h1).1 h2
theorem SaysE.tup (c : SaysE fa tu fn K) (i : Nat) {p : Str × List He.Dv} (h : tu[i]? = some p := by rfl) : PySem.W.nsIn K mainGlobals p.1 = some (some (.ref (He.ga K p.1))) ∧ ∀ H : Hp, SqT K H (He.ga K p.1) (p.2.map (He.Dv.v K)) := by
  have h1 : (((fa.all fun f => f.ok K) && fn.all fun d => d.ok K) && tu.all fun p => He.eqO (PySem.W.nsIn K mainGlobals p.1) (some (some (.ref (He.ga K p.1)))) && He.tupB K p.1 p.2) = true := congrArg (fun z : He.AlD => z.1) c
  have h2 := List.all_eq_true.mp (Bool.and_eq_true_iff.mp h1).2 p (List.mem_of_getElem? h)
  obtain ⟨h3, h4⟩ := Bool.and_eq_true_iff.mp h2
  exact ⟨He.eqO_ok h3, fun H => He.tupB_ok h4 H⟩
end
end DL
namespace DL
open PySem PySem.Spec PyProof.Rows L2
theorem can_never {P : Program} {w : World} {K : PySem.W.Frag} {mg : Str → Option Value} {base : Heap} {k : Nat} {x : Str} {N ps : List Str} {sp : FS} {st : Stmt} (S : Stands K mg x st) (sc : FnScope N ps (defScope st)) (no : ∀ as Q E, ¬ sp as Q E)
    (h : ∀ (kV doc pm : Value) (an : Option Addr) (cdv ct : Value) (us : List Value), us.length = ps.length → bindArgs (PySem.W.fnOf x x (defArgs st) (defBody st) (defScope st) .none kV doc pm an cdv ct) ⟨us, []⟩ = pure (ps.zip us)) : Can P w K mg base (k + 1) x ps sp :=
  can_of S (fun f fd F => FunD.ok F sc (fun vs H Q E ⟨_, as, _, _, _, _, z, _⟩ => absurd z (no _ _ _)) fun cdv A outer s H vs Q E hr ⟨_, as, _, _, _, _, z, _⟩ => absurd z (no _ _ _)) h
end DL
/-! DL, part J: products; names for the printed texts. -/
namespace DL
open PySem PySem.Spec PyProof.Rows L2
abbrev mn2 (i j : Int) : Int := if j < i then j else i
abbrev mx2 (i j : Int) : Int := if j > i then j else i
def rRepR : R2 := fun x y H Q => ∃ l k xs, x = .ref l ∧ y = .int k ∧ Rd H l (.lst xs) ∧ -(2 ^ 63) ≤ k ∧ k < 2 ^ 63 ∧ xs.length * k.toNat ≤ sizeLine ∧
  ∀ p, H p = none → Q (.ref p) (upd H p (.lst (List.replicate k.toNat xs).flatten))
section
variable {X : Cx}
theorem op_repR : OpR X (binaryOp .Mult) rRepR := by
  intro pins s σ H x y v u Q I rx ry h
  obtain ⟨l, k, xs, rfl, rfl, hH, h1, h2, hz, q⟩ := h
  cases rx
  obtain ⟨t, rfl⟩ := ry
  obtain ⟨z, its, n, r, e⟩ := hH.ok I.hok
  have hl := r.length
  have hlen : its.toArray.size * k.toNat ≤ sizeLine := by rw [List.size_toArray, ← hl]; exact hz
  have hcap : ¬ its.toArray.size * k.toNat > (2 ^ 63 - 1) / 8 := by
    have : (sizeLine : Nat) ≤ (2 ^ 63 - 1) / 8 := by decide
    omega
  have hfit : ¬ (!Builtin.List.listFitsIndex k) = true := by
    rw [fitsIndex_both h1 h2]
    exact Bool.false_ne_true
  have hlong : ¬ Builtin.List.listTooLong (its.toArray.size * k.toNat) = true := by
    rw [notLongL hlen]
    exact Bool.false_ne_true
  have hnew : List.foldl (fun x1 x2 => x1 ++ x2) #[] (List.replicate (if its.toArray.isEmpty = true then 0 else k.toNat) its.toArray) = (List.replicate k.toNat its).flatten.toArray := by
    have f0 : ∀ m : Nat, List.foldl (fun x1 x2 => x1 ++ x2) #[] (List.replicate m its.toArray) = (List.replicate m its).flatten.toArray := fun m => by
      have := foldl_rep its m []
      rw [List.nil_append] at this
      exact this
    rw [f0]
    cases its with
    | nil => simp
    | cons a r' => rw [if_neg (by simp)]
  refine wpAny_binaryOp_repeat_ref (T := "list") (U := "int") (by decide) ⟨_, e, rfl⟩ (fun s' => typeIs_int s' k t) noFill_list_mul F.fills_int_mul F.slot_int_rmul repeat_list F.slot_int_index.lookup
    (call_meets F.slot_int_rmul (typeIs_int s k t) F.entry_int_rmul (F.args_int_rmul_2 _ _) (int___rmul___int_list k t l its.toArray n)
      ⟨e, rfl, ⟨_, e, rfl⟩, call_meets F.slot_list_mul ⟨_, e, rfl⟩ F.entry_list_mul (F.args_list_mul_2 _ _) (AutoListH.list___mul___list_int_3 l its.toArray n k t hfit hcap hlong) ⟨e, ?_⟩⟩)
  rw [hnew]
  exact ⟨.ref _, _, I.lnew (t' := s.toks) (r.rep k.toNat) (by rw [PyProof.Rows.lm_len_rep_flat, Nat.mul_comm]; exact hz), rfl, q _ I.fresh⟩
def rMulU : R2 := fun x y H Q => rI CMul (fun i j => .int (i * j)) x y H Q ∨ rRepR x y H Q
theorem op_mulU : OpR X (binaryOp .Mult) rMulU := op_mul.or op_repR
end
def tMulU (x y : D) (Q : Op → Prop) : Prop := match x, y with
  | .int a, .int b => CMul a b ∧ Q (.vl (.int (a * b)))
  | .list xs, .int k => (0 ≤ k ∧ k ≤ 100000 ∧ xs.length * k.toNat ≤ 100000) ∧ Q (.tm (.lst (List.replicate k.toNat xs).flatten))
  | _, _ => False
theorem Rps.rep {g : Wl} {F : Hp} {vs : List V} {ds : List D} (r : Rps g F vs ds) : ∀ n : Nat, Rps g F (List.replicate n vs).flatten (List.replicate n ds).flatten
  | 0 => .nil
  | n + 1 => by
    rw [List.replicate_succ, List.replicate_succ, List.flatten_cons, List.flatten_cons]
    exact r.append (Rps.rep r n)
theorem od_mul {g : Wl} : OpD g rMulU tMulU := by
  intro F H x y dx dy Qd Q s hx hy q k
  unfold tMulU at q
  split at q
  · obtain ⟨c, q⟩ := q
    exact .inl ⟨_, _, hx.int, hy.int, c, k (.vl (.int _)) _ F H (Grow.refl s) (Rp.int _) q⟩
  · rename_i xs n
    obtain ⟨⟨c0, c1, c2⟩, q⟩ := q
    obtain ⟨a, vs, rfl, h1, r1⟩ := hx.list s
    refine .inr ⟨a, n, vs, rfl, hy.int, h1, by omega, by omega, line_le (by rw [r1.length]; exact c2), fun p hp => ?_⟩
    obtain ⟨w, nn⟩ := grow_lst s hp (r1.rep n.toNat)
    exact k (.tm (.lst _)) _ _ _ w nn q
  · exact q.elim
end DL
/-! DL, part K: tools for what is left of a def over data. -/
namespace DL
open PySem PySem.Spec PyProof.Rows L2
theorem ite_vc {b : Bool} {X Y : Prop} (h1 : b = true → X) (h2 : b = false → Y) : if b = true then X else Y := by
  cases b with
  | true => rw [if_pos rfl]; exact h1 rfl
  | false => rw [if_neg (fun z => nomatch z)]; exact h2 rfl
/-! ### plain data: no bool, no dict -/
mutual
def pl : D → Bool
  | .none => true
  | .int _ => true
  | .str _ => true
  | .list ds => pls ds
  | .tuple ds => pls ds
  | _ => false
def pls : List D → Bool
  | [] => true
  | d :: ds => pl d && pls ds
end
mutual
theorem pl_noDict : ∀ {d : D}, pl d = true → noDict d = true
  | .none, _ => rfl
  | .int _, _ => rfl
  | .str _, _ => rfl
  | .list ds, h => pls_noDicts (ds := ds) h
  | .tuple ds, h => pls_noDicts (ds := ds) h
  | .bool _, h => by cases h
  | .dict _, h => by cases h
theorem pls_noDicts : ∀ {ds : List D}, pls ds = true → noDicts ds = true
  | [], _ => rfl
  | d :: ds, h => by
    obtain ⟨h1, h2⟩ := Bool.and_eq_true_iff.mp (show (pl d && pls ds) = true from h)
    show (noDict d && noDicts ds) = true
    rw [pl_noDict h1, pls_noDicts h2] <;> rfl
end
mutual
theorem eqv_pl : ∀ {d e : D}, pl d = true → pl e = true → (PyData.eqv d e = true ↔ d = e)
  | .none, e, _, he => by cases e <;> simp_all [PyData.eqv, pl]
  | .int _, e, _, he => by cases e <;> simp_all [PyData.eqv, pl]
  | .str _, e, _, he => by cases e <;> simp_all [PyData.eqv, pl]
  | .list ds, e, h, he => by
    cases e with
    | list es =>
      rw [PyData.eqv, eqv_pls (ds := ds) h he]
      exact ⟨fun z => by rw [z], fun z => by injection z⟩
    | _ => simp_all [PyData.eqv, pl]
  | .tuple ds, e, h, he => by
    cases e with
    | tuple es =>
      rw [PyData.eqv, eqv_pls (ds := ds) h he]
      exact ⟨fun z => by rw [z], fun z => by injection z⟩
    | _ => simp_all [PyData.eqv, pl]
  | .bool _, _, h, _ => by cases h
  | .dict _, _, h, _ => by cases h
theorem eqv_pls : ∀ {ds es : List D}, pls ds = true → pls es = true → (PyData.eqvAll ds es = true ↔ ds = es)
  | [], [], _, _ => by simp [PyData.eqvAll]
  | [], _ :: _, _, _ => by simp [PyData.eqvAll]
  | _ :: _, [], _, _ => by simp [PyData.eqvAll]
  | d :: ds, e :: es, h, he => by
    obtain ⟨h1, h2⟩ := Bool.and_eq_true_iff.mp (show (pl d && pls ds) = true from h)
    obtain ⟨h3, h4⟩ := Bool.and_eq_true_iff.mp (show (pl e && pls es) = true from he)
    rw [PyData.eqvAll, Bool.and_eq_true, eqv_pl h1 h3, eqv_pls h2 h4]
    exact ⟨fun ⟨a, b⟩ => by rw [a, b], fun z => by injection z with a b; exact ⟨a, b⟩⟩
end
theorem eqv_pl_dec {d e : D} (h : pl d = true) (k : pl e = true) {P : Prop} [Decidable P] (hp : d = e ↔ P) : PyData.eqv d e = decide P := by
  by_cases q : P
  · rw [decide_eq_true q]; exact (eqv_pl h k).mpr (hp.mpr q)
  · rw [decide_eq_false q]
    cases z : PyData.eqv d e with
    | true => exact absurd (hp.mp ((eqv_pl h k).mp z)) q
    | false => rfl
theorem pls_map {α : Type} {f : α → D} : ∀ {xs : List α}, (∀ x ∈ xs, pl (f x) = true) → pls (xs.map f) = true
  | [], _ => rfl
  | x :: xs, h => by
    show (pl (f x) && pls (xs.map f)) = true
    rw [h x List.mem_cons_self, pls_map fun y hy => h y (List.mem_cons_of_mem _ hy)] <;> rfl
theorem depthAll_map {α : Type} {f : α → D} {n : Nat} : ∀ {xs : List α}, (∀ x ∈ xs, (f x).depth ≤ n) → PyData.depthAll (xs.map f) ≤ n
  | [], _ => Nat.zero_le _
  | x :: xs, h => by
    show PyData.depthAll (f x :: xs.map f) ≤ n
    rw [PyData.depthAll]
    exact Nat.max_le.mpr ⟨h x List.mem_cons_self, depthAll_map fun y hy => h y (List.mem_cons_of_mem _ hy)⟩
theorem depth_list {ds : List D} {n : Nat} (h : PyData.depthAll ds ≤ n) : (PyData.list ds).depth ≤ n + 1 := by rw [PyData.depth]; omega
theorem depth_tuple {ds : List D} {n : Nat} (h : PyData.depthAll ds ≤ n) : (PyData.tuple ds).depth ≤ n + 1 := by rw [PyData.depth]; omega
/-! ### loops -/
theorem loop_vc {tg : Tg} {body : DS} {DD : DEn} (J : List D → Sv → Prop) (h0 : ∀ e, J [] e → DD.nx e)
    (step : ∀ (d : D) (ds : List D) (e : Sv) (k : Sv → Prop), (∀ e2, J ds e2 → k e2) → J (d :: ds) e → asgT tg d e fun e1 => body { DD with nx := k, ct := k, bk := DD.nx } e1) : ∀ (ds : List D) (e : Sv), J ds e → dLoop tg body DD ds e
  | [], e, h => h0 e h
  | d :: ds, e, h => step d ds e _ (fun e2 h2 => loop_vc J h0 step ds e2 h2) h
theorem rng_loop {tg : Tg} {body : DS} {DD : DEn} {lo : Int} (J : Nat → Sv → Prop) : ∀ (n m : Nat) (h0 : ∀ e, J (m + n) e → DD.nx e)
    (step : ∀ (i : Nat) (e : Sv) (k : Sv → Prop), m ≤ i → i < m + n → (∀ e2, J (i + 1) e2 → k e2) → J i e → asgT tg (.int (lo + (i : Int))) e fun e1 => body { DD with nx := k, ct := k, bk := DD.nx } e1) (e : Sv),
    J m e → dLoop tg body DD ((List.range' m n).map fun (i : Nat) => .int (lo + (i : Int))) e
  | 0, m, h0, step, e, h => h0 e h
  | n + 1, m, h0, step, e, h => by
    rw [List.range'_succ, List.map_cons]
    exact step m e _ (Nat.le_refl _) (by omega) (fun e2 h2 => rng_loop J n (m + 1) (fun e h => h0 e (by rwa [show m + (n + 1) = m + 1 + n by omega])) (fun i e k h1 h2 => step i e k (by omega) (by omega)) e2 h2) h
theorem rng_vc {tg : Tg} {body : DS} {DD : DEn} {lo : Int} {n : Nat} {e : Sv} (J : Nat → Sv → Prop) (h1 : J 0 e) (h0 : ∀ e, J n e → DD.nx e)
    (step : ∀ (i : Nat) (e : Sv) (k : Sv → Prop), i < n → (∀ e2, J (i + 1) e2 → k e2) → J i e → asgT tg (.int (lo + (i : Int))) e fun e1 => body { DD with nx := k, ct := k, bk := DD.nx } e1) : dLoop tg body DD (rngD lo n) e := by
  unfold rngD
  rw [List.range_eq_range']
  exact rng_loop J n 0 (fun e h => h0 e (by rwa [Nat.zero_add] at h)) (fun i e k _ h => step i e k (by omega)) e h1
/-! ### comprehensions -/
theorem cl_vc {tg : Tg} {tt : DT} {te : DE} {Q : List D → Sv → Prop} (J : List D → List D → Sv → Prop) (h0 : ∀ acc e, J [] acc e → Q acc e)
    (step : ∀ (d : D) (ds acc : List D) (e : Sv) (k : List D → Sv → Prop), (∀ acc2 e2, J ds acc2 e2 → k acc2 e2) → J (d :: ds) acc e → noOw e ∧ asgT tg d e fun e1 => tt e1 fun b e2 =>
      if b = true then te e2 fun r e3 => acc.length < 100000 ∧ onD r fun x => k (acc ++ [x]) (wipeS e3 tg.slots) else k acc (wipeS e2 tg.slots)) : ∀ (ds acc : List D) (e : Sv), J ds acc e → dCl tg tt te Q ds acc e
  | [], acc, e, h => h0 acc e h
  | d :: ds, acc, e, h => step d ds acc e (fun a e' => dCl tg tt te Q ds a e') (fun acc2 e2 h2 => cl_vc J h0 step ds acc2 e2 h2) h
theorem lc_vc {tg : Tg} {fz : List Nat} {tt : DT} {te : DE} {e1 : Sv} {Q : Op → Sv → Prop} {ds : List D} (J : List D → List D → Sv → Prop) (e0 : Sv) (hn : noIoS (frzS e1 fz) tg.slots) (he : lend (wipeS (frzS e1 fz) tg.slots) = e0) (hJ : J ds [] e0)
    (h0 : ∀ acc e, J [] acc e → ∃ e4, backS (frzS e1 fz) (unlend (wipeS (frzS e1 fz) tg.slots) e) tg.slots = e4 ∧ Q (.tm (.lst acc)) e4)
    (step : ∀ (d : D) (ds acc : List D) (e : Sv) (k : List D → Sv → Prop), (∀ acc2 e2, J ds acc2 e2 → k acc2 e2) → J (d :: ds) acc e → noOw e ∧ asgT tg d e fun e1 => tt e1 fun b e2 =>
      if b = true then te e2 fun r e3 => acc.length < 100000 ∧ onD r fun x => k (acc ++ [x]) (wipeS e3 tg.slots) else k acc (wipeS e2 tg.slots)) :
    dLcK tg fz tt te Q ds e1 := by
  unfold dLcK
  refine ⟨hn, ?_⟩
  rw [he]
  refine cl_vc J (fun acc e h => ?_) step ds [] e0 hJ
  obtain ⟨e4, h1, h2⟩ := h0 acc e h
  rw [h1]
  exact h2
/-- a slot that is not lent -/
def nio : Sl → Prop
  | .io _ => False
  | _ => True
theorem ni {x : Sl} {e : Sv} {i : Nat} (h : e[i]? = some x) (n : nio x) : notIo e i := by
  unfold notIo
  rw [h]
  cases x <;> first | trivial | exact n
theorem nd0 : ([] : List Nat).Nodup := List.nodup_nil
theorem nd1 {i : Nat} : [i].Nodup := List.nodup_cons.mpr ⟨(fun h => nomatch h), List.nodup_nil⟩
theorem asNat {n : Int} (h : 0 ≤ n) : ∃ k : Nat, n = (k : Int) := ⟨n.toNat, by omega⟩
theorem or_ite {c c2 : Bool} {A B : Prop} (h1 : (c || c2) = true → A) (h2 : c = false → c2 = false → B) : if c = true then (if true = true then A else B) else (if c2 = true then A else B) := by
  cases c with
  | true => rw [if_pos rfl, if_pos rfl]; exact h1 rfl
  | false =>
    rw [if_neg (fun z => nomatch z)]
    cases c2 with
    | true => rw [if_pos rfl]; exact h1 rfl
    | false => rw [if_neg (fun z => nomatch z)]; exact h2 rfl rfl
theorem and_ite {c c2 : Bool} {A B : Prop} (h1 : c = true → c2 = true → A) (h2 : (c && c2) = false → B) : if c = true then (if c2 = true then A else B) else (if false = true then A else B) := by
  cases c with
  | true =>
    rw [if_pos rfl]
    cases c2 with
    | true => rw [if_pos rfl]; exact h1 rfl rfl
    | false => rw [if_neg (fun z => nomatch z)]; exact h2 rfl
  | false => rw [if_neg (fun z => nomatch z), if_neg (fun z => nomatch z)]; exact h2 rfl
theorem l0 : 0 ≤ 100000 := by decide
theorem l1 : 1 ≤ 100000 := by decide
theorem l2 : 2 ≤ 100000 := by decide
theorem l3 : 3 ≤ 100000 := by decide
theorem l4 : 4 ≤ 100000 := by decide
theorem l5 : 5 ≤ 100000 := by decide
theorem l6 : 6 ≤ 100000 := by decide
theorem l7 : 7 ≤ 100000 := by decide
/-- the sides of an == of two whole numbers; of anything and a text -/
theorem eqI {a b : Int} : noDict (.int a) = true ∧ noDict (.int b) = true ∧ min (PyData.int a).depth (PyData.int b).depth ≤ 60 := ⟨rfl, rfl, Nat.le_trans (Nat.min_le_right _ _) (by rw [PyData.depth]; exact Nat.zero_le _)⟩
theorem eqS {a b : Str} : noDict (.str a) = true ∧ noDict (.str b) = true ∧ min (PyData.str a).depth (PyData.str b).depth ≤ 60 := ⟨rfl, rfl, Nat.le_trans (Nat.min_le_right _ _) (by rw [PyData.depth]; exact Nat.zero_le _)⟩
abbrev dNat (n : Nat) : D := .int (n : Int)
/-! ### range(a, b, -1) -/
def dwnD (hi : Int) (n : Nat) : List D := (List.range n).map fun (i : Nat) => .int (hi - (i : Int))
theorem wk_dwn {g : Wl} {F : Hp} {hi : Int} {n : Nat} : Wk g (Itc hi (-1) n) F (dwnD hi n) := fun i F1 H1 s1 s2 => by
  refine ⟨fun d hd => ?_, fun hl => (by simpa [dwnD] using hl : n ≤ i)⟩
  unfold dwnD at hd
  rw [List.getElem?_map] at hd
  cases q : (List.range n)[i]? with
  | none => rw [q] at hd; cases hd
  | some c =>
    rw [q] at hd
    cases hd
    obtain ⟨h1, h2⟩ := List.getElem?_eq_some_iff.mp q
    rw [List.getElem_range] at h2
    subst h2
    rw [List.length_range] at h1
    refine ⟨h1, fun x H2 y => ?_⟩
    obtain ⟨e, h2⟩ := y
    subst e; subst h2
    refine ⟨F1, Grow.refl s2, ?_⟩
    have e : hi + (i : Int) * (-1) = hi - (i : Int) := by omega
    rw [e]
    exact .int _
def dRng3 (ts : List DE) : DI := fun e Q => dVs ts e fun ds e1 => match ds with
  | [.int a, .int b, .int c] => (c = -1 ∧ a ≤ 1000000 ∧ -1000000 ≤ a ∧ b ≤ 1000000 ∧ -1000000 ≤ b) ∧ Q (dwnD a (a - b).toNat) e1
  | _ => False
theorem pdi_range3 {X : Cx} {G : Gr} {tg a b c : Expr} {t u v : DE} {p pos : Pos} (hg : Gl X "range") (hm : X.mg "range" = none) (ha : PDA X G [a, b, c] (dAs [t, u, v])) (hs : starEach [a, b, c] X.env = (false, eval a X.env) :: starEach [b, c] X.env := by rfl) (hpl : (backTo pos (starEach [b, c] X.env)).any (·.1) = false := by rfl) :
    PDI X G tg (.Call (.Name "range" p) [a, b, c] [] pos) (dRng3 [t, u, v]) := by
  refine pi_mono (pi_range3 hg hm ha hs hpl) fun σ H R q => ?_
  obtain ⟨e, F, Qd, I, hh, k⟩ := q
  have hh' : dVs [t, u, v] e fun ds e1 => match ds with
    | [.int a, .int b, .int c] => (c = -1 ∧ a ≤ 1000000 ∧ -1000000 ≤ a ∧ b ≤ 1000000 ∧ -1000000 ≤ b) ∧ Qd (dwnD a (a - b).toNat) e1
    | _ => False := hh
  refine ⟨e, F, _, I, hh', ?_⟩
  intro rs vs e1 F1 H1 I1 s1 r1 q1
  obtain ⟨ds, bs, q2⟩ := rps_of r1 q1
  split at q2
  · rename_i a b c
    obtain ⟨⟨rfl, h1, h2, h3, h4⟩, q3⟩ := q2
    cases bs with
    | cons b1 b2 =>
      cases b2 with
      | cons b2 b3 =>
        cases b3 with
        | cons b3 b4 =>
          cases b4
          cases b1
          cases b2
          cases b3
          exact ⟨a, b, -1, (a - b).toNat, rfl, RgC.neg (by omega) (by omega) (by omega) (by omega), k _ _ e1 F1 H1 I1 s1 wk_dwn q3⟩
  · exact q2.elim
theorem rngf_loop {tg : Tg} {body : DS} {DD : DEn} {f : Nat → D} (J : Nat → Sv → Prop) : ∀ (n m : Nat) (h0 : ∀ e, J (m + n) e → DD.nx e)
    (step : ∀ (i : Nat) (e : Sv) (k : Sv → Prop), m ≤ i → i < m + n → (∀ e2, J (i + 1) e2 → k e2) → J i e → asgT tg (f i) e fun e1 => body { DD with nx := k, ct := k, bk := DD.nx } e1) (e : Sv),
    J m e → dLoop tg body DD ((List.range' m n).map f) e
  | 0, m, h0, step, e, h => h0 e h
  | n + 1, m, h0, step, e, h => by
    rw [List.range'_succ, List.map_cons]
    exact step m e _ (Nat.le_refl _) (by omega) (fun e2 h2 => rngf_loop J n (m + 1) (fun e h => h0 e (by rwa [show m + (n + 1) = m + 1 + n by omega])) (fun i e k h1 h2 => step i e k (by omega) (by omega)) e2 h2) h
theorem dwn_vc {tg : Tg} {body : DS} {DD : DEn} {hi : Int} {n : Nat} {e : Sv} (J : Nat → Sv → Prop) (h1 : J 0 e) (h0 : ∀ e, J n e → DD.nx e)
    (step : ∀ (i : Nat) (e : Sv) (k : Sv → Prop), i < n → (∀ e2, J (i + 1) e2 → k e2) → J i e → asgT tg (.int (hi - (i : Int))) e fun e1 => body { DD with nx := k, ct := k, bk := DD.nx } e1) : dLoop tg body DD (dwnD hi n) e := by
  unfold dwnD
  rw [List.range_eq_range']
  exact rngf_loop J n 0 (fun e h => h0 e (by rwa [Nat.zero_add] at h)) (fun i e k _ h => step i e k (by omega)) e h1
theorem pd_index {X : Cx} {G : Gr} {o e : Expr} {es : List Expr} {to : DE} {ts : List DE} {apos cpos : Pos} (ho : PD X G o to) (ha : PDA X G (e :: es) (dAs ts))
    (hbase : attributeBase o "index" X.env (eval o X.env) = eval o X.env := by rfl)
    (hfew : ((backTo cpos (starEach (e :: es) X.env)).all (fun x => !x.1) && (backToKw cpos (keywordEach [] X.env)).all (fun x => x.1.isSome)
      && decide ((e :: es).length + ([] : List Keyword).length + (if ([] : List Keyword).isEmpty then 0 else 1) < 30)) = true := by rfl)
    (hline : (apos.endLine == cpos.line) = true := by rfl) (hs : starEach (e :: es) X.env = (false, eval e X.env) :: starEach es X.env := by rfl) (hplain : (backTo cpos (starEach es X.env)).any (·.1) = false := by rfl) :
    PD X G (.Call (.Attribute o "index" apos) (e :: es) [] cpos) (dBM ckL tIndex to ts) :=
  pd_bm PySem.F.plainAttrs_list PySem.F.slot_list_index PySem.F.type_list_index mt_index (fun s h c => ckL_ty s h c) md_index ho ha hbase hfew hline hs hplain
end DL
/-! DL, part N: dicts whose keys are tuples, nested. -/
namespace DL
open PySem PySem.Spec PyProof.Rows L2
def atN (xs : List (NK × Addr × V)) (k : NK) : Option (Addr × V) := (xs.find? fun x => decide (x.1 = k)).map (·.2)
def storedN (xs : List (NK × Addr × V)) (k : NK) (b : Addr) (v : V) : List (NK × Addr × V) := if (atN xs k).isSome then xs.map (fun x => if x.1 = k then (x.1, x.2.1, v) else x) else xs ++ [(k, b, v)]
theorem RelN.at_ {xs : List (NK × Addr × V)} {vs : List (NK × Addr × Value)} (r : RelN xs vs) (k : NK) : (atN xs k = none ∧ atKey vs k = none) ∨ ∃ c v w, atN xs k = some (c, v) ∧ atKey vs k = some (c, w) ∧ RelV v w := by
  induction r with
  | nil => exact .inl ⟨rfl, rfl⟩
  | @cons p q ps qs h t ih =>
    obtain ⟨h1, h2, h3⟩ := h
    by_cases e : p.1 = k
    · have e' : q.1 = k := h1.symm.trans e
      refine .inr ⟨p.2.1, p.2.2, q.2.2, ?_, ?_, h3⟩
      · simp [atN, List.find?_cons, e]
      · simp [atKey, List.find?_cons, e', h2]
    · have e' : ¬ q.1 = k := fun z => e (h1.trans z)
      have a : atN (p :: ps) k = atN ps k := by simp [atN, List.find?_cons, e]
      have b : atKey (q :: qs) k = atKey qs k := by simp [atKey, List.find?_cons, e']
      rw [a, b]
      exact ih
theorem RelN.some_eq {xs : List (NK × Addr × V)} {vs : List (NK × Addr × Value)} (r : RelN xs vs) (k : NK) : (atN xs k).isSome = (atKey vs k).isSome := by
  rcases r.at_ k with ⟨h1, h2⟩ | ⟨c, v, w, h1, h2, _⟩ <;> rw [h1, h2] <;> rfl
theorem RelN.snoc {xs : List (NK × Addr × V)} {vs : List (NK × Addr × Value)} {p : NK × Addr × V} {q : NK × Addr × Value} (r : RelN xs vs) (h : p.1 = q.1 ∧ p.2.1 = q.2.1 ∧ RelV p.2.2 q.2.2) : RelN (xs ++ [p]) (vs ++ [q]) := by
  induction r with
  | nil => exact .cons h .nil
  | cons h' t ih => exact .cons h' ih
theorem RelN.repl {xs : List (NK × Addr × V)} {vs : List (NK × Addr × Value)} (r : RelN xs vs) (k : NK) {v : V} {u : Value} (h : RelV v u) : RelN (xs.map fun x => if x.1 = k then (x.1, x.2.1, v) else x) (vs.map (putAt k u)) := by
  induction r with
  | nil => exact .nil
  | @cons p q ps qs h' t ih =>
    rw [List.map_cons, List.map_cons]
    refine .cons ?_ ih
    obtain ⟨h1, h2, h3⟩ := h'
    unfold putAt
    by_cases e : p.1 = k
    · rw [if_pos e, if_pos (h1.symm.trans e)]; exact ⟨h1, h2, h⟩
    · rw [if_neg e, if_neg (fun z => e (h1.trans z))]; exact ⟨h1, h2, h3⟩
theorem RelN.store {xs : List (NK × Addr × V)} {vs : List (NK × Addr × Value)} (r : RelN xs vs) (k : NK) (b : Addr) {v : V} {u : Value} (h : RelV v u) : RelN (storedN xs k b v) (storedH vs k b u) := by
  unfold storedN storedH
  rw [r.some_eq k]
  split
  · exact r.repl k h
  · exact RelN.snoc r ⟨rfl, rfl, h⟩
theorem RelN.len {xs : List (NK × Addr × V)} {vs : List (NK × Addr × Value)} (r : RelN xs vs) : xs.length = vs.length := Paired.length r
theorem RelN.keys {xs : List (NK × Addr × V)} {vs : List (NK × Addr × Value)} (r : RelN xs vs) : xs.map (·.1) = vs.map (·.1) := by
  induction r with
  | nil => rfl
  | cons h t ih => rw [List.map_cons, List.map_cons, ih, h.1]
section
variable {X : Cx} {pins : List (Addr × Obj)} {σ : L2.St} {H : Hp} {s : Shared}
mutual
theorem nis (I : Inv X pins σ H s) : ∀ {k : NK} {v : V} {u : Value}, Rp (wl X) H v k.data → RelV v u → NestedIs s.heap k u
  | .none, _, u, h, r => by
    cases h
    obtain rfl : u = .none := r
    exact .none
  | .num i, _, u, h, r => by
    cases h
    obtain ⟨t, rfl⟩ := r
    exact .int i t
  | .text x, _, u, h, r => by
    cases h
    obtain ⟨t, rfl⟩ := r
    exact .text x t
  | .tup ks, _, u, h, r => by
    cases h with
    | tup h1 h2 =>
      obtain rfl : u = .ref _ := r
      obtain ⟨its, rv, ⟨o, e, c, n, d⟩, _⟩ := I.tuple h1
      exact .tup e c d (by simpa using niss I h2 rv)
theorem niss (I : Inv X pins σ H s) : ∀ {ks : List NK} {vs : List V} {us : List Value}, Rps (wl X) H vs (NestedKey.datas ks) → Vals vs us → NestedAll s.heap ks us
  | [], _, _, h, r => by cases h; cases r; exact .nil
  | k :: ks, _, _, h, r => by
    cases h with
    | cons h1 h2 =>
      cases r with
      | cons r1 r2 => exact .cons (nis I h1 r1) (niss I h2 r2)
end
/-- the keys of a dict stand there -/
def KeysN (g : Wl) (H : Hp) (xs : List (NK × Addr × V)) : Prop := ∀ x ∈ xs, Rp g H (.ref x.2.1) x.1.data
theorem Rpn.keys {g : Wl} {F H : Hp} (s : Same F H) : ∀ {xs : List (NK × Addr × V)} {kvs : List (D × D)}, Rpn g F xs kvs → KeysN g H xs
  | _, _, .nil => fun x hx => nomatch hx
  | _, _, .cons h0 _ t => fun x hx => by
    rcases List.mem_cons.mp hx with rfl | hx
    · exact h0.mono s
    · exact Rpn.keys s t x hx
theorem dnAt (I : Inv X pins σ H s) {a : Addr} {ob : Obj} {xs : List (NK × Addr × V)} (e : H a = some (dN (wl X) a ob xs)) (hk : KeysN (wl X) H xs) :
    (a == sysModules) = false ∧ xs.length ≤ sizeLine ∧ (∀ x ∈ xs, x.1.depth ≤ 8) ∧ (xs.map (·.1)).Nodup ∧ ∃ vs, RelN xs vs ∧ s.heap.DictOfH (nestedKind X.prog X.w) a vs := by
  obtain ⟨⟨e1, h1, h2, hd, h3, vs, r, es, ep, e2, e3, e4⟩, _, _⟩ := I.hok a _ e
  refine ⟨h1, h2, hd, h3, vs, r, ob, es, ep, e1, e2, e3, e4, fun x hx => ?_, by rw [← r.keys]; exact h3⟩
  have key : ∀ {xs : List (NK × Addr × V)} {vs : List (NK × Addr × Value)}, RelN xs vs → ∀ x ∈ vs, ∃ y ∈ xs, y.1 = x.1 ∧ y.2.1 = x.2.1 := by
    intro xs vs r
    induction r with
    | nil => intro x hx; cases hx
    | @cons p q ps qs h t ih =>
      intro x hx
      rcases List.mem_cons.mp hx with rfl | hx
      · exact ⟨p, List.mem_cons_self, h.1, h.2.1⟩
      · obtain ⟨y, hy, z⟩ := ih x hx
        exact ⟨y, List.mem_cons_of_mem _ hy, z⟩
  obtain ⟨y, hy, y1, y2⟩ := key r x hx
  rw [← y1, ← y2]
  exact ⟨nis I (hk y hy) rfl, hd y hy⟩
theorem dn_ok {P : Program} {w : World} {K : PySem.W.Frag} {H' : Hp} {h' : Heap} {a : Addr} {xs : List (NK × Addr × V)} {vs : List (NK × Addr × Value)} (h1 : (a == sysModules) = false) (h2 : xs.length ≤ sizeLine) (hd : ∀ x ∈ xs, x.1.depth ≤ 8) (r : RelN xs vs) (dd : h'.DictOfH (nestedKind P w) a vs) :
    ∃ ob, ObjOk P w H' h' a (dN ⟨P, w, K⟩ a ob xs) := by
  obtain ⟨o, es, ep, e1, e2, e3, e4, _, nd⟩ := dd
  refine ⟨o, ⟨e1, h1, h2, hd, by rw [r.keys]; exact nd, vs, r, es, ep, e2, e3, e4⟩, ⟨o, e1⟩, ?_⟩
  rintro g1 g2 ⟨a1, a2⟩ k
  exact ⟨k _ a1, a2⟩
theorem storedN_len {xs : List (NK × Addr × V)} {k : NK} {b : Addr} {v : V} : (storedN xs k b v).length ≤ xs.length + 1 := by
  unfold storedN
  split <;> simp
theorem storedN_dep {xs : List (NK × Addr × V)} {k : NK} {b : Addr} {v : V} (h : ∀ x ∈ xs, x.1.depth ≤ 8) (hk : k.depth ≤ 8) : ∀ x ∈ storedN xs k b v, x.1.depth ≤ 8 := by
  unfold storedN
  split
  · intro x hx
    obtain ⟨y, hy, rfl⟩ := List.mem_map.mp hx
    split
    · exact h y hy
    · exact h y hy
  · intro x hx
    rcases List.mem_append.mp hx with hx | hx
    · exact h x hx
    · rw [List.mem_singleton.mp hx]; exact hk
/-- what is asked of a key -/
structure KeyN (g : Wl) (H : Hp) (x : V) (k : NK) : Prop where
  at_ : ∃ b, x = .ref b
  rp : Rp g H x k.data
  dep : k.depth ≤ 8
def rInN (g : Wl) (neg : Bool) : R2 := fun x y H Q => ∃ a ob xs k, y = .ref a ∧ KeyN g H x k ∧ H a = some (dN g a ob xs) ∧ KeysN g H xs ∧ Q (.bl (if neg then !(atN xs k).isSome else (atN xs k).isSome)) H
theorem roomN (hu : X.A.units + 64 < cLine) : (nestedKind X.prog X.w).room X.A.in1 := by
  show X.A.units + 1 + 8 < cLine
  omega
theorem op_inN (hu : X.A.units + 64 < cLine) : OpR X (compareOp .In) (rInN (wl X) false) := by
  intro pins s σ H x y v u Q I rx ry h
  obtain ⟨a, ob, xs, k, rfl, ⟨⟨b, rfl⟩, hk, hd⟩, e, ks, q⟩ := h
  obtain rfl : u = .ref a := ry
  obtain rfl : v = .ref b := rx
  obtain ⟨h1, h2, h3, h4, vs, r, dd⟩ := dnAt I e ks
  refine wpAny_in_heap (roomN hu) (knd := nestedKind X.prog X.w) (k := k) ⟨nis I hk rfl, hd⟩ h1 dd ?_
  rw [← r.some_eq k]
  exact ⟨.bl _, H, I.tok _, rfl, q⟩
theorem op_notInN (hu : X.A.units + 64 < cLine) : OpR X (compareOp .NotIn) (rInN (wl X) true) := by
  intro pins s σ H x y v u Q I rx ry h
  obtain ⟨a, ob, xs, k, rfl, ⟨⟨b, rfl⟩, hk, hd⟩, e, ks, q⟩ := h
  obtain rfl : u = .ref a := ry
  obtain rfl : v = .ref b := rx
  obtain ⟨h1, h2, h3, h4, vs, r, dd⟩ := dnAt I e ks
  refine wpAny_notIn_heap (roomN hu) (knd := nestedKind X.prog X.w) (k := k) ⟨nis I hk rfl, hd⟩ h1 dd ?_
  rw [← r.some_eq k]
  exact ⟨.bl _, H, I.tok _, rfl, q⟩
def rGetN (g : Wl) : R2 := fun x y H Q => ∃ a ob xs k c v, x = .ref a ∧ KeyN g H y k ∧ H a = some (dN g a ob xs) ∧ KeysN g H xs ∧ atN xs k = some (c, v) ∧ Q v H
theorem ix_N (hu : X.A.units + 64 < cLine) : IxR X (rGetN (wl X)) := by
  intro value slice pins s σ H x y v u Q I rx ry h hs
  obtain ⟨a, ob, xs, k, c, w', rfl, ⟨⟨b, rfl⟩, hk, hd⟩, e, ks, hat, q⟩ := h
  obtain rfl : v = .ref a := rx
  obtain rfl : u = .ref b := ry
  obtain ⟨h1, h2, h3, h4, vs, r, dd⟩ := dnAt I e ks
  obtain ⟨w, hw, rw'⟩ : ∃ w, atKey vs k = some (c, w) ∧ RelV w' w := by
    rcases r.at_ k with ⟨z, _⟩ | ⟨c', v', w, z1, z2, z3⟩
    · rw [hat] at z; cases z
    · rw [hat] at z1; cases z1; exact ⟨w, z2, z3⟩
  have hT := dd.typeIs
  unfold subscriptTail
  refine wpAny_bind ?_
  rw [getitemInPython_of_ne hT.not_modules]
  refine wpAny_bind (wpAny_specialOf hT PySem.F.slot_dict_getitem.lookup ?_)
  have fin : wpAny (model X.prog X.w) X.A (subscripted slice false (.ref a) (.ref b)) (fun r s₃ => wpAny (model X.prog X.w) X.A (letTemporaryGo value (.ref a) r >>= fun _ => pure r) (EP X pins σ Q) X.xe s₃) X.xe s := by
    rw [hs]
    refine wpAny_operating (wpAny_getItem_heap (roomN hu) (knd := nestedKind X.prog X.w) (k := k) ⟨nis I hk rfl, hd⟩ dd hw ?_)
    exact wpAny_bind (wpAny_letTemporaryGo (wpAny_pure ⟨w', H, I.tok _, rw', q⟩))
  first
    | exact wpAny_pure (wpAny_bind fin)
    | exact wpAny_bind (wpAny_pure (wpAny_bind fin))
    | exact wpAny_bind fin
/-- d.get(k, x) -/
def rGet2N (g : Wl) : V → List V → Hp → VK → Prop := fun x vs H Q => ∃ a ob xs k y z, x = .ref a ∧ vs = [y, z] ∧ KeyN g H y k ∧ H a = some (dN g a ob xs) ∧ KeysN g H xs ∧ Q (((atN xs k).map (·.2)).getD z) H
theorem mt_get2N (hu : X.A.units + 64 < cLine) : MtR X "dict.get" (rGet2N (wl X)) := by
  intro pins s σ H x ws v us Q I rx rs h
  obtain ⟨a, ob, xs, k, y, z, rfl, rfl, ⟨⟨b, rfl⟩, hk, hd⟩, e, ks, q⟩ := h
  obtain rfl : v = .ref a := rx
  obtain ⟨u1, u2, rfl, r1, r2⟩ := vals2 rs
  obtain rfl : u1 = .ref b := r1
  obtain ⟨h1, h2, h3, h4, vs, r, dd⟩ := dnAt I e ks
  refine call_meetsIn PySem.F.slot_dict_get dd.typeIs PySem.F.entry_dict_get (PySem.F.args_dict_get_3 _ _ _) (meetsH_dict_get_default (nestedKind X.prog X.w) a b h1 u2) ⟨roomN hu, k, vs, ⟨nis I hk rfl, hd⟩, dd, _, H, I.tok _, ?_, q⟩
  rcases r.at_ k with ⟨z1, z2⟩ | ⟨c', v', w, z1, z2, z3⟩
  · rw [z1, z2]; exact r2
  · rw [z1, z2]; exact z3
/-- {} -/
def tNewN (g : Wl) : TE := fun _ H Q => ∀ p ob, H p = none → Q (.ref p) (upd H p (dN g p ob []))
theorem pe_newN {pos : Pos} : PE X (.Dict [] [] pos) (tNewN (wl X)) := ⟨fun pins s σ H Q I h => by
  obtain ⟨ob, ok⟩ := dn_ok (P := X.prog) (w := X.w) (K := X.K) (H' := upd H s.heap.objs.size (.lst [])) (a := s.heap.objs.size) (xs := []) (vs := []) (beq_eq_false_iff_ne.mpr (Ne.symm (Nat.ne_of_lt I.big))) (Nat.zero_le _) (fun _ z => nomatch z) .nil (Heap.DictOfH.new s.heap)
  exact wpAny_Dict_empty ⟨.ref s.heap.objs.size, _, I.laid (a := s.heap.objs.size) (o := dN (wl X) s.heap.objs.size ob []) (t' := s.toks) (fun _ _ q => Heap.get?_push_of_some _ q) (Nat.le_refl _) ok, rfl, h _ ob (I.hok.fresh (Nat.le_refl _))⟩⟩
/-- o[i] = v -/
def sPutN (g : Wl) (td ty tv : TE) : TS := fun D σ H => tv σ H fun v H1 => td σ H1 fun x H2 => ty σ H2 fun y H3 => ∃ a ob xs k b, x = .ref a ∧ y = .ref b ∧ KeyN g H3 y k ∧ H3 a = some (dN g a ob xs) ∧ KeysN g H3 xs ∧ xs.length < sizeLine ∧ ∀ ob', D.nx σ (upd H3 a (dN g a ob' (storedN xs k b v)))
theorem ps_putN {o i value : Expr} {td ty tv : TE} {pos pos' : Pos} (hu : X.A.units + 64 < cLine) (ho : PE X o td) (hi : PE X i ty) (hv : PE X value tv) (hs : swapsWith value (some (.Subscript o i pos')) pos.line X.env = pure false) :
    PS X (.Assign [.Subscript o i pos'] value pos) (sPutN (wl X) td ty tv) := by
  refine ⟨fun pins s σ H D I h => ?_⟩
  refine wpAny_Assign_Subscript (thn (hv.run pins s σ H _ I h) fun r s1 ⟨v, H1, I1, rv, q1⟩ => thn (ho.run pins s1 σ H1 _ I1 q1) fun u s2 ⟨x, H2, I2, rx, q2⟩ => thn (hi.run pins s2 σ H2 _ I2 q2) fun iv s3 ⟨y, H3, I3, ry, a, ob, xs, k, b, ex, ey, ⟨_, hk, hd⟩, e, ks, hl, q3⟩ => ?_) hs
  subst ex; subst ey
  obtain rfl : u = .ref a := rx
  obtain rfl : iv = .ref b := ry
  obtain ⟨h1, h2, h3, h4, vs, rel, dd⟩ := dnAt I3 e ks
  refine wpAny_setItem_heap (hsz := by rw [← rel.len]; exact h2) (roomN hu) (knd := nestedKind X.prog X.w) (k := k) ⟨nis I3 hk rfl, hd⟩ dd fun h' dd' hs' => ?_
  have he : ∃ q, h'.get? a = some q := let ⟨q, _, _, hq, _⟩ := dd'; ⟨q, hq⟩
  obtain ⟨ob', ok⟩ := dn_ok (P := X.prog) (w := X.w) (K := X.K) (H' := upd H3 a (.lst [])) h1 (by have := storedN_len (xs := xs) (k := k) (b := b) (v := v); omega) (storedN_dep h3 hd) (rel.store k b rv) dd'
  exact ⟨σ, _, d_write (ob := dN (wl X) a ob' (storedN xs k b v)) I3 (by rw [e]; exact True.intro) hs' he ok, q3 ob'⟩
end
end DL
/-! DL, part O: dicts of tuple keys over data. -/
namespace DL
open PySem PySem.Spec PyProof.Rows L2
/-! ### keys as data -/
mutual
theorem nk_pl : ∀ k : NK, pl k.data = true
  | .none => rfl
  | .num _ => rfl
  | .text _ => rfl
  | .tup ks => nks_pl ks
theorem nks_pl : ∀ ks : List NK, pls (NestedKey.datas ks) = true
  | [] => rfl
  | k :: ks => by
    show (pl k.data && pls (NestedKey.datas ks)) = true
    rw [nk_pl k, nks_pl ks] <;> rfl
end
mutual
theorem nk_inj : ∀ {k l : NK}, k.data = l.data → k = l
  | .none, .none, _ => rfl
  | .num _, .num _, h => by injection h with h; rw [h]
  | .text _, .text _, h => by injection h with h; rw [h]
  | .tup ks, .tup ls, h => by
    have h' : NestedKey.datas ks = NestedKey.datas ls := by injection h
    rw [nks_inj h']
  | .none, .num _, h => by cases h
  | .none, .text _, h => by cases h
  | .none, .tup _, h => by cases h
  | .num _, .none, h => by cases h
  | .num _, .text _, h => by cases h
  | .num _, .tup _, h => by cases h
  | .text _, .none, h => by cases h
  | .text _, .num _, h => by cases h
  | .text _, .tup _, h => by cases h
  | .tup _, .none, h => by cases h
  | .tup _, .num _, h => by cases h
  | .tup _, .text _, h => by cases h
theorem nks_inj : ∀ {ks ls : List NK}, NestedKey.datas ks = NestedKey.datas ls → ks = ls
  | [], [], _ => rfl
  | [], _ :: _, h => by cases h
  | _ :: _, [], h => by cases h
  | k :: ks, l :: ls, h => by
    have h' : k.data = l.data ∧ NestedKey.datas ks = NestedKey.datas ls := by
      have h2 : k.data :: NestedKey.datas ks = l.data :: NestedKey.datas ls := h
      injection h2 with a b
      exact ⟨a, b⟩
    rw [nk_inj h'.1, nks_inj h'.2]
end
theorem eqv_nk {k l : NK} : PyData.eqv k.data l.data = decide (k = l) := eqv_pl_dec (nk_pl k) (nk_pl l) ⟨nk_inj, fun h => by rw [h]⟩
/-- data that may be a key here: a tuple, nested to depth 8 -/
def isKey (d : D) : Prop := ∃ ks : List NK, d = (NestedKey.tup ks).data ∧ (NestedKey.tup ks).depth ≤ 8
def lookN (kvs : List (D × D)) (k : D) : Option D := (kvs.find? fun kv => PyData.eqv kv.1 k).map (·.2)
def storeN (kvs : List (D × D)) (k v : D) : List (D × D) := if (lookN kvs k).isSome then kvs.map (fun kv => if PyData.eqv kv.1 k then (kv.1, v) else kv) else kvs ++ [(k, v)]
def dctD (kvs : List (D × D)) : Prop := ∀ kv ∈ kvs, ∃ ks, kv.1 = .tuple ks
section
variable {g : Wl} {F H : Hp}
theorem Rpn.look {k : NK} : ∀ {xs : List (NK × Addr × V)} {kvs : List (D × D)}, Rpn g F xs kvs → (atN xs k = none ∧ lookN kvs k.data = none) ∨ ∃ c v d, atN xs k = some (c, v) ∧ lookN kvs k.data = some d ∧ Rp g F v d
  | _, _, .nil => .inl ⟨rfl, rfl⟩
  | _, _, .cons (k := l) (b := b) (v := v) (d := d) (xs := xs) (kvs := kvs) h0 h1 t => by
    by_cases e : l = k
    · refine .inr ⟨b, v, d, ?_, ?_, h1⟩
      · simp [atN, List.find?_cons, e]
      · simp [lookN, List.find?_cons, e, eqv_nk]
    · have a1 : atN ((l, b, v) :: xs) k = atN xs k := by simp [atN, List.find?_cons, e]
      have a2 : lookN ((l.data, d) :: kvs) k.data = lookN kvs k.data := by
        have : PyData.eqv l.data k.data = false := by rw [eqv_nk]; exact decide_eq_false e
        simp [lookN, List.find?_cons, this]
      rw [a1, a2]
      exact Rpn.look t
theorem Rpn.some_eq {k : NK} {xs : List (NK × Addr × V)} {kvs : List (D × D)} (r : Rpn g F xs kvs) : (atN xs k).isSome = (lookN kvs k.data).isSome := by
  rcases r.look (k := k) with ⟨h1, h2⟩ | ⟨c, v, d, h1, h2, _⟩ <;> rw [h1, h2] <;> rfl
theorem Rpn.repl {k : NK} {v : V} {d : D} (h : Rp g F v d) : ∀ {xs : List (NK × Addr × V)} {kvs : List (D × D)}, Rpn g F xs kvs → Rpn g F (xs.map fun x => if x.1 = k then (x.1, x.2.1, v) else x) (kvs.map fun kv => if PyData.eqv kv.1 k.data then (kv.1, d) else kv)
  | _, _, .nil => .nil
  | _, _, .cons (k := l) (b := b) (v := v') (d := d') (xs := xs) (kvs := kvs) h0 h1 t => by
    rw [List.map_cons, List.map_cons]
    by_cases e : l = k
    · have e2 : PyData.eqv l.data k.data = true := by rw [eqv_nk]; exact decide_eq_true e
      simp only [e2, if_true]
      rw [if_pos e]
      exact .cons h0 h (Rpn.repl h t)
    · have e2 : PyData.eqv l.data k.data = false := by rw [eqv_nk]; exact decide_eq_false e
      simp only [e2]
      rw [if_neg e, if_neg (by decide)]
      exact .cons h0 h1 (Rpn.repl h t)
theorem Rpn.snoc {k : NK} {b : Addr} {v : V} {d : D} (h0 : Rp g F (.ref b) k.data) (h : Rp g F v d) : ∀ {xs : List (NK × Addr × V)} {kvs : List (D × D)}, Rpn g F xs kvs → Rpn g F (xs ++ [(k, b, v)]) (kvs ++ [(k.data, d)])
  | _, _, .nil => .cons h0 h .nil
  | _, _, .cons a1 a2 t => .cons a1 a2 (Rpn.snoc h0 h t)
theorem Rpn.store {k : NK} {b : Addr} {v : V} {d : D} {xs : List (NK × Addr × V)} {kvs : List (D × D)} (r : Rpn g F xs kvs) (h0 : Rp g F (.ref b) k.data) (h : Rp g F v d) : Rpn g F (storedN xs k b v) (storeN kvs k.data d) := by
  unfold storedN storeN
  rw [r.some_eq]
  split
  · exact r.repl h
  · exact r.snoc h0 h
theorem Rpn.len : ∀ {xs : List (NK × Addr × V)} {kvs : List (D × D)}, Rpn g F xs kvs → xs.length = kvs.length
  | _, _, .nil => rfl
  | _, _, .cons _ _ t => by rw [List.length_cons, List.length_cons, Rpn.len t]
theorem Bp.ff {F' : Hp} {v : V} {d : D} (h : Bp g F H v d) (s : Same F F') : Bp g F' H v d := by
  cases h with
  | of h => exact .of (h.mono s)
  | ow h => exact .ow (h.mono s rfl)
theorem Bp.dct {v : V} {kvs : List (D × D)} (s : Same F H) (c : dctD kvs) (h : Bp g F H v (.dict kvs)) : ∃ a ob xs, v = .ref a ∧ H a = some (dN g a ob xs) ∧ Rpn g F xs kvs := by
  generalize e : (PyData.dict kvs) = d at h
  cases h with
  | of h =>
    subst e
    cases h with
    | scr h1 h2 => obtain ⟨_, z⟩ := c _ List.mem_cons_self; cases z
    | dct h1 h2 => exact ⟨_, _, _, rfl, s _ _ h1, h2⟩
    | dck h1 h2 => obtain ⟨_, z⟩ := c _ List.mem_cons_self; cases z
  | @ow a o h =>
    cases o with
    | lst es => cases e
    | dct es => cases e; obtain ⟨ob, xs, h1, h2⟩ := h; exact ⟨_, _, _, rfl, h1, h2⟩
    | dck es => cases e; obtain ⟨_, z⟩ := c _ List.mem_cons_self; cases z
theorem Bp.key {v : V} {d : D} (s : Same F H) (c : isKey d) (h : Bp g F H v d) : ∃ k : NK, d = k.data ∧ KeyN g H v k ∧ Rp g F v k.data ∧ ∃ b, v = .ref b := by
  obtain ⟨ks, rfl, dp⟩ := c
  have r : Rp g F v (NestedKey.tup ks).data := Bp.frozenT h
  have hb : ∃ b, v = .ref b := by
    have r' : Rp g F v (.tuple (NestedKey.datas ks)) := r
    cases r' with
    | tup _ _ => exact ⟨_, rfl⟩
  exact ⟨.tup ks, rfl, ⟨hb, r.mono s, dp⟩, r, hb⟩
end
/-! ### in, d[k], d.get(k, x) -/
def tDIn (neg : Bool) (x y : D) (Q : Op → Prop) : Prop := match y with
  | .dict kvs => (isKey x ∧ dctD kvs) ∧ Q (.vl (.bool (if neg then !(lookN kvs x).isSome else (lookN kvs x).isSome)))
  | _ => False
theorem od_din {g : Wl} {neg : Bool} : OpD g (rInN g neg) (tDIn neg) := by
  intro F H x y dx dy Qd Q s hx hy q k
  unfold tDIn at q
  split at q
  · rename_i kvs
    obtain ⟨⟨c1, c2⟩, q⟩ := q
    obtain ⟨a, ob, xs, rfl, h1, r⟩ := hy.dct s c2
    obtain ⟨kk, rfl, kn, _, _⟩ := hx.key s c1
    refine ⟨a, ob, xs, kk, rfl, kn, h1, r.keys s, ?_⟩
    rw [r.some_eq]
    exact k (.vl (.bool _)) _ F H (Grow.refl s) (Rp.bl _) q
  · exact q.elim
def tDGet (x y : D) (Q : Op → Prop) : Prop := match x with
  | .dict kvs => (isKey y ∧ dctD kvs) ∧ ∃ d, lookN kvs y = some d ∧ Q (.vl d)
  | _ => False
theorem od_dget {g : Wl} : OpD g (rGetN g) tDGet := by
  intro F H x y dx dy Qd Q s hx hy q k
  unfold tDGet at q
  split at q
  · rename_i kvs
    obtain ⟨⟨c1, c2⟩, d, hd, q⟩ := q
    obtain ⟨a, ob, xs, rfl, h1, r⟩ := hx.dct s c2
    obtain ⟨kk, rfl, kn, _, _⟩ := hy.key s c1
    rcases r.look (k := kk) with ⟨_, z⟩ | ⟨c, v, d', z1, z2, z3⟩
    · rw [hd] at z; cases z
    · rw [hd] at z2
      cases z2
      exact ⟨a, ob, xs, kk, c, v, rfl, kn, h1, r.keys s, z1, k (.vl d) v F H (Grow.refl s) z3 q⟩
  · exact q.elim
section
variable {X : Cx} {G : Gr}
def tGet2N (g : Wl) (td ty tx : TE) : TE := fun σ H Q => td σ H fun x H1 => ∃ a ob xs, x = .ref a ∧ H1 a = some (dN g a ob xs) ∧ ty σ H1 fun y H2 => tx σ H2 fun z H3 => rGet2N g x [y, z] H3 Q
theorem pe_get2N {o e f : Expr} {apos cpos : Pos} {td ty tx : TE} (hu : X.A.units + 64 < cLine) (ho : PE X o td) (he : PE X e ty) (hf : PE X f tx) (m : M2 X o "get" apos e f cpos) : PE X (.Call (.Attribute o "get" apos) [e, f] [] cpos) (tGet2N (wl X) td ty tx) := by
  refine ⟨fun pins s σ H Q I h => ?_⟩
  refine wpAny_Call_method m.base m.few m.line PySem.F.plainAttrs_dict PySem.F.slot_dict_get PySem.F.type_dict_get (thn (ho.run pins s σ H _ I h) fun u s1 ⟨x, H1, I1, rx, a, ob, xs, ex, d, q1⟩ => ?_)
  subst ex
  obtain rfl : u = Value.ref a := rx
  obtain ⟨⟨e1, h1, h2, hd, h3, vs, r, es, ep, e2, e3, e4⟩, _, _⟩ := I1.hok a _ d
  refine ⟨⟨_, e1, e2.1⟩, fun b q => ?_, ?_⟩
  · cases q
    exact ⟨_, e1, e2.2.1⟩
  rw [m.trees]
  refine Calls.callWith_builtin rfl (Calls.evalArgs_plain (Calls.spliced_cons (thn (he.run pins s1 σ H1 _ I1 q1) fun iv s2 ⟨y, H2, I2, ry, q2⟩ =>
    Calls.spliced_cons (thn (hf.run pins s2 σ H2 _ I2 q2) fun fv s3 ⟨z, H3, I3, rz, q3⟩ => Calls.spliced_nil ?_))))
  exact mt_get2N hu pins s3 σ H3 (.ref a) [y, z] (.ref a) [iv, fv] Q I3 rfl (.cons ry (.cons rz .nil)) q3
def dDGet2 (to tk tx : DE) : DE := fun e Q => to e fun ro e1 => (withO e1 ro fun d => ∃ kvs, d = .dict kvs ∧ dctD kvs) ∧ tk e1 fun rk e2 => tx e2 fun rx e3 => withO e3 (pend ro) fun d => withO e3 (pend rk) fun k => onD rx fun x => ∃ kvs, d = .dict kvs ∧ (isKey k ∧ dctD kvs) ∧ Q (.vl ((lookN kvs k).getD x)) e3
theorem pd_dget2 {o e f : Expr} {apos cpos : Pos} {to tk tx : DE} (hu : X.A.units + 64 < cLine) (ho : PD X G o to) (he : PD X G e tk) (hf : PD X G f tx)
    (hbase : attributeBase o "get" X.env (eval o X.env) = eval o X.env := by rfl)
    (hfew : ((backTo cpos (starEach [e, f] X.env)).all (fun x => !x.1) && (backToKw cpos (keywordEach [] X.env)).all (fun x => x.1.isSome)
      && decide (([e, f] : List Expr).length + ([] : List Keyword).length + (if ([] : List Keyword).isEmpty then 0 else 1) < 30)) = true := by rfl)
    (hline : (apos.endLine == cpos.line) = true := by rfl) (ht : backTo cpos (starEach [e, f] X.env) = [(false, eval e X.env), (false, eval f X.env)] := by rfl) :
    PD X G (.Call (.Attribute o "get" apos) [e, f] [] cpos) (dDGet2 to tk tx) := by
  refine pe_mono (pe_get2N hu ho he hf ⟨hbase, hfew, hline, ht⟩) fun σ H Q q => ?_
  obtain ⟨e, F, Qd, I, hh, k⟩ := q
  refine ⟨e, F, _, I, hh, ?_⟩
  intro ro v e1 F1 H1 I1 s1 r1 q1
  obtain ⟨q0, q1⟩ := q1
  obtain ⟨d0, b0, kvs0, rfl, c0⟩ := bp_of I1 r1 q0
  obtain ⟨a, ob, xs, rfl, h1, _⟩ := b0.dct I1.sub c0
  refine ⟨a, ob, xs, rfl, h1, ?_⟩
  obtain ⟨F1', I1', s1', r1'⟩ := rr_pend I1 r1
  refine ⟨e1, F1', _, I1', q1, ?_⟩
  intro rk vk e2 F2 H2 I2 s2 r2 q2
  obtain ⟨F2', I2', s2', r2'⟩ := rr_pend I2 r2
  refine ⟨e2, F2', _, I2', q2, ?_⟩
  intro rx vx e3 F3 H3 I3 s3 r3 q3
  have ro3 : RR (wl X) G σ e3 F3 H3 (.ref a) (pend ro) := rr_keep ((s2.trans s2').trans s3) r1'
  have rk3 : RR (wl X) G σ e3 F3 H3 vk (pend rk) := rr_keep s3 r2'
  obtain ⟨dd, bd, q4⟩ := bp_of I3 ro3 q3
  obtain ⟨dk, bk, q5⟩ := bp_of I3 rk3 q4
  obtain ⟨F4, x, I4, s4, rx4, kvs, rfl, ⟨c1, c2⟩, q6⟩ := frozen_of I3 r3 q5
  have bd4 : Bp (wl X) F4 H3 (.ref a) (.dict kvs) := bd.ff s4
  obtain ⟨a', ob', xs', e', h1', r'⟩ := bd4.dct I4.sub c2
  cases e'
  obtain ⟨kk, rfl, kn, _, _⟩ := bk.key I3.sub c1
  refine ⟨a, ob', xs', kk, vk, vx, rfl, rfl, kn, h1', r'.keys I4.sub, ?_⟩
  have fin : ∀ v d, Rp (wl X) F4 v d → Qd (.vl d) e3 → Q v H3 := fun v d rv qq => k (.vl d) v e3 F4 H3 I4 ((((s1.trans s1').trans (s2.trans s2')).trans s3).trans s4) rv qq
  rcases r'.look (k := kk) with ⟨z1, z2⟩ | ⟨c, v, d', z1, z2, z3⟩
  · rw [z2] at q6
    rw [z1]
    exact fin vx x rx4 q6
  · rw [z2] at q6
    rw [z1]
    exact fin v d' z3 q6
/-- {} -/
def dDNew : DE := fun e Q => Q (.tm (.dct [])) e
theorem pd_dnew {pos : Pos} : PD X G (.Dict [] [] pos) dDNew := by
  refine pe_mono pe_newN fun σ H Q q => ?_
  obtain ⟨e, F, Qd, I, hh, k⟩ := q
  intro p ob hp
  have w : Grow F H F (upd H p (dN (wl X) p ob [])) := Grow.tmp I.sub hp
  exact k (.tm (.dct [])) _ e F _ (I.grow w) w.ff (rr_of I w ⟨p, rfl, hp, I.sub.free hp, ob, [], upd_same, .nil⟩) hh
/-- x[k] = v, x a slot -/
def dPut (i : Nat) (tk tv : DE) : DS := fun D e => tv e fun rv e1 => (match ownI e1 i with | some _ => True | none => False) ∧ tk (frzO e1 rv) fun rk e2 => withO e2 rk fun k => vO rv fun v => ∃ kvs, ownI e2 i = some (.dct kvs) ∧ (isKey k ∧ kvs.length < 100000) ∧ D.nx (putO e2 i (.dct (storeN kvs k v)))
where
  frzO (e : Sv) (_ : Op) : Sv := e
  vO (r : Op) (k : D → Prop) : Prop := match pend r with
    | .vl d => k d
    | _ => False
theorem pds_dput {i : Nat} {o ix value : Expr} {tk tv : DE} {pos pos' : Pos} (hu : X.A.units + 64 < cLine) (ho : PE X o (tVar i)) (hi : PD X G ix tk) (hv : PD X G value tv) (hs : swapsWith value (some (.Subscript o ix pos')) pos.line X.env = pure false := by rfl) :
    PDS X G (.Assign [.Subscript o ix pos'] value pos) (dPut i tk tv) := by
  refine ps_mono (ps_putN hu ho hi hv hs) fun D σ H q => ?_
  obtain ⟨e, F, DD, I, hh, k1, k2, k3, k4⟩ := q
  refine ⟨e, F, _, I, hh, ?_⟩
  intro rv v e1 F1 H1 I1 s1 r1 q1
  obtain ⟨q0, q1⟩ := q1
  cases qo : ownI e1 i with
  | none => rw [qo] at q0; exact q0.elim
  | some o1 =>
    obtain ⟨a, a1, _, _⟩ := I1.own i o1 qo
    refine ⟨.ref a, a1, ?_⟩
    obtain ⟨F1', I1', s1', r1'⟩ := rr_pend I1 r1
    refine ⟨e1, F1', _, I1', q1, ?_⟩
    intro rk vk e2 F2 H2 I2 s2 r2 q2
    have rv2 : RR (wl X) G σ e2 F2 H2 v (pend rv) := rr_keep s2 r1'
    obtain ⟨kd, bk, q3⟩ := bp_of I2 r2 q2
    have hv : ∃ d, pend rv = .vl d ∧ ∃ kvs, ownI e2 i = some (.dct kvs) ∧ (isKey kd ∧ kvs.length < 100000) ∧ DD.nx (putO e2 i (.dct (storeN kvs kd d))) := by
      unfold dPut.vO at q3
      cases hp : pend rv with
      | vl d => rw [hp] at q3; exact ⟨d, rfl, q3⟩
      | tm o => rw [hp] at q3; exact q3.elim
      | sl j => rw [hp] at q3; exact q3.elim
    obtain ⟨d, hp, kvs, ho2, ⟨c1, c2⟩, q4⟩ := hv
    rw [hp] at rv2
    have rv3 : Rp (wl X) F2 v d := rv2
    obtain ⟨kk, rfl, kn, rk3, b, rfl⟩ := bk.key I2.sub c1
    obtain ⟨a', b1, b2, ob, xs, h1, h2⟩ := I2.own i _ ho2
    rw [a1] at b1
    cases b1
    refine ⟨a, ob, xs, kk, b, rfl, rfl, kn, h1, h2.keys I2.sub, by rw [h2.len]; exact lt_line c2, fun ob' => ?_⟩
    exact k1 σ _ F2 _ (I2.write (o' := .dct (storeN kvs kk.data d)) ho2 a1 ⟨ob', _, upd_same, h2.store rk3 rv3⟩) ((s1.trans s1').trans s2) q4
end
end DL
/-! DL, part P: dicts of tuple keys walked. -/
namespace DL
open PySem PySem.Spec PyProof.Rows L2
section
variable {X : Cx} {pins : List (Addr × Obj)} {σ : L2.St} {H : Hp} {s : Shared} {d : Addr} {ob : Obj} {xs : List (NK × Addr × V)}
theorem frzN (I : Inv X pins σ H s) (h : H d = some (dN (wl X) d ob xs)) : (d == sysModules) = false ∧ s.heap.get? d = some ob ∧ ob.ExactDict ∧ ∃ (es : Array DictEntry) (ep : Nat), ob.data = .dict es ep ∧ es.size = xs.length ∧ xs.length ≤ sizeLine ∧
    ∀ (i : Nat) (x : NK × Addr × V), xs[i]? = some x → ∃ en : DictEntry, es[i]? = some en ∧ en.key = .ref x.2.1 ∧ RelV x.2.2 en.val := by
  obtain ⟨⟨e1, h1, h2, hd, h3, vs, r, es, ep, e2, e3, e4⟩, _, _⟩ := I.hok d _ h
  refine ⟨h1, e1, e2, es, ep, e3, ?_, h2, fun i x hx => ?_⟩
  · have := size_of_entries e4
    rw [this]; exact r.len.symm
  · have key : ∀ {xs : List (NK × Addr × V)} {vs : List (NK × Addr × Value)} {i : Nat} {x : NK × Addr × V}, RelN xs vs → xs[i]? = some x → ∃ y, vs[i]? = some y ∧ x.2.1 = y.2.1 ∧ RelV x.2.2 y.2.2 := by
      intro xs vs i x r
      induction r generalizing i with
      | nil => intro h; simp at h
      | @cons p q ps qs h t ih =>
        intro hx
        cases i with
        | zero => simp at hx; subst hx; exact ⟨q, rfl, h.2.1, h.2.2⟩
        | succ i => exact ih (i := i) (by simpa using hx)
    obtain ⟨y, hy, y1, y2⟩ := key r hx
    have q := entry_at e4 i
    rw [hy] at q
    refine ⟨_, q, ?_, y2⟩
    rw [y1] <;> rfl
end
/-- the keys of the dict at d -/
def Itkn (g : Wl) (d : Addr) (ob : Obj) (xs : List (NK × Addr × V)) : It :=
  ⟨fun i H => H d = some (dN g d ob xs) ∧ i < xs.length, fun i H x H' => H' = H ∧ ∃ y, xs[i]? = some y ∧ x = .ref y.2.1, fun i H => H d = some (dN g d ob xs) ∧ xs.length ≤ i⟩
/-- its pairs, each a new tuple -/
def Itin (g : Wl) (d : Addr) (ob : Obj) (xs : List (NK × Addr × V)) : It :=
  ⟨fun i H => H d = some (dN g d ob xs) ∧ i < xs.length, fun i H x H' => ∃ T y, xs[i]? = some y ∧ x = .ref T ∧ H T = none ∧ H' = upd H T (.tup [.ref y.2.1, y.2.2]), fun i H => H d = some (dN g d ob xs) ∧ xs.length ≤ i⟩
section
variable {P : Program} {w : World} {K : PySem.W.Frag} {tg : Expr} {d : Addr} {ob : Obj} {es : Array DictEntry} {ep : Nat} {xs : List (NK × Addr × V)}
theorem turn_keysN (it : Addr) (hod : ob.data = .dict es ep) : Turn P w K tg (Itkn ⟨P, w, K⟩ d ob xs) [it] it (fun i h => h.IsKeyIter it d i xs.length ep) where
  mem := by simp
  obj := fun i h st b hb => by
    have e : b = it := by simpa using hb
    subst e
    obtain ⟨oi, e, c, dd⟩ := st
    exact ⟨oi, e, fun v z => by rw [dd] at z; cases z⟩
  keep := fun i h h' st k => st.at fun oi e => k it (by simp) oi e
  item := by
    intro X hP hw hK hc i pins s σ H E I hf st hg
    subst hP hw hK
    obtain ⟨hd, hi⟩ := hg
    obtain ⟨f0, f1, f2, f3, f4, f5⟩ := hf it (by simp)
    obtain ⟨hs, hgd, hx, es', ep', hdt, hsz, _, ent⟩ := frzN I hd
    obtain ⟨rfl, rfl⟩ := dict_ep hod hdt
    obtain ⟨y, hy⟩ : ∃ p, xs[i]? = some p := ⟨xs[i], List.getElem?_eq_getElem hi⟩
    obtain ⟨en, hen, hkey, hq⟩ := ent i y hy
    refine next_key_item st hgd hdt hsz hen fun h' st' sb => ?_
    have I1 : Inv X pins σ H { s with heap := h' } := I.turned (t' := s.toks) (fun b ob hb e => (sb.2 b hb).trans e) f0 f1 f3 f4 f5
    obtain ⟨oi, e, c, dd⟩ := id st'
    exact ⟨en.key, rfl, go_of (s := { s with heap := h' }) e c dd (by decide) ⟨.ref y.2.1, H, I1, hkey, ⟨rfl, y, hy, rfl⟩, st', fun b hb => (hf b hb).1⟩⟩
  done := by
    intro X hP hw hK hc i pins s σ H E I hf st hg
    subst hP hw hK
    obtain ⟨hd, hi⟩ := hg
    obtain ⟨f0, f1, f2, f3, f4, f5⟩ := hf it (by simp)
    obtain ⟨hs, hgd, hx, es', ep', hdt, hsz, _, ent⟩ := frzN I hd
    obtain ⟨rfl, rfl⟩ := dict_ep hod hdt
    exact next_key_end (I.ok.hd hc) st hgd hdt hsz hi fun h' eb => ⟨rfl, I.turned (t' := s.toks) (fun b ob hb e => eb b ob hb e) f0 f1 f3 f4 f5⟩
  self := fun A i s Q E st h => by
    refine wpAny_pyIter_slot st.typeIs F.slot_dict_keyiterator_iter (wpAny_call_entry F.slot_dict_keyiterator_iter st.typeIs F.entry_dict_keyiterator_iter ?_ (F.args_dict_keyiterator_iter_1 _))
    show wpAny _ _ (ret (.ref it)) _ _ s
    exact wpAny_pure ⟨_, rfl, "dict_keyiterator", _, st.typeIs, F.slot_dict_keyiterator_next.lookup, h⟩
theorem turn_itemsN {elts : List Expr} {kk : Nat} {tpos : Pos} (it : Addr) (hod : ob.data = .dict es ep) :
    Turn P w K (.Tuple elts kk tpos) (Itin ⟨P, w, K⟩ d ob xs) [it] it (fun i h => ∃ ok ov, IsItemIter h it d i xs.length ep ok ov) where
  mem := by simp
  obj := fun i h st b hb => by
    have e : b = it := by simpa using hb
    subst e
    obtain ⟨ok, ov, e⟩ := st
    exact ⟨_, e, fun v z => nomatch z⟩
  keep := fun i h h' st k => let ⟨ok, ov, e⟩ := st; ⟨ok, ov, k it (by simp) _ e⟩
  item := by
    intro X hP hw hK hc i pins s σ H E I hf st hg
    subst hP hw hK
    obtain ⟨hd, hi⟩ := hg
    obtain ⟨hs, hgd, hx, es', ep', hdt, hsz, _, ent⟩ := frzN I hd
    obtain ⟨rfl, rfl⟩ := dict_ep hod hdt
    obtain ⟨y, hy⟩ : ∃ p, xs[i]? = some p := ⟨xs[i], List.getElem?_eq_getElem hi⟩
    obtain ⟨en, hen, hkey, hq⟩ := ent i y hy
    obtain ⟨ok, ov, he⟩ := st
    rw [← hsz] at he
    have hlt : it < s.heap.objs.size := Heap.lt_size he
    have hes : i < es'.size := by omega
    have een : es'[i] = en := by
      rw [Array.getElem?_eq_getElem hes] at hen
      exact Option.some.inj hen
    refine _root_.DT.nextI he ⟨ob, hgd, hx, hdt⟩ hes fun h' ho hT hz hk => ?_
    rw [een] at ho hT
    refine ⟨_, rfl, wpAny_letOwnedTupleGo_items (s := { s with heap := h' }) ho fun h'' he' sb => ?_⟩
    have hT2 : h''.get? s.heap.objs.size = some { cls := .type "tuple", data := .seq #[en.key, en.val] } := (sb.2 _ (Nat.ne_of_gt hlt)).trans hT
    have new : ObjOk X.prog X.w (upd H s.heap.objs.size (.tup [.ref y.2.1, y.2.2])) h'' s.heap.objs.size (.tup [.ref y.2.1, y.2.2]) :=
      ⟨by show 2 ≤ sizeLine; decide, [en.key, en.val], .cons hkey (.cons hq .nil), ⟨_, hT2, rfl, _, rfl⟩⟩
    have I1 : Inv X pins σ (upd H s.heap.objs.size (.tup [.ref y.2.1, y.2.2])) { s with heap := h'' } :=
      I.turnedNew (t' := s.toks) (ch := [it]) (fun b ob hb e => (sb.2 b (by simpa using hb)).trans (hk b ob (by simpa using hb) e)) hf (Nat.le_refl _) new
    refine ⟨.ref s.heap.objs.size, _, I1, rfl, ⟨_, y, hy, rfl, I.hok.fresh (Nat.le_refl _), rfl⟩, ⟨en.key, en.val, ?_⟩, fun b hb => ?_⟩
    · rw [← hsz]; exact he'
    · have e : b = it := by simpa using hb
      rw [e, upd_ne (Nat.ne_of_lt hlt)]
      exact (hf it (by simp)).1
  done := by
    intro X hP hw hK hc i pins s σ H E I hf st hg
    subst hP hw hK
    obtain ⟨hd, hi⟩ := hg
    obtain ⟨f0, f1, f2, f3, f4, f5⟩ := hf it (by simp)
    obtain ⟨hs, hgd, hx, es', ep', hdt, hsz, _, ent⟩ := frzN I hd
    obtain ⟨rfl, rfl⟩ := dict_ep hod hdt
    obtain ⟨ok, ov, he⟩ := st
    rw [← hsz] at he
    exact _root_.DT.endI (I.ok.hd hc) he ⟨ob, hgd, hx, hdt⟩ (by omega) fun h' eb => ⟨rfl, I.turned (t' := s.toks) (fun b ob hb e => eb b ob hb e) f0 f1 f3 f4 f5⟩
  self := fun A i s Q E st h => let ⟨_, _, e⟩ := st; PySem.W.kcp_self e h
end
def iKeysN (g : Wl) (td : TE) : TI := fun σ H R => td σ H fun x H1 => ∃ d ob xs, x = .ref d ∧ H1 d = some (dN g d ob xs) ∧ R (Itkn g d ob xs) H1
def iItemsN (g : Wl) (td : TE) : TI := fun σ H R => td σ H fun x H1 => ∃ d ob xs, x = .ref d ∧ H1 d = some (dN g d ob xs) ∧ R (Itin g d ob xs) H1
section
variable {X : Cx} {G : Gr} {tg e : Expr} {td : TE} {apos cpos : Pos}
theorem pi_keysN (he : PE X e td) : PI X tg e (iKeysN (wl X) td) := by
  refine ⟨fun pins s σ H R I h => ?_⟩
  refine thn (he.run pins s σ H _ I h) fun u s1 ⟨x, H1, I1, rx, d, ob, xs, ex, hd, q⟩ => ?_
  subst ex
  obtain rfl : u = Value.ref d := rx
  obtain ⟨hs, hgd, hx, es, ep, hdt, hsz, _, ent⟩ := frzN I1 hd
  refine iter_keys hs hgd hx hdt (pi_one (tk := s1.toks) I1 _ (turn_keysN _ hdt) ⟨_, Heap.get?_push_size _ rfl, rfl, ?_⟩ q)
  rw [hsz] <;> rfl
theorem pi_itemsN {elts : List Expr} {kk : Nat} {tpos : Pos} (he : PE X e td) (hbase : attributeBase e "items" X.env (eval e X.env) = eval e X.env := by rfl) (hline : (apos.endLine == cpos.line) = true := by rfl) :
    PI X (.Tuple elts kk tpos) (.Call (.Attribute e "items" apos) [] [] cpos) (iItemsN (wl X) td) := by
  refine ⟨fun pins s σ H R I h => ?_⟩
  refine wpAny_Call_method (T := "dict") (id := "dict.items") hbase rfl hline F.plainAttrs_dict F.slot_dict_items F.type_dict_items (thn (he.run pins s σ H _ I h) fun u s1 ⟨x, H1, I1, rx, d, ob, xs, ex, hd, q⟩ => ?_)
  subst ex
  obtain rfl : u = Value.ref d := rx
  obtain ⟨hs, hgd, hx, es, ep, hdt, hsz, _, ent⟩ := frzN I1 hd
  refine ⟨⟨_, hgd, hx.1⟩, fun b q => (by cases q; exact ⟨_, hgd, hx.2.1⟩), ?_⟩
  have I2 : Inv X pins σ H1 { s1 with heap := s1.heap.push { cls := .type "dict_items", data := .fields #[.ref d] } } := I1.kept (t' := s1.toks) fun b ob q => Heap.get?_push_of_some _ q
  have fin : wpAny (model X.prog X.w) X.A (pyIter (.ref s1.heap.objs.size)) (PIE X pins σ (.Tuple elts kk tpos) R) X.xe { s1 with heap := s1.heap.push { cls := .type "dict_items", data := .fields #[.ref d] } } := by
    refine _root_.DT.iterI (d := d) (es := es) (ep := ep) ⟨_, Heap.get?_push_size _ rfl, rfl, rfl⟩ (_root_.DT.Raw.push ⟨ob, hgd, hx, hdt⟩ _) (pi_one (tk := s1.toks) I2 _ (turn_itemsN _ hdt) ⟨.none, .none, ?_⟩ q)
    rw [← hsz]
    exact Heap.get?_push_size _ rfl
  show wpAny _ _ (callWith cpos (.builtin "dict.items") [.ref d] [] []) _ X.xe s1
  exact method_meetsIn F.slot_dict_items F.entry_dict_items rfl (PySem.evalArgs_none ⟨rfl, ⟨_, hgd, hx.1⟩, F.args_dict_items_1 _, _, _root_.DT.meetsItems (es := es) (ep := ep) hs, ⟨⟨ob, hgd, hx, hdt⟩, fin⟩⟩)
theorem Rpn.at_ {g : Wl} {F : Hp} : ∀ {xs : List (NK × Addr × V)} {kvs : List (D × D)} {i : Nat} {kv : D × D}, Rpn g F xs kvs → kvs[i]? = some kv → ∃ y, xs[i]? = some y ∧ Rp g F (.ref y.2.1) kv.1 ∧ Rp g F y.2.2 kv.2
  | _, _, i, kv, .nil, h => by simp at h
  | _, _, 0, kv, .cons h0 h1 t, h => by simp at h; subst h; exact ⟨_, rfl, h0, h1⟩
  | _, _, i + 1, kv, .cons h0 h1 t, h => by
    obtain ⟨y, h2, h3⟩ := Rpn.at_ (i := i) t (by simpa using h)
    exact ⟨y, by simpa using h2, h3⟩
theorem wk_keysN {g : Wl} {F : Hp} {d : Addr} {ob : Obj} {xs : List (NK × Addr × V)} {kvs : List (D × D)} (h : F d = some (dN g d ob xs)) (r : Rpn g F xs kvs) : Wk g (Itkn g d ob xs) F (kvs.map (·.1)) := fun i F1 H1 s1 s2 => by
  have hl := r.len
  have h' := s2 _ _ (s1 _ _ h)
  refine ⟨fun dd hd => ?_, fun hle => ⟨h', by rw [List.length_map] at hle; omega⟩⟩
  rw [List.getElem?_map] at hd
  cases q : kvs[i]? with
  | none => rw [q] at hd; cases hd
  | some kv =>
    rw [q] at hd
    cases hd
    have hi : i < kvs.length := (List.getElem?_eq_some_iff.mp q).1
    obtain ⟨y, hy, r1, _⟩ := r.at_ q
    refine ⟨⟨h', by omega⟩, fun x H2 yy => ?_⟩
    obtain ⟨e, y', hy', ex⟩ := yy
    rw [hy] at hy'
    cases hy'
    subst e; subst ex
    exact ⟨F1, Grow.refl s2, r1.mono s1⟩
theorem wk_itemsN {g : Wl} {F : Hp} {d : Addr} {ob : Obj} {xs : List (NK × Addr × V)} {kvs : List (D × D)} (h : F d = some (dN g d ob xs)) (r : Rpn g F xs kvs) : Wk g (Itin g d ob xs) F (kvs.map fun kv => .tuple [kv.1, kv.2]) := fun i F1 H1 s1 s2 => by
  have hl := r.len
  have h' := s2 _ _ (s1 _ _ h)
  refine ⟨fun dd hd => ?_, fun hle => ⟨h', by rw [List.length_map] at hle; omega⟩⟩
  rw [List.getElem?_map] at hd
  cases q : kvs[i]? with
  | none => rw [q] at hd; cases hd
  | some kv =>
    rw [q] at hd
    cases hd
    have hi : i < kvs.length := (List.getElem?_eq_some_iff.mp q).1
    obtain ⟨y, hy, r1, r2⟩ := r.at_ q
    refine ⟨⟨h', by omega⟩, fun x H2 yy => ?_⟩
    obtain ⟨T, y', hy', ex, hT, e⟩ := yy
    rw [hy] at hy'
    cases hy'
    subst e; subst ex
    obtain ⟨w, rr⟩ := grow_tup s2 hT (.cons (r1.mono s1) (.cons (r2.mono s1) .nil))
    exact ⟨_, w, rr⟩
/-- for k in d -/
def dctOf (r : Op) (k : List (D × D) → Prop) : Prop := match r with
  | .vl (.dict kvs) => dctD kvs ∧ k kvs
  | .tm (.dct kvs) => dctD kvs ∧ k kvs
  | _ => False
theorem dctOf_frz {g : Wl} {G : Gr} {σ : L2.St} {e : Sv} {F H : Hp} {v : V} {r : Op} {k : List (D × D) → Prop} (I : FI g G σ e F H) (h : RR g G σ e F H v r) (q : dctOf r k) : ∃ F1 kvs d ob xs, FI g G σ e F1 H ∧ Same F F1 ∧ v = .ref d ∧ F1 d = some (dN g d ob xs) ∧ Rpn g F1 xs kvs ∧ k kvs := by
  have go : ∀ {F1 : Hp} {kvs : List (D × D)}, FI g G σ e F1 H → Same F F1 → dctD kvs → Rp g F1 v (.dict kvs) → k kvs → ∃ F1 kvs d ob xs, FI g G σ e F1 H ∧ Same F F1 ∧ v = .ref d ∧ F1 d = some (dN g d ob xs) ∧ Rpn g F1 xs kvs ∧ k kvs := by
    intro F1 kvs I1 s1 c rv q
    cases rv with
    | scr h1 h2 => obtain ⟨_, z⟩ := c _ List.mem_cons_self; cases z
    | dct h1 h2 => exact ⟨F1, kvs, _, _, _, I1, s1, rfl, h1, h2, q⟩
    | dck h1 h2 => obtain ⟨_, z⟩ := c _ List.mem_cons_self; cases z
  unfold dctOf at q
  split at q
  · exact go I (Same.refl F) q.1 h q.2
  · obtain ⟨a, rfl, t⟩ := h
    obtain ⟨F1, h1, h2, h3⟩ := I.freezeT t
    exact go h3 h2 q.1 h1 q.2
  · exact q.elim
def dKeysI (t : DE) : DI := fun e Q => t e fun r e1 => dctOf r fun kvs => Q (kvs.map (·.1)) e1
def dItems (t : DE) : DI := fun e Q => t e fun r e1 => dctOf r fun kvs => Q (kvs.map fun kv => .tuple [kv.1, kv.2]) e1
theorem pdi_keys {l : Expr} {t : DE} (h : PD X G l t) : PDI X G tg l (dKeysI t) := by
  refine pi_mono (pi_keysN h) fun σ H R q => ?_
  obtain ⟨e, F, Qd, I, hh, k⟩ := q
  refine ⟨e, F, _, I, hh, ?_⟩
  intro r v e1 F1 H1 I1 s1 r1 q1
  obtain ⟨F2, kvs, d, ob, xs, I2, s2, ev, h1, h2, q2⟩ := dctOf_frz I1 r1 q1
  exact ⟨d, ob, xs, ev, I2.sub _ _ h1, k _ _ e1 F2 H1 I2 (s1.trans s2) (wk_keysN h1 h2) q2⟩
theorem pdi_items {elts : List Expr} {kk : Nat} {tpos : Pos} {l : Expr} {t : DE} (h : PD X G l t) (hbase : attributeBase l "items" X.env (eval l X.env) = eval l X.env := by rfl) (hline : (apos.endLine == cpos.line) = true := by rfl) : PDI X G (.Tuple elts kk tpos) (.Call (.Attribute l "items" apos) [] [] cpos) (dItems t) := by
  refine pi_mono (pi_itemsN h hbase hline) fun σ H R q => ?_
  obtain ⟨e, F, Qd, I, hh, k⟩ := q
  refine ⟨e, F, _, I, hh, ?_⟩
  intro r v e1 F1 H1 I1 s1 r1 q1
  obtain ⟨F2, kvs, d, ob, xs, I2, s2, ev, h1, h2, q2⟩ := dctOf_frz I1 r1 q1
  exact ⟨d, ob, xs, ev, I2.sub _ _ h1, k _ _ e1 F2 H1 I2 (s1.trans s2) (wk_itemsN h1 h2) q2⟩
end
end DL
/-! DL, part Q: list(d), sum(d.values()), sorted(xs), sorted(d), {k: v} over data. -/
namespace DL
open PySem PySem.Spec PyProof.Rows L2
section
variable {X : Cx} {pins : List (Addr × Obj)} {σ : L2.St} {H : Hp} {s : Shared}
theorem keys_out {es : Array DictEntry} {acc : Array Value} {xs : List (NK × Addr × V)} (hsz : es.size = xs.length) (it : PySem.ItemsOf (fun i v => ∃ en : DictEntry, es[i]? = some en ∧ v = en.key) acc es.size)
    (ent : ∀ (i : Nat) (x : NK × Addr × V), xs[i]? = some x → ∃ en : DictEntry, es[i]? = some en ∧ en.key = .ref x.2.1 ∧ RelV x.2.2 en.val) : acc.toList = (xs.map fun x => x.2.1).map Value.ref := by
  rw [List.map_map]
  have hl : acc.toList.length = xs.length := by rw [Array.length_toList, it.1]; exact hsz
  apply List.ext_getElem?
  intro j
  rw [List.getElem?_map]
  cases hj : acc.toList[j]? with
  | none =>
    have h1 := List.getElem?_eq_none_iff.mp hj
    rw [List.getElem?_eq_none (by omega)]
    rfl
  | some v =>
    obtain ⟨en, hen, hv⟩ := it.2 j v (by rw [← Array.getElem?_toList]; exact hj)
    have hjl : j < xs.length := by rw [← hl]; exact (List.getElem?_eq_some_iff.mp hj).1
    obtain ⟨en2, h2, h3, _⟩ := ent j xs[j] (List.getElem?_eq_getElem hjl)
    rw [hen] at h2
    cases h2
    rw [List.getElem?_eq_getElem hjl, hv, h3]
    rfl
/-- list(d) -/
def rListN (g : Wl) : List V → Hp → VK → Prop := fun vs H Q => ∃ d ob xs, vs = [.ref d] ∧ H d = some (dN g d ob xs) ∧ ∀ p, H p = none → Q (.ref p) (upd H p (.lst (xs.map fun x => V.ref x.2.1)))
theorem call_listN (hc : X.calm = true) : CallR X (.type "list") (rListN (wl X)) := by
  intro pins s σ H vs us Q I r h
  obtain ⟨d, ob, xs, rfl, hd, q⟩ := h
  obtain ⟨u, rfl, rx⟩ := r.one
  obtain rfl : u = .ref d := rx
  obtain ⟨hs, hgd, hx, es, ep, hdt, hsz, hzl, ent⟩ := frzN I hd
  refine PySem.W.kdl_call (kdl_raw hs hx hdt) (I.ok.hd hc) hgd (by omega) fun h' tk acc' c' kp e it => ?_
  have eb := keys_out hsz it ent
  have rv : Vals ((xs.map fun x => x.2.1).map V.ref) acc'.toList := by rw [eb]; exact vals_refs _
  have hz : ((xs.map fun x => x.2.1).map V.ref).length ≤ sizeLine := by rw [List.length_map, List.length_map]; exact hzl
  have q' := q s.heap.objs.size (I.hok.fresh (Nat.le_refl _))
  rw [show (xs.map fun x => V.ref x.2.1) = (xs.map fun x => x.2.1).map V.ref by rw [List.map_map] <;> rfl] at q'
  refine ⟨.ref s.heap.objs.size, _, I.laid (t' := tk) (o := .lst ((xs.map fun x => x.2.1).map V.ref)) kp (Nat.le_refl _) ?_, rfl, q'⟩
  exact ⟨hz, acc'.toList, c', rv, by rw [Array.toArray_toList]; exact e⟩
/-- sum(v), v a view of a dict's values -/
theorem sum_src {prog : Program} {w : World} {A : Around} {E : Value → Shared → Prop} {s : Shared} {T : String} {r d : Addr} {n : Nat} {P : Nat → Value → Prop} {OK : Heap → Prop} {Q : Value → Shared → Prop} (K : PySem.W.KdlSrc prog w T r d n P OK) (hh : A.handled = none) (hok : OK s.heap) (val : Nat → Int) (hval : ∀ (i : Nat) (v : Value), P i v → ∃ t : Tok, v = Value.int (val i) t)
    (h : ∀ (h' : Heap) (tk : Nat) (t' : Tok), (∀ b o, s.heap.get? b = some o → h'.get? b = some o) → Q (.int (preSum val n) t') { s with heap := h', toks := tk }) :
    wpAny (model prog w) A (call (.builtin "sum") [.ref r]) Q E s := by
  refine call_sum_walkAnyS ?_
  obtain ⟨oI, St, hit, W, st⟩ := K.iter A.in1 s hh hok
  refine hit _ _ ⟨s.heap.objs.size, _, _, _, n, P, _, val, rfl, W.toS, st, fun b hb => ?_, hval, fun s' t' hm => ?_⟩
  · show b < (s.heap.push oI).objs.size
    rw [size_push']
    rcases List.mem_cons.mp hb with e | hb
    · rw [e]; exact Nat.lt_succ_self _
    · rw [List.mem_singleton.mp hb]; exact Nat.lt_succ_of_lt (K.there _ hok).2
  · have hk : ∀ b o, s.heap.get? b = some o → s'.heap.get? b = some o := fun b o e =>
      hm.heap b o (fun hI => absurd (Heap.lt_size e) (by rw [List.mem_singleton.mp hI]; exact Nat.lt_irrefl _)) (Heap.get?_push_of_some _ e)
    rw [Moved.eq_with hm]
    exact h s'.heap s'.toks t' hk
theorem preSum_list (ns : List Int) : preSum (fun i => (ns[i]?).getD 0) ns.length = ns.sum := by
  have key : ∀ (l : List Int), preSum (fun i => (l[i]?).getD 0) l.length = l.sum := by
    intro l
    induction l with
    | nil => rfl
    | cons a l ih =>
      rw [List.length_cons, PySem.W.kdu_shift, List.sum_cons]
      simp only [List.getElem?_cons_zero, Option.getD_some, List.getElem?_cons_succ]
      rw [ih]
  exact key ns
/-- sum(d.values()) -/
def dSumV (t : DE) : DE := fun e Q => t e fun r e1 => withO e1 r fun d => ∃ kvs, d = .dict kvs ∧ dctD kvs ∧ ∃ ns : List Int, kvs.map (·.2) = ns.map PyData.int ∧ Q (.vl (.int ns.sum)) e1
theorem Rpn.ints {g : Wl} {F : Hp} : ∀ {xs : List (NK × Addr × V)} {kvs : List (D × D)} {ns : List Int}, Rpn g F xs kvs → kvs.map (·.2) = ns.map PyData.int → xs.map (·.2.2) = ns.map V.int
  | _, _, [], .nil, _ => rfl
  | _, _, _ :: _, .nil, h => by cases h
  | _, _, [], .cons _ _ _, h => by cases h
  | _, _, n :: ns, .cons h0 h1 t, h => by
    rw [List.map_cons, List.map_cons] at h
    injection h with h2 h3
    rw [List.map_cons, List.map_cons, Rpn.ints t h3]
    dsimp only at h2
    rw [h2] at h1
    cases h1
    rfl
end
section
variable {X : Cx} {G : Gr}
theorem pd_sumV {e : Expr} {td : DE} {p pos apos cpos : Pos} (hc : X.calm = true) (hg : Gl X "sum") (hm : X.mg "sum" = none) (he : PD X G e td) (hbase : attributeBase e "values" X.env (eval e X.env) = eval e X.env := by rfl) (hline : (apos.endLine == cpos.line) = true := by rfl)
    (hs : starEach [.Call (.Attribute e "values" apos) [] [] cpos] X.env = (false, eval (.Call (.Attribute e "values" apos) [] [] cpos) X.env) :: starEach [] X.env := by rfl) (hpl : (backTo pos (starEach [] X.env)).any (·.1) = false := by rfl) :
    PD X G (.Call (.Name "sum" p) [.Call (.Attribute e "values" apos) [] [] cpos] [] pos) (dSumV td) := by
  -- the view, then the sum of it
  have hv : PE X (.Call (.Attribute e "values" apos) [] [] cpos) (fun σ H Q => liftE (wl X) G td σ H fun x H1 => ∃ d ob xs, x = .ref d ∧ H1 d = some (dN (wl X) d ob xs) ∧ ∀ v, H1 v = none → Q (.ref v) (upd H1 v (.ext fun h => h.get? v = some { cls := .type "dict_values", data := .fields #[.ref d] }))) := by
    refine ⟨fun pins s σ H Q I h => ?_⟩
    refine wpAny_Call_method (T := "dict") (id := "dict.values") hbase rfl hline F.plainAttrs_dict F.slot_dict_values F.type_dict_values (thn (he.run pins s σ H _ I h) fun u s1 ⟨x, H1, I1, rx, d, ob, xs, ex, hd, q⟩ => ?_)
    subst ex
    obtain rfl : u = Value.ref d := rx
    obtain ⟨hs, hgd, hx, es, ep, hdt, hsz, hzl, ent⟩ := frzN I1 hd
    refine ⟨⟨_, hgd, hx.1⟩, fun b q => (by cases q; exact ⟨_, hgd, hx.2.1⟩), ?_⟩
    have new : ObjOk X.prog X.w (upd H1 s1.heap.objs.size (.ext fun h => h.get? s1.heap.objs.size = some { cls := .type "dict_values", data := .fields #[.ref d] })) (s1.heap.push { cls := .type "dict_values", data := .fields #[.ref d] }) s1.heap.objs.size (.ext fun h => h.get? s1.heap.objs.size = some { cls := .type "dict_values", data := .fields #[.ref d] }) :=
      ⟨Heap.get?_push_size _ rfl, ⟨_, Heap.get?_push_size _ rfl⟩, fun h1 h2 a b => b _ a⟩
    have I2 := I1.laid (t' := s1.toks) (fun b ob q => Heap.get?_push_of_some _ q) (Nat.le_refl _) new
    show wpAny _ _ (callWith cpos (.builtin "dict.values") [.ref d] [] []) _ X.xe s1
    refine method_meetsIn F.slot_dict_values F.entry_dict_values rfl (PySem.evalArgs_none ⟨rfl, ⟨_, hgd, hx.1⟩, F.args_dict_values_1 _, _, meets_dict_values_raw d hs, ⟨⟨es, ep, ob, hgd, hx, hdt⟩, ?_⟩⟩)
    exact ⟨.ref s1.heap.objs.size, _, I2, rfl, q _ (I1.hok.fresh (Nat.le_refl _))⟩
  have hsum : CallR X (.builtin "sum") (fun vs H Q => ∃ v d ob xs, ∃ ns : List Int, vs = [.ref v] ∧ H v = some (.ext fun h => h.get? v = some { cls := .type "dict_values", data := .fields #[.ref d] }) ∧ H d = some (dN (wl X) d ob xs) ∧ xs.map (·.2.2) = ns.map V.int ∧ Q (.int ns.sum) H) := by
    intro pins s σ H vs us Q I r h
    obtain ⟨v, d, ob, xs, ns, rfl, hvv, hd, hns, q⟩ := h
    obtain ⟨u, rfl, rx⟩ := r.one
    obtain rfl : u = .ref v := rx
    obtain ⟨hgv, _, _⟩ := I.hok v _ hvv
    obtain ⟨hs, hgd, hx, es, ep, hdt, hsz, hzl, ent⟩ := frzN I hd
    have hln : xs.length = ns.length := by have := congrArg List.length hns; simpa using this
    refine sum_src (PySem.KdlSrc.rawValues (r := v) (d := d) (es := es) (ep := ep)) (I.ok.hd hc) ⟨⟨_, hgv, rfl, rfl⟩, ob, hgd, hx, hdt⟩ (fun i => (ns[i]?).getD 0) (fun i w hw => ?_) fun h' tk t' hk => ?_
    · obtain ⟨hi, rfl⟩ := hw
      have hi' : i < xs.length := by omega
      obtain ⟨en, h1, _, h3⟩ := ent i xs[i] (List.getElem?_eq_getElem hi')
      have e1 : es[i] = en := by rw [Array.getElem?_eq_getElem hi] at h1; exact Option.some.inj h1
      have e2 : (xs[i]).2.2 = V.int (ns[i]?.getD 0) := by
        have e3 : (xs.map (·.2.2))[i]? = (ns.map V.int)[i]? := by rw [hns]
        rw [List.getElem?_map, List.getElem?_map, List.getElem?_eq_getElem hi', List.getElem?_eq_getElem (by omega)] at e3
        rw [List.getElem?_eq_getElem (by omega)]
        exact Option.some.inj e3
      rw [e2] at h3
      rw [e1]
      exact h3
    · rw [hsz, hln, preSum_list]
      exact ⟨.int _, H, I.kept hk, ⟨_, rfl⟩, q⟩
  refine pe_mono (pe_callB hsum hg hm (by decide +kernel) (pa_cons hv pa_nil hs) (by decide) (by decide) hs hpl) fun σ H Q q => ?_
  obtain ⟨e, F, Qd, I, hh, k⟩ := q
  refine ⟨e, F, _, I, hh, ?_⟩
  intro r v e1 F1 H1 I1 s1 r1 q1
  obtain ⟨d, b, kvs, rfl, c, ns, hns, q2⟩ := bp_of I1 r1 q1
  obtain ⟨a, ob, xs, rfl, h1, r'⟩ := b.dct I1.sub c
  refine ⟨a, ob, xs, rfl, h1, fun w hw => ?_⟩
  refine ⟨w, a, ob, xs, ns, rfl, upd_same, by rw [upd_ne (ne_of_none h1 hw)]; exact h1, r'.ints hns, ?_⟩
  exact k (.vl (.int _)) _ e1 F1 _ (I1.grow (Grow.tmp I1.sub hw)) s1 (Rp.int _) q2
/-- {k: n}, k a name -/
def dD1 (i : Nat) (n : Int) : DE := fun e Q => match e[i]? with
  | some (.sh d) => isKey d ∧ Q (.tm (.dct [(d, .int n)])) e
  | _ => False
theorem pd_d1 {i : Nat} {n : Int} {kx vx : Expr} {pos : Pos} (hu : X.A.units + 64 < cLine) (hk : PE X kx (tVar i)) (hv : PE X vx (tC (.int n))) : PD X G (.Dict [some kx] [vx] pos) (dD1 i n) := by
  refine ⟨fun pins s σ H Q I q => ?_⟩
  obtain ⟨e, F, Qd, J, hh, k⟩ := q
  have hh' : (match e[i]? with
    | some (.sh d) => isKey d ∧ Qd (.tm (.dct [(d, .int n)])) e
    | _ => False) := hh
  cases hq : e[i]? with
  | none => rw [hq] at hh'; exact hh'.elim
  | some y =>
    rw [hq] at hh'
    cases y with
    | no => exact hh'.elim
    | ow o => exact hh'.elim
    | io o => exact hh'.elim
    | sh d =>
      obtain ⟨hkey, hQ⟩ := hh'
      obtain ⟨v, h1, h2⟩ := J.sh i d hq
      have hn := I.hok.fresh (Nat.le_refl s.heap.objs.size)
      obtain ⟨ob, ok⟩ := dn_ok (P := X.prog) (w := X.w) (K := X.K) (H' := upd H s.heap.objs.size (.lst [])) (a := s.heap.objs.size) (xs := []) (vs := []) (beq_eq_false_iff_ne.mpr (Ne.symm (Nat.ne_of_lt I.big))) (Nat.zero_le _) (fun _ z => nomatch z) .nil (Heap.DictOfH.new s.heap)
      have I1 : Inv X pins σ (upd H s.heap.objs.size (dN (wl X) s.heap.objs.size ob [])) { s with heap := s.heap.push { cls := .type "dict", data := .dict #[] } } := I.laid (t' := s.toks) (fun _ _ q => Heap.get?_push_of_some _ q) (Nat.le_refl _) ok
      refine wpAny_Dict_any (by rfl) (by rfl) (by simp) (by show 1 ≤ 15; decide) ?_
      refine pairTrees_cons_walk (thn (hk.run pins _ σ _ (fun x H1 => x = v ∧ H1 = upd H s.heap.objs.size (dN (wl X) s.heap.objs.size ob [])) I1 ⟨v, h1, rfl, rfl⟩) fun u s1 ⟨x, H1, I2, rx, ex, eH⟩ => ?_)
      subst ex; subst eH
      refine thn (hv.run pins _ σ _ (fun y H2 => y = .int n ∧ H2 = upd H s.heap.objs.size (dN (wl X) s.heap.objs.size ob [])) I2 ⟨rfl, rfl⟩) fun w s2 ⟨y, H2, I3, ry, ey, eH⟩ => ?_
      subst ey; subst eH
      refine pairTrees_nil_walk ?_
      have bk : Bp (wl X) F (upd H s.heap.objs.size (dN (wl X) s.heap.objs.size ob [])) x d := .of h2
      have sF : Same F (upd H s.heap.objs.size (dN (wl X) s.heap.objs.size ob [])) := (Grow.tmp J.sub hn).fh
      obtain ⟨kk, rfl, kn, rk, b, rfl⟩ := bk.key sF hkey
      obtain rfl : u = .ref b := rx
      obtain ⟨a1, a2, a3, a4, vs, r, dd⟩ := dnAt I3 (a := s.heap.objs.size) (xs := []) upd_same (fun _ z => nomatch z)
      cases r
      show wpAny _ _ (storeAll s.heap.objs.size [(.ref b, w)]) _ _ s2
      unfold storeAll
      refine PySem.wpAny_storeAllH (knd := nestedKind X.prog X.w) (ps := [(kk, b, w)]) (acc := []) (by show X.A.units + 8 < cLine; omega) _ _ _ ⟨rfl, rfl, ⟨nis I3 kn.rp rfl, kn.dep⟩, trivial⟩ dd (by rw [sizeLine_eq]; show 0 + 1 ≤ _; decide) fun h' tk dd' hs' => ?_
      have he : ∃ q, h'.get? s.heap.objs.size = some q := let ⟨q, _, _, hq, _⟩ := dd'; ⟨q, hq⟩
      have rel : RelN [(kk, b, .int n)] (storedAllH [] [(kk, b, w)]) := .cons ⟨rfl, rfl, ry⟩ .nil
      obtain ⟨ob', ok'⟩ := dn_ok (P := X.prog) (w := X.w) (K := X.K) (H' := upd (upd H s.heap.objs.size (dN (wl X) s.heap.objs.size ob [])) s.heap.objs.size (.lst [])) (xs := [(kk, b, .int n)]) a1 (by rw [sizeLine_eq]; show 1 ≤ _; decide) (fun x hx => by rw [List.mem_singleton.mp hx]; exact kn.dep) rel dd'
      have I4 := d_write (ob := dN (wl X) s.heap.objs.size ob' [(kk, b, .int n)]) (t' := tk) I3 (by rw [upd_same]; exact True.intro) hs' he ok'
      rw [upd_upd] at I4
      refine ⟨.ref s.heap.objs.size, _, I4, rfl, ?_⟩
      have w' : Grow F H F (upd H s.heap.objs.size (dN (wl X) s.heap.objs.size ob' [(kk, b, .int n)])) := Grow.tmp J.sub hn
      exact k (.tm (.dct [(kk.data, .int n)])) _ e F _ (J.grow w') w'.ff (rr_of J w' ⟨_, rfl, hn, J.sub.free hn, ob', _, upd_same, .cons rk (Rp.int n) .nil⟩) hQ
/-! ### sorted -/
open PySem.W in
def sortOk (ds : List D) : Prop := AllAlike ds ∧ Sortable ds ∧ noDicts ds = true ∧ (∀ d ∈ ds, d.depth ≤ 60) ∧ ds.length ≤ 100000
open PySem.W in
def sortD (ds : List D) : List D := ds.mergeSort (dataLe false id)
theorem each_of {S : V → D → Prop} : ∀ {xs : List V} {us : List Value} {ds : List D}, Paired S xs ds → Vals xs us → PySem.W.EachIs (fun u d => ∃ x, RelV x u ∧ S x d) us ds
  | [], [], [], .nil, .nil => .nil
  | _ :: _, _ :: _, _ :: _, .cons h1 h2, .cons r1 r2 => .cons ⟨_, r1, h1⟩ (each_of h2 r2)
theorem each_back {S : V → D → Prop} : ∀ {us : List Value} {ds : List D}, PySem.W.EachIs (fun u d => ∃ x, RelV x u ∧ S x d) us ds → ∃ xs, Vals xs us ∧ Paired S xs ds
  | _, _, .nil => ⟨[], .nil, .nil⟩
  | _, _, .cons ⟨x, h1, h2⟩ t => by
    obtain ⟨xs, h3, h4⟩ := each_back t
    exact ⟨x :: xs, .cons h1 h3, .cons h2 h4⟩
theorem Rps.paired {g : Wl} {F : Hp} : ∀ {xs : List V} {ds : List D}, Rps g F xs ds → Paired (Rp g F) xs ds
  | _, _, .nil => .nil
  | _, _, .cons a b => .cons a (Rps.paired b)
theorem Rps.of_paired {g : Wl} {F : Hp} : ∀ {xs : List V} {ds : List D}, Paired (Rp g F) xs ds → Rps g F xs ds
  | _, _, .nil => .nil
  | _, _, .cons a b => .cons a (Rps.of_paired b)
theorem each_reads {pins : List (Addr × Obj)} {σ : L2.St} {H : Hp} {s : Shared} (I : Inv X pins σ H s) : ∀ {xs : List V} {us : List Value} {ds : List D}, noDicts ds = true → Rps (wl X) H xs ds → Vals xs us → PySem.W.EachIs (fun u d => ∃ as, Reads s.heap u (id d) as) us ds
  | [], [], [], _, .nil, .nil => .nil
  | _ :: _, _ :: _, d :: ds, n, .cons h1 h2, .cons r1 r2 => by
    obtain ⟨n1, n2⟩ := Bool.and_eq_true_iff.mp (show (noDict d && noDicts ds) = true from n)
    exact .cons (Dp.reads I _ _ _ (Rp.dp n1 h1) r1) (each_reads I n2 h2 r2)
/-- sorted(xs), sorted(d) -/
def rSortL (g : Wl) : List V → Hp → VK → Prop := fun vs H Q => ∃ (a : Addr) (xs : List V) (ds : List D) (S : V → D → Prop), vs = [.ref a] ∧ SqL g.K H a xs ∧ Rps g H xs ds ∧ Paired S xs ds ∧ sortOk ds ∧ ∀ p ys, H p = none → Paired S ys (sortD ds) → Q (.ref p) (upd H p (.lst ys))
theorem call_sortL (hu : X.A.units + 64 < cLine) : CallR X (.builtin "sorted") (rSortL (wl X)) := by
  intro pins s σ H vs us Q I r h
  obtain ⟨a, xs, ds, S, rfl, hl, hr, hS, ⟨h1, h2, h3, h4, h5⟩, q⟩ := h
  obtain ⟨u, rfl, rx⟩ := r.one
  obtain rfl : u = .ref a := rx
  obtain ⟨its, rv, pl, hz⟩ := I.list hl
  refine PySem.W.sorted_data (enc := id) (bs := ds) (R := fun u d => ∃ x, RelV x u ∧ S x d) pl.isList (each_of hS rv) (each_reads I h3 hr rv) (by rw [List.map_id]; exact h1) (by rw [List.map_id]; exact h2) (line_le h5) (fun d hd => ?_) fun out hlen hE => ?_
  · have := h4 d hd
    show X.A.units + 2 + d.depth < cLine
    omega
  · obtain ⟨ys, ry, rys⟩ := each_back hE
    obtain ⟨n, hn⟩ := sortedAll_at s.heap its out.toArray
    refine ⟨.ref (s.heap.objs.size + 1), upd H (s.heap.objs.size + 1) (.lst ys), I.laid (t' := s.toks) (fun b o e => sortedAll_old e) (Nat.le_succ _) ⟨?_, out, n, ry, hn⟩, rfl, q _ ys (I.hok.fresh (Nat.le_succ _)) rys⟩
    rw [ry.length, hlen]
    exact line_le h5
mutual
theorem nk_reads {pins : List (Addr × Obj)} {σ : L2.St} {H : Hp} {s : Shared} (I : Inv X pins σ H s) : ∀ {k : NK} {v : V} {u : Value}, Rp (wl X) H v k.data → RelV v u → Reads s.heap u k.data []
  | .none, _, u, h, r => by
    cases h
    obtain rfl : u = .none := r
    exact .none
  | .num i, _, u, h, r => by
    cases h
    obtain ⟨t, rfl⟩ := r
    exact .int i t
  | .text x, _, u, h, r => by
    cases h
    obtain ⟨t, rfl⟩ := r
    exact .str x t
  | .tup ks, _, u, h, r => by
    cases h with
    | tup h1 h2 =>
      obtain rfl : u = .ref _ := r
      obtain ⟨its, rv, ⟨o, e, c, n, d⟩, _⟩ := I.tuple h1
      exact .tuple e c d (by simpa using nks_reads I h2 rv)
theorem nks_reads {pins : List (Addr × Obj)} {σ : L2.St} {H : Hp} {s : Shared} (I : Inv X pins σ H s) : ∀ {ks : List NK} {vs : List V} {us : List Value}, Rps (wl X) H vs (NestedKey.datas ks) → Vals vs us → ReadsAll s.heap us (NestedKey.datas ks) []
  | [], _, _, h, r => by cases h; cases r; exact .nil
  | k :: ks, _, _, h, r => by
    cases h with
    | cons h1 h2 =>
      cases r with
      | cons r1 r2 => exact ReadsAll.cons (nk_reads I h1 r1) (nks_reads I h2 r2)
end
theorem each_nk {pins : List (Addr × Obj)} {σ : L2.St} {H : Hp} {s : Shared} (I : Inv X pins σ H s) (a : Addr) : ∀ {xs : List V} {us : List Value} {ks : List NK}, Rps (wl X) H xs (ks.map NestedKey.data) → Vals xs us → PySem.W.EachIs (fun u d => ∃ as, Reads s.heap u (id d) as ∧ a ∉ as) us (ks.map NestedKey.data)
  | [], [], [], .nil, .nil => .nil
  | _ :: _, _ :: _, k :: ks, .cons h1 h2, .cons r1 r2 => .cons ⟨[], nk_reads I h1 r1, (fun z => nomatch z)⟩ (each_nk I a h2 r2)
def rSortDn (g : Wl) : List V → Hp → VK → Prop := fun vs H Q => ∃ (d : Addr) (ob : Obj) (xs : List (NK × Addr × V)) (ks : List NK) (S : V → D → Prop), vs = [.ref d] ∧ H d = some (dN g d ob xs) ∧ Rps g H (xs.map fun x => V.ref x.2.1) (ks.map NestedKey.data) ∧ Paired S (xs.map fun x => V.ref x.2.1) (ks.map NestedKey.data) ∧ sortOk (ks.map NestedKey.data) ∧ ∀ p ys, H p = none → Paired S ys (sortD (ks.map NestedKey.data)) → Q (.ref p) (upd H p (.lst ys))
theorem call_sortDn (hc : X.calm = true) (hu : X.A.units + 64 < cLine) : CallR X (.builtin "sorted") (rSortDn (wl X)) := by
  intro pins s σ H vs us Q I r h
  obtain ⟨d, ob, xs, ks, S, rfl, hd, hr, hS, ⟨h1, h2, h3, h4, h5⟩, q⟩ := h
  obtain ⟨u, rfl, rx⟩ := r.one
  obtain rfl : u = .ref d := rx
  obtain ⟨hs, hgd, hx, es, ep, hdt, hsz, hzl, ent⟩ := frzN I hd
  refine Calls.call_function_entry PyProof.Rows.kind_sorted PyProof.Rows.plain_sorted PyProof.Rows.entry_sorted (PyProof.Rows.args_sorted1 _) ?_
  unfold Builtin.«sorted»
  refine wpAny_bind (m := checkCount "sorted" 1 1 _) (wpAny_pure ?_)
  refine wpAny_bind (PySem.W.kdu_collect (A := X.A.in1) (kdl_raw hs hx hdt) (I.ok.hd hc) hgd (by omega) fun h' tk acc hk hacc => ?_)
  have eb := keys_out hsz hacc ent
  have hal : acc.toList.length = xs.length := by rw [eb, List.length_map, List.length_map]
  have I1 : Inv X pins σ H { s with heap := h', toks := tk } := I.kept hk
  refine wpAny_bind (wpAny_newList ?_ (by rw [hal]; exact hzl))
  have hoL : (h'.push (seqObj "list" acc.toList.toArray 0)).get? h'.objs.size = some (seqObj "list" acc.toList.toArray 0) := Heap.get?_push_size _ rfl
  show wpAny _ _ _ _ _ { s with heap := h'.push (seqObj "list" acc.toList.toArray 0), toks := tk }
  have I2 : Inv X pins σ H { s with heap := h'.push (seqObj "list" acc.toList.toArray 0), toks := tk } := I1.kept (t' := tk) fun b o e => Heap.get?_push_of_some _ e
  have rv : Vals (xs.map fun x => V.ref x.2.1) acc.toList := by
    rw [eb, show (xs.map fun x => V.ref x.2.1) = (xs.map fun x => x.2.1).map V.ref by rw [List.map_map] <;> rfl]
    exact vals_refs _
  refine wpAny_bind (wpAny_holding (PySem.W.list_sort_data (enc := id) (bs := ks.map NestedKey.data) (R := fun u d => ∃ x, RelV x u ∧ S x d) hoL (each_of hS rv) (each_nk I2 _ hr rv) (by rw [List.map_id]; exact h1) (by rw [List.map_id]; exact h2) (line_le h5) (fun d hd => ?_) fun out hlen hE => ?_))
  · have := h4 d hd
    show X.A.units + 1 + 1 + d.depth < cLine
    omega
  · obtain ⟨ys, ry, rys⟩ := each_back hE
    obtain ⟨e', he'⟩ := PyProof.Rows.sortedHeap_at (vs := acc.toList) (out := out.toArray) hoL
    refine wpAny_pure ⟨_, rfl, .ref h'.objs.size, upd H h'.objs.size (.lst ys), I1.laid (t' := tk) (fun b u e => ?_) (Nat.le_refl _) ⟨by rw [ry.length, hlen]; exact line_le h5, out, e', ry, he'⟩, rfl, q _ ys (I1.hok.fresh (Nat.le_refl _)) rys⟩
    have hb : b < h'.objs.size := Heap.lt_size e
    rw [PyProof.Rows.sortedHeap_old (Nat.ne_of_lt hb) (by rw [size_push']; exact Nat.lt_succ_of_lt hb)]
    exact Heap.get?_push_of_some _ e
/-! ### as rules over data -/
@[irreducible] def tSortedU (ds : List D) (Q : Op → Prop) : Prop := match ds with
  | [.list xs] => sortOk xs ∧ Q (.tm (.lst (sortD xs)))
  | [.dict kvs] => (dctD kvs ∧ sortOk (kvs.map (·.1))) ∧ Q (.tm (.lst (sortD (kvs.map (·.1)))))
  | _ => False
def rSortU (g : Wl) : List V → Hp → VK → Prop := fun vs H Q => rSortL g vs H Q ∨ rSortDn g vs H Q
theorem call_sortedU (hc : X.calm = true) (hu : X.A.units + 64 < cLine) : CallR X (.builtin "sorted") (rSortU (wl X)) := by
  intro pins s σ H vs us Q I r h
  rcases h with h | h
  · exact call_sortL hu pins s σ H vs us Q I r h
  · exact call_sortDn hc hu pins s σ H vs us Q I r h
theorem Rpn.keyRps {g : Wl} {F : Hp} : ∀ {xs : List (NK × Addr × V)} {kvs : List (D × D)}, Rpn g F xs kvs → Rps g F (xs.map fun x => V.ref x.2.1) (kvs.map (·.1)) ∧ kvs.map (·.1) = (xs.map (·.1)).map NestedKey.data
  | _, _, .nil => ⟨.nil, rfl⟩
  | _, _, .cons h0 h1 t => by
    obtain ⟨a, b⟩ := Rpn.keyRps t
    exact ⟨.cons h0 a, by rw [List.map_cons, List.map_cons, List.map_cons, b]⟩
theorem cd_sortedU {g : Wl} : CallD g (rSortU g) tSortedU := by
  intro F H vs ds Qd Q s hb q k
  unfold tSortedU at q
  split at q
  · rename_i xs
    obtain ⟨c, q⟩ := q
    obtain ⟨v, rfl, b⟩ := bps1 hb
    obtain ⟨a, us, rfl, h, r⟩ := b.list s
    refine .inl ⟨a, us, xs, Rp g F, rfl, .inl h, r.mono s, r.paired, c, fun p ys hp ry => ?_⟩
    obtain ⟨w, n⟩ := grow_lst s hp (Rps.of_paired ry)
    exact k (.tm (.lst _)) _ _ _ w n q
  · rename_i kvs
    obtain ⟨⟨c0, c⟩, q⟩ := q
    obtain ⟨v, rfl, b⟩ := bps1 hb
    obtain ⟨a, ob, xs, rfl, h, r⟩ := b.dct s c0
    obtain ⟨r1, r2⟩ := r.keyRps
    rw [r2] at c q r1
    refine .inr ⟨a, ob, xs, xs.map (·.1), Rp g F, rfl, h, r1.mono s, r1.paired, c, fun p ys hp ry => ?_⟩
    obtain ⟨w, n⟩ := grow_lst s hp (Rps.of_paired ry)
    exact k (.tm (.lst _)) _ _ _ w n q
  · exact q.elim
end
end DL
/-! DL, part R: the names that the printed texts use. -/
namespace DL
open PySem PySem.Spec PyProof.Rows L2
abbrev tLenU := tLen
theorem call_lenU {X : Cx} : CallR X (.builtin "len") (rLenU X.K) := call_len
theorem cd_lenU {g : Wl} : CallD g (rLenU g.K) tLenU := cd_len
def tListU (ds : List D) (Q : Op → Prop) : Prop := match ds with
  | [.list xs] => Q (.tm (.lst xs))
  | [.tuple xs] => Q (.tm (.lst xs))
  | [.dict kvs] => dctD kvs ∧ Q (.tm (.lst (kvs.map (·.1))))
  | _ => False
def rListU (g : Wl) : List V → Hp → VK → Prop := fun xs H Q => rList1 g.K xs H Q ∨ rListN g xs H Q
theorem call_listU {X : Cx} (hc : X.calm = true) : CallR X (.type "list") (rListU (wl X)) := by
  intro pins s σ H vs us Q I r h
  rcases h with h | h
  · exact call_list_of pins s σ H vs us Q I r h
  · exact call_listN hc pins s σ H vs us Q I r h
theorem cd_listU {g : Wl} : CallD g (rListU g) tListU := by
  intro F H vs ds Qd Q s hb q k
  unfold tListU at q
  split at q
  · exact .inl (cd_list1 F H vs [.list _] Qd Q s hb q k)
  · exact .inl (cd_list1 F H vs [.tuple _] Qd Q s hb q k)
  · obtain ⟨c, q⟩ := q
    obtain ⟨v, rfl, b⟩ := bps1 hb
    obtain ⟨a, ob, xs, rfl, h, r⟩ := b.dct s c
    refine .inr ⟨a, ob, xs, rfl, h, fun p hp => ?_⟩
    obtain ⟨w, n⟩ := grow_lst s hp r.keyRps.1
    exact k (.tm (.lst _)) _ _ _ w n q
  · exact q.elim
end DL
/-! DL, part S: names from a list; a law's end. -/
namespace DL
open PySem PySem.Spec PyProof.Rows L2
section
variable {X : Cx} {G : Gr}
theorem pdg_unl {es : List Expr} {k : Nat} {ts : List Tg} {n : Nat} {pos : Pos} (hc : X.calm = true) (h : PDGs X G es ts) (hl : ts.length = n) (hn : (assignEach es X.env).length = n := by rfl) (hst : (assignEach es X.env).findIdx? (·.1) = none := by rfl) : PDG X G (.Tuple es k pos) (.ls ts) := by
  refine pg_mono (pg_unl hc h hn hst) fun v σ H Q q => ?_
  obtain ⟨e, F, Qd, d, I, r, hh, k⟩ := q
  cases d with
  | list ds =>
    cases r with
    | lst h1 h2 =>
      refine ⟨_, _, rfl, .inl (rd_mono I.sub h1), ?_, e, F, Qd, ds, I, h2, hh, k⟩
      rw [h2.length, ← hl]
      exact (asgTs_len hh).symm
  | none => exact hh.elim
  | bool b => exact hh.elim
  | int b => exact hh.elim
  | str b => exact hh.elim
  | tuple b => exact hh.elim
  | dict b => exact hh.elim
end
/-! ### slots forgotten at the end of a loop's turn -/
section
variable {g : Wl} {G : Gr} {σ : L2.St} {e : Sv} {F H : Hp}
theorem FI.forget (I : FI g G σ e F H) {vs : List Nat} (h : noIoS e vs) : FI g G σ (wipeS e vs) F H := by
  have h := noIoS_ne h
  have ge : ∀ {j : Nat} {x : Sl}, x ≠ .no → (wipeS e vs)[j]? = some x → e[j]? = some x := fun {j x} hx q => by
    rw [wipeS_get] at q
    split at q
    · exact absurd (Option.some.inj q).symm hx
    · exact q
  have go : ∀ {j : Nat} {o : OD}, ownI (wipeS e vs) j = some o → ownI e j = some o := fun {j o} q => by
    cases r : (wipeS e vs)[j]? with
    | none => unfold ownI at q; rw [r] at q; cases q
    | some y =>
      have hy : y ≠ .no := fun z => by unfold ownI at q; rw [r, z] at q; cases q
      have h2 := ge hy r
      unfold ownI at q ⊢
      rw [r] at q
      rw [h2]; exact q
  refine ⟨I.sub0, I.sub, by rw [wipeS_length]; exact I.len, I.ln, fun j d q => I.sh j d (ge (x := .sh d) (fun z => nomatch z) q), fun j o q => I.own j o (go q), fun i j a o o' q1 q2 q3 q4 => I.dist i j a o o' (go q1) (go q2) q3 q4,
    fun j o a q1 q2 => I.low j o a (ge (x := .ow o) (fun z => nomatch z) q1) q2, fun j o q => I.io j o (ge (x := .io o) (fun z => nomatch z) q), fun j a q => ?_, I.keep, I.fre⟩
  obtain ⟨o, ho⟩ := I.iom j a q
  refine ⟨o, ?_⟩
  rw [wipeS_get]
  split
  · rename_i hz
    exact absurd ho (h j hz.1 o)
  · exact ho
end
/-- t, behind which the slots ws are forgotten -/
def dWipe (ws : List Nat) (t : DS) : DS := fun D e => t { D with nx := fun e2 => noIoS e2 ws ∧ D.nx (wipeS e2 ws), ct := fun e2 => noIoS e2 ws ∧ D.ct (wipeS e2 ws) } e
theorem pdb_wipe {X : Cx} {G : Gr} {xs : List Stmt} {t : DS} (ws : List Nat) (h : PDB X G xs t) : PDB X G xs (dWipe ws t) := by
  refine pss_mono h fun D σ H q => ?_
  obtain ⟨e, F, DD, I, hh, k1, k2, k3, k4⟩ := q
  exact ⟨e, F, { DD with nx := fun e2 => noIoS e2 ws ∧ DD.nx (wipeS e2 ws), ct := fun e2 => noIoS e2 ws ∧ DD.ct (wipeS e2 ws) }, I, hh,
    fun σ' e' F' H' I' s' q => k1 σ' (wipeS e' ws) F' H' (I'.forget q.1) s' q.2, k2, k3, fun σ' e' F' H' I' s' q => k4 σ' (wipeS e' ws) F' H' (I'.forget q.1) s' q.2⟩
theorem rps_ints {g : Wl} {F : Hp} : ∀ ns : List Int, Rps g F (ns.map V.int) (ns.map PyData.int)
  | [] => .nil
  | n :: ns => .cons (.int n) (rps_ints ns)
/-- the end of a law that gives True -/
theorem law_end {g : Wl} {sp : FS} {H : Hp} {a : Addr} {ns : List Int} (h : ∀ (Q : Op → List OD → Prop) (E : XD → List OD → Prop), Q (.vl (.bool true)) [] → sp [.sh (scrD (ns.map .int))] Q E) (hS : SqL g.K H a (ns.map V.int)) :
    spOf g sp [.ref a] H (fun v _ => v = .bl true) fun _ _ _ => False := by
  refine ⟨H, [.sh (scrD (ns.map .int))], fun r _ => r = .vl (.bool true), fun _ _ => False, Same.refl H, .sh (.scr hS (rps_ints ns)) .nil, h _ _ rfl, ?_, fun x os cls dx F' H' _ _ _ z => z⟩
  intro r os v F' H' _ _ n e
  subst e
  have n' : Rp g F' v (.bool true) := n
  cases n'
  rfl
end DL
/-! DL, part T: dicts whose keys are whole numbers or texts. -/
namespace DL
open PySem PySem.Spec PyProof.Rows L2
section
variable {X : Cx} {pins : List (Addr × Obj)} {σ : L2.St} {H : Hp} {s : Shared}
theorem dkpAt (I : Inv X pins σ H s) {a : Addr} {ob : Obj} {xs : List (Key × V)} (e : H a = some (dKp (wl X) a ob xs)) : (a == sysModules) = false ∧ s.heap.get? a = some ob ∧ ob.ExactDict ∧ ∃ es ep vs, ob.data = .dict es ep ∧ es.size = xs.length ∧ xs.length ≤ sizeLine ∧ KV xs vs ∧ s.heap.DictAt (mixKind X.prog X.w) a vs ep := by
  obtain ⟨⟨e1, h1, h2, vs, r, es, ep, e2, e3, e4, e5⟩, _, _⟩ := I.hok a _ e
  exact ⟨h1, e1, e2, es, ep, vs, e3, e4, h2, r, e5 _ e1⟩
theorem dkp_ok {P : Program} {w : World} {K : PySem.W.Frag} {H' : Hp} {h' : Heap} {a : Addr} {xs : List (Key × V)} {vs : List (Key × Value)} (h1 : (a == sysModules) = false) (h2 : xs.length ≤ sizeLine) (r : KV xs vs) (dd : h'.DictOf (mixKind P w) a vs) :
    ∃ ob, ObjOk P w H' h' a (dKp ⟨P, w, K⟩ a ob xs) := by
  obtain ⟨o, es, ep, e1, e2, e3, r1⟩ := dd
  refine ⟨o, ⟨e1, h1, h2, vs, r, es, ep, e2, e3, ?_, fun h eh => ⟨o, es, eh, e2, e3, r1⟩⟩, ⟨o, e1⟩, ?_⟩
  · have l1 := r1.2.1.length
    have l2 : xs.length = vs.length := Paired.length r
    rw [Array.length_toList] at l1
    omega
  · rintro g1 g2 ⟨a1, a2⟩ k
    exact ⟨k _ a1, a2⟩
def rInK (g : Wl) (neg : Bool) : R2 := fun x y H Q => ∃ a ob xs k, x = kV k ∧ y = .ref a ∧ H a = some (dKp g a ob xs) ∧ Q (.bl (if neg then !(valV xs k).isSome else (valV xs k).isSome)) H
theorem op_inK : OpR X (compareOp .In) (rInK (wl X) false) := by
  intro pins s σ H x y v u Q I rx ry h
  obtain ⟨a, ob, xs, k, rfl, rfl, e, q⟩ := h
  obtain rfl : u = .ref a := ry
  obtain ⟨h1, _, _, es, ep, vs, _, _, _, r, dd⟩ := dkpAt I e
  refine wpAny_in_of (kV_is rx) h1 dd.dictOf.mapOf ?_
  rw [← (r.val k).isSome_eq]
  exact ⟨.bl _, H, I.tok _, rfl, q⟩
theorem op_notInK : OpR X (compareOp .NotIn) (rInK (wl X) true) := by
  intro pins s σ H x y v u Q I rx ry h
  obtain ⟨a, ob, xs, k, rfl, rfl, e, q⟩ := h
  obtain rfl : u = .ref a := ry
  obtain ⟨h1, _, _, es, ep, vs, _, _, _, r, dd⟩ := dkpAt I e
  refine wpAny_notIn_of (kV_is rx) h1 dd.dictOf.mapOf ?_
  rw [← (r.val k).isSome_eq]
  exact ⟨.bl _, H, I.tok _, rfl, q⟩
def rGetK (g : Wl) : R2 := fun x y H Q => ∃ a ob xs k v, x = .ref a ∧ y = kV k ∧ H a = some (dKp g a ob xs) ∧ valV xs k = some v ∧ Q v H
theorem ix_K : IxR X (rGetK (wl X)) := by
  intro value slice pins s σ H x y v u Q I rx ry h hs
  obtain ⟨a, ob, xs, k, w', rfl, rfl, e, hat, q⟩ := h
  obtain rfl : v = .ref a := rx
  obtain ⟨h1, _, _, es, ep, vs, _, _, _, r, dd⟩ := dkpAt I e
  obtain ⟨w, hw, rw'⟩ := RelO.some_of (v := w') (o := valueAt vs k) (by rw [← hat]; exact r.val k)
  have hT := dd.dictOf.typeIs
  unfold subscriptTail
  refine wpAny_bind ?_
  rw [getitemInPython_of_ne hT.not_modules]
  refine wpAny_bind (wpAny_specialOf hT PySem.F.slot_dict_getitem.lookup ?_)
  have fin : wpAny (model X.prog X.w) X.A (subscripted slice false (.ref a) u) (fun r s₃ => wpAny (model X.prog X.w) X.A (letTemporaryGo value (.ref a) r >>= fun _ => pure r) (EP X pins σ Q) X.xe s₃) X.xe s := by
    rw [hs]
    refine wpAny_operating (wpAny_getItem_of (kV_is ry) dd.dictOf.mapOf hw ?_)
    exact wpAny_bind (wpAny_letTemporaryGo (wpAny_pure ⟨w', H, I.tok _, rw', q⟩))
  first
    | exact wpAny_pure (wpAny_bind fin)
    | exact wpAny_bind (wpAny_pure (wpAny_bind fin))
    | exact wpAny_bind fin
/-- d.get(k, x) -/
def tGet2K (g : Wl) (td ty tx : TE) : TE := fun σ H Q => td σ H fun x H1 => ∃ a ob xs, x = .ref a ∧ H1 a = some (dKp g a ob xs) ∧ ty σ H1 fun y H2 => tx σ H2 fun z H3 => ∃ ob' xs' k, y = kV k ∧ H3 a = some (dKp g a ob' xs') ∧ Q ((valV xs' k).getD z) H3
theorem pe_get2K {o e f : Expr} {apos cpos : Pos} {td ty tx : TE} (ho : PE X o td) (he : PE X e ty) (hf : PE X f tx) (m : M2 X o "get" apos e f cpos) : PE X (.Call (.Attribute o "get" apos) [e, f] [] cpos) (tGet2K (wl X) td ty tx) := by
  refine ⟨fun pins s σ H Q I h => ?_⟩
  refine wpAny_Call_method m.base m.few m.line PySem.F.plainAttrs_dict PySem.F.slot_dict_get PySem.F.type_dict_get (thn (ho.run pins s σ H _ I h) fun u s1 ⟨x, H1, I1, rx, a, ob, xs, ex, d, q1⟩ => ?_)
  subst ex
  obtain rfl : u = Value.ref a := rx
  obtain ⟨_, _, _, _, _, _, _, _, _, _, dd0⟩ := dkpAt I1 d
  refine ⟨dd0.dictOf.typeIs, dd0.dictOf.mapOf.noDict, ?_⟩
  rw [m.trees]
  refine Calls.callWith_builtin rfl (Calls.evalArgs_plain (Calls.spliced_cons (thn (he.run pins s1 σ H1 _ I1 q1) fun iv s2 ⟨y, H2, I2, ry, q2⟩ =>
    Calls.spliced_cons (thn (hf.run pins s2 σ H2 _ I2 q2) fun fv s3 ⟨z, H3, I3, rz, q3⟩ => Calls.spliced_nil ?_))))
  obtain ⟨ob', xs', k, ey, d3, q4⟩ := q3
  subst ey
  obtain ⟨h1, _, _, es, ep, vs, _, _, _, r, dd⟩ := dkpAt I3 d3
  refine call_meetsIn PySem.F.slot_dict_get dd.dictOf.typeIs PySem.F.entry_dict_get (PySem.F.args_dict_get_3 _ _ _) (meets_dict_get_default (mixKind X.prog X.w) a (kV_is ry) h1 fv) ⟨_, dd.dictOf.mapOf, _, H3, I3.tok _, (r.val k).getD rz, q4⟩
/-- {} -/
def tNewK (g : Wl) : TE := fun _ H Q => ∀ p ob, H p = none → Q (.ref p) (upd H p (dKp g p ob []))
theorem pe_newK {pos : Pos} : PE X (.Dict [] [] pos) (tNewK (wl X)) := ⟨fun pins s σ H Q I h => by
  obtain ⟨z, hd, vs, r, dd⟩ := dk_empty (P := X.prog) (w := X.w) (H := upd H s.heap.objs.size (.lst [])) s.heap I.big
  obtain ⟨ob, ok⟩ := dkp_ok (P := X.prog) (w := X.w) (K := X.K) (H' := upd H s.heap.objs.size (.lst [])) hd z r dd
  exact wpAny_Dict_empty ⟨.ref s.heap.objs.size, _, I.laid (a := s.heap.objs.size) (o := dKp (wl X) s.heap.objs.size ob []) (t' := s.toks) (fun _ _ q => Heap.get?_push_of_some _ q) (Nat.le_refl _) ok, rfl, h _ ob (I.hok.fresh (Nat.le_refl _))⟩⟩
/-- o[i] = v -/
def sPutK (g : Wl) (td ty tv : TE) : TS := fun D σ H => tv σ H fun v H1 => td σ H1 fun x H2 => ty σ H2 fun y H3 => ∃ a ob xs k, x = .ref a ∧ y = kV k ∧ H3 a = some (dKp g a ob xs) ∧ xs.length < sizeLine ∧ ∀ ob', D.nx σ (upd H3 a (dKp g a ob' (putK xs k v)))
theorem ps_putK {o i value : Expr} {td ty tv : TE} {pos pos' : Pos} (ho : PE X o td) (hi : PE X i ty) (hv : PE X value tv) (hs : swapsWith value (some (.Subscript o i pos')) pos.line X.env = pure false) :
    PS X (.Assign [.Subscript o i pos'] value pos) (sPutK (wl X) td ty tv) := by
  refine ⟨fun pins s σ H D I h => ?_⟩
  refine wpAny_Assign_Subscript (thn (hv.run pins s σ H _ I h) fun r s1 ⟨v, H1, I1, rv, q1⟩ => thn (ho.run pins s1 σ H1 _ I1 q1) fun u s2 ⟨x, H2, I2, rx, q2⟩ => thn (hi.run pins s2 σ H2 _ I2 q2) fun iv s3 ⟨y, H3, I3, ry, a, ob, xs, k, ex, ey, e, hl, q3⟩ => ?_) hs
  subst ex; subst ey
  obtain rfl : u = .ref a := rx
  obtain ⟨h1, _, _, es, ep, vs, _, _, hz, rel, dd⟩ := dkpAt I3 e
  refine wpAny_setItem_pairs (hsz := by rw [← rel.length]; exact hz) (kV_is ry) dd.dictOf fun h' dd' hs' => ?_
  have he : ∃ q, h'.get? a = some q := let ⟨q, _, _, hq, _⟩ := dd'; ⟨q, hq⟩
  obtain ⟨ob', ok⟩ := dkp_ok (P := X.prog) (w := X.w) (K := X.K) (H' := upd H3 a (.lst [])) h1 (by have := length_putK xs k v; omega) (rel.put k rv) dd'
  exact ⟨σ, _, d_write (ob := dKp (wl X) a ob' (putK xs k v)) I3 (by rw [e]; exact True.intro) hs' he ok, q3 ob'⟩
end
/-! ### over data -/
def kdat : Key → D
  | .inl i => .int i
  | .inr x => .str x
theorem eqv_i {a b : Int} : PyData.eqv (.int a) (.int b) = decide (a = b) := by
  rw [PyData.eqv]
  by_cases h : a = b <;> simp [h]
theorem eqv_s {a b : Str} : PyData.eqv (.str a) (.str b) = decide (a = b) := by
  rw [PyData.eqv]
  by_cases h : a = b <;> simp [h]
theorem eqv_kdat {k l : Key} : PyData.eqv (kdat k) (kdat l) = decide (k = l) := by
  cases k with
  | inl i => cases l with
    | inl j =>
      show PyData.eqv (.int i) (.int j) = _
      rw [eqv_i]
      by_cases h : i = j
      · subst h; simp
      · have : ¬ (Sum.inl i : Key) = Sum.inl j := fun z => h (by cases z; rfl)
        simp [h, this]
    | inr y => rfl
  | inr x => cases l with
    | inl j => rfl
    | inr y =>
      show PyData.eqv (.str x) (.str y) = _
      rw [eqv_s]
      by_cases h : x = y
      · subst h; simp
      · have : ¬ (Sum.inr x : Key) = Sum.inr y := fun z => h (by cases z; rfl)
        simp [h, this]
def isKeyK (d : D) : Prop := ∃ k : Key, d = kdat k
abbrev kD (kvs : List (D × D)) : D := .dict ((.bool true, .none) :: kvs)
section
variable {g : Wl} {F H : Hp}
theorem rp_kV {k : Key} {d : D} (h : Rp g F (kV k) d) : d = kdat k := by
  cases k with
  | inl i =>
    have h' : Rp g F (.int i) d := h
    cases h'; rfl
  | inr x =>
    have h' : Rp g F (.str x) d := h
    cases h'; rfl
theorem Rpk.look {k : Key} : ∀ {xs : List (Key × V)} {kvs : List (D × D)}, Rpk g F xs kvs → (valV xs k = none ∧ lookN kvs (kdat k) = none) ∨ ∃ v d, valV xs k = some v ∧ lookN kvs (kdat k) = some d ∧ Rp g F v d
  | _, _, .nil => .inl ⟨rfl, rfl⟩
  | _, _, .cons (k := l) (v := v) (kd := kd) (d := d) (xs := xs) (kvs := kvs) h0 h1 t => by
    have ek := rp_kV h0
    subst ek
    by_cases e : l = k
    · refine .inr ⟨v, d, ?_, ?_, h1⟩
      · simp [valV, List.find?_cons, e]
      · simp [lookN, List.find?_cons, e, eqv_kdat]
    · have a1 : valV ((l, v) :: xs) k = valV xs k := by simp [valV, List.find?_cons, e]
      have a2 : lookN ((kdat l, d) :: kvs) (kdat k) = lookN kvs (kdat k) := by
        have : PyData.eqv (kdat l) (kdat k) = false := by rw [eqv_kdat]; exact decide_eq_false e
        simp [lookN, List.find?_cons, this]
      rw [a1, a2]
      exact Rpk.look t
theorem Rpk.some_eq {k : Key} {xs : List (Key × V)} {kvs : List (D × D)} (r : Rpk g F xs kvs) : (valV xs k).isSome = (lookN kvs (kdat k)).isSome := by
  rcases r.look (k := k) with ⟨h1, h2⟩ | ⟨v, d, h1, h2, _⟩ <;> rw [h1, h2] <;> rfl
theorem Rpk.repl {k : Key} {v : V} {d : D} (h : Rp g F v d) : ∀ {xs : List (Key × V)} {kvs : List (D × D)}, Rpk g F xs kvs → Rpk g F (xs.map fun x => if x.1 = k then (x.1, v) else x) (kvs.map fun kv => if PyData.eqv kv.1 (kdat k) then (kv.1, d) else kv)
  | _, _, .nil => .nil
  | _, _, .cons (k := l) (v := v') (kd := kd) (d := d') (xs := xs) (kvs := kvs) h0 h1 t => by
    have ek := rp_kV h0
    subst ek
    rw [List.map_cons, List.map_cons]
    by_cases e : l = k
    · have e2 : PyData.eqv (kdat l) (kdat k) = true := by rw [eqv_kdat]; exact decide_eq_true e
      simp only [e2, if_true]
      rw [if_pos e]
      exact .cons h0 h (Rpk.repl h t)
    · have e2 : PyData.eqv (kdat l) (kdat k) = false := by rw [eqv_kdat]; exact decide_eq_false e
      simp only [e2]
      rw [if_neg e, if_neg (by decide)]
      exact .cons h0 h1 (Rpk.repl h t)
theorem Rpk.snoc {k : Key} {v : V} {d : D} (h0 : Rp g F (kV k) (kdat k)) (h : Rp g F v d) : ∀ {xs : List (Key × V)} {kvs : List (D × D)}, Rpk g F xs kvs → Rpk g F (xs ++ [(k, v)]) (kvs ++ [(kdat k, d)])
  | _, _, .nil => .cons h0 h .nil
  | _, _, .cons a1 a2 t => .cons a1 a2 (Rpk.snoc h0 h t)
theorem Rpk.store {k : Key} {v : V} {d : D} {xs : List (Key × V)} {kvs : List (D × D)} (r : Rpk g F xs kvs) (h0 : Rp g F (kV k) (kdat k)) (h : Rp g F v d) : Rpk g F (putK xs k v) (storeN kvs (kdat k) d) := by
  unfold putK storeN
  rw [valV_any, r.some_eq]
  split
  · exact r.repl h
  · exact r.snoc h0 h
theorem Rpk.len : ∀ {xs : List (Key × V)} {kvs : List (D × D)}, Rpk g F xs kvs → xs.length = kvs.length
  | _, _, .nil => rfl
  | _, _, .cons _ _ t => by rw [List.length_cons, List.length_cons, Rpk.len t]
theorem Rpk.keys : ∀ {xs : List (Key × V)} {kvs : List (D × D)}, Rpk g F xs kvs → kvs.map (·.1) = xs.map fun x => kdat x.1
  | _, _, .nil => rfl
  | _, _, .cons h0 _ t => by rw [List.map_cons, List.map_cons, Rpk.keys t, rp_kV h0]
theorem Rpn.nob {xs : List (NK × Addr × V)} {d : D} {kvs : List (D × D)} (h : Rpn g F xs ((.bool true, d) :: kvs)) : False := by
  generalize e : ((PyData.bool true, d) :: kvs : List (D × D)) = l at h
  cases h with
  | nil => cases e
  | cons h0 h1 t =>
    injection e with e1 e2
    injection e1 with e1 e3
    rename_i k _ _ _ _ _
    cases k <;> cases e1
theorem Rp.dckI {v : V} {kvs : List (D × D)} (h : Rp g F v (kD kvs)) : ∃ a ob xs, v = .ref a ∧ F a = some (dKp g a ob xs) ∧ Rpk g F xs kvs := by
  cases h with
  | dct h1 h2 => exact h2.nob.elim
  | dck h1 h2 => exact ⟨_, _, _, rfl, h1, h2⟩
theorem Bp.dck {v : V} {kvs : List (D × D)} (s : Same F H) (h : Bp g F H v (kD kvs)) : ∃ a ob xs, v = .ref a ∧ H a = some (dKp g a ob xs) ∧ Rpk g F xs kvs := by
  generalize e : (kD kvs) = d at h
  cases h with
  | of h =>
    subst e
    obtain ⟨a, ob, xs, h1, h2, h3⟩ := h.dckI
    exact ⟨a, ob, xs, h1, s _ _ h2, h3⟩
  | @ow a o h =>
    cases o with
    | lst es => cases e
    | dct es =>
      obtain ⟨ob, xs, h1, h2⟩ := h
      have e' : (.bool true, .none) :: kvs = es := by injection e
      subst e'
      exact h2.nob.elim
    | dck es => cases e; obtain ⟨ob, xs, h1, h2⟩ := h; exact ⟨_, _, _, rfl, h1, h2⟩
theorem Bp.kk {v : V} {k : Key} (h : Bp g F H v (kdat k)) : v = kV k ∧ Rp g F v (kdat k) := by
  cases k with
  | inl i =>
    have e : v = .int i := Bp.int (h : Bp g F H v (.int i))
    subst e
    exact ⟨rfl, .int i⟩
  | inr x =>
    obtain ⟨e, o⟩ := Bp.str (h : Bp g F H v (.str x))
    subst e
    exact ⟨rfl, .str x o⟩
end
def tKIn (neg : Bool) (x y : D) (Q : Op → Prop) : Prop := isKeyK x ∧ ∃ kvs, y = kD kvs ∧ Q (.vl (.bool (if neg then !(lookN kvs x).isSome else (lookN kvs x).isSome)))
theorem od_kin {g : Wl} {neg : Bool} : OpD g (rInK g neg) (tKIn neg) := by
  intro F H x y dx dy Qd Q s hx hy q k
  obtain ⟨⟨kk, rfl⟩, kvs, rfl, q⟩ := q
  obtain ⟨a, ob, xs, rfl, h1, r⟩ := hy.dck s
  obtain ⟨rfl, _⟩ := hx.kk
  refine ⟨a, ob, xs, kk, rfl, rfl, h1, ?_⟩
  rw [r.some_eq]
  exact k (.vl (.bool _)) _ F H (Grow.refl s) (Rp.bl _) q
def tKGet (x y : D) (Q : Op → Prop) : Prop := isKeyK y ∧ ∃ kvs, x = kD kvs ∧ ∃ d, lookN kvs y = some d ∧ Q (.vl d)
theorem od_kget {g : Wl} : OpD g (rGetK g) tKGet := by
  intro F H x y dx dy Qd Q s hx hy q k
  obtain ⟨⟨kk, rfl⟩, kvs, rfl, d, hd, q⟩ := q
  obtain ⟨a, ob, xs, rfl, h1, r⟩ := hx.dck s
  obtain ⟨rfl, _⟩ := hy.kk
  rcases r.look (k := kk) with ⟨_, z⟩ | ⟨v, d', z1, z2, z3⟩
  · rw [hd] at z; cases z
  · rw [hd] at z2
    cases z2
    exact ⟨a, ob, xs, kk, v, rfl, rfl, h1, z1, k (.vl d) v F H (Grow.refl s) z3 q⟩
section
variable {X : Cx} {G : Gr}
def dKGet2 (to tk tx : DE) : DE := fun e Q => to e fun ro e1 => (withO e1 ro fun d => ∃ kvs, d = kD kvs) ∧ tk e1 fun rk e2 => tx e2 fun rx e3 => withO e3 (pend ro) fun d => withO e3 (pend rk) fun k => onD rx fun x => ∃ kvs, d = kD kvs ∧ isKeyK k ∧ Q (.vl ((lookN kvs k).getD x)) e3
theorem pd_kget2 {o e f : Expr} {apos cpos : Pos} {to tk tx : DE} (ho : PD X G o to) (he : PD X G e tk) (hf : PD X G f tx)
    (hbase : attributeBase o "get" X.env (eval o X.env) = eval o X.env := by rfl)
    (hfew : ((backTo cpos (starEach [e, f] X.env)).all (fun x => !x.1) && (backToKw cpos (keywordEach [] X.env)).all (fun x => x.1.isSome)
      && decide (([e, f] : List Expr).length + ([] : List Keyword).length + (if ([] : List Keyword).isEmpty then 0 else 1) < 30)) = true := by rfl)
    (hline : (apos.endLine == cpos.line) = true := by rfl) (ht : backTo cpos (starEach [e, f] X.env) = [(false, eval e X.env), (false, eval f X.env)] := by rfl) :
    PD X G (.Call (.Attribute o "get" apos) [e, f] [] cpos) (dKGet2 to tk tx) := by
  refine pe_mono (pe_get2K ho he hf ⟨hbase, hfew, hline, ht⟩) fun σ H Q q => ?_
  obtain ⟨e, F, Qd, I, hh, k⟩ := q
  refine ⟨e, F, _, I, hh, ?_⟩
  intro ro v e1 F1 H1 I1 s1 r1 q1
  obtain ⟨q0, q1⟩ := q1
  obtain ⟨d0, b0, kvs0, rfl⟩ := bp_of I1 r1 q0
  obtain ⟨a, ob, xs, rfl, h1, _⟩ := b0.dck I1.sub
  refine ⟨a, ob, xs, rfl, h1, ?_⟩
  obtain ⟨F1', I1', s1', r1'⟩ := rr_pend I1 r1
  refine ⟨e1, F1', _, I1', q1, ?_⟩
  intro rk vk e2 F2 H2 I2 s2 r2 q2
  obtain ⟨F2', I2', s2', r2'⟩ := rr_pend I2 r2
  refine ⟨e2, F2', _, I2', q2, ?_⟩
  intro rx vx e3 F3 H3 I3 s3 r3 q3
  have ro3 : RR (wl X) G σ e3 F3 H3 (.ref a) (pend ro) := rr_keep ((s2.trans s2').trans s3) r1'
  have rk3 : RR (wl X) G σ e3 F3 H3 vk (pend rk) := rr_keep s3 r2'
  obtain ⟨dd, bd, q4⟩ := bp_of I3 ro3 q3
  obtain ⟨dk, bk, q5⟩ := bp_of I3 rk3 q4
  obtain ⟨F4, x, I4, s4, rx4, kvs, rfl, ⟨kk, rfl⟩, q6⟩ := frozen_of I3 r3 q5
  have bd4 : Bp (wl X) F4 H3 (.ref a) (kD kvs) := bd.ff s4
  obtain ⟨a', ob', xs', e', h1', r'⟩ := bd4.dck I4.sub
  cases e'
  obtain ⟨rfl, _⟩ := bk.kk
  refine ⟨ob', xs', kk, rfl, h1', ?_⟩
  have fin : ∀ v d, Rp (wl X) F4 v d → Qd (.vl d) e3 → Q v H3 := fun v d rv qq => k (.vl d) v e3 F4 H3 I4 ((((s1.trans s1').trans (s2.trans s2')).trans s3).trans s4) rv qq
  rcases r'.look (k := kk) with ⟨z1, z2⟩ | ⟨v, d', z1, z2, z3⟩
  · rw [z2] at q6
    rw [z1]
    exact fin vx x rx4 q6
  · rw [z2] at q6
    rw [z1]
    exact fin v d' z3 q6
/-- {} -/
def dKNew : DE := fun e Q => Q (.tm (.dck [])) e
theorem pd_knew {pos : Pos} : PD X G (.Dict [] [] pos) dKNew := by
  refine pe_mono pe_newK fun σ H Q q => ?_
  obtain ⟨e, F, Qd, I, hh, k⟩ := q
  intro p ob hp
  have w : Grow F H F (upd H p (dKp (wl X) p ob [])) := Grow.tmp I.sub hp
  exact k (.tm (.dck [])) _ e F _ (I.grow w) w.ff (rr_of I w ⟨p, rfl, hp, I.sub.free hp, ob, [], upd_same, .nil⟩) hh
/-- x[k] = v, x a slot -/
def dKPut (i : Nat) (tk tv : DE) : DS := fun D e => tv e fun rv e1 => (match ownI e1 i with | some _ => True | none => False) ∧ tk e1 fun rk e2 => withO e2 rk fun k => dPut.vO rv fun v => ∃ kvs, ownI e2 i = some (.dck kvs) ∧ (isKeyK k ∧ kvs.length < 100000) ∧ D.nx (putO e2 i (.dck (storeN kvs k v)))
theorem pds_kput {i : Nat} {o ix value : Expr} {tk tv : DE} {pos pos' : Pos} (ho : PE X o (tVar i)) (hi : PD X G ix tk) (hv : PD X G value tv) (hs : swapsWith value (some (.Subscript o ix pos')) pos.line X.env = pure false := by rfl) :
    PDS X G (.Assign [.Subscript o ix pos'] value pos) (dKPut i tk tv) := by
  refine ps_mono (ps_putK ho hi hv hs) fun D σ H q => ?_
  obtain ⟨e, F, DD, I, hh, k1, k2, k3, k4⟩ := q
  refine ⟨e, F, _, I, hh, ?_⟩
  intro rv v e1 F1 H1 I1 s1 r1 q1
  obtain ⟨q0, q1⟩ := q1
  cases qo : ownI e1 i with
  | none => rw [qo] at q0; exact q0.elim
  | some o1 =>
    obtain ⟨a, a1, _, _⟩ := I1.own i o1 qo
    refine ⟨.ref a, a1, ?_⟩
    obtain ⟨F1', I1', s1', r1'⟩ := rr_pend I1 r1
    refine ⟨e1, F1', _, I1', q1, ?_⟩
    intro rk vk e2 F2 H2 I2 s2 r2 q2
    have rv2 : RR (wl X) G σ e2 F2 H2 v (pend rv) := rr_keep s2 r1'
    obtain ⟨kd, bk, q3⟩ := bp_of I2 r2 q2
    have hv : ∃ d, pend rv = .vl d ∧ ∃ kvs, ownI e2 i = some (.dck kvs) ∧ (isKeyK kd ∧ kvs.length < 100000) ∧ DD.nx (putO e2 i (.dck (storeN kvs kd d))) := by
      unfold dPut.vO at q3
      cases hp : pend rv with
      | vl d => rw [hp] at q3; exact ⟨d, rfl, q3⟩
      | tm o => rw [hp] at q3; exact q3.elim
      | sl j => rw [hp] at q3; exact q3.elim
    obtain ⟨d, hp, kvs, ho2, ⟨⟨kk, rfl⟩, c2⟩, q4⟩ := hv
    rw [hp] at rv2
    have rv3 : Rp (wl X) F2 v d := rv2
    obtain ⟨rfl, rk3⟩ := bk.kk
    obtain ⟨a', b1, b2, ob, xs, h1, h2⟩ := I2.own i _ ho2
    rw [a1] at b1
    cases b1
    refine ⟨a, ob, xs, kk, rfl, rfl, h1, by rw [h2.len]; exact lt_line c2, fun ob' => ?_⟩
    exact k1 σ _ F2 _ (I2.write (o' := .dck (storeN kvs (kdat kk) d)) ho2 a1 ⟨ob', _, upd_same, h2.store rk3 rv3⟩) ((s1.trans s1').trans s2) q4
end
end DL
/-! DL, part U: dicts walked, sorted, displayed with one pair. -/
namespace DL
open PySem PySem.Spec PyProof.Rows L2
/-- the keys of the dict at d -/
def Itkk (g : Wl) (d : Addr) (ob : Obj) (xs : List (Key × V)) : It :=
  ⟨fun i H => H d = some (dKp g d ob xs) ∧ i < xs.length, fun i H x H' => H' = H ∧ ∃ k v, xs[i]? = some (k, v) ∧ x = kV k, fun i H => H d = some (dKp g d ob xs) ∧ xs.length ≤ i⟩
/-- its pairs, each a new tuple -/
def Itik (g : Wl) (d : Addr) (ob : Obj) (xs : List (Key × V)) : It :=
  ⟨fun i H => H d = some (dKp g d ob xs) ∧ i < xs.length, fun i H x H' => ∃ T k v, xs[i]? = some (k, v) ∧ x = .ref T ∧ H T = none ∧ H' = upd H T (.tup [kV k, v]), fun i H => H d = some (dKp g d ob xs) ∧ xs.length ≤ i⟩
section
variable {P : Program} {w : World} {K : PySem.W.Frag} {tg : Expr} {d : Addr} {ob : Obj} {es : Array DictEntry} {ep : Nat} {xs : List (Key × V)}
theorem turn_keysK (it : Addr) (hod : ob.data = .dict es ep) : Turn P w K tg (Itkk ⟨P, w, K⟩ d ob xs) [it] it (fun i h => h.IsKeyIter it d i xs.length ep) where
  mem := by simp
  obj := fun i h st b hb => by
    have e : b = it := by simpa using hb
    subst e
    obtain ⟨oi, e, c, dd⟩ := st
    exact ⟨oi, e, fun v z => by rw [dd] at z; cases z⟩
  keep := fun i h h' st k => st.at fun oi e => k it (by simp) oi e
  item := by
    intro X hP hw hK hc i pins s σ H E I hf st hg
    subst hP hw hK
    obtain ⟨hd, hi⟩ := hg
    obtain ⟨f0, f1, f2, f3, f4, f5⟩ := hf it (by simp)
    obtain ⟨hs, hgd, hx, es', ep', vs, hdt, hsz, _, kv, hm⟩ := dkpAt I hd
    obtain ⟨rfl, rfl⟩ := dict_ep hod hdt
    obtain ⟨⟨k, v⟩, hkv⟩ : ∃ p, xs[i]? = some p := ⟨xs[i], List.getElem?_eq_getElem hi⟩
    obtain ⟨u, hu, ru⟩ := kv_get kv hkv
    have hl : xs.length = vs.length := Paired.length kv
    rw [hl] at st
    refine wpAny_pyNext_dict_item st hm hu fun key h' hkey st' sb => ?_
    have I1 : Inv X pins σ H { s with heap := h' } := I.turned (t' := s.toks) (fun b ob hb e => (sb.2 b hb).trans e) f0 f1 f3 f4 f5
    obtain ⟨oi, e, c, dd⟩ := id st'
    refine ⟨key, rfl, go_of (s := { s with heap := h' }) e c dd (by decide) ⟨kV k, H, I1, relV_key (show keyIs k key = true from hkey), ⟨rfl, k, v, hkv, rfl⟩, ?_, fun b hb => (hf b hb).1⟩⟩
    show h'.IsKeyIter it d (i + 1) xs.length _
    rw [hl]
    exact st'
  done := by
    intro X hP hw hK hc i pins s σ H E I hf st hg
    subst hP hw hK
    obtain ⟨hd, hi⟩ := hg
    obtain ⟨f0, f1, f2, f3, f4, f5⟩ := hf it (by simp)
    obtain ⟨hs, hgd, hx, es', ep', vs, hdt, hsz, _, kv, hm⟩ := dkpAt I hd
    obtain ⟨rfl, rfl⟩ := dict_ep hod hdt
    exact next_key_end (I.ok.hd hc) st hgd hdt hsz hi fun h' eb => ⟨rfl, I.turned (t' := s.toks) (fun b ob hb e => eb b ob hb e) f0 f1 f3 f4 f5⟩
  self := fun A i s Q E st h => wpAny_pyIter_keyiter st h
theorem turn_itemsK {elts : List Expr} {kk : Nat} {tpos : Pos} (it : Addr) (hod : ob.data = .dict es ep) :
    Turn P w K (.Tuple elts kk tpos) (Itik ⟨P, w, K⟩ d ob xs) [it] it (fun i h => ∃ ok ov, IsItemIter h it d i xs.length ep ok ov) where
  mem := by simp
  obj := fun i h st b hb => by
    have e : b = it := by simpa using hb
    subst e
    obtain ⟨ok, ov, e⟩ := st
    exact ⟨_, e, fun v z => nomatch z⟩
  keep := fun i h h' st k => let ⟨ok, ov, e⟩ := st; ⟨ok, ov, k it (by simp) _ e⟩
  item := by
    intro X hP hw hK hc i pins s σ H E I hf st hg
    subst hP hw hK
    obtain ⟨hd, hi⟩ := hg
    obtain ⟨hs, hgd, hx, es', ep', vs, hdt, hsz, _, kv, hm⟩ := dkpAt I hd
    obtain ⟨rfl, rfl⟩ := dict_ep hod hdt
    obtain ⟨⟨k, v⟩, hkv⟩ : ∃ p, xs[i]? = some p := ⟨xs[i], List.getElem?_eq_getElem hi⟩
    obtain ⟨u, hu, ru⟩ := kv_get kv hkv
    have hl : xs.length = vs.length := Paired.length kv
    obtain ⟨ok, ov, he⟩ := st
    rw [hl] at he
    have hlt : it < s.heap.objs.size := Heap.lt_size he
    refine wpAny_pyNext_items_item he hm hu fun key h' hkey ho hT hz hk => ?_
    refine ⟨_, rfl, wpAny_letOwnedTupleGo_items (s := { s with heap := h' }) ho fun h'' he' sb => ?_⟩
    have hT2 : h''.get? s.heap.objs.size = some { cls := .type "tuple", data := .seq #[key, u] } := (sb.2 _ (Nat.ne_of_gt hlt)).trans hT
    have new : ObjOk X.prog X.w (upd H s.heap.objs.size (.tup [kV k, v])) h'' s.heap.objs.size (.tup [kV k, v]) :=
      ⟨by show 2 ≤ sizeLine; decide, [key, u], .cons (relV_key (show keyIs k key = true from hkey)) (.cons ru .nil), ⟨_, hT2, rfl, _, rfl⟩⟩
    have I1 : Inv X pins σ (upd H s.heap.objs.size (.tup [kV k, v])) { s with heap := h'' } :=
      I.turnedNew (t' := s.toks) (ch := [it]) (fun b ob hb e => (sb.2 b (by simpa using hb)).trans (hk b ob (by simpa using hb) e)) hf (Nat.le_refl _) new
    refine ⟨.ref s.heap.objs.size, _, I1, rfl, ⟨_, k, v, hkv, rfl, I.hok.fresh (Nat.le_refl _), rfl⟩, ⟨key, u, ?_⟩, fun b hb => ?_⟩
    · rw [hl]; exact he'
    · have e : b = it := by simpa using hb
      rw [e, upd_ne (Nat.ne_of_lt hlt)]
      exact (hf it (by simp)).1
  done := by
    intro X hP hw hK hc i pins s σ H E I hf st hg
    subst hP hw hK
    obtain ⟨hd, hi⟩ := hg
    obtain ⟨f0, f1, f2, f3, f4, f5⟩ := hf it (by simp)
    obtain ⟨hs, hgd, hx, es', ep', vs, hdt, hsz, _, kv, hm⟩ := dkpAt I hd
    obtain ⟨rfl, rfl⟩ := dict_ep hod hdt
    have hl : xs.length = vs.length := Paired.length kv
    obtain ⟨ok, ov, he⟩ := st
    rw [hl] at he
    exact wpAny_pyNext_items_end (I.ok.hd hc) he hm (List.getElem?_eq_none (by omega)) fun h' eb => ⟨rfl, I.turned (t' := s.toks) (fun b ob hb e => eb b ob hb e) f0 f1 f3 f4 f5⟩
  self := fun A i s Q E st h => let ⟨_, _, e⟩ := st; PySem.W.kcp_self e h
end
def iKeysK (g : Wl) (td : TE) : TI := fun σ H R => td σ H fun x H1 => ∃ d ob xs, x = .ref d ∧ H1 d = some (dKp g d ob xs) ∧ R (Itkk g d ob xs) H1
def iItemsK (g : Wl) (td : TE) : TI := fun σ H R => td σ H fun x H1 => ∃ d ob xs, x = .ref d ∧ H1 d = some (dKp g d ob xs) ∧ R (Itik g d ob xs) H1
section
variable {X : Cx} {tg e : Expr} {td : TE} {apos cpos : Pos}
theorem pi_keysK (he : PE X e td) : PI X tg e (iKeysK (wl X) td) := by
  refine ⟨fun pins s σ H R I h => ?_⟩
  refine thn (he.run pins s σ H _ I h) fun u s1 ⟨x, H1, I1, rx, d, ob, xs, ex, hd, q⟩ => ?_
  subst ex
  obtain rfl : u = Value.ref d := rx
  obtain ⟨hs, hgd, hx, es, ep, vs, hdt, hsz, _, kv, hm⟩ := dkpAt I1 hd
  refine iter_keys hs hgd hx hdt (pi_one (tk := s1.toks) I1 _ (turn_keysK _ hdt) ⟨_, Heap.get?_push_size _ rfl, rfl, ?_⟩ q)
  rw [hsz] <;> rfl
theorem pi_itemsK {elts : List Expr} {kk : Nat} {tpos : Pos} (he : PE X e td) (hbase : attributeBase e "items" X.env (eval e X.env) = eval e X.env := by rfl) (hline : (apos.endLine == cpos.line) = true := by rfl) :
    PI X (.Tuple elts kk tpos) (.Call (.Attribute e "items" apos) [] [] cpos) (iItemsK (wl X) td) := by
  refine ⟨fun pins s σ H R I h => ?_⟩
  refine wpAny_Call_method (T := "dict") (id := "dict.items") hbase rfl hline F.plainAttrs_dict F.slot_dict_items F.type_dict_items (thn (he.run pins s σ H _ I h) fun u s1 ⟨x, H1, I1, rx, d, ob, xs, ex, hd, q⟩ => ?_)
  subst ex
  obtain rfl : u = Value.ref d := rx
  obtain ⟨hs, hgd, hx, es, ep, vs, hdt, hsz, _, kv, hm⟩ := dkpAt I1 hd
  have hl : xs.length = vs.length := Paired.length kv
  refine ⟨hm.dictOf.typeIs, hm.dictOf.mapOf.noDict, ?_⟩
  have I2 : Inv X pins σ H1 { s1 with heap := s1.heap.push { cls := .type "dict_items", data := .fields #[.ref d] } } := I1.kept (t' := s1.toks) fun b ob q => Heap.get?_push_of_some _ q
  have fin : wpAny (model X.prog X.w) X.A (pyIter (.ref s1.heap.objs.size)) (PIE X pins σ (.Tuple elts kk tpos) R) X.xe { s1 with heap := s1.heap.push { cls := .type "dict_items", data := .fields #[.ref d] } } := by
    refine wpAny_pyIter_items (d := d) (knd := mixKind X.prog X.w) ⟨_, Heap.get?_push_size _ rfl, rfl, rfl⟩ (hm.push _) (pi_one (tk := s1.toks) I2 _ (turn_itemsK _ hdt) ⟨.none, .none, ?_⟩ q)
    rw [hl]
    exact Heap.get?_push_size _ rfl
  show wpAny _ _ (callWith cpos (.builtin "dict.items") [.ref d] [] []) _ X.xe s1
  exact method_meetsIn F.slot_dict_items F.entry_dict_items rfl (PySem.evalArgs_none ⟨rfl, hm.dictOf.typeIs, F.args_dict_items_1 _, _, meets_dict_items (mixKind X.prog X.w) d hs, ⟨vs, hm.dictOf⟩, fin⟩)
end
theorem Rpk.at_ {g : Wl} {F : Hp} : ∀ {xs : List (Key × V)} {kvs : List (D × D)} {i : Nat} {kv : D × D}, Rpk g F xs kvs → kvs[i]? = some kv → ∃ y, xs[i]? = some y ∧ Rp g F (kV y.1) kv.1 ∧ Rp g F y.2 kv.2
  | _, _, _, _, .nil, e => by simp at e
  | _, _, 0, _, .cons h0 h1 _, e => by simp at e; subst e; exact ⟨_, rfl, h0, h1⟩
  | _, _, i + 1, kv, .cons _ _ t, e => by
    obtain ⟨y, h1, h2⟩ := Rpk.at_ (i := i) (kv := kv) t (by simpa using e)
    exact ⟨y, by simpa using h1, h2⟩
theorem wk_keysK {g : Wl} {F : Hp} {d : Addr} {ob : Obj} {xs : List (Key × V)} {kvs : List (D × D)} (h : F d = some (dKp g d ob xs)) (r : Rpk g F xs kvs) : Wk g (Itkk g d ob xs) F (kvs.map (·.1)) := fun i F1 H1 s1 s2 => by
  have hH : H1 d = some (dKp g d ob xs) := s2 _ _ (s1 _ _ h)
  have hl := r.len
  refine ⟨fun dd hd => ?_, fun hn => ⟨hH, by rw [List.length_map] at hn; omega⟩⟩
  rw [List.getElem?_map] at hd
  cases q : kvs[i]? with
  | none => rw [q] at hd; cases hd
  | some kv =>
    rw [q] at hd
    cases hd
    obtain ⟨y, hy, r1, _⟩ := r.at_ q
    have hi : i < xs.length := (List.getElem?_eq_some_iff.mp hy).1
    refine ⟨⟨hH, hi⟩, fun x H2 z => ?_⟩
    obtain ⟨e, k, v, hk, ex⟩ := z
    rw [hy] at hk
    cases hk
    subst ex e
    exact ⟨F1, Grow.refl s2, r1.mono s1⟩
theorem wk_itemsK {g : Wl} {F : Hp} {d : Addr} {ob : Obj} {xs : List (Key × V)} {kvs : List (D × D)} (h : F d = some (dKp g d ob xs)) (r : Rpk g F xs kvs) : Wk g (Itik g d ob xs) F (kvs.map fun kv => .tuple [kv.1, kv.2]) := fun i F1 H1 s1 s2 => by
  have hH : H1 d = some (dKp g d ob xs) := s2 _ _ (s1 _ _ h)
  have hl := r.len
  refine ⟨fun dd hd => ?_, fun hn => ⟨hH, by rw [List.length_map] at hn; omega⟩⟩
  rw [List.getElem?_map] at hd
  cases q : kvs[i]? with
  | none => rw [q] at hd; cases hd
  | some kv =>
    rw [q] at hd
    cases hd
    obtain ⟨y, hy, r1, r2⟩ := r.at_ q
    have hi : i < xs.length := (List.getElem?_eq_some_iff.mp hy).1
    refine ⟨⟨hH, hi⟩, fun x H2 z => ?_⟩
    obtain ⟨T, k, v, hk, ex, hT, e⟩ := z
    rw [hy] at hk
    cases hk
    subst ex e
    obtain ⟨w, rr⟩ := grow_tup s2 hT (.cons (r1.mono s1) (.cons (r2.mono s1) .nil))
    exact ⟨_, w, rr⟩
/-- for k in d -/
def dckOf (r : Op) (k : List (D × D) → Prop) : Prop := match r with
  | .vl d => ∃ kvs, d = kD kvs ∧ k kvs
  | .tm (.dck kvs) => k kvs
  | _ => False
section
variable {X : Cx} {G : Gr} {tg : Expr} {apos cpos : Pos}
theorem dckOf_frz {g : Wl} {G : Gr} {σ : L2.St} {e : Sv} {F H : Hp} {v : V} {r : Op} {k : List (D × D) → Prop} (I : FI g G σ e F H) (h : RR g G σ e F H v r) (q : dckOf r k) : ∃ F1 kvs d ob xs, FI g G σ e F1 H ∧ Same F F1 ∧ v = .ref d ∧ F1 d = some (dKp g d ob xs) ∧ Rpk g F1 xs kvs ∧ k kvs := by
  unfold dckOf at q
  split at q
  · obtain ⟨kvs, rfl, q⟩ := q
    obtain ⟨a, ob, xs, e1, h1, h2⟩ := Rp.dckI h
    exact ⟨F, kvs, a, ob, xs, I, Same.refl F, e1, h1, h2, q⟩
  · obtain ⟨a, rfl, t⟩ := h
    obtain ⟨F1, h1, h2, h3⟩ := I.freezeT t
    obtain ⟨a, ob, xs, e1, h4, h5⟩ := Rp.dckI h1
    exact ⟨F1, _, a, ob, xs, h3, h2, e1, h4, h5, q⟩
  · exact q.elim
def dKeysK (t : DE) : DI := fun e Q => t e fun r e1 => dckOf r fun kvs => Q (kvs.map (·.1)) e1
def dItemsK (t : DE) : DI := fun e Q => t e fun r e1 => dckOf r fun kvs => Q (kvs.map fun kv => .tuple [kv.1, kv.2]) e1
theorem pdi_keysK {l : Expr} {t : DE} (h : PD X G l t) : PDI X G tg l (dKeysK t) := by
  refine pi_mono (pi_keysK h) fun σ H R q => ?_
  obtain ⟨e, F, Qd, I, hh, k⟩ := q
  refine ⟨e, F, _, I, hh, ?_⟩
  intro r v e1 F1 H1 I1 s1 r1 q1
  obtain ⟨F2, kvs, d, ob, xs, I2, s2, ev, h1, h2, q2⟩ := dckOf_frz I1 r1 q1
  exact ⟨d, ob, xs, ev, I2.sub _ _ h1, k _ _ e1 F2 H1 I2 (s1.trans s2) (wk_keysK h1 h2) q2⟩
theorem pdi_itemsK {elts : List Expr} {kk : Nat} {tpos : Pos} {l : Expr} {t : DE} (h : PD X G l t) (hbase : attributeBase l "items" X.env (eval l X.env) = eval l X.env := by rfl) (hline : (apos.endLine == cpos.line) = true := by rfl) : PDI X G (.Tuple elts kk tpos) (.Call (.Attribute l "items" apos) [] [] cpos) (dItemsK t) := by
  refine pi_mono (pi_itemsK h hbase hline) fun σ H R q => ?_
  obtain ⟨e, F, Qd, I, hh, k⟩ := q
  refine ⟨e, F, _, I, hh, ?_⟩
  intro r v e1 F1 H1 I1 s1 r1 q1
  obtain ⟨F2, kvs, d, ob, xs, I2, s2, ev, h1, h2, q2⟩ := dckOf_frz I1 r1 q1
  exact ⟨d, ob, xs, ev, I2.sub _ _ h1, k _ _ e1 F2 H1 I2 (s1.trans s2) (wk_itemsK h1 h2) q2⟩
end
/-! ### sorted(d), the keys whole numbers, fewer than 64 -/
def rSortK (g : Wl) : List V → Hp → VK → Prop := fun vs H Q => ∃ (a : Addr) (ob : Obj) (xs : List (Key × V)) (ks : List Int), vs = [.ref a] ∧ H a = some (dKp g a ob xs) ∧ xs.map (·.1) = ks.map Sum.inl ∧ ks.length < 64 ∧
    ∀ (ys : List Int) (p : Addr), ys.Perm ks → ys.Pairwise (· ≤ ·) → H p = none → Q (.ref p) (upd H p (.lst (ys.map V.int)))
theorem call_sortedK {X : Cx} (hcalm : X.calm = true) : CallR X (.builtin "sorted") (rSortK (wl X)) := by
  intro pins s σ H xs us Q I r q
  obtain ⟨a, ob, kvs, ks, ex, hd, hks, h64, q⟩ := q
  subst ex
  obtain ⟨u, eu, rx⟩ := vals1 r
  subst eu
  cases rx
  obtain ⟨lo, _, _, _, ep, vs, _, _, z, rel, hat⟩ := dkpAt I hd
  have hkeys : vs.map (·.1) = ks.map Sum.inl := rel.keys.symm.trans hks
  have hl : vs.length = ks.length := by
    have e := congrArg List.length hkeys
    rw [List.length_map, List.length_map] at e
    exact e
  have h16 : vs.length ≤ sizeLine := by rw [hl, sizeLine_eq]; omega
  refine Calls.call_function_entry PyProof.Rows.kind_sorted PyProof.Rows.plain_sorted PyProof.Rows.entry_sorted (PyProof.Rows.args_sorted1 _) ?_
  unfold Builtin.«sorted»
  refine wpAny_bind (m := checkCount "sorted" 1 1 _) (wpAny_pure ?_)
  refine wpAny_bind (PySem.W.kdu_collect (A := X.A.in1) (PySem.W.kdl_dict (knd := mixKind X.prog X.w) (kvs := vs) (ep := ep) lo) (I.ok.hd hcalm) hat h16 fun h' tk acc hk hacc => ?_)
  have hal : acc.toList.length = ks.length := by rw [Array.length_toList, hacc.1, hl]
  have hS : IntsAre acc.toList ks := ints_each hal fun j v e => by
    obtain ⟨k, x, e1, e2⟩ := hacc.2 j v (by rw [← Array.getElem?_toList]; exact e)
    have e3 : (vs.map (·.1))[j]? = some k := by rw [List.getElem?_map, e1]; rfl
    rw [hkeys, List.getElem?_map] at e3
    cases e4 : ks[j]? with
    | none => rw [e4] at e3; cases e3
    | some y =>
      rw [e4] at e3
      have e5 : Sum.inl y = k := Option.some.inj e3
      subst e5
      rcases keyIs_shape (show keyIs (Sum.inl y) v = true from e2) with ⟨i, t, ek, ev⟩ | ⟨z, t, ek, ev⟩
      · cases ek
        exact ⟨y, t, rfl, ev⟩
      · cases ek
  have I1 : Inv X pins σ H { s with heap := h', toks := tk } := I.kept hk
  refine wpAny_bind (wpAny_newList ?_ (by rw [hal, sizeLine_eq]; omega))
  have hoL : (h'.push (seqObj "list" acc.toList.toArray 0)).get? h'.objs.size = some (seqObj "list" acc.toList.toArray 0) := Heap.get?_push_size _ rfl
  show wpAny _ _ _ _ _ { s with heap := h'.push (seqObj "list" acc.toList.toArray 0), toks := tk }
  refine wpAny_bind (wpAny_holding (wpAny_call_entry PyProof.Rows.slot_list_sort ⟨_, hoL, rfl⟩ PyProof.Rows.entry_list_sort
    (PyProof.Rows.list_sort_tree (s := { s with heap := h'.push (seqObj "list" acc.toList.toArray 0), toks := tk }) hoL hS (by rw [hal]; exact h64) fun out ys g1 g2 g3 => ⟨_, rfl, ?_⟩) (PyProof.Rows.args_list_sort _)))
  obtain ⟨e', he'⟩ := PyProof.Rows.sortedHeap_at (vs := acc.toList) (out := out) hoL
  have hlen : (ys.map V.int).length ≤ sizeLine := by
    rw [List.length_map, g2.length_eq]
    exact Nat.le_trans (Nat.le_of_lt h64) (by decide)
  refine wpAny_pure ⟨_, rfl, .ref h'.objs.size, upd H h'.objs.size (.lst (ys.map V.int)), I1.laid (t' := tk) (fun b u e => ?_) (Nat.le_refl _)
    (show ObjOk X.prog X.w _ _ _ (.lst (ys.map V.int)) from ⟨hlen, out.toList, e', vals_of_ints g1, by rw [Array.toArray_toList]; exact he'⟩), rfl, q ys _ g2 g3 (I1.hok.fresh (Nat.le_refl _))⟩
  have hb : b < h'.objs.size := Heap.lt_size e
  rw [PyProof.Rows.sortedHeap_old (Nat.ne_of_lt hb) (by rw [size_push']; exact Nat.lt_succ_of_lt hb)]
  exact Heap.get?_push_of_some _ e
def tSortK (ds : List D) (Q : Op → Prop) : Prop := ∃ kvs, ds = [kD kvs] ∧ ∃ ks : List Int, kvs.map (·.1) = ks.map PyData.int ∧ ks.length < 64 ∧ ∀ ys : List Int, ys.Perm ks → ys.Pairwise (· ≤ ·) → Q (.tm (.lst (ys.map .int)))
theorem keys_ints : ∀ {xs : List (Key × V)} {ks : List Int}, (xs.map fun x => kdat x.1) = ks.map PyData.int → xs.map (·.1) = ks.map Sum.inl
  | [], [], _ => rfl
  | [], _ :: _, h => by cases h
  | _ :: _, [], h => by cases h
  | (k, v) :: xs, i :: ks, h => by
    rw [List.map_cons, List.map_cons] at h
    injection h with h1 h2
    rw [List.map_cons, List.map_cons, keys_ints h2]
    cases k with
    | inl j =>
      have : PyData.int j = .int i := h1
      injection this with this
      subst this
      rfl
    | inr x =>
      have : PyData.str x = .int i := h1
      cases this
theorem cd_sortK {g : Wl} : CallD g (rSortK g) tSortK := by
  intro F H vs ds Qd Q s hb q k
  obtain ⟨kvs, rfl, ks, hks, h64, q⟩ := q
  obtain ⟨v, rfl, b⟩ := bps1 hb
  obtain ⟨a, ob, xs, rfl, h, r⟩ := b.dck s
  rw [r.keys] at hks
  refine ⟨a, ob, xs, ks, rfl, h, keys_ints hks, h64, fun ys p h1 h2 hp => ?_⟩
  obtain ⟨w, n⟩ := grow_lst s hp (rps_ints (g := g) (F := F) ys)
  exact k (.tm (.lst _)) _ _ _ w n (q ys h1 h2)
end DL
/-! DL, part V: {k: v}, one pair. -/
namespace DL
open PySem PySem.Spec PyProof.Rows L2
def dDisp1 (mk : List (D × D) → OD) (chk : D → Prop) (tk tv : DE) : DE := fun e Q => tk (lend e) fun rk e1 => match rk with
  | .vl k => tv e1 fun rv e2 => onD rv fun v => chk k ∧ Q (.tm (mk [(k, v)])) (unlend e e2)
  | _ => False
section
variable {X : Cx} {G : Gr}
theorem not_lent {g : Wl} {σ : L2.St} {e : Sv} {F H F1 H1 : Hp} {p : Addr} {n : Nat} (J : FI g G σ e F H) (J1 : FI g G σ e F1 H1) (hn : H p = none) : ∀ i, (lentG n σ e F1 H1).M i ≠ some p := fun i z => by
  obtain ⟨o, h1, h2⟩ := (lentM J1).mp z
  obtain ⟨a, h3, _, h4⟩ := J.own i o h1
  rw [h2] at h3
  cases h3
  obtain ⟨u, eu⟩ := h4.there
  rw [hn] at eu; cases eu
theorem pd_disp1N {kx vx : Expr} {tk tv : DE} {pos : Pos} (hu : X.A.units + 64 < cLine) (hk : ∀ G, PD X G kx tk) (hv : ∀ G, PD X G vx tv) : PD X G (.Dict [some kx] [vx] pos) (dDisp1 .dct isKey tk tv) := by
  refine ⟨fun pins s σ H Q I q => ?_⟩
  obtain ⟨e, F, Qd, J, hh, k⟩ := q
  have hn := I.hok.fresh (Nat.le_refl s.heap.objs.size)
  obtain ⟨ob, ok⟩ := dn_ok (P := X.prog) (w := X.w) (K := X.K) (H' := upd H s.heap.objs.size (.lst [])) (a := s.heap.objs.size) (xs := []) (vs := []) (beq_eq_false_iff_ne.mpr (Ne.symm (Nat.ne_of_lt I.big))) (Nat.zero_le _) (fun _ z => nomatch z) .nil (Heap.DictOfH.new s.heap)
  have I1 : Inv X pins σ (upd H s.heap.objs.size (dN (wl X) s.heap.objs.size ob [])) { s with heap := s.heap.push { cls := .type "dict", data := .dict #[] } } := I.laid (t' := s.toks) (fun _ _ q => Heap.get?_push_of_some _ q) (Nat.le_refl _) ok
  have J1 := J.grow (Grow.tmp (o := dN (wl X) s.heap.objs.size ob []) J.sub hn)
  have J2 := J1.lend
  have nl := not_lent (n := G.n) J J1 hn
  refine wpAny_Dict_any (by rfl) (by rfl) (by simp) (by show 1 ≤ 15; decide) ?_
  refine pairTrees_cons_walk (thn ((hk _).run pins _ σ _ (fun x H2 => ∃ F2 e1 kd, FI (wl X) (lentG G.n σ e F (upd H s.heap.objs.size (dN (wl X) s.heap.objs.size ob []))) σ e1 F2 H2 ∧ Same F F2 ∧ Rp (wl X) F2 x kd ∧ tv e1 fun rv e2 => onD rv fun v => isKey kd ∧ Qd (.tm (.dct [(kd, v)])) (unlend e e2)) I1 ⟨lend e, F, _, J2, hh, fun r v e' F' H' I' s' rr q' => ?_⟩) fun u s1 ⟨x, H2, I2, rx, F2, e1, kd, JK, sF, rk, q2⟩ => ?_)
  · cases r with
    | vl d => exact ⟨F', e', d, I', s', rr, q'⟩
    | tm o => exact q'.elim
    | sl j => exact q'.elim
  refine thn ((hv _).run pins _ σ H2 (fun y H3 => ∃ F3 e2 vd, FI (wl X) (lentG G.n σ e F (upd H s.heap.objs.size (dN (wl X) s.heap.objs.size ob []))) σ e2 F3 H3 ∧ Same F2 F3 ∧ Rp (wl X) F3 y vd ∧ isKey kd ∧ Qd (.tm (.dct [(kd, vd)])) (unlend e e2)) I2 ⟨e1, F2, _, JK, q2, fun r v e' F' H' I' s' rr q' => ?_⟩) fun w s2 ⟨y, H3, I3, ry, F3, e2, vd, JV, sF3, rv, hkey, hQ⟩ => ?_
  · obtain ⟨F4, d, I4, s4, r4, q5⟩ := frozen_of I' rr q'
    exact ⟨F4, e', d, I4, s'.trans s4, r4, q5.1, q5.2⟩
  refine pairTrees_nil_walk ?_
  have hp : H3 s.heap.objs.size = some (dN (wl X) s.heap.objs.size ob []) := JV.keep s.heap.objs.size _ upd_same nl
  have hF : F3 s.heap.objs.size = none := JV.fre s.heap.objs.size _ upd_same (J.sub.free hn) nl
  obtain ⟨kk, rfl, kn, rk', b, rfl⟩ := (Bp.of (H := H3) (rk.mono sF3)).key JV.sub hkey
  obtain rfl : u = .ref b := rx
  obtain ⟨a1, a2, a3, a4, vs, r, dd⟩ := dnAt I3 (a := s.heap.objs.size) (xs := []) hp (fun _ z => nomatch z)
  cases r
  show wpAny _ _ (storeAll s.heap.objs.size [(.ref b, w)]) _ _ s2
  unfold storeAll
  refine PySem.wpAny_storeAllH (knd := nestedKind X.prog X.w) (ps := [(kk, b, w)]) (acc := []) (by show X.A.units + 8 < cLine; omega) _ _ _ ⟨rfl, rfl, ⟨nis I3 kn.rp rfl, kn.dep⟩, trivial⟩ dd (by rw [sizeLine_eq]; show 0 + 1 ≤ _; decide) fun h' tk dd' hs' => ?_
  have he : ∃ q, h'.get? s.heap.objs.size = some q := let ⟨q, _, _, hq, _⟩ := dd'; ⟨q, hq⟩
  have rel : RelN [(kk, b, y)] (storedAllH [] [(kk, b, w)]) := .cons ⟨rfl, rfl, ry⟩ .nil
  obtain ⟨ob', ok'⟩ := dn_ok (P := X.prog) (w := X.w) (K := X.K) (H' := upd H3 s.heap.objs.size (.lst [])) (xs := [(kk, b, y)]) a1 (by rw [sizeLine_eq]; show 1 ≤ _; decide) (fun x hx => by rw [List.mem_singleton.mp hx]; exact kn.dep) rel dd'
  have I4 := d_write (ob := dN (wl X) s.heap.objs.size ob' [(kk, b, y)]) (t' := tk) I3 (by rw [hp]; exact True.intro) hs' he ok'
  have J3 := J1.unlend JV
  have ow : ∀ i o, ownI (unlend e e2) i = some o → σ[i]? ≠ some (some (V.ref s.heap.objs.size)) := fun i o h1 h2 => by
    have hl : e.length = e2.length := J.len.trans JV.len.symm
    have hi : i < e.length := by
      rw [hl]
      have h3 := JV.len
      have h4 := (List.getElem?_eq_some_iff.mp h2).1
      omega
    have h5 : ∃ o', ownI e2 i = some o' := by
      unfold ownI at h1 ⊢
      rw [unlend_get hl] at h1
      cases r0 : e[i]? with
      | none => rw [r0] at h1; cases h1
      | some s0 =>
        rw [r0] at h1
        cases r1 : e2[i]? with
        | none => rw [r1] at h1; cases h1
        | some s1 =>
          rw [r1] at h1
          cases s0 <;> cases s1 <;> first | exact ⟨_, rfl⟩ | cases h1
    obtain ⟨o', h5⟩ := h5
    unfold ownI at h5
    cases r1 : e2[i]? with
    | none => rw [r1] at h5; cases h5
    | some s1 =>
      rw [r1] at h5
      cases s1 with
      | no => cases h5
      | sh d => cases h5
      | ow o2 =>
        have := JV.low i o2 _ r1 h2
        have hz : (upd H s.heap.objs.size (dN (wl X) s.heap.objs.size ob [])) s.heap.objs.size = none := this
        rw [upd_same] at hz
        cases hz
      | io o2 =>
        obtain ⟨c, h6, h7⟩ := JV.io i o2 r1
        rw [h2] at h7
        cases h7
        exact nl i h6
  have J4 := J3.offw (u := dN (wl X) s.heap.objs.size ob' [(kk, b, y)]) hF (J.fresh hn) ow
  exact ⟨.ref s.heap.objs.size, _, I4, rfl, k (.tm (.dct [(kk.data, vd)])) _ (unlend e e2) F3 _ J4 (sF.trans sF3) ⟨_, rfl, hF, J.fresh hn, ow, ob', _, upd_same, .cons rk' rv .nil⟩ hQ⟩
theorem pd_disp1K {kx vx : Expr} {tk tv : DE} {pos : Pos} (hk : ∀ G, PD X G kx tk) (hv : ∀ G, PD X G vx tv) : PD X G (.Dict [some kx] [vx] pos) (dDisp1 .dck isKeyK tk tv) := by
  refine ⟨fun pins s σ H Q I q => ?_⟩
  obtain ⟨e, F, Qd, J, hh, k⟩ := q
  have hn := I.hok.fresh (Nat.le_refl s.heap.objs.size)
  obtain ⟨z0, hd0, vs0, r0, dd0⟩ := dk_empty (P := X.prog) (w := X.w) (H := upd H s.heap.objs.size (.lst [])) s.heap I.big
  obtain ⟨ob, ok⟩ := dkp_ok (P := X.prog) (w := X.w) (K := X.K) (H' := upd H s.heap.objs.size (.lst [])) hd0 z0 r0 dd0
  have I1 : Inv X pins σ (upd H s.heap.objs.size (dKp (wl X) s.heap.objs.size ob [])) { s with heap := s.heap.push { cls := .type "dict", data := .dict #[] } } := I.laid (t' := s.toks) (fun _ _ q => Heap.get?_push_of_some _ q) (Nat.le_refl _) ok
  have J1 := J.grow (Grow.tmp (o := dKp (wl X) s.heap.objs.size ob []) J.sub hn)
  have J2 := J1.lend
  have nl := not_lent (n := G.n) J J1 hn
  refine wpAny_Dict_walk (knd := mixKind X.prog X.w) (by rfl) (by rfl) (by simp) (by show 1 ≤ 15; decide) ?_
  refine pairTrees_cons_walk (thn ((hk _).run pins _ σ _ (fun x H2 => ∃ F2 e1 kd, FI (wl X) (lentG G.n σ e F (upd H s.heap.objs.size (dKp (wl X) s.heap.objs.size ob []))) σ e1 F2 H2 ∧ Same F F2 ∧ Rp (wl X) F2 x kd ∧ tv e1 fun rv e2 => onD rv fun v => isKeyK kd ∧ Qd (.tm (.dck [(kd, v)])) (unlend e e2)) I1 ⟨lend e, F, _, J2, hh, fun r v e' F' H' I' s' rr q' => ?_⟩) fun u s1 ⟨x, H2, I2, rx, F2, e1, kd, JK, sF, rk, q2⟩ => ?_)
  · cases r with
    | vl d => exact ⟨F', e', d, I', s', rr, q'⟩
    | tm o => exact q'.elim
    | sl j => exact q'.elim
  refine thn ((hv _).run pins _ σ H2 (fun y H3 => ∃ F3 e2 vd, FI (wl X) (lentG G.n σ e F (upd H s.heap.objs.size (dKp (wl X) s.heap.objs.size ob []))) σ e2 F3 H3 ∧ Same F2 F3 ∧ Rp (wl X) F3 y vd ∧ isKeyK kd ∧ Qd (.tm (.dck [(kd, vd)])) (unlend e e2)) I2 ⟨e1, F2, _, JK, q2, fun r v e' F' H' I' s' rr q' => ?_⟩) fun w s2 ⟨y, H3, I3, ry, F3, e2, vd, JV, sF3, rv, hkey, hQ⟩ => ?_
  · obtain ⟨F4, d, I4, s4, r4, q5⟩ := frozen_of I' rr q'
    exact ⟨F4, e', d, I4, s'.trans s4, r4, q5.1, q5.2⟩
  refine pairTrees_nil_walk ?_
  have hp : H3 s.heap.objs.size = some (dKp (wl X) s.heap.objs.size ob []) := JV.keep s.heap.objs.size _ upd_same nl
  have hF : F3 s.heap.objs.size = none := JV.fre s.heap.objs.size _ upd_same (J.sub.free hn) nl
  obtain ⟨kk, rfl⟩ := hkey
  obtain ⟨rfl, rk'⟩ := (Bp.of (H := H3) (rk.mono sF3)).kk
  obtain ⟨a1, _, _, es, ep, vs, _, _, a2, r, dd⟩ := dkpAt I3 (a := s.heap.objs.size) (xs := []) hp
  cases r
  refine ⟨[(kk, w)], ⟨kV_is rx, rfl, trivial⟩, dd.dictOf, fun h' dd' hs' => ?_⟩
  have he : ∃ q, h'.get? s.heap.objs.size = some q := let ⟨q, _, _, hq, _⟩ := dd'; ⟨q, hq⟩
  have rel : KV [(kk, y)] (merged [] [(kk, w)]) := .cons ⟨rfl, ry⟩ .nil
  obtain ⟨ob', ok'⟩ := dkp_ok (P := X.prog) (w := X.w) (K := X.K) (H' := upd H3 s.heap.objs.size (.lst [])) (xs := [(kk, y)]) a1 (by rw [sizeLine_eq]; show 1 ≤ _; decide) rel dd'
  have I4 := d_write (ob := dKp (wl X) s.heap.objs.size ob' [(kk, y)]) (t' := s2.toks + 1) I3 (by rw [hp]; exact True.intro) hs' he ok'
  have J3 := J1.unlend JV
  have ow : ∀ i o, ownI (unlend e e2) i = some o → σ[i]? ≠ some (some (V.ref s.heap.objs.size)) := fun i o h1 h2 => by
    have hl : e.length = e2.length := J.len.trans JV.len.symm
    have h5 : ∃ o', ownI e2 i = some o' := by
      unfold ownI at h1 ⊢
      rw [unlend_get hl] at h1
      cases r0 : e[i]? with
      | none => rw [r0] at h1; cases h1
      | some s0 =>
        rw [r0] at h1
        cases r1 : e2[i]? with
        | none => rw [r1] at h1; cases h1
        | some s1 =>
          rw [r1] at h1
          cases s0 <;> cases s1 <;> first | exact ⟨_, rfl⟩ | cases h1
    obtain ⟨o', h5⟩ := h5
    unfold ownI at h5
    cases r1 : e2[i]? with
    | none => rw [r1] at h5; cases h5
    | some s1 =>
      rw [r1] at h5
      cases s1 with
      | no => cases h5
      | sh d => cases h5
      | ow o2 =>
        have := JV.low i o2 _ r1 h2
        have hz : (upd H s.heap.objs.size (dKp (wl X) s.heap.objs.size ob [])) s.heap.objs.size = none := this
        rw [upd_same] at hz
        cases hz
      | io o2 =>
        obtain ⟨c, h6, h7⟩ := JV.io i o2 r1
        rw [h2] at h7
        cases h7
        exact nl i h6
  have J4 := J3.offw (u := dKp (wl X) s.heap.objs.size ob' [(kk, y)]) hF (J.fresh hn) ow
  exact ⟨.ref s.heap.objs.size, _, I4, rfl, k (.tm (.dck [(kdat kk, vd)])) _ (unlend e e2) F3 _ J4 (sF.trans sF3) ⟨_, rfl, hF, J.fresh hn, ow, ob', _, upd_same, .cons rk' rv .nil⟩ hQ⟩
end
end DL
/-! DL, part W: sum(xs), i in range(n), a new list's pop. -/
namespace DL
open PySem PySem.Spec PyProof.Rows L2
theorem rps_int_back {g : Wl} {F : Hp} : ∀ {vs : List V} {ns : List Int}, Rps g F vs (ns.map PyData.int) → vs = ns.map V.int
  | _, [], h => by cases h; rfl
  | _, n :: ns, h => by
    cases h with
    | cons h1 h2 =>
      cases h1
      rw [rps_int_back h2, List.map_cons]
def tSumL (ds : List D) (Q : Op → Prop) : Prop := ∃ ns : List Int, ds = [.list (ns.map .int)] ∧ Q (.vl (.int ns.sum))
theorem cd_sum {g : Wl} : CallD g (rSum g.K) tSumL := by
  intro F H vs ds Qd Q s hb q k
  obtain ⟨ns, rfl, q⟩ := q
  obtain ⟨v, rfl, b⟩ := bps1 hb
  obtain ⟨a, us, rfl, h, r⟩ := b.list s
  have e := rps_int_back r
  subst e
  exact ⟨a, ns, rfl, .inl h, k (.vl (.int _)) _ F H (Grow.refl s) (Rp.int _) q⟩
section
variable {X : Cx} {G : Gr}
theorem cr_range1 : CallR X (.type "range") (fun vs H Q => ∃ n, vs = [V.int n] ∧ ∀ p, H p = none → Q (.ref p) (upd H p (.rng 0 n))) := by
  intro pins s σ H vs us Q I r h
  obtain ⟨n, rfl, q⟩ := h
  obtain ⟨u1, rfl, ri⟩ := vals1 r
  obtain ⟨t, rfl⟩ := ri
  refine call_range_1 ⟨.ref s.heap.objs.size, upd H s.heap.objs.size (.rng 0 n), I.laid (t' := s.toks + 1 + 1) (fun b o e => Heap.get?_push_of_some _ e) (Nat.le_refl _) ?_, rfl, q _ (I.hok.fresh (Nat.le_refl _))⟩
  exact ⟨s.toks, t, s.toks + 1, Heap.get?_push_size _ rfl⟩
theorem op_notIn_rng : OpR X (compareOp .NotIn) (fun x y H Q => ∃ i a lo hi, x = V.int i ∧ y = V.ref a ∧ H a = some (.rng lo hi) ∧ Q (.bl (!decide (lo ≤ i ∧ i < hi))) H) := by
  intro pins s σ H x y v u Q I rx ry h
  obtain ⟨i, a, lo, hi, rfl, rfl, ha, q⟩ := h
  obtain ⟨k, rfl⟩ := rx
  obtain rfl : u = Value.ref a := ry
  obtain ⟨t1, t2, t3, ho⟩ := I.hok a _ ha
  show wpAny _ _ (do return Value.bool (!(← contains (Value.ref a) (Value.int i k)))) _ _ s
  refine wpAny_bind (wpAny_contains_slot (T := "range") ⟨_, ho, rfl⟩ F.slot_range_contains (call_meets F.slot_range_contains ⟨_, ho, rfl⟩ F.entry_range_contains (F.args_range_contains_2 _ _) (q_contains a lo hi i t1 t2 t3 k)
    ⟨ho, wpAny_truthy_bool (wpAny_pure ⟨.bl _, H, I, rfl, ?_⟩)⟩))
  rw [place1]
  exact q
def dInRng (neg : Bool) (ta tb : DE) : DE := fun e Q => ta e fun ra e1 => tb e1 fun rb e2 => withO e2 (pend ra) fun x => withO e2 rb fun y => onI2 x y fun i n => Q (.vl (.bool (if neg then !decide (0 ≤ i ∧ i < n) else decide (0 ≤ i ∧ i < n)))) e2
theorem pd_notInRng {a b : Expr} {ta tb : DE} {p pos cpos : Pos} (hg : Gl X "range") (hm : X.mg "range" = none) (ha : PD X G a ta) (hb : PD X G b tb) (hs : starEach [b] X.env = (false, eval b X.env) :: starEach [] X.env := by rfl) (hpl : (backTo cpos (starEach [] X.env)).any (·.1) = false := by rfl)
    (hm2 : behindInMarks .NotIn (.Call (.Name "range" p) [b] [] cpos) = false := by rfl) :
    PD X G (.Compare a [.NotIn] [.Call (.Name "range" p) [b] [] cpos] pos) (dInRng true ta tb) := by
  refine pe_mono (pe_cmpR op_notIn_rng ha (pe_callTy cr_range1 hg hm (by decide +kernel) (pa_cons hb pa_nil hs) (by decide) (by decide) hs hpl) hm2) fun σ H Q q => ?_
  obtain ⟨e, F, Qd, I, hh, k⟩ := q
  refine ⟨e, F, _, I, hh, ?_⟩
  intro ra v e1 F1 H1 I1 s1 r1 q1
  obtain ⟨F1', I1', s1', r1'⟩ := rr_pend I1 r1
  refine ⟨e1, F1', _, I1', q1, ?_⟩
  intro rb u e2 F2 H2 I2 s2 r2 q2
  have ra2 : RR (wl X) G σ e2 F2 H2 v (pend ra) := rr_keep s2 r1'
  obtain ⟨x, bx, q3⟩ := bp_of I2 ra2 q2
  obtain ⟨y, by', q4⟩ := bp_of I2 r2 q3
  obtain ⟨i, n, rfl, rfl, q5⟩ := onI2_of bx by' q4
  refine ⟨n, rfl, fun p hp => ⟨i, p, 0, n, rfl, rfl, upd_same, ?_⟩⟩
  exact k (.vl (.bool _)) _ e2 F2 _ (I2.grow (Grow.tmp I2.sub hp)) ((s1.trans s1').trans s2) (Rp.bl _) q5
theorem pdt_notInRng {a b : Expr} {ta tb : DE} {p pos cpos : Pos} (hg : Gl X "range") (hm : X.mg "range" = none) (ha : PD X G a ta) (hb : PD X G b tb) (hs : starEach [b] X.env = (false, eval b X.env) :: starEach [] X.env := by rfl) (hpl : (backTo cpos (starEach [] X.env)).any (·.1) = false := by rfl)
    (hm2 : behindInMarks .NotIn (.Call (.Name "range" p) [b] [] cpos) = false := by rfl) :
    PDT X G (.Compare a [.NotIn] [.Call (.Name "range" p) [b] [] cpos] pos) (dTst (dInRng true ta tb)) := by
  refine pt_mono (pt_cmpR op_notIn_rng ha (pe_callTy cr_range1 hg hm (by decide +kernel) (pa_cons hb pa_nil hs) (by decide) (by decide) hs hpl) hm2) fun σ H Q q => ?_
  obtain ⟨e, F, Qd, I, hh, k⟩ := lift_tst q
  refine ⟨e, F, _, I, hh, ?_⟩
  intro ra v e1 F1 H1 I1 s1 r1 q1
  obtain ⟨F1', I1', s1', r1'⟩ := rr_pend I1 r1
  refine ⟨e1, F1', _, I1', q1, ?_⟩
  intro rb u e2 F2 H2 I2 s2 r2 q2
  have ra2 : RR (wl X) G σ e2 F2 H2 v (pend ra) := rr_keep s2 r1'
  obtain ⟨x, bx, q3⟩ := bp_of I2 ra2 q2
  obtain ⟨y, by', q4⟩ := bp_of I2 r2 q3
  obtain ⟨i, n, rfl, rfl, q5⟩ := onI2_of bx by' q4
  refine ⟨n, rfl, fun p hp => ⟨i, p, 0, n, rfl, rfl, upd_same, ?_⟩⟩
  exact k (.vl (.bool _)) _ e2 F2 _ (I2.grow (Grow.tmp I2.sub hp)) ((s1.trans s1').trans s2) (Rp.bl _) q5
/-- a, b = x, y: both told, stored from the right -/
def dPar (i j : Nat) (ts : List DE) : DS := fun D e => dVs ts e fun ds e1 => match ds with
  | [d1, d2] => setS e1 i (.vl d1) fun e2 => setS e2 j (.vl d2) D.nx
  | _ => False
theorem pds_par {i j : Nat} {x y : Str} {a b : Expr} {ts : List DE} {px py pt pos : Pos} {kt k2 pt2} (hc : X.calm = true) (hN : X.N.Nodup) (hi : X.N[i]? = some x) (hj : X.N[j]? = some y) (hij : i ≠ j)
    (hx : X.env.scope.names.lookup x = some .local) (hy : X.env.scope.names.lookup y = some .local) (ha : PDA X G [a, b] (dAs ts))
    (hw : swappedStores [.Tuple [.Name x px, .Name y py] kt pt] (.Tuple [a, b] k2 pt2) X.env = pure (some [x, y]) := by rfl)
    (hs : swapsWithSole [.Tuple [.Name x px, .Name y py] kt pt] (.Tuple [a, b] k2 pt2) pos.line X.env = pure false := by rfl) :
    PDS X G (.Assign [.Tuple [.Name x px, .Name y py] kt pt] (.Tuple [a, b] k2 pt2) pos) (dPar i j ts) := by
  refine ps_mono (ps_par hc hN hi hj hij hx hy ha hw hs) fun D σ H q => ?_
  obtain ⟨e, F, DD, I, hh, k1, k2, k3, k4⟩ := q
  refine ⟨e, F, _, I, hh, ?_⟩
  intro rs vs e1 F1 H1 I1 s1 r1 q1
  obtain ⟨ds, rd, q2⟩ := rps_of r1 q1
  match ds, rd, q2 with
  | [d1, d2], .cons h1 (.cons h2 .nil), q2 =>
    obtain ⟨e2, I2, q3⟩ := setS_ok (r := .vl d1) I1 h1 q2
    obtain ⟨e3, I3, q4⟩ := setS_ok (r := .vl d2) I2 h2 q3
    exact ⟨_, _, rfl, k1 _ e3 F1 H1 I3 s1 q4⟩
/-- (..).pop(j) of a new list -/
def dPopT (to : DE) (j : Nat) : DE := fun e Q => to e fun ro e1 => match ro with
  | .tm (.lst ds) => ∃ d, ds[j]? = some d ∧ ds.length ≤ 100000 ∧ Q (.vl d) e1
  | _ => False
theorem pd_popT {j : Nat} {o x : Expr} {to : DE} {apos cpos : Pos} (ho : PD X G o to) (hx : PE X x (tC (.int (j : Int))))
    (hbase : attributeBase o "pop" X.env (eval o X.env) = eval o X.env := by rfl)
    (hfew : ((backTo cpos (starEach (x :: []) X.env)).all (fun x => !x.1) && (backToKw cpos (keywordEach [] X.env)).all (fun x => x.1.isSome)
      && decide ((x :: []).length + ([] : List Keyword).length + (if ([] : List Keyword).isEmpty then 0 else 1) < 30)) = true := by rfl)
    (hline : (apos.endLine == cpos.line) = true := by rfl) (hs : starEach (x :: []) X.env = (false, eval x X.env) :: starEach [] X.env := by rfl) (hplain : (backTo cpos (starEach [] X.env)).any (·.1) = false := by rfl) :
    PD X G (.Call (.Attribute o "pop" apos) [x] [] cpos) (dPopT to j) := by
  refine pe_mono (pe_bm PySem.F.plainAttrs_list PySem.F.slot_list_pop PySem.F.type_list_pop mt_popAt ho (pa_cons hx pa_nil hs) hbase hfew hline hs hplain) fun σ H Q q => ?_
  obtain ⟨e, F, Qd, I, hh, k⟩ := q
  refine ⟨e, F, _, I, hh, ?_⟩
  intro ro v e1 F1 H1 I1 s1 r1 q1
  cases ro with
  | vl d => exact q1.elim
  | sl i => exact q1.elim
  | tm od =>
    cases od with
    | dct _ => exact q1.elim
    | dck _ => exact q1.elim
    | lst ds =>
      obtain ⟨d, hd, hl, q2⟩ := q1
      obtain ⟨a, rfl, t⟩ := r1
      obtain ⟨vs, h1, h2⟩ := t.at_
      obtain ⟨u, hu, ru⟩ := h2.get hd
      have hj : j < vs.length := (List.getElem?_eq_some_iff.mp hu).1
      have hj2 : vs.length ≤ 100000 := by rw [h2.length]; exact hl
      refine ⟨.inl ⟨rfl, vs, .of h1⟩, a, vs, (j : Int), j, u, rfl, rfl, h1, by omega, by omega, ?_, hu, ?_⟩
      · rw [seqIndex_of (by omega) (by omega)]; simp
      exact k (.vl d) _ e1 F1 _ (I1.offw t.f t.h0 t.no) s1 ru q2
end
/-! ### a dict of one's own walked by a comprehension, not frozen for good -/
def offF (F : Hp) (a : Addr) : Hp := fun b => if b = a then none else F b
theorem offF_ne {F : Hp} {a b : Addr} (h : b ≠ a) : offF F a b = F b := if_neg h
theorem offF_same {F : Hp} {a : Addr} : offF F a a = none := if_pos rfl
def notSeq (u : HO) : Prop := (∀ vs, u ≠ .lst vs) ∧ (∀ vs, u ≠ .tup vs) ∧ ∀ o u', u ≠ .frz o u'
theorem rd_off {F : Hp} {a b : Addr} {u v : HO} (h : F a = some u) (n : notSeq u) (hv : (∃ vs, v = .lst vs) ∨ ∃ vs, v = .tup vs) (r : Rd F b v) : Rd (offF F a) b v := by
  rcases r with e | ⟨o, e⟩
  · have : b ≠ a := fun z => by
      subst z
      rw [h] at e
      cases e
      rcases hv with ⟨vs, rfl⟩ | ⟨vs, rfl⟩
      · exact n.1 _ rfl
      · exact n.2.1 _ rfl
    exact .inl ((offF_ne this).trans e)
  · have : b ≠ a := fun z => by
      subst z
      rw [h] at e
      cases e
      exact n.2.2 _ _ rfl
    exact .inr ⟨o, (offF_ne this).trans e⟩
section
variable {g : Wl} {F : Hp} {a : Addr} {u : HO}
mutual
theorem Rp.off (h : F a = some u) (n : notSeq u) : ∀ {d : D} {v : V}, noDict d = true → Rp g F v d → Rp g (offF F a) v d
  | .none, _, _, r => by cases r; exact .non
  | .bool b, _, _, r => by cases r; exact .bl b
  | .int i, _, _, r => by cases r; exact .int i
  | .str x, _, _, r => by cases r with | str _ k => exact .str x k
  | .list ds, _, nd, r => by cases r with | lst h1 h2 => exact .lst (rd_off h n (.inl ⟨_, rfl⟩) h1) (Rps.off h n nd h2)
  | .tuple ds, _, nd, r => by
    cases r with
    | tup h1 h2 =>
      refine .tup ?_ (Rps.off h n nd h2)
      rcases h1 with h1 | h1
      · exact .inl (rd_off h n (.inr ⟨_, rfl⟩) h1)
      · exact .inr h1
  | .dict kvs, _, nd, _ => by cases nd
theorem Rps.off (h : F a = some u) (n : notSeq u) : ∀ {ds : List D} {vs : List V}, noDicts ds = true → Rps g F vs ds → Rps g (offF F a) vs ds
  | [], _, _, r => by cases r; exact .nil
  | d :: ds, _, nd, r => by
    obtain ⟨n1, n2⟩ := Bool.and_eq_true_iff.mp (show (noDict d && noDicts ds) = true from nd)
    cases r with | cons h1 h2 => exact .cons (Rp.off h n n1 h1) (Rps.off h n n2 h2)
end
def flatKV (kvs : List (D × D)) : Prop := ∀ kv ∈ kvs, noDict kv.1 = true ∧ noDict kv.2 = true
theorem Rpn.off (h : F a = some u) (n : notSeq u) : ∀ {kvs : List (D × D)} {xs : List (NK × Addr × V)}, flatKV kvs → Rpn g F xs kvs → Rpn g (offF F a) xs kvs
  | [], _, _, r => by cases r; exact .nil
  | (k, d) :: kvs, _, nd, r => by
    have n1 := nd _ List.mem_cons_self
    cases r with | cons h0 h1 h2 => exact .cons (Rp.off h n n1.1 h0) (Rp.off h n n1.2 h1) (Rpn.off h n (fun kv hk => nd kv (List.mem_cons_of_mem _ hk)) h2)
theorem Rpk.off (h : F a = some u) (n : notSeq u) : ∀ {kvs : List (D × D)} {xs : List (Key × V)}, flatKV kvs → Rpk g F xs kvs → Rpk g (offF F a) xs kvs
  | [], _, _, r => by cases r; exact .nil
  | (k, d) :: kvs, _, nd, r => by
    have n1 := nd _ List.mem_cons_self
    cases r with | cons h0 h1 h2 => exact .cons (Rp.off h n n1.1 h0) (Rp.off h n n1.2 h1) (Rpk.off h n (fun kv hk => nd kv (List.mem_cons_of_mem _ hk)) h2)
def odFlat : OD → Prop
  | .lst ds => noDicts ds = true
  | .dct kvs => flatKV kvs
  | .dck kvs => flatKV kvs
theorem OwAt.off {H : Hp} {b : Addr} {o : OD} (h : F a = some u) (n : notSeq u) (fl : odFlat o) (k : OwAt g F H b o) : OwAt g (offF F a) H b o := by
  cases o with
  | lst ds => obtain ⟨vs, h1, h2⟩ := k; exact ⟨vs, h1, h2.off h n fl⟩
  | dct kvs => obtain ⟨ob, xs, h1, h2⟩ := k; exact ⟨ob, xs, h1, h2.off h n fl⟩
  | dck kvs => obtain ⟨ob, xs, h1, h2⟩ := k; exact ⟨ob, xs, h1, h2.off h n fl⟩
end
/-- the other things of one's own hold no dicts -/
def flatBut (i : Nat) (e : Sv) : Prop := ∀ j o, j ≠ i → ownI e j = some o → odFlat o
def dHide (i : Nat) (t : DE) : DE := fun e Q => ∃ kvs, e[i]? = some (.ow (.dct kvs)) ∧ flatBut i e ∧ t (e.set i (.sh (.dict kvs))) fun r e' => ∃ ds, r = .tm (.lst ds) ∧ noDicts ds = true ∧ e' = e.set i (.sh (.dict kvs)) ∧ Q (.tm (.lst ds)) e
theorem pd_hide {X : Cx} {G : Gr} {i : Nat} {x : Expr} {t : DE} (h : PD X G x t) : PD X G x (dHide i t) := by
  refine pe_mono h fun σ H Q q => ?_
  obtain ⟨e, F, Qd, I, ⟨kvs, he, fl, hh⟩, k⟩ := q
  obtain ⟨a, ha, hFa, ob, xs, hHa, hr⟩ := I.own i (.dct kvs) (ownI_ow he)
  have hi : i < e.length := (List.getElem?_eq_some_iff.mp he).1
  have sF : Same F (upd F a (dN (wl X) a ob xs)) := fun b v q => by rw [upd_ne (ne_of_none q hFa)]; exact q
  have h0 := I.low i _ a he ha
  have se : ∀ j, j ≠ i → (e.set i (.sh (.dict kvs)))[j]? = e[j]? := fun j hj => List.getElem?_set_ne (Ne.symm hj)
  have so : ∀ j, j ≠ i → ownI (e.set i (.sh (.dict kvs))) j = ownI e j := fun j hj => by unfold ownI; rw [se j hj]
  -- frozen for the while
  have I0 : FI (wl X) G σ (e.set i (.sh (.dict kvs))) (upd F a (dN (wl X) a ob xs)) H := by
    refine ⟨I.sub0.trans sF, fun b v q => ?_, by simpa using I.len, I.ln, fun j d q => ?_, fun j o q => ?_, fun j l b o1 o2 q1 q2 q3 q4 => ?_, fun j o b q1 q2 => ?_, fun j o q => ?_, fun j b q => ?_, I.keep, fun b o q1 q2 q3 => ?_⟩
    · by_cases z : b = a
      · subst z; rw [upd_same] at q; cases q; exact hHa
      · rw [upd_ne z] at q; exact I.sub _ _ q
    · by_cases z : j = i
      · subst z
        rw [List.getElem?_set_self hi] at q
        cases q
        exact ⟨_, ha, .dct upd_same (hr.mono sF)⟩
      · rw [se j z] at q
        obtain ⟨v, q1, q2⟩ := I.sh j d q
        exact ⟨v, q1, q2.mono sF⟩
    · have z : j ≠ i := fun z => by
        subst z
        unfold ownI at q
        rw [List.getElem?_set_self hi] at q
        cases q
      rw [so j z] at q
      obtain ⟨b, b1, b2, b3⟩ := I.own j o q
      have hb : b ≠ a := fun y => by
        subst y
        exact z (I.dist j i b o (.dct kvs) q (ownI_ow he) b1 ha)
      exact ⟨b, b1, by rw [upd_ne hb]; exact b2, b3.mono sF rfl⟩
    · have z1 : j ≠ i := fun z => by subst z; unfold ownI at q1; rw [List.getElem?_set_self hi] at q1; cases q1
      have z2 : l ≠ i := fun z => by subst z; unfold ownI at q2; rw [List.getElem?_set_self hi] at q2; cases q2
      rw [so j z1] at q1
      rw [so l z2] at q2
      exact I.dist j l b o1 o2 q1 q2 q3 q4
    · have z : j ≠ i := fun z => by subst z; rw [List.getElem?_set_self hi] at q1; cases q1
      rw [se j z] at q1
      exact I.low j o b q1 q2
    · have z : j ≠ i := fun z => by subst z; rw [List.getElem?_set_self hi] at q; cases q
      rw [se j z] at q
      exact I.io j o q
    · obtain ⟨o, ho⟩ := I.iom j b q
      have z : j ≠ i := fun z => by subst z; rw [he] at ho; cases ho
      exact ⟨o, by rw [se j z]; exact ho⟩
    · have hb : b ≠ a := fun y => by subst y; rw [h0] at q1; cases q1
      rw [upd_ne hb]
      exact I.fre b o q1 q2 q3
  refine ⟨_, _, _, I0, hh, ?_⟩
  rintro r v e1 F1 H1 I1 s1 r1 ⟨ds, rfl, nd, rfl, hQ⟩
  have hF1 : F1 a = some (dN (wl X) a ob xs) := s1 _ _ upd_same
  have ns : notSeq (dN (wl X) a ob xs) := ⟨fun _ z => (nomatch z), fun _ z => (nomatch z), fun _ _ z => (nomatch z)⟩
  have sO : Same F (offF F1 a) := fun b v q => by
    rw [offF_ne (ne_of_none q hFa)]
    exact s1 _ _ (sF _ _ q)
  obtain ⟨p, rfl, tm⟩ := r1
  have hp : p ≠ a := fun z => by have := tm.f; rw [z, hF1] at this; cases this
  have Iout : FI (wl X) G σ e (offF F1 a) H1 := by
    refine ⟨I.sub0.trans sO, fun b v q => ?_, I.len, I.ln, fun j d q => ?_, fun j o q => ?_, I.dist, I.low, I.io, I.iom, I1.keep, fun b o q1 q2 q3 => ?_⟩
    · by_cases z : b = a
      · subst z; rw [offF_same] at q; cases q
      · rw [offF_ne z] at q; exact I1.sub _ _ q
    · obtain ⟨v, q1, q2⟩ := I.sh j d q
      exact ⟨v, q1, q2.mono sO⟩
    · by_cases z : j = i
      · subst z
        rw [ownI_ow he] at q
        cases q
        exact ⟨a, ha, offF_same, ob, xs, I1.sub _ _ hF1, hr.mono sO⟩
      · have q' := q
        rw [← so j z] at q'
        obtain ⟨b, b1, b2, b3⟩ := I1.own j o q'
        have hb : b ≠ a := fun y => by subst y; rw [hF1] at b2; cases b2
        exact ⟨b, b1, by rw [offF_ne hb]; exact b2, b3.off hF1 ns (fl j o z q)⟩
    · by_cases z : b = a
      · subst z; exact offF_same
      · rw [offF_ne z]; exact I1.fre b o q1 q2 q3
  refine k (.tm (.lst ds)) _ e (offF F1 a) H1 Iout sO ⟨p, rfl, by rw [offF_ne hp]; exact tm.f, tm.h0, fun j o q1 q2 => ?_, tm.at_.off hF1 ns nd⟩ hQ
  by_cases z : j = i
  · subst z
    rw [ha] at q2
    cases q2
    exact hp rfl
  · exact tm.no j o (by rw [so j z]; exact q1) q2
end DL
/-! family A: what the drawing of programs promises. -/
namespace DL
open PySem PySem.Spec PyProof.Rows L2
def sp__law_cell_at : FS := fun as Q E => ∃ (ns : List Int) (k : Nat), as = [.sh (scrD (ns.map .int)), .sh (dNat k)] ∧ ∀ c : Int, Q (.vl (.int c)) []
def sp__law_stir : FS := fun as Q E => ∃ (c : Int) (k : Nat), as = [.sh (.int c), .sh (dNat k)] ∧ k ≤ 1000 ∧ ∀ n : Nat, Q (.vl (dNat n)) []
def nats (ns : List Nat) : OD := .lst (ns.map dNat)
def sp__law_deck : FS := fun as Q E => ∃ (c : Int) (k : Nat), as = [.sh (.int c), .sh (dNat k)] ∧ k ≤ 1000 ∧ ∀ ns : List Nat, Q (.tm (nats ns)) []
def sp__law_next : FS := fun as Q E => ∃ ns : List Nat, as = [.io (nats ns)] ∧ ∀ (n : Nat) (ms : List Nat), Q (.vl (dNat n)) [nats ms]
/-- a thing -/
inductive Th where
  | num (n : Nat) | box (b : Str) | op (w : Str) (x y : Th)
def Th.d : Th → D
  | .num n => .tuple [.str "number", dNat n]
  | .box b => .tuple [.str "box", .str b]
  | .op w x y => .tuple [.str w, x.d, y.d]
def Th.ok (m : Nat) (bs : List Str) : Th → Prop
  | .num n => n < m
  | .box b => b ∈ bs
  | .op w x y => w ∈ (["plus", "times", "less", "same"] : List Str) ∧ x.ok m bs ∧ y.ok m bs
def Th.dep : Th → Nat
  | .num _ => 1
  | .box _ => 1
  | .op _ x y => max x.dep y.dep + 1
def Th.fit (m : Nat) (bs : List Str) (t : Th) : Prop := t.ok m bs ∧ t.dep ≤ 4
inductive Row where
  | set (b : Str) (t : Th) | pick (b : Str) (ts : List Th) | need (t : Th) | skip (t : Th) (n : Nat) | give (t : Th)
def Row.d : Row → D
  | .set b t => .tuple [.str "set", .str b, t.d]
  | .pick b ts => .tuple [.str "pick", .str b, .list (ts.map Th.d)]
  | .need t => .tuple [.str "need", t.d]
  | .skip t n => .tuple [.str "skip", t.d, dNat n]
  | .give t => .tuple [.str "give", t.d]
def Row.ok (m : Nat) (bs : List Str) : Row → Prop
  | .set b t => b ∈ bs ∧ t.fit m bs
  | .pick b ts => b ∈ bs ∧ (1 ≤ ts.length ∧ ts.length ≤ 5) ∧ ∀ t ∈ ts, t.fit m bs
  | .need t => t.fit m bs
  | .skip t n => t.fit m bs ∧ 1 ≤ n ∧ n ≤ 30
  | .give t => t.fit m bs
def Row.wide : Row → Nat
  | .pick _ ts => ts.length
  | _ => 1
structure Pg where
  m : Nat
  bs : List Str
  rs : List Row
def bxD (bs : List Str) : D := .list (bs.map .str)
def Pg.d (p : Pg) : D := .tuple [dNat p.m, bxD p.bs, .list (p.rs.map Row.d)]
def wides : List Row → Nat
  | [] => 1
  | r :: rs => r.wide * wides rs
/-- the sort of numbers and boxes that are drawn -/
structure BxOk (m : Nat) (bs : List Str) : Prop where
  m2 : 2 ≤ m
  m16 : m ≤ 16
  nd : bs.Nodup
  ne : bs ≠ []
  len : bs.length ≤ 5
  ok : ∀ b ∈ bs, okS b = true
structure Pg.ok (p : Pg) (most wide : Nat) : Prop where
  bx : BxOk p.m p.bs
  len : p.rs.length ≤ most
  rows : ∀ r ∈ p.rs, r.ok p.m p.bs
  wid : wides p.rs ≤ wide
def stD (s : List Nat) : D := .tuple (s.map dNat)
def StOk (m : Nat) (bs : List Str) (s : List Nat) : Prop := s.length = bs.length ∧ ∀ n ∈ s, n < m
def sp__law_thing (dm : Nat) : FS := fun as Q E => ∃ (ns : List Nat) (m : Nat) (bs : List Str) (deep : Nat), as = [.io (nats ns), .sh (dNat m), .sh (bxD bs), .sh (dNat deep)] ∧ (1 ≤ m ∧ bs ≠ [] ∧ deep < dm) ∧
  ∀ (t : Th) (ms : List Nat), t.ok m bs → t.dep ≤ max deep 1 → Q (.vl t.d) [nats ms]
def sp__law_row : FS := fun as Q E => ∃ (ns : List Nat) (m : Nat) (bs : List Str) (wide : Nat), as = [.io (nats ns), .sh (dNat m), .sh (bxD bs), .sh (dNat wide)] ∧ (1 ≤ m ∧ bs ≠ [] ∧ 1 ≤ wide) ∧
  ∀ (r : Row) (ms : List Nat), r.ok m bs → r.wide ≤ wide → Q (.vl r.d) [nats ms]
def sp__law_boxes : FS := fun as Q E => ∃ ns : List Nat, as = [.io (nats ns)] ∧ ∀ (m : Nat) (bs : List Str) (ms : List Nat), BxOk m bs → Q (.vl (.tuple [dNat m, bxD bs])) [nats ms]
def sp__law_program : FS := fun as Q E => ∃ (ns : List Nat) (m : Nat) (bs : List Str) (most wide : Nat), as = [.io (nats ns), .sh (dNat m), .sh (bxD bs), .sh (dNat most), .sh (dNat wide)] ∧ (BxOk m bs ∧ most ≤ 100 ∧ 1 ≤ wide) ∧
  ∀ (p : Pg) (ms : List Nat), p.m = m → p.bs = bs → p.ok most wide → Q (.vl p.d) [nats ms]
def sp__law_store : FS := fun as Q E => ∃ (ns : List Nat) (p : Pg), as = [.io (nats ns), .sh p.d] ∧ (1 ≤ p.m ∧ p.bs.length ≤ 1000) ∧ ∀ (s ms : List Nat), StOk p.m p.bs s → Q (.vl (stD s)) [nats ms]
/- N: 0=script 1=k -/
def t__law_cell_at_1 : DS := dRet (dC (.int 0))
def t__law_cell_at : DS := dSeq (dIf (dTst (dOp (tB0 fun i j => decide (i < j)) (dRef 1) (dCB tLenU [dRef 0]))) (dRet (dOp tIx (dRef 0) (dVal 1))) (dNext)) t__law_cell_at_1

/- N: 0=cell 1=k 2=one -/
def t__law_stir_1 : DS := dRet (dOp (tI CDiv (· / ·)) (dOp (tI (fun _ j => 0 < j) (· % ·)) (dOp tMulU (dOp tAdd (dRef 2) (dOp tMulU (dC (.int 7919)) (dRef 1))) (dC (.int 16807))) (dC (.int 2147483563))) (dC (.int 8)))
def t__law_stir_2 : DS := dSeq (dSet 2 (dOp (tI (fun _ j => 0 < j) (· % ·)) (dOp tMulU (dRef 2) (dRef 2)) (dC (.int 2147483587)))) t__law_stir_1
def t__law_stir : DS := dSeq (dSet 2 (dOp (tI (fun _ j => 0 < j) (· % ·)) (dOp tMulU (dOp tAdd (dOp tAdd (dOp (tI (fun _ j => 0 < j) (· % ·)) (dRef 0) (dC (.int 2147483629))) (dOp tMulU (dC (.int 9973)) (dRef 1))) (dC (.int 5))) (dC (.int 48271))) (dC (.int 2147483647)))) t__law_stir_2

/- N: 0=cell 1=many 2=found 3=digits 4=k 5=number -/
def t__law_deck_1 : DS := dDrop (dApp 2 (dVal 5))
def t__law_deck_2 : DS := dSeq (dSet 3 (dOp (tI CDiv (· / ·)) (dRef 3) (dC (.int 720720)))) t__law_deck_1
def t__law_deck_3 : DS := dSeq (dIf (dTst (dOp (tB0 fun i j => decide (j ≤ i)) (dRef 0) (dOp (tI CPow fun i j => i ^ j.toNat) (dC (.int 10)) (dC (.int 18))))) (dSet 5 (dOp (tI (fun _ j => 0 < j) (· % ·)) (dRef 3) (dC (.int 720720)))) (dNext)) t__law_deck_2
def t__law_deck_4 : DS := dRet (dRevL (dRef 2))
def t__law_deck_5 : DS := dSeq (dFor (dRng1 [dVal 1]) (.nm 4) (dSeq (dSet 5 (dCall sp__law_stir [dVal 0, dVal 4])) t__law_deck_3)) t__law_deck_4
def t__law_deck_6 : DS := dSeq (dSet 3 (dVal 0)) t__law_deck_5
def t__law_deck : DS := dSeq (dSet 2 (dLst [])) t__law_deck_6

/- N: 0=deck -/
def t__law_next_1 : DS := dRet (dPop 0)
def t__law_next : DS := dSeq (dIf (dTst (dOp tEq (dRef 0) (dLst []))) (dRet (dC (.int 0))) (dNext)) t__law_next_1

/- N: 0=deck 1=m 2=boxes 3=deep 4=way 5=word -/
def t__law_thing_1 (dm : Nat) : DS := dRet (dTup [dC (.str "box"), dOp tIx (dRef 2) (dOp (tI (fun _ j => 0 < j) (· % ·)) (dCall sp__law_next [dRef 0]) (dCB tLenU [dRef 2]))])
def t__law_thing_2 (dm : Nat) : DS := dRet (dTup [dVal 5, dCall (sp__law_thing dm) [dRef 0, dVal 1, dVal 2, dOp (tI0 (· - ·)) (dRef 3) (dC (.int 1))], dCall (sp__law_thing dm) [dRef 0, dVal 1, dVal 2, dOp (tI0 (· - ·)) (dRef 3) (dC (.int 1))]])
def t__law_thing_3 (dm : Nat) : DS := dSeq (dSet 5 (dOp tIx (dLst [dC (.str "plus"), dC (.str "times"), dC (.str "less"), dC (.str "same"), dC (.str "plus"), dC (.str "times")]) (dOp (tI0 (· - ·)) (dRef 4) (dC (.int 2))))) (t__law_thing_2 dm)
def t__law_thing_4 (dm : Nat) : DS := dSeq (dIf (dOr (dTst (dOp (tB0 fun i j => decide (i < j)) (dRef 3) (dC (.int 2)))) (dTst (dOp (tB0 fun i j => decide (i < j)) (dRef 4) (dC (.int 2))))) (dSeq (dIf (dTst (dOp tEq (dOp (tI (fun _ j => 0 < j) (· % ·)) (dCall sp__law_next [dRef 0]) (dC (.int 2))) (dC (.int 0)))) (dRet (dTup [dC (.str "number"), dOp (tI (fun _ j => 0 < j) (· % ·)) (dCall sp__law_next [dRef 0]) (dRef 1)])) (dNext)) (t__law_thing_1 dm)) (dNext)) (t__law_thing_3 dm)
def t__law_thing (dm : Nat) : DS := dSeq (dSet 4 (dOp (tI (fun _ j => 0 < j) (· % ·)) (dCall sp__law_next [dRef 0]) (dC (.int 8)))) (t__law_thing_4 dm)

/- N: 0=deck 1=m 2=boxes 3=wide 4=way 5=thing 6=many 7=things 8=k -/
def t__law_row_1 : DS := dRet (dTup [dC (.str "pick"), dOp tIx (dRef 2) (dOp (tI (fun _ j => 0 < j) (· % ·)) (dCall sp__law_next [dRef 0]) (dCB tLenU [dRef 2])), dVal 7])
def t__law_row_2 : DS := dSeq (dSet 7 (dOp tAdd (dLst [dVal 5]) (dLc (dRng1 [dOp (tI0 (· - ·)) (dRef 6) (dC (.int 1))]) (.nm 8) [1, 2] (dYes) (dCall (sp__law_thing 5) [dRef 0, dVal 1, dVal 2, dOp tAdd (dC (.int 1)) (dOp (tI (fun _ j => 0 < j) (· % ·)) (dCall sp__law_next [dRef 0]) (dC (.int 2)))])))) t__law_row_1
def t__law_row_3 : DS := dRet (dTup [dC (.str "give"), dVal 5])
def t__law_row_4 : DS := dSeq (dIf (dTst (dOp tEq (dRef 4) (dC (.int 7)))) (dRet (dTup [dC (.str "skip"), dVal 5, dOp tAdd (dC (.int 1)) (dOp (tI (fun _ j => 0 < j) (· % ·)) (dCall sp__law_next [dRef 0]) (dOp tIx (dLst [dC (.int 4), dC (.int 4), dC (.int 30)]) (dOp (tI (fun _ j => 0 < j) (· % ·)) (dCall sp__law_next [dRef 0]) (dC (.int 3)))))])) (dNext)) t__law_row_3
def t__law_row_5 : DS := dSeq (dIf (dTst (dOp tEq (dRef 4) (dC (.int 6)))) (dRet (dTup [dC (.str "need"), dVal 5])) (dNext)) t__law_row_4
def t__law_row_6 : DS := dSeq (dIf (dTst (dOp (tB0 fun i j => decide (i < j)) (dRef 4) (dC (.int 6)))) (dSeq (dSet 6 (dCB (tMM mn2) [dOp tAdd (dC (.int 1)) (dOp (tI (fun _ j => 0 < j) (· % ·)) (dCall sp__law_next [dRef 0]) (dC (.int 5))), dCB (tMM mx2) [dC (.int 1), dRef 3]])) t__law_row_2) (dNext)) t__law_row_5
def t__law_row_7 : DS := dSeq (dIf (dTst (dOp (tB0 fun i j => decide (i < j)) (dRef 4) (dC (.int 2)))) (dRet (dTup [dC (.str "set"), dOp tIx (dRef 2) (dOp (tI (fun _ j => 0 < j) (· % ·)) (dCall sp__law_next [dRef 0]) (dCB tLenU [dRef 2])), dVal 5])) (dNext)) t__law_row_6
def t__law_row_8 : DS := dSeq (dSet 5 (dCall (sp__law_thing 5) [dRef 0, dVal 1, dVal 2, dOp tIx (dLst [dC (.int 1), dC (.int 2), dC (.int 2), dC (.int 4)]) (dOp (tI (fun _ j => 0 < j) (· % ·)) (dCall sp__law_next [dRef 0]) (dC (.int 4)))])) t__law_row_7
def t__law_row : DS := dSeq (dSet 4 (dOp (tI (fun _ j => 0 < j) (· % ·)) (dCall sp__law_next [dRef 0]) (dC (.int 10)))) t__law_row_8

/- N: 0=deck 1=spare 2=boxes 3=k -/
def t__law_boxes_1 : DS := dRet (dTup [dOp tAdd (dC (.int 2)) (dOp (tI (fun _ j => 0 < j) (· % ·)) (dCall sp__law_next [dRef 0]) (dC (.int 15))), dVal 2])
def t__law_boxes_2 : DS := dSeq (dSet 2 (dLc (dRng1 [dOp tIx (dLst [dC (.int 1), dC (.int 2), dC (.int 2), dC (.int 3), dC (.int 5)]) (dOp (tI (fun _ j => 0 < j) (· % ·)) (dCall sp__law_next [dRef 0]) (dC (.int 5)))]) (.nm 3) [] (dYes) (dPopAt 1 (dOp (tI (fun _ j => 0 < j) (· % ·)) (dCall sp__law_next [dRef 0]) (dCB tLenU [dRef 1]))))) t__law_boxes_1
def t__law_boxes : DS := dSeq (dSet 1 (dLst [dC (.str "a"), dC (.str "b"), dC (.str "ab"), dC (.str "zzzzzzzz"), dC (.str "give"), dC (.str "if"), dC (.str "x")])) t__law_boxes_2

/- N: 0=deck 1=m 2=boxes 3=most 4=wide 5=rows 6=k 7=row -/
def t__law_program_1 : DS := dDrop (dApp 5 (dVal 7))
def t__law_program_2 : DS := dSeq (dIf (dAnd (dTst (dOp tEq (dOp tIx (dRef 7) (dC (.int 0))) (dC (.str "give")))) (dAnd (dTst (dOp (tB0 fun i j => decide (i < j)) (dRef 6) (dC (.int 3)))) (dTst (dOp (tB0 fun i j => decide (j < i)) (dOp (tI (fun _ j => 0 < j) (· % ·)) (dCall sp__law_next [dRef 0]) (dC (.int 4))) (dC (.int 0)))))) (dSet 7 (dTup [dC (.str "set"), dOp tIx (dRef 2) (dC (.int 0)), dOp tIx (dRef 7) (dC (.int 1))])) (dNext)) t__law_program_1
def t__law_program_3 : DS := dSeq (dIf (dTst (dOp tEq (dOp tIx (dRef 7) (dC (.int 0))) (dC (.str "pick")))) (dSet 4 (dOp (tI CDiv (· / ·)) (dRef 4) (dCB tLenU [dOp tIx (dRef 7) (dC (.int 2))]))) (dNext)) t__law_program_2
def t__law_program_4 : DS := dRet (dTup [dVal 1, dCB tListU [dRef 2], dVal 5])
def t__law_program_5 : DS := dSeq (dFor (dRng1 [dOp (tI (fun _ j => 0 < j) (· % ·)) (dCall sp__law_next [dRef 0]) (dOp tAdd (dRef 3) (dC (.int 1)))]) (.nm 6) (dSeq (dSet 7 (dCall sp__law_row [dRef 0, dVal 1, dVal 2, dVal 4])) t__law_program_3)) t__law_program_4
def t__law_program : DS := dSeq (dSet 5 (dLst [])) t__law_program_5

/- N: 0=deck 1=program 2=box -/
def t__law_store : DS := dRet (dCB tTup1 [dLc (dSeqI (dOp tIx (dRef 1) (dC (.int 1)))) (.nm 2) [] (dYes) (dOp (tI (fun _ j => 0 < j) (· % ·)) (dCall sp__law_next [dRef 0]) (dOp tIx (dRef 1) (dC (.int 0))))])

theorem vc__law_cell_at (as Q E) (h : sp__law_cell_at as Q E) : t__law_cell_at (defEnds 2 Q) (start0 2 as) := by
  obtain ⟨ns, k, rfl, hQ⟩ := h
  refine ite_vc (fun h => ?_) (fun h => ?_)
  · have h1 : (k : Int) < (ns.map PyData.int).length := of_decide_eq_true h
    rw [List.length_map] at h1
    have hk : k < ns.length := by omega
    exact ⟨.int ns[k], atI_nat (by simp [hk]), hQ _⟩
  · exact hQ _
theorem vc__law_stir (as Q E) (h : sp__law_stir as Q E) : t__law_stir (defEnds 2 Q) (start0 3 as) := by
  obtain ⟨c, k, rfl, hk, hQ⟩ := h
  refine ⟨by omega, ?_⟩
  refine ⟨Or.inl (by omega), ?_⟩
  refine ⟨Or.inr (by omega), ?_⟩
  refine ⟨by omega, trivial, ?_⟩
  refine ⟨Or.inl (by dsimp only; omega), ?_⟩
  refine ⟨by omega, trivial, ?_⟩
  refine ⟨Or.inl (by omega), ?_⟩
  refine ⟨Or.inr (by omega), ?_⟩
  refine ⟨by omega, ?_⟩
  refine ⟨⟨by omega, by omega⟩, ?_⟩
  dsimp only
  generalize he : (_ / _ : Int) = n
  obtain ⟨j, rfl⟩ := asNat (n := n) (by omega)
  exact hQ j
theorem pl_nats {ns : List Nat} : pl (.list (ns.map dNat)) = true := pls_map (f := dNat) fun _ _ => rfl
theorem dep_nats {ns : List Nat} : (PyData.list (ns.map dNat)).depth ≤ 1 := depth_list (depthAll_map (f := dNat) fun _ _ => Nat.le_refl _)
theorem vc__law_next (as Q E) (h : sp__law_next as Q E) : t__law_next (defEnds 1 Q) (start0 1 as) := by
  obtain ⟨ns, rfl, hQ⟩ := h
  refine ⟨by decide, ⟨pl_noDict pl_nats, rfl, ?_⟩, ?_⟩
  · exact Nat.le_trans (Nat.min_le_left _ _) (Nat.le_trans dep_nats (by decide))
  refine ite_vc (fun h => hQ 0 ns) (fun h => ?_)
  have hn : ns ≠ [] := by
    rintro rfl
    exact absurd h (by decide)
  refine ⟨ns.dropLast.map dNat, dNat (ns.getLast hn), ?_, hQ (ns.getLast hn) ns.dropLast⟩
  show some (OD.lst (ns.map dNat)) = some (OD.lst (ns.dropLast.map dNat ++ [dNat (ns.getLast hn)]))
  have : ns.map dNat = ns.dropLast.map dNat ++ [dNat (ns.getLast hn)] := by
    conv => lhs; rw [← List.dropLast_concat_getLast hn]
    rw [List.map_append]; rfl
  rw [this]
theorem vc__law_deck (as Q E) (h : sp__law_deck as Q E) : t__law_deck (defEnds 2 Q) (start0 6 as) := by
  obtain ⟨c, k, rfl, hk, hQ⟩ := h
  refine ⟨by decide, trivial, trivial, by omega, by omega, ?_⟩
  refine rng_vc (J := fun i e => ∃ (ns : List Nat) (dg : Int) (x5 x4 : Sl), ns.length = i ∧ nio x4 ∧ nio x5 ∧ e = [.sh (.int c), .sh (dNat k), .ow (nats ns), .sh (.int dg), x4, x5]) ⟨[], c, .no, .no, rfl, trivial, trivial, rfl⟩ ?_ ?_
  · rintro e ⟨ns, dg, x5, x4, hl, _, _, rfl⟩
    have := hQ ns.reverse
    unfold nats at this
    rw [List.map_reverse] at this
    exact this
  · rintro i e kk hi hk' ⟨ns, dg, x5, x4, hl, n4, n5, rfl⟩
    refine ⟨ni rfl n4, ?_⟩
    refine ⟨nd0, c, i, (by rw [Int.zero_add] <;> rfl), by omega, fun n => ?_⟩
    refine ⟨ni rfl n5, ?_⟩
    have tail : ∀ j : Nat, (dSeq (dSet 3 (dOp (tI CDiv (· / ·)) (dRef 3) (dC (.int 720720)))) (dDrop (dApp 2 (dVal 5)))) { nx := kk, rt := rtQ 2 Q, ct := kk, bk := (defEnds 2 Q).nx } [.sh (.int c), .sh (dNat k), .ow (nats ns), .sh (.int dg), .sh (.int (0 + (i : Int))), .sh (dNat j)] := fun j => by
      refine ⟨⟨by decide, by decide⟩, trivial, ?_⟩
      refine ⟨⟨_, rfl⟩, _, rfl, ?_, hk' _ ⟨ns ++ [j], dg / 720720, .sh (dNat j), .sh (.int (0 + (i : Int))), by simp [hl], trivial, trivial, ?_⟩⟩
      · rw [List.length_map]; omega
      · unfold nats; rw [List.map_append]; rfl
    refine ⟨⟨by decide, by decide, by decide⟩, ?_⟩
    refine ite_vc (fun h => ?_) (fun h => tail n)
    refine ⟨by omega, trivial, ?_⟩
    obtain ⟨j, hj⟩ := asNat (n := dg % 720720) (by omega)
    have := tail j
    rw [show dNat j = .int (dg % 720720) by rw [hj]] at this
    exact this
theorem vc__law_thing (dm : Nat) (as Q E) (h : sp__law_thing (dm + 1) as Q E) : t__law_thing dm (defEnds 4 Q) (start0 6 as) := by
  obtain ⟨ns, m, bs, deep, rfl, ⟨hm, hb, hd⟩, hQ⟩ := h
  refine ⟨nd1, ns, rfl, fun n1 m1 => ?_⟩
  refine ⟨by omega, trivial, ?_⟩
  refine or_ite (fun h => ?_) (fun h1 h2 => ?_)
  · refine ⟨nd1, m1, rfl, fun n2 m2 => ?_⟩
    refine ⟨by omega, eqI, ?_⟩
    refine ite_vc (fun _ => ?_) (fun _ => ?_)
    · refine ⟨nd1, m2, rfl, fun n3 m3 => ⟨by omega, l2, ?_⟩⟩
      exact hQ (.num (n3 % m)) m3 (Nat.mod_lt _ (by omega)) (Nat.le_max_right _ _)
    · refine ⟨nd1, m2, rfl, fun n3 m3 => ?_⟩
      have hl : 0 < bs.length := List.length_pos_iff.mpr hb
      have hi : n3 % bs.length < bs.length := Nat.mod_lt _ hl
      refine ⟨by rw [List.length_map]; omega, .str bs[n3 % bs.length], ?_, l2, ?_⟩
      · show atI (bs.map PyData.str) ((n3 : Int) % ((bs.map PyData.str).length : Int)) = _
        rw [List.length_map]
        exact atI_nat (j := n3 % bs.length) (by simp [hi])
      · exact hQ (.box bs[n3 % bs.length]) m3 (List.getElem_mem hi) (Nat.le_max_right _ _)
  · have d1 : ¬ ((deep : Int) < 2) := of_decide_eq_false h1
    have d2 : ¬ ((n1 : Int) % 8 < 2) := of_decide_eq_false h2
    refine ⟨l6, ?_⟩
    have hw : ∃ w : Str, w ∈ (["plus", "times", "less", "same"] : List Str) ∧ atI [PyData.str "plus", .str "times", .str "less", .str "same", .str "plus", .str "times"] ((n1 : Int) % 8 - 2) = some (.str w) := by
      have hj : ∃ j : Nat, j < 6 ∧ (n1 : Int) % 8 - 2 = (j : Int) := ⟨((n1 : Int) % 8 - 2).toNat, by omega, by omega⟩
      obtain ⟨j, hj, e⟩ := hj
      rw [e]
      have : j = 0 ∨ j = 1 ∨ j = 2 ∨ j = 3 ∨ j = 4 ∨ j = 5 := by omega
      rcases this with rfl | rfl | rfl | rfl | rfl | rfl
      · exact ⟨"plus", by simp, atI_nat rfl⟩
      · exact ⟨"times", by simp, atI_nat rfl⟩
      · exact ⟨"less", by simp, atI_nat rfl⟩
      · exact ⟨"same", by simp, atI_nat rfl⟩
      · exact ⟨"plus", by simp, atI_nat rfl⟩
      · exact ⟨"times", by simp, atI_nat rfl⟩
    obtain ⟨w, hw1, hw2⟩ := hw
    refine ⟨.str w, hw2, trivial, ?_⟩
    have hdp : ∃ dp : Nat, deep = dp + 1 := ⟨deep - 1, by omega⟩
    obtain ⟨dp, rfl⟩ := hdp
    refine ⟨nd1, m1, m, bs, dp, ?_, ⟨hm, hb, by omega⟩, fun t1 m2 ok1 dep1 => ?_⟩
    · show [Sl.io (nats m1), .sh (dNat m), .sh (bxD bs), .sh (.int (((dp + 1 : Nat) : Int) - 1))] = _
      rw [show ((dp + 1 : Nat) : Int) - 1 = (dp : Int) by omega]
    refine ⟨nd1, m2, m, bs, dp, ?_, ⟨hm, hb, by omega⟩, fun t2 m3 ok2 dep2 => ?_⟩
    · show [Sl.io (nats m2), .sh (dNat m), .sh (bxD bs), .sh (.int (((dp + 1 : Nat) : Int) - 1))] = _
      rw [show ((dp + 1 : Nat) : Int) - 1 = (dp : Int) by omega]
    refine ⟨l3, hQ (.op w t1 t2) m3 ⟨hw1, ok1, ok2⟩ ?_⟩
    show max t1.dep t2.dep + 1 ≤ max (dp + 1) 1
    omega
theorem pickI {n : Nat} {xs : List D} (h : 0 < xs.length) {P : D → Prop} (hp : ∀ i (h : i < xs.length), P xs[i]) : ∃ d, atI xs ((n : Int) % (xs.length : Int)) = some d ∧ P d := by
  have hi : n % xs.length < xs.length := Nat.mod_lt _ h
  refine ⟨xs[n % xs.length], ?_, hp _ hi⟩
  have : ((n : Int) % (xs.length : Int)) = ((n % xs.length : Nat) : Int) := by omega
  rw [this]
  exact atI_nat (by simp [hi])
theorem pickB {n : Nat} {bs : List Str} (h : bs ≠ []) : ∃ b, b ∈ bs ∧ atI (bs.map PyData.str) ((n : Int) % ((bs.map PyData.str).length : Int)) = some (.str b) := by
  obtain ⟨d, h1, b, h2, rfl⟩ := pickI (n := n) (xs := bs.map PyData.str) (P := fun d => ∃ b, b ∈ bs ∧ d = .str b) (by rw [List.length_map]; exact List.length_pos_iff.mpr h) (fun i hi => by
    rw [List.length_map] at hi
    exact ⟨bs[i], List.getElem_mem hi, by simp⟩)
  exact ⟨b, h2, h1⟩
theorem posB {bs : List Str} (h : bs ≠ []) : (0 : Int) < ((bs.map PyData.str).length : Int) := by
  rw [List.length_map]
  have := List.length_pos_iff.mpr h
  omega
theorem no__law_thing (as Q E) : ¬ sp__law_thing 0 as Q E := fun ⟨_, _, _, _, _, ⟨_, _, z⟩, _⟩ => absurd z (Nat.not_lt_zero _)
theorem vc__law_row_pick {Q : Op → List OD → Prop} {m : Nat} {bs : List Str} {wide n1 : Nat} {th : Th} {m3 : List Nat} (hm : 1 ≤ m) (hb : bs ≠ []) (hw : 1 ≤ wide) (fit : th.fit m bs) (hQ : ∀ (r : Row) (ms : List Nat), r.ok m bs → r.wide ≤ wide → Q (.vl r.d) [nats ms]) (many : Nat) (b1 : 1 ≤ many) (b2 : many ≤ 5) (b3 : many ≤ wide) :
    t__law_row_2 (defEnds 4 Q) [.io (nats m3), .sh (dNat m), .sh (bxD bs), .sh (dNat wide), .sh (.int ((n1 : Int) % 10)), .sh th.d, .sh (dNat many), .no, .no] := by
  refine ⟨l1, ?_⟩
  refine ⟨(by dsimp only; omega), (by dsimp only; omega), ?_⟩
  refine lc_vc (J := fun ds acc e => ∃ (ts : List Th) (ms : List Nat), acc = ts.map Th.d ∧ (∀ t ∈ ts, t.fit m bs) ∧ ts.length + ds.length = many - 1 ∧
      e = [.io (nats ms), .sh (dNat m), .sh (bxD bs), .sh (dNat wide), .sh (.int ((n1 : Int) % 10)), .sh th.d, .sh (dNat many), .no, .no]) _ ⟨trivial, trivial⟩ rfl ⟨[], m3, rfl, (fun _ z => nomatch z), by simp [rngD], rfl⟩ ?_ ?_
  · rintro acc e ⟨ts, ms, rfl, hf, hl, rfl⟩
    refine ⟨[.io (nats ms), .sh (dNat m), .sh (bxD bs), .sh (dNat wide), .sh (.int ((n1 : Int) % 10)), .sh th.d, .sh (dNat many), .no, .no], rfl, ?_⟩
    have hl' : ts.length = many - 1 := hl
    refine ⟨?_, trivial, ?_⟩
    · rw [List.length_map, List.length_singleton]; omega
    show t__law_row_1 (defEnds 4 Q) [.io (nats ms), .sh (dNat m), .sh (bxD bs), .sh (dNat wide), .sh (.int ((n1 : Int) % 10)), .sh th.d, .sh (dNat many), .ow (.lst ((th :: ts).map Th.d)), .no]
    refine ⟨nd1, ms, rfl, fun n5 m5 => ⟨posB hb, ?_⟩⟩
    obtain ⟨b, hbm, hbx⟩ := pickB (n := n5) hb
    refine ⟨_, hbx, l3, hQ (.pick b (th :: ts)) m5 ⟨hbm, ⟨by simp, by simp; omega⟩, ?_⟩ ?_⟩
    · intro t ht
      rcases List.mem_cons.mp ht with rfl | ht
      · exact fit
      · exact hf t ht
    · show ts.length + 1 ≤ wide
      omega
  · rintro d ds acc e k hk ⟨ts, ms, rfl, hf, hl, rfl⟩
    have hl' : ts.length + (ds.length + 1) = many - 1 := hl
    refine ⟨trivial, trivial, nd1, ms, rfl, fun n5 m5 => ⟨by omega, nd1, m5, m, bs, 1 + n5 % 2, ?_, ⟨hm, hb, by omega⟩, fun t2 m6 ok2 dep2 => ?_⟩⟩
    · show [Sl.io (nats m5), .sh (dNat m), .sh (bxD bs), .sh (.int (1 + (n5 : Int) % 2))] = _
      rw [show (1 : Int) + (n5 : Int) % 2 = ((1 + n5 % 2 : Nat) : Int) by omega]
    refine ⟨by rw [List.length_map]; omega, hk _ _ ⟨ts ++ [t2], m6, by rw [List.map_append]; rfl, fun t ht => ?_, ?_, rfl⟩⟩
    · rcases List.mem_append.mp ht with ht | ht
      · exact hf t ht
      · rw [List.mem_singleton.mp ht]
        exact ⟨ok2, Nat.le_trans dep2 (by omega)⟩
    · rw [List.length_append, List.length_singleton]; omega
theorem vc__law_row (as Q E) (h : sp__law_row as Q E) : t__law_row (defEnds 4 Q) (start0 9 as) := by
  obtain ⟨ns, m, bs, wide, rfl, ⟨hm, hb, hw⟩, hQ⟩ := h
  refine ⟨nd1, ns, rfl, fun n1 m1 => ?_⟩
  refine ⟨by omega, trivial, ?_⟩
  show t__law_row_8 (defEnds 4 Q) [.io (nats m1), .sh (dNat m), .sh (bxD bs), .sh (dNat wide), .sh (.int ((n1 : Int) % 10)), .no, .no, .no, .no]
  refine ⟨l4, nd1, m1, rfl, fun n2 m2 => ?_⟩
  refine ⟨by omega, ?_⟩
  have hdp : ∃ dp : Nat, (1 ≤ dp ∧ dp ≤ 4) ∧ atI [PyData.int 1, .int 2, .int 2, .int 4] ((n2 : Int) % 4) = some (dNat dp) := by
    obtain ⟨d, h1, dp, h2, rfl⟩ := pickI (n := n2) (xs := [PyData.int 1, .int 2, .int 2, .int 4]) (P := fun d => ∃ dp : Nat, (1 ≤ dp ∧ dp ≤ 4) ∧ d = dNat dp) (by decide) (fun i hi => by
      have : i = 0 ∨ i = 1 ∨ i = 2 ∨ i = 3 := by simp at hi; omega
      rcases this with rfl | rfl | rfl | rfl
      · exact ⟨1, by decide, rfl⟩
      · exact ⟨2, by decide, rfl⟩
      · exact ⟨2, by decide, rfl⟩
      · exact ⟨4, by decide, rfl⟩)
    exact ⟨dp, h2, h1⟩
  obtain ⟨dp, hdp, hix⟩ := hdp
  refine ⟨_, hix, nd1, m2, m, bs, dp, rfl, ⟨hm, hb, by omega⟩, fun th m3 ok dep => ?_⟩
  have fit : th.fit m bs := ⟨ok, Nat.le_trans dep (by omega)⟩
  refine ⟨trivial, ?_⟩
  show t__law_row_7 (defEnds 4 Q) [.io (nats m3), .sh (dNat m), .sh (bxD bs), .sh (dNat wide), .sh (.int ((n1 : Int) % 10)), .sh th.d, .no, .no, .no]
  refine ite_vc (fun _ => ?_) (fun _ => ?_)
  · refine ⟨nd1, m3, rfl, fun n3 m4 => ⟨posB hb, ?_⟩⟩
    obtain ⟨b, hbm, hbx⟩ := pickB (n := n3) hb
    exact ⟨_, hbx, l3, hQ (.set b th) m4 ⟨hbm, fit⟩ hw⟩
  show t__law_row_6 (defEnds 4 Q) [.io (nats m3), .sh (dNat m), .sh (bxD bs), .sh (dNat wide), .sh (.int ((n1 : Int) % 10)), .sh th.d, .no, .no, .no]
  refine ite_vc (fun _ => ?_) (fun _ => ?_)
  · refine ⟨nd1, m3, rfl, fun n3 m4 => ⟨by omega, trivial, ?_⟩⟩
    obtain ⟨many, hmany⟩ : ∃ many : Nat, mn2 (1 + (n3 : Int) % 5) (mx2 1 (wide : Int)) = (many : Int) := asNat (by unfold mn2 mx2; split <;> split <;> omega)
    show t__law_row_2 (defEnds 4 Q) [.io (nats m4), .sh (dNat m), .sh (bxD bs), .sh (dNat wide), .sh (.int ((n1 : Int) % 10)), .sh th.d, .sh (.int (mn2 (1 + (n3 : Int) % 5) (mx2 1 (wide : Int)))), .no, .no]
    rw [hmany]
    exact vc__law_row_pick hm hb hw fit hQ many (by unfold mn2 mx2 at hmany; split at hmany <;> split at hmany <;> omega) (by unfold mn2 mx2 at hmany; split at hmany <;> split at hmany <;> omega) (by unfold mn2 mx2 at hmany; split at hmany <;> split at hmany <;> omega)
  show t__law_row_5 (defEnds 4 Q) [.io (nats m3), .sh (dNat m), .sh (bxD bs), .sh (dNat wide), .sh (.int ((n1 : Int) % 10)), .sh th.d, .no, .no, .no]
  refine ⟨eqI, ite_vc (fun _ => ?_) (fun _ => ?_)⟩
  · exact ⟨l2, hQ (.need th) m3 fit hw⟩
  show t__law_row_4 (defEnds 4 Q) [.io (nats m3), .sh (dNat m), .sh (bxD bs), .sh (dNat wide), .sh (.int ((n1 : Int) % 10)), .sh th.d, .no, .no, .no]
  refine ⟨eqI, ite_vc (fun _ => ?_) (fun _ => ?_)⟩
  · refine ⟨nd1, m3, rfl, fun n3 m4 => ⟨l3, nd1, m4, rfl, fun n4 m5 => ⟨by omega, ?_⟩⟩⟩
    obtain ⟨d, h1, dp, h2, rfl⟩ := pickI (n := n4) (xs := [PyData.int 4, .int 4, .int 30]) (P := fun d => ∃ dp : Nat, (1 ≤ dp ∧ dp ≤ 30) ∧ d = dNat dp) (by decide) (fun i hi => by
      have : i = 0 ∨ i = 1 ∨ i = 2 := by simp at hi; omega
      rcases this with rfl | rfl | rfl
      · exact ⟨4, by decide, rfl⟩
      · exact ⟨4, by decide, rfl⟩
      · exact ⟨30, by decide, rfl⟩)
    refine ⟨_, h1, by omega, l3, ?_⟩
    have e : (1 : Int) + (n3 : Int) % (dp : Int) = ((1 + n3 % dp : Nat) : Int) := by omega
    have := hQ (.skip th (1 + n3 % dp)) m5 ⟨fit, by omega, by have := Nat.mod_lt n3 (show dp > 0 by omega); omega⟩ hw
    rw [Row.d, dNat, ← e] at this
    exact this
  · exact ⟨l2, hQ (.give th) m3 fit hw⟩
theorem vc__law_store (as Q E) (h : sp__law_store as Q E) : t__law_store (defEnds 2 Q) (start0 3 as) := by
  obtain ⟨ns, p, rfl, ⟨hm, hb⟩, hQ⟩ := h
  refine ⟨_, atI_nat (j := 1) rfl, ?_⟩
  refine lc_vc (J := fun ds acc e => ∃ s ms : List Nat, acc = s.map dNat ∧ (∀ n ∈ s, n < p.m) ∧ s.length + ds.length = p.bs.length ∧ e = [.io (nats ms), .sh p.d, .no]) _ ⟨trivial, trivial⟩ rfl ⟨[], ns, rfl, (fun _ z => nomatch z), by simp, rfl⟩ ?_ ?_
  · rintro acc e ⟨s, ms, rfl, hs, hl, rfl⟩
    exact ⟨_, rfl, hQ s ms ⟨by simpa using hl, hs⟩⟩
  · rintro d ds acc e k hk ⟨s, ms, rfl, hs, hl, rfl⟩
    have hl' : s.length + (ds.length + 1) = p.bs.length := hl
    refine ⟨trivial, trivial, nd1, ms, rfl, fun n5 m5 => ⟨_, atI_nat (j := 0) rfl, by omega, by rw [List.length_map]; omega, hk _ _ ⟨s ++ [n5 % p.m], m5, ?_, fun n hn => ?_, ?_, rfl⟩⟩⟩
    · rw [List.map_append]; rfl
    · rcases List.mem_append.mp hn with hn | hn
      · exact hs n hn
      · rw [List.mem_singleton.mp hn]
        exact Nat.mod_lt _ (by omega)
    · rw [List.length_append, List.length_singleton]; omega
theorem map_erase {α β : Type} (f : α → β) : ∀ (l : List α) (j : Nat), (l.eraseIdx j).map f = (l.map f).eraseIdx j
  | [], _ => rfl
  | _ :: _, 0 => rfl
  | a :: l, j + 1 => by
    show f a :: (l.eraseIdx j).map f = f a :: (l.map f).eraseIdx j
    rw [map_erase f l j]
theorem erase_perm {α : Type} : ∀ {l : List α} {i : Nat} (h : i < l.length), (l[i] :: l.eraseIdx i).Perm l
  | a :: l, 0, _ => List.Perm.refl _
  | a :: l, i + 1, h => (List.Perm.swap a _ _).trans (List.Perm.cons a (erase_perm (l := l) (i := i) (by simpa using h)))
theorem vc__law_boxes (as Q E) (h : sp__law_boxes as Q E) : t__law_boxes (defEnds 1 Q) (start0 4 as) := by
  obtain ⟨ns, rfl, hQ⟩ := h
  refine ⟨l7, trivial, l5, nd1, ns, rfl, fun n1 m1 => ⟨by omega, ?_⟩⟩
  obtain ⟨d, h1, many, h2, rfl⟩ := pickI (n := n1) (xs := [PyData.int 1, .int 2, .int 2, .int 3, .int 5]) (P := fun d => ∃ many : Nat, (1 ≤ many ∧ many ≤ 5) ∧ d = dNat many) (by decide) (fun i hi => by
    have : i = 0 ∨ i = 1 ∨ i = 2 ∨ i = 3 ∨ i = 4 := by simp at hi; omega
    rcases this with rfl | rfl | rfl | rfl | rfl
    · exact ⟨1, by decide, rfl⟩
    · exact ⟨2, by decide, rfl⟩
    · exact ⟨2, by decide, rfl⟩
    · exact ⟨3, by decide, rfl⟩
    · exact ⟨5, by decide, rfl⟩)
  refine ⟨_, h1, by omega, by omega, ?_⟩
  refine lc_vc (J := fun ds acc e => ∃ (bs sp : List Str) (ms : List Nat), acc = bs.map PyData.str ∧ (bs ++ sp).Nodup ∧ bs.length + sp.length = 7 ∧ (∀ b ∈ bs ++ sp, okS b = true) ∧ bs.length + ds.length = many ∧
    e = [.io (nats ms), .io (.lst (sp.map .str)), .no, .no]) _ ⟨trivial, trivial⟩ rfl ⟨[], ["a", "b", "ab", "zzzzzzzz", "give", "if", "x"], m1, rfl, by decide, rfl, by decide +kernel, by simp [rngD], rfl⟩ ?_ ?_
  · rintro acc e ⟨bs, sp, ms, rfl, nd, h7, ok, hl, rfl⟩
    have hl' : bs.length = many := hl
    refine ⟨_, rfl, trivial, nd1, ms, rfl, fun n2 m2 => ⟨by omega, l2, ?_⟩⟩
    have := hQ (2 + n2 % 15) bs m2 ⟨by omega, by omega, (List.nodup_append.mp nd).1, by rintro rfl; simp at hl'; omega, by omega, fun b hb => ok b (List.mem_append_left _ hb)⟩
    rw [dNat, show (((2 + n2 % 15 : Nat)) : Int) = 2 + (n2 : Int) % 15 by omega] at this
    exact this
  · rintro d ds acc e k hk ⟨bs, sp, ms, rfl, nd, h7, ok, hl, rfl⟩
    have hl' : bs.length + (ds.length + 1) = many := hl
    have hs : 0 < sp.length := by omega
    refine ⟨trivial, trivial, ⟨_, rfl⟩, nd1, ms, rfl, fun n2 m2 => ⟨by rw [List.length_map]; omega, ?_⟩⟩
    have hi : n2 % sp.length < sp.length := Nat.mod_lt _ hs
    refine ⟨_, n2 % sp.length, .str sp[n2 % sp.length], rfl, ?_, by simp [hi], by rw [List.length_map]; omega, by rw [List.length_map]; omega, ?_⟩
    · show (n2 : Int) % ((sp.map PyData.str).length : Int) = _
      rw [List.length_map]
      omega
    have pm : (bs ++ sp).Perm ((bs ++ [sp[n2 % sp.length]]) ++ sp.eraseIdx (n2 % sp.length)) := by
      rw [List.append_assoc]
      exact List.Perm.append_left _ (by
        have := (erase_perm hi).symm
        simpa using this)
    refine hk _ _ ⟨bs ++ [sp[n2 % sp.length]], sp.eraseIdx (n2 % sp.length), m2, by rw [List.map_append]; rfl, pm.nodup_iff.mp nd, ?_, fun b hb => ok b (pm.mem_iff.mpr hb), ?_, ?_⟩
    · rw [List.length_append, List.length_singleton, List.length_eraseIdx_of_lt hi]; omega
    · rw [List.length_append, List.length_singleton]; omega
    · show [Sl.io (nats m2), Sl.io (OD.lst ((sp.map PyData.str).eraseIdx (n2 % sp.length))), Sl.no, Sl.no] = _
      rw [map_erase]
theorem vc__law_program (as Q E) (h : sp__law_program as Q E) : t__law_program (defEnds 5 Q) (start0 8 as) := by
  obtain ⟨ns, m, bs, most, wide, rfl, ⟨hb, hm, hw⟩, hQ⟩ := h
  refine ⟨l0, trivial, ?_⟩
  show t__law_program_5 (defEnds 5 Q) [.io (nats ns), .sh (dNat m), .sh (bxD bs), .sh (dNat most), .sh (dNat wide), .ow (.lst []), .no, .no]
  refine ⟨nd1, ns, rfl, fun n1 m1 => ?_⟩
  have hr : (n1 : Int) % ((most : Int) + 1) = ((n1 % (most + 1) : Nat) : Int) := by simp
  have hlt : n1 % (most + 1) < most + 1 := Nat.mod_lt _ (by omega)
  refine ⟨by omega, (by dsimp only; omega), (by dsimp only; omega), ?_⟩
  refine rng_vc (J := fun i e => ∃ (rs : List Row) (ms : List Nat) (wd : Nat) (x6 x7 : Sl), rs.length = i ∧ (∀ r ∈ rs, r.ok m bs) ∧ 1 ≤ wd ∧ wides rs * wd ≤ wide ∧ nio x6 ∧ nio x7 ∧
    e = [.io (nats ms), .sh (dNat m), .sh (bxD bs), .sh (dNat most), .sh (dNat wd), .ow (.lst (rs.map Row.d)), x6, x7]) ⟨[], m1, wide, .no, .no, rfl, (fun _ z => nomatch z), hw, by simp [wides], trivial, trivial, rfl⟩ ?_ ?_
  · rintro e ⟨rs, ms, wd, x6, x7, hl, hr', h1, h2, _, _, rfl⟩
    refine ⟨l3, hQ ⟨m, bs, rs⟩ ms rfl rfl ⟨hb, ?_, hr', Nat.le_trans (Nat.le_mul_of_pos_right _ h1) h2⟩⟩
    dsimp only at hl ⊢
    omega
  · rintro i e kk hi hk ⟨rs, ms, wd, x6, x7, hl, hr', h1, h2, n6, n7, rfl⟩
    have hi' : (i : Int) < (n1 : Int) % ((most : Int) + 1) := by have := hi; dsimp only at this; omega
    refine ⟨ni rfl n6, nd1, ms, m, bs, wd, rfl, ⟨by have := hb.m2; omega, hb.ne, h1⟩, fun r m2 rok rw1 => ⟨ni rfl n7, ?_⟩⟩
    -- a row is put behind
    have last : ∀ (r' : Row) (ms' : List Nat) (wd' : Nat), r'.ok m bs → 1 ≤ wd' → wides (rs ++ [r']) * wd' ≤ wide → t__law_program_1 { nx := kk, rt := rtQ 5 Q, ct := kk, bk := (defEnds 5 Q).nx }
        [.io (nats ms'), .sh (dNat m), .sh (bxD bs), .sh (dNat most), .sh (dNat wd'), .ow (.lst (rs.map Row.d)), .sh (.int (0 + (i : Int))), .sh r'.d] := by
      intro r' ms' wd' ok1 w1 w2
      refine ⟨⟨_, rfl⟩, _, rfl, ?_, hk _ ⟨rs ++ [r'], ms', wd', .sh (.int (0 + (i : Int))), .sh r'.d, ?_, ?_, w1, w2, trivial, trivial, ?_⟩⟩
      · rw [List.length_map]; omega
      · rw [List.length_append, List.length_singleton]; omega
      · intro x hx
        rcases List.mem_append.mp hx with hx | hx
        · exact hr' x hx
        · rw [List.mem_singleton.mp hx]; exact ok1
      · rw [List.map_append]; rfl
    have rest : ∀ (r' : Row) (wd' : Nat), r'.ok m bs → 1 ≤ wd' → wides (rs ++ [r']) * wd' ≤ wide → t__law_program_2 { nx := kk, rt := rtQ 5 Q, ct := kk, bk := (defEnds 5 Q).nx }
        [.io (nats m2), .sh (dNat m), .sh (bxD bs), .sh (dNat most), .sh (dNat wd'), .ow (.lst (rs.map Row.d)), .sh (.int (0 + (i : Int))), .sh r'.d] := by
      intro r' wd' ok1 w1 w2
      have nogive : ∀ (w : Str) (ds : List D), r'.d = .tuple (.str w :: ds) → PyData.eqv (.str w) (.str "give") = false → t__law_program_2 { nx := kk, rt := rtQ 5 Q, ct := kk, bk := (defEnds 5 Q).nx }
        [.io (nats m2), .sh (dNat m), .sh (bxD bs), .sh (dNat most), .sh (dNat wd'), .ow (.lst (rs.map Row.d)), .sh (.int (0 + (i : Int))), .sh r'.d] := by
        intro w ds e he
        have l := last r' m2 wd' ok1 w1 w2
        rw [e] at l ⊢
        refine ⟨_, atI_nat (j := 0) rfl, eqS, ?_⟩
        refine ite_vc (fun h => nomatch (he.symm.trans h)) (fun _ => ?_)
        exact ite_vc (fun h => nomatch h) (fun _ => l)
      cases r' with
      | set b t => exact nogive "set" _ rfl (by decide +kernel)
      | pick b ts => exact nogive "pick" _ rfl (by decide +kernel)
      | need t => exact nogive "need" _ rfl (by decide +kernel)
      | skip t n => exact nogive "skip" _ rfl (by decide +kernel)
      | give t =>
        refine ⟨_, atI_nat (j := 0) rfl, eqS, ?_⟩
        refine ite_vc (fun _ => ?_) (fun _ => ite_vc (fun h => nomatch h) (fun _ => last _ m2 wd' ok1 w1 w2))
        refine ⟨nd1, m2, rfl, fun n3 m3 => ⟨by omega, ?_⟩⟩
        refine ite_vc (fun _ => ?_) (fun _ => last _ m3 wd' ok1 w1 w2)
        have hb0 : 0 < bs.length := List.length_pos_iff.mpr hb.ne
        refine ⟨.str bs[0], atI_nat (j := 0) (by simp [hb0]), _, atI_nat (j := 1) rfl, l3, trivial, ?_⟩
        refine last (.set bs[0] t) m3 wd' ⟨List.getElem_mem hb0, ok1⟩ w1 ?_
        have e : ∀ (r1 r2 : Row), r1.wide = r2.wide → ∀ l, wides (l ++ [r1]) = wides (l ++ [r2]) := by
          intro r1 r2 h l
          induction l with
          | nil => simp [wides, h]
          | cons x l ih => simp [wides, ih]
        rw [e (.set bs[0] t) (.give t) rfl]
        exact w2
    have wapp : ∀ (l : List Row) (r1 : Row), wides (l ++ [r1]) = wides l * r1.wide := by
      intro l r1
      induction l with
      | nil => simp [wides]
      | cons x l ih => simp [wides, ih, Nat.mul_assoc]
    show t__law_program_3 { nx := kk, rt := rtQ 5 Q, ct := kk, bk := (defEnds 5 Q).nx } [.io (nats m2), .sh (dNat m), .sh (bxD bs), .sh (dNat most), .sh (dNat wd), .ow (.lst (rs.map Row.d)), .sh (.int (0 + (i : Int))), .sh r.d]
    have nopick : ∀ (w : Str) (ds : List D), r.d = .tuple (.str w :: ds) → PyData.eqv (.str w) (.str "pick") = false → r.wide = 1 → t__law_program_3 { nx := kk, rt := rtQ 5 Q, ct := kk, bk := (defEnds 5 Q).nx }
        [.io (nats m2), .sh (dNat m), .sh (bxD bs), .sh (dNat most), .sh (dNat wd), .ow (.lst (rs.map Row.d)), .sh (.int (0 + (i : Int))), .sh r.d] := by
      intro w ds e he h1w
      have l := rest r wd rok h1 (by rw [wapp, h1w, Nat.mul_one]; exact h2)
      rw [e] at l ⊢
      refine ⟨_, atI_nat (j := 0) rfl, eqS, ?_⟩
      exact ite_vc (fun h => nomatch (he.symm.trans h)) (fun _ => l)
    cases r with
    | set b t => exact nopick "set" _ rfl (by decide +kernel) rfl
    | need t => exact nopick "need" _ rfl (by decide +kernel) rfl
    | skip t n => exact nopick "skip" _ rfl (by decide +kernel) rfl
    | give t => exact nopick "give" _ rfl (by decide +kernel) rfl
    | pick b ts =>
      refine ⟨_, atI_nat (j := 0) rfl, eqS, ?_⟩
      have hl5 := rok.2.1
      refine ⟨_, atI_nat (j := 2) rfl, ⟨by rw [List.length_map]; omega, by rw [List.length_map]; omega⟩, trivial, ?_⟩
      have hw' : ts.length ≤ wd := rw1
      have hd : 1 ≤ wd / ts.length := (Nat.le_div_iff_mul_le (by omega)).mpr (by omega)
      have := rest (.pick b ts) (wd / ts.length) rok hd (by
        rw [wapp]
        show wides rs * ts.length * (wd / ts.length) ≤ wide
        rw [Nat.mul_assoc]
        exact Nat.le_trans (Nat.mul_le_mul_left _ (Nat.mul_div_le wd ts.length)) h2)
      rw [show dNat (wd / ts.length) = .int ((wd : Int) / ((ts.map Th.d).length : Int)) by rw [List.length_map]; simp [dNat]] at this
      exact this
end DL
/-! what the program's stage of runs, and putting behind, promise. -/
namespace DL
open PySem PySem.Spec PyProof.Rows L2
abbrev d_NOTHING : List D := [.str "nothing"]
def Th.worth (m : Nat) (bs : List Str) (s : List Nat) : Th → Nat
  | .num n => n
  | .box b => s.getD (bs.idxOf b) 0
  | .op w x y => if w = "plus" then (x.worth m bs s + y.worth m bs s) % m else if w = "times" then x.worth m bs s * y.worth m bs s % m else
      if w = "less" then (if x.worth m bs s < y.worth m bs s then 1 else 0) else (if x.worth m bs s = y.worth m bs s then 1 else 0)
structure Pg.good (p : Pg) : Prop where
  bx : BxOk p.m p.bs
  rows : ∀ r ∈ p.rs, r.ok p.m p.bs
  len : p.rs.length ≤ 1000
inductive Way where
  | at (r : Nat) (s : List Nat) | gives (n : Nat) | nothing
  deriving DecidableEq
def Way.d : Way → D
  | .at r s => .tuple [dNat r, stD s]
  | .gives n => .tuple [.str "gives", dNat n]
  | .nothing => .tuple d_NOTHING
def Way.isAt : Way → Bool
  | .at _ _ => true
  | _ => false
def poe (p : Pg) (r : Nat) (s : List Nat) : Way := if p.rs.length ≤ r then .nothing else .at r s
def swith (p : Pg) (s : List Nat) (b : Str) (v : Nat) : List Nat := s.set (p.bs.idxOf b) v
def wo (p : Pg) (s : List Nat) (t : Th) : Nat := t.worth p.m p.bs s
def rowWays (p : Pg) (r : Nat) (s : List Nat) : Row → List Way
  | .set b t => [poe p (r + 1) (swith p s b (wo p s t))]
  | .pick b ts => ts.map fun t => poe p (r + 1) (swith p s b (wo p s t))
  | .need t => if wo p s t = 0 then [.nothing] else [poe p (r + 1) s]
  | .skip t n => [poe p (r + 1 + if wo p s t = 0 then 0 else n) s]
  | .give t => [.gives (wo p s t)]
def ways (p : Pg) (r : Nat) (s : List Nat) : List Way := match p.rs[r]? with
  | some row => rowWays p r s row
  | none => []
def Row.isPick : Row → Bool
  | .pick _ _ => true
  | _ => false
def isPick (p : Pg) (r : Nat) : Bool := match p.rs[r]? with
  | some row => row.isPick
  | none => false
def sp_is_whole : FS := fun as Q E => ∃ (n : Nat) (lo hi : Int), as = [.sh (dNat n), .sh (.int lo), .sh (.int hi)] ∧ Q (.vl (.bool (decide (lo ≤ n ∧ n ≤ hi)))) []
def sp_need_store : FS := fun as Q E => ∃ (p : Pg) (s : List Nat), as = [.sh p.d, .sh (stD s)] ∧ (BxOk p.m p.bs ∧ StOk p.m p.bs s) ∧ Q (.vl .none) []
def sp_worth_in (dm : Nat) : FS := fun as Q E => ∃ (p : Pg) (t : Th) (s : List Nat), as = [.sh p.d, .sh t.d, .sh (stD s)] ∧ (BxOk p.m p.bs ∧ StOk p.m p.bs s ∧ t.ok p.m p.bs ∧ t.dep ≤ dm) ∧ Q (.vl (dNat (wo p s t))) []
def sp_worth_of : FS := fun as Q E => ∃ (p : Pg) (t : Th) (s : List Nat), as = [.sh p.d, .sh t.d, .sh (stD s)] ∧ (BxOk p.m p.bs ∧ StOk p.m p.bs s ∧ t.fit p.m p.bs) ∧ Q (.vl (dNat (wo p s t))) []
def sp_is_place : FS := fun as Q E => ∃ w : Way, as = [.sh w.d] ∧ Q (.vl (.bool w.isAt)) []
def sp_place_or_end : FS := fun as Q E => ∃ (p : Pg) (r : Nat) (s : List Nat), as = [.sh p.d, .sh (dNat r), .sh (stD s)] ∧ Q (.vl (poe p r s).d) []
def sp_begin_of : FS := fun as Q E => ∃ (p : Pg) (s : List Nat), as = [.sh p.d, .sh (stD s)] ∧ Q (.vl (poe p 0 s).d) []
def sp_store_with : FS := fun as Q E => ∃ (p : Pg) (s : List Nat) (b : Str) (v : Nat), as = [.sh p.d, .sh (stD s), .sh (.str b), .sh (dNat v)] ∧ (b ∈ p.bs ∧ BxOk p.m p.bs ∧ s.length = p.bs.length) ∧ Q (.vl (stD (swith p s b v))) []
def sp_ways_from : FS := fun as Q E => ∃ (p : Pg) (r : Nat) (s : List Nat), as = [.sh p.d, .sh (Way.at r s).d] ∧ (p.good ∧ StOk p.m p.bs s ∧ r < p.rs.length) ∧ Q (.tm (.lst ((ways p r s).map Way.d))) []
def sp_is_pick : FS := fun as Q E => ∃ (p : Pg) (r : Nat) (s : List Nat), as = [.sh p.d, .sh (Way.at r s).d] ∧ r < p.rs.length ∧ Q (.vl (.bool (isPick p r))) []
def runF (p : Pg) : Nat → Way → List (List Nat × Way)
  | 0, w => [([], w)]
  | f + 1, .at r s => if isPick p r then (ways p r s).zipIdx.flatMap fun wk => (runF p f wk.1).map fun ce => (wk.2 :: ce.1, ce.2) else
      match ways p r s with
      | w :: _ => runF p f w
      | [] => []
  | _ + 1, w => [([], w)]
def rk (p : Pg) : Way → Nat
  | .at r _ => p.rs.length - r
  | _ => 0
def runs (p : Pg) (w : Way) : List (List Nat × Way) := runF p (rk p w + 1) w
def runD (c : List Nat × Way) : D := .tuple [.list (c.1.map dNat), c.2.d]
def sp_all_runs : FS := fun as Q E => ∃ (p : Pg) (s : List Nat), as = [.sh p.d, .sh (stD s)] ∧ (p.good ∧ StOk p.m p.bs s ∧ (runs p (poe p 0 s)).length ≤ 2000) ∧ Q (.tm (.lst ((runs p (poe p 0 s)).map runD))) []
/- N: 0=thing 1=low 2=high -/
def t_is_whole : DS := dRet (dAndV (dIsi "int" (dRef 0)) (dAndV (dNotV (dIsi "bool" (dRef 0))) (dChain (tB0 fun i j => decide (i ≤ j)) (tB0 fun i j => decide (i ≤ j)) (dRef 1) (dRef 0) (dRef 2))))

/- N: 0=program 1=store 2=number -/
def t_need_store_1 : DS := dIf (dTst (dOp tNe (dLc (dSeqI (dVal 1)) (.nm 2) [] (dNot (dTst (dCall sp_is_whole [dVal 2, dC (.int 0), dOp (tI0 (· - ·)) (dOp tIx (dRef 0) (dC (.int 0))) (dC (.int 1))]))) (dVal 2)) (dLst []))) (dNever) (dNext)
def t_need_store : DS := dSeq (dIf (dOr (dNot (dTst (dIsi "tuple" (dRef 1)))) (dTst (dOp tNe (dCB tLenU [dRef 1]) (dCB tLenU [dOp tIx (dRef 0) (dC (.int 1))])))) (dNever) (dNext)) t_need_store_1

/- N: 0=program 1=thing 2=store 3=word 4=one 5=other -/
def t_worth_in_1 (dm : Nat) : DS := dRet (dCB tInt1 [dOp tEq (dRef 4) (dRef 5)])
def t_worth_in_2 (dm : Nat) : DS := dSeq (dIf (dTst (dOp tEq (dRef 3) (dC (.str "less")))) (dRet (dCB tInt1 [dOp (tB0 fun i j => decide (i < j)) (dRef 4) (dRef 5)])) (dNext)) (t_worth_in_1 dm)
def t_worth_in_3 (dm : Nat) : DS := dSeq (dIf (dTst (dOp tEq (dRef 3) (dC (.str "times")))) (dRet (dOp (tI (fun _ j => 0 < j) (· % ·)) (dOp tMulU (dRef 4) (dRef 5)) (dOp tIx (dRef 0) (dC (.int 0))))) (dNext)) (t_worth_in_2 dm)
def t_worth_in_4 (dm : Nat) : DS := dSeq (dIf (dTst (dOp tEq (dRef 3) (dC (.str "plus")))) (dRet (dOp (tI (fun _ j => 0 < j) (· % ·)) (dOp tAdd (dRef 4) (dRef 5)) (dOp tIx (dRef 0) (dC (.int 0))))) (dNext)) (t_worth_in_3 dm)
def t_worth_in_5 (dm : Nat) : DS := dSeq (dSet 5 (dCall (sp_worth_in dm) [dVal 0, dOp tIx (dRef 1) (dC (.int 2)), dVal 2])) (t_worth_in_4 dm)
def t_worth_in_6 (dm : Nat) : DS := dSeq (dSet 4 (dCall (sp_worth_in dm) [dVal 0, dOp tIx (dRef 1) (dC (.int 1)), dVal 2])) (t_worth_in_5 dm)
def t_worth_in_7 (dm : Nat) : DS := dSeq (dIf (dTst (dOp tEq (dRef 3) (dC (.str "box")))) (dRet (dOp tIx (dRef 2) (dBM ckL tIndex (dOp tIx (dRef 0) (dC (.int 1))) [dOp tIx (dRef 1) (dC (.int 1))]))) (dNext)) (t_worth_in_6 dm)
def t_worth_in_8 (dm : Nat) : DS := dSeq (dIf (dTst (dOp tEq (dRef 3) (dC (.str "number")))) (dRet (dOp tIx (dRef 1) (dC (.int 1)))) (dNext)) (t_worth_in_7 dm)
def t_worth_in (dm : Nat) : DS := dSeq (dSet 3 (dOp tIx (dRef 1) (dC (.int 0)))) (t_worth_in_8 dm)

/- N: 0=program 1=thing 2=store -/
def t_worth_of_1 : DS := dRet (dCall (sp_worth_in 5) [dVal 0, dVal 1, dVal 2])
def t_worth_of : DS := dSeq (dDrop (dCall sp_need_store [dVal 0, dVal 2])) t_worth_of_1

/- N: 0=way -/
def t_is_place : DS := dRet (dIsi "int" (dOp tIx (dRef 0) (dC (.int 0))))

/- N: 0=program 1=row 2=store -/
def t_place_or_end_1 : DS := dRet (dTup [dVal 1, dVal 2])
def t_place_or_end : DS := dSeq (dIf (dTst (dOp (tB0 fun i j => decide (j ≤ i)) (dRef 1) (dCB tLenU [dOp tIx (dRef 0) (dC (.int 2))]))) (dRet (dC (.tuple d_NOTHING))) (dNext)) t_place_or_end_1

/- N: 0=program 1=store -/
def t_begin_of : DS := dRet (dCall sp_place_or_end [dVal 0, dC (.int 0), dVal 1])

/- N: 0=program 1=store 2=box 3=worth 4=at -/
def t_store_with_1 : DS := dRet (dOp tAdd (dOp tAdd (dSl (dRef 1) none (some (dVal 4))) (dTup [dVal 3])) (dSl (dRef 1) (some (dOp tAdd (dRef 4) (dC (.int 1)))) none))
def t_store_with : DS := dSeq (dSet 4 (dBM ckL tIndex (dOp tIx (dRef 0) (dC (.int 1))) [dRef 2])) t_store_with_1

/- N: 0=program 1=place 2=row 3=store 4=asked 5=word 6=things 7=stores 8=worth 9=over 10=thing 11=one -/
def t_ways_from_1 : DS := dRet (dLc (dSeqI (dVal 7)) (.nm 11) [0] (dYes) (dCall sp_place_or_end [dVal 0, dOp tAdd (dRef 2) (dC (.int 1)), dVal 11]))
def t_ways_from_2 : DS := dSeq (dSet 7 (dLc (dSeqI (dVal 6)) (.nm 10) [0, 3] (dYes) (dCall sp_store_with [dVal 0, dVal 3, dOp tIx (dRef 4) (dC (.int 1)), dCall (sp_worth_in 5) [dVal 0, dVal 10, dVal 3]]))) t_ways_from_1
def t_ways_from_3 : DS := dSeq (dIf (dTst (dOp tEq (dRef 5) (dC (.str "set")))) (dSet 6 (dLst [dOp tIx (dRef 4) (dC (.int 2))])) (dNext)) t_ways_from_2
def t_ways_from_4 : DS := dRet (dLst [dCall sp_place_or_end [dVal 0, dOp tAdd (dOp tAdd (dRef 2) (dC (.int 1))) (dRef 9), dVal 3]])
def t_ways_from_5 : DS := dSeq (dIf (dAnd (dTst (dOp tEq (dRef 5) (dC (.str "skip")))) (dTst (dOp tNe (dRef 8) (dC (.int 0))))) (dSet 9 (dOp tIx (dRef 4) (dC (.int 2)))) (dNext)) t_ways_from_4
def t_ways_from_6 : DS := dSeq (dSet 9 (dC (.int 0))) t_ways_from_5
def t_ways_from_7 : DS := dSeq (dIf (dAnd (dTst (dOp tEq (dRef 5) (dC (.str "need")))) (dTst (dOp tEq (dRef 8) (dC (.int 0))))) (dRet (dLst [dC (.tuple d_NOTHING)])) (dNext)) t_ways_from_6
def t_ways_from_8 : DS := dSeq (dIf (dTst (dOp tEq (dRef 5) (dC (.str "give")))) (dRet (dLst [dTup [dC (.str "gives"), dVal 8]])) (dNext)) t_ways_from_7
def t_ways_from_9 : DS := dSeq (dSet 8 (dCall (sp_worth_in 5) [dVal 0, dOp tIx (dRef 4) (dC (.int 1)), dVal 3])) t_ways_from_8
def t_ways_from_10 : DS := dSeq (dIf (dTst (dOp (tInB false) (dRef 5) (dTup [dC (.str "set"), dC (.str "pick")]))) (dSeq (dSet 6 (dOp tIx (dRef 4) (dC (.int 2)))) t_ways_from_3) (dNext)) t_ways_from_9
def t_ways_from_11 : DS := dSeq (dSet 5 (dOp tIx (dRef 4) (dC (.int 0)))) t_ways_from_10
def t_ways_from_12 : DS := dSeq (dSet 4 (dOp tIx (dOp tIx (dRef 0) (dC (.int 2))) (dVal 2))) t_ways_from_11
def t_ways_from : DS := dSeq (dAsg (.tp [.nm 2, .nm 3]) (dVal 1)) t_ways_from_12

/- N: 0=program 1=place -/
def t_is_pick : DS := dRet (dOp tEq (dOp tIx (dOp tIx (dOp tIx (dRef 0) (dC (.int 2))) (dOp tIx (dRef 1) (dC (.int 0)))) (dC (.int 0))) (dC (.str "pick")))

/- N: 0=program 1=store 2=found 3=waiting 4=choices 5=way 6=ways 7=k -/
def t_all_runs_1 : DS := dIf (dTst (dOp (tB0 fun i j => decide (j < i)) (dCB tLenU [dRef 2]) (dC (.int 2000)))) (dNever) (dNext)
def t_all_runs_2 : DS := dFor (dRng3 [dOp (tI0 (· - ·)) (dCB tLenU [dRef 6]) (dC (.int 1)), dUn tNeg (dC (.int 1)), dUn tNeg (dC (.int 1))]) (.nm 7) (dDrop (dApp 3 (dTup [dOp tAdd (dRef 4) (dLst [dVal 7]), dOp tIx (dRef 6) (dVal 7)])))
def t_all_runs_3 : DS := dIf (dNot (dTst (dCall sp_is_place [dVal 5]))) (dSeq (dDrop (dApp 2 (dTup [dVal 4, dVal 5]))) t_all_runs_1) (dIf (dTst (dCall sp_is_pick [dVal 0, dVal 5])) (dSeq (dSet 6 (dCall sp_ways_from [dVal 0, dVal 5])) t_all_runs_2) (dDrop (dApp 3 (dTup [dVal 4, dOp tIx (dCall sp_ways_from [dVal 0, dVal 5]) (dC (.int 0))]))))
def t_all_runs_4 : DS := dRet (dMov 2)
def t_all_runs_5 : DS := dSeq (dWhile (dTst (dOp tNe (dRef 3) (dLst []))) (dSeq (dAsg (.tp [.nm 4, .nm 5]) (dPop 3)) t_all_runs_3)) t_all_runs_4
def t_all_runs_6 : DS := dSeq (dSet 3 (dLst [dTup [dLst [], dCall sp_begin_of [dVal 0, dVal 1]]])) t_all_runs_5
def t_all_runs_7 : DS := dSeq (dSet 2 (dLst [])) t_all_runs_6
def t_all_runs : DS := dSeq (dDrop (dCall sp_need_store [dVal 0, dVal 1])) t_all_runs_7

theorem kit_ii : kitB "int" "int" = some true := by decide +kernel
theorem kit_ib : kitB "int" "bool" = some false := by decide +kernel
theorem kit_si : kitB "str" "int" = some false := by decide +kernel
theorem kit_ss : kitB "str" "str" = some true := by decide +kernel
theorem kit_tt : kitB "tuple" "tuple" = some true := by decide +kernel
theorem pl_stD {s : List Nat} : pl (stD s) = true := pls_map (f := dNat) fun _ _ => rfl
theorem eqv_int {a b : Int} : PyData.eqv (.int a) (.int b) = decide (a = b) := by
  rw [PyData.eqv]
  by_cases h : a = b <;> simp [h]
theorem eqv_str {a b : Str} : PyData.eqv (.str a) (.str b) = decide (a = b) := by
  rw [PyData.eqv]
  by_cases h : a = b <;> simp [h]
theorem eqL0 {ds : List D} (h : pls ds = true) : noDict (.list ds) = true ∧ noDict (.list []) = true ∧ min (PyData.list ds).depth (PyData.list []).depth ≤ 60 :=
  ⟨pl_noDict (d := .list ds) h, rfl, Nat.le_trans (Nat.min_le_right _ _) (by decide)⟩
theorem idx_vc {bs : List Str} {b : Str} {Q : Op → Prop} (h : b ∈ bs) (q : Q (.vl (dNat (bs.idxOf b)))) : tIndex (bxD bs) [.str b] Q := by
  unfold tIndex
  have hi : bs.idxOf b < bs.length := List.idxOf_lt_length_of_mem h
  refine ⟨⟨rfl, ?_⟩, bs.idxOf b, ⟨.str bs[bs.idxOf b], by simp [hi], ?_⟩, fun m hm z hz => ?_, q⟩
  · rw [List.all_eq_true]
    intro d hd
    obtain ⟨x, _, rfl⟩ := List.mem_map.mp hd
    rfl
  · rw [List.getElem_idxOf hi, eqv_str]
    exact decide_eq_true rfl
  · rw [List.getElem?_map] at hz
    have hm' : m < bs.length := by omega
    rw [List.getElem?_eq_getElem hm'] at hz
    cases hz
    rw [eqv_str]
    exact decide_eq_false (fun e => by
      have := List.not_of_lt_findIdx (p := fun x => x == b) (xs := bs) hm
      rw [e] at this
      simp at this)
theorem no_worth_in (as Q E) : ¬ sp_worth_in 0 as Q E := by
  rintro ⟨p, t, s, _, ⟨_, _, _, z⟩, _⟩
  cases t <;> simp [Th.dep] at z
theorem vc_is_whole (as Q E) (h : sp_is_whole as Q E) : t_is_whole (defEnds 3 Q) (start0 3 as) := by
  obtain ⟨n, lo, hi, rfl, hQ⟩ := h
  refine ⟨rfl, true, rfl, rfl, false, rfl, ?_⟩
  show if decide (lo ≤ (n : Int)) = true then _ else _
  refine ite_vc (fun h => ?_) (fun h => ?_)
  · have h1 : lo ≤ (n : Int) := of_decide_eq_true h
    show rtQ 3 Q (.vl (.bool (decide ((n : Int) ≤ hi)))) _
    have e : decide ((n : Int) ≤ hi) = decide (lo ≤ (n : Int) ∧ (n : Int) ≤ hi) := by simp [h1]
    rw [e]
    exact hQ
  · have h1 : ¬ lo ≤ (n : Int) := of_decide_eq_false h
    have e : false = decide (lo ≤ (n : Int) ∧ (n : Int) ≤ hi) := by simp [h1]
    show rtQ 3 Q (.vl (.bool false)) _
    rw [e]
    exact hQ
theorem vc_is_place (as Q E) (h : sp_is_place as Q E) : t_is_place (defEnds 1 Q) (start0 1 as) := by
  obtain ⟨w, rfl, hQ⟩ := h
  cases w with
  | «at» r s => exact ⟨_, atI_nat (j := 0) rfl, rfl, true, kit_ii, hQ⟩
  | gives n => exact ⟨_, atI_nat (j := 0) rfl, rfl, false, kit_si, hQ⟩
  | nothing => exact ⟨_, atI_nat (j := 0) rfl, rfl, false, kit_si, hQ⟩
theorem vc_place_or_end (as Q E) (h : sp_place_or_end as Q E) : t_place_or_end (defEnds 3 Q) (start0 3 as) := by
  obtain ⟨p, r, s, rfl, hQ⟩ := h
  refine ⟨_, atI_nat (j := 2) rfl, ?_⟩
  unfold poe at hQ
  refine ite_vc (fun h => ?_) (fun h => ?_)
  · have h1 : ((p.rs.map Row.d).length : Int) ≤ (r : Int) := of_decide_eq_true h
    rw [List.length_map] at h1
    rw [if_pos (by omega)] at hQ
    exact hQ
  · have h1 : ¬ ((p.rs.map Row.d).length : Int) ≤ (r : Int) := of_decide_eq_false h
    rw [List.length_map] at h1
    rw [if_neg (by omega)] at hQ
    exact ⟨l2, hQ⟩
theorem vc_begin_of (as Q E) (h : sp_begin_of as Q E) : t_begin_of (defEnds 2 Q) (start0 2 as) := by
  obtain ⟨p, s, rfl, hQ⟩ := h
  exact ⟨nd0, p, 0, s, rfl, hQ⟩
theorem vc_is_pick (as Q E) (h : sp_is_pick as Q E) : t_is_pick (defEnds 2 Q) (start0 2 as) := by
  obtain ⟨p, r, s, rfl, hr, hQ⟩ := h
  refine ⟨_, atI_nat (j := 2) rfl, _, atI_nat (j := 0) rfl, p.rs[r].d, atI_nat (by simp [hr]), ?_⟩
  unfold isPick at hQ
  rw [List.getElem?_eq_getElem hr] at hQ
  generalize p.rs[r] = row at hQ ⊢
  cases row with
  | set b t => exact ⟨_, atI_nat (j := 0) rfl, eqS, hQ⟩
  | pick b t => exact ⟨_, atI_nat (j := 0) rfl, eqS, hQ⟩
  | need b => exact ⟨_, atI_nat (j := 0) rfl, eqS, hQ⟩
  | skip b t => exact ⟨_, atI_nat (j := 0) rfl, eqS, hQ⟩
  | give b => exact ⟨_, atI_nat (j := 0) rfl, eqS, hQ⟩
theorem vc_need_store (as Q E) (h : sp_need_store as Q E) : t_need_store (defEnds 2 Q) (start0 3 as) := by
  obtain ⟨p, s, rfl, ⟨hb, hs⟩, hQ⟩ := h
  refine ⟨pl_noDict pl_stD, true, kit_tt, ?_⟩
  refine ⟨_, atI_nat (j := 1) rfl, eqI, ?_⟩
  refine ite_vc (fun h => ?_) (fun _ => ?_)
  · exfalso
    rw [eqv_int, List.length_map, List.length_map, hs.1] at h
    simp at h
  show t_need_store_1 (defEnds 2 Q) [.sh p.d, .sh (stD s), .no]
  refine lc_vc (J := fun ds acc e => acc = [] ∧ (∀ d ∈ ds, ∃ n : Nat, d = dNat n ∧ n < p.m) ∧ e = [.sh p.d, .sh (stD s), .no]) _ ⟨trivial, trivial⟩ rfl ⟨rfl, fun d hd => ?_, rfl⟩ ?_ ?_
  · obtain ⟨n, hn, rfl⟩ := List.mem_map.mp hd
    exact ⟨n, rfl, hs.2 n hn⟩
  · rintro acc e ⟨rfl, _, rfl⟩
    exact ⟨_, rfl, l0, eqL0 rfl, hQ⟩
  · rintro d ds acc e k hk ⟨rfl, hd, rfl⟩
    obtain ⟨n, rfl, hn⟩ := hd d List.mem_cons_self
    refine ⟨trivial, trivial, _, atI_nat (j := 0) rfl, nd0, n, 0, (p.m : Int) - 1, rfl, ?_⟩
    have e : decide ((0 : Int) ≤ (n : Int) ∧ (n : Int) ≤ (p.m : Int) - 1) = true := by rw [decide_eq_true_eq]; omega
    rw [e]
    exact hk _ _ ⟨rfl, fun d hd' => hd d (List.mem_cons_of_mem _ hd'), rfl⟩
theorem wo_lt {p : Pg} {s : List Nat} (hb : BxOk p.m p.bs) (hs : StOk p.m p.bs s) : ∀ {t : Th}, t.ok p.m p.bs → wo p s t < p.m
  | .num n, h => h
  | .box b, h => by
    have hi : p.bs.idxOf b < p.bs.length := List.idxOf_lt_length_of_mem h
    show s.getD (p.bs.idxOf b) 0 < p.m
    rw [List.getD_eq_getElem?_getD, List.getElem?_eq_getElem (by rw [hs.1]; exact hi)]
    exact hs.2 _ (List.getElem_mem _)
  | .op w x y, h => by
    have h2 := hb.m2
    show (if w = "plus" then _ else if w = "times" then _ else if w = "less" then _ else _) < p.m
    split
    · exact Nat.mod_lt _ (by omega)
    split
    · exact Nat.mod_lt _ (by omega)
    split <;> split <;> omega
theorem vc_worth_in (dm : Nat) (as Q E) (h : sp_worth_in (dm + 1) as Q E) : t_worth_in dm (defEnds 3 Q) (start0 6 as) := by
  obtain ⟨p, t, s, rfl, ⟨hb, hs, ht, hd⟩, hQ⟩ := h
  cases t with
  | num n => exact ⟨_, atI_nat (j := 0) rfl, trivial, eqS, _, atI_nat (j := 1) rfl, hQ⟩
  | box b =>
    have hi : p.bs.idxOf b < p.bs.length := List.idxOf_lt_length_of_mem ht
    refine ⟨_, atI_nat (j := 0) rfl, trivial, eqS, eqS, _, atI_nat (j := 1) rfl, trivial, _, atI_nat (j := 1) rfl, idx_vc ht ?_⟩
    refine ⟨dNat (s.getD (p.bs.idxOf b) 0), ?_, hQ⟩
    refine atI_nat ?_
    rw [List.getElem?_map, List.getD_eq_getElem?_getD, List.getElem?_eq_getElem (by rw [hs.1]; exact hi)]
    rfl
  | op w x y =>
    have hw : w ≠ "number" ∧ w ≠ "box" := by
      have := ht.1
      simp only [List.mem_cons, List.not_mem_nil, or_false] at this
      rcases this with rfl | rfl | rfl | rfl <;> exact ⟨by decide +kernel, by decide +kernel⟩
    have hdx : x.dep ≤ dm ∧ y.dep ≤ dm := by
      have : max x.dep y.dep + 1 ≤ dm + 1 := hd
      omega
    refine ⟨_, atI_nat (j := 0) rfl, trivial, ?_⟩
    show t_worth_in_8 dm (defEnds 3 Q) [.sh p.d, .sh (Th.op w x y).d, .sh (stD s), .sh (.str w), .no, .no]
    refine ⟨eqS, ite_vc (fun h => ?_) (fun _ => ?_)⟩
    · rw [eqv_str] at h; exact absurd (of_decide_eq_true h) hw.1
    refine ⟨eqS, ite_vc (fun h => ?_) (fun _ => ?_)⟩
    · rw [eqv_str] at h; exact absurd (of_decide_eq_true h) hw.2
    show t_worth_in_6 dm (defEnds 3 Q) [.sh p.d, .sh (Th.op w x y).d, .sh (stD s), .sh (.str w), .no, .no]
    refine ⟨_, atI_nat (j := 1) rfl, nd0, p, x, s, rfl, ⟨hb, hs, ht.2.1, hdx.1⟩, trivial, ?_⟩
    refine ⟨_, atI_nat (j := 2) rfl, nd0, p, y, s, rfl, ⟨hb, hs, ht.2.2, hdx.2⟩, trivial, ?_⟩
    show t_worth_in_4 dm (defEnds 3 Q) [.sh p.d, .sh (Th.op w x y).d, .sh (stD s), .sh (.str w), .sh (dNat (wo p s x)), .sh (dNat (wo p s y))]
    have h1 := wo_lt hb hs ht.2.1
    have h2 := wo_lt hb hs ht.2.2
    have hm := hb.m16
    have hm2 := hb.m2
    have hQ' : Q (.vl (dNat (if w = "plus" then (wo p s x + wo p s y) % p.m else if w = "times" then wo p s x * wo p s y % p.m else if w = "less" then (if wo p s x < wo p s y then 1 else 0) else (if wo p s x = wo p s y then 1 else 0)))) [] := hQ
    refine ⟨eqS, ite_vc (fun h => ?_) (fun h => ?_)⟩
    · rw [eqv_str] at h
      rw [if_pos (of_decide_eq_true h)] at hQ'
      refine ⟨_, atI_nat (j := 0) rfl, by omega, ?_⟩
      exact hQ'
    rw [eqv_str] at h
    rw [if_neg (of_decide_eq_false h)] at hQ'
    refine ⟨eqS, ite_vc (fun h => ?_) (fun h => ?_)⟩
    · rw [eqv_str] at h
      rw [if_pos (of_decide_eq_true h)] at hQ'
      refine ⟨Or.inl ⟨by omega, by omega⟩, _, atI_nat (j := 0) rfl, by omega, ?_⟩
      exact hQ'
    rw [eqv_str] at h
    rw [if_neg (of_decide_eq_false h)] at hQ'
    refine ⟨eqS, ite_vc (fun h => ?_) (fun h => ?_)⟩
    · rw [eqv_str] at h
      rw [if_pos (of_decide_eq_true h)] at hQ'
      have e : (if decide ((wo p s x : Int) < (wo p s y : Int)) = true then (1 : Int) else 0) = ((if wo p s x < wo p s y then 1 else 0 : Nat) : Int) := by
        by_cases h : wo p s x < wo p s y <;> simp [h]
      show rtQ 3 Q (.vl (.int (if decide ((wo p s x : Int) < (wo p s y : Int)) = true then (1 : Int) else 0))) _
      rw [e]
      exact hQ'
    rw [eqv_str] at h
    rw [if_neg (of_decide_eq_false h)] at hQ'
    refine ⟨eqI, ?_⟩
    have e : (if PyData.eqv (dNat (wo p s x)) (dNat (wo p s y)) = true then (1 : Int) else 0) = ((if wo p s x = wo p s y then 1 else 0 : Nat) : Int) := by
      rw [eqv_int]
      by_cases h : wo p s x = wo p s y
      · simp [h]
      · have h' : ¬ ((wo p s x : Nat) : Int) = ((wo p s y : Nat) : Int) := by omega
        simp [h, h']
    show rtQ 3 Q (.vl (.int (if PyData.eqv (dNat (wo p s x)) (dNat (wo p s y)) = true then (1 : Int) else 0))) _
    rw [e]
    exact hQ'
theorem vc_worth_of (as Q E) (h : sp_worth_of as Q E) : t_worth_of (defEnds 3 Q) (start0 3 as) := by
  obtain ⟨p, t, s, rfl, ⟨hb, hs, ht⟩, hQ⟩ := h
  exact ⟨nd0, p, s, rfl, ⟨hb, hs⟩, nd0, p, t, s, rfl, ⟨hb, hs, ht.1, Nat.le_trans ht.2 (by decide)⟩, hQ⟩
theorem vc_store_with (as Q E) (h : sp_store_with as Q E) : t_store_with (defEnds 4 Q) (start0 5 as) := by
  obtain ⟨p, s, b, v, rfl, ⟨hbm, hb, hs⟩, hQ⟩ := h
  have hi : p.bs.idxOf b < p.bs.length := List.idxOf_lt_length_of_mem hbm
  have hl := hb.len
  refine ⟨_, atI_nat (j := 1) rfl, trivial, idx_vc hbm ⟨trivial, ?_⟩⟩
  show t_store_with_1 (defEnds 4 Q) [.sh p.d, .sh (stD s), .sh (.str b), .sh (dNat v), .sh (dNat (p.bs.idxOf b))]
  unfold swith at hQ
  generalize p.bs.idxOf b = j at hi hQ ⊢
  have hj : j < s.length := by rw [hs]; exact hi
  have e1 : cutD (s.map dNat) none (some ((j : Nat) : Int)) = (s.take j).map dNat := by
    unfold cutD
    rw [HT.sIx_none, HT.sIx_nat, List.length_map, List.map_take]
    rw [List.drop_zero, Nat.min_eq_left (Nat.le_of_lt hj), Nat.sub_zero]
  have e2 : cutD (s.map dNat) (some (((j : Nat) : Int) + 1)) none = (s.drop (j + 1)).map dNat := by
    unfold cutD
    rw [HT.sIx_none, show ((j : Nat) : Int) + 1 = ((j + 1 : Nat) : Int) by omega, HT.sIx_nat, List.length_map, List.map_drop, Nat.min_eq_left (by omega)]
    rw [List.take_of_length_le]
    rw [List.length_drop, List.length_map]; omega
  rw [List.set_eq_take_append_cons_drop, if_pos hj] at hQ
  have e3 : stD (s.take j ++ v :: s.drop (j + 1)) = .tuple (cutD (s.map dNat) none (some ((j : Nat) : Int)) ++ [dNat v] ++ cutD (s.map dNat) (some (((j : Nat) : Int) + 1)) none) := by
    rw [e1, e2]; simp [stD]
  rw [e3] at hQ
  have c1 : (cutD (s.map dNat) none (some ((j : Nat) : Int))).length + 1 ≤ 100000 := by rw [e1, List.length_map, List.length_take]; omega
  have c2 : (cutD (s.map dNat) none (some ((j : Nat) : Int)) ++ [dNat v]).length + (cutD (s.map dNat) (some (((j : Nat) : Int) + 1)) none).length ≤ 100000 := by
    rw [e1, e2, List.length_append, List.length_map, List.length_map, List.length_take, List.length_drop, List.length_singleton]; omega
  exact ⟨l1, c1, c2, hQ⟩
theorem st_swith {p : Pg} {s : List Nat} {b : Str} {v : Nat} (hs : StOk p.m p.bs s) (hv : v < p.m) : StOk p.m p.bs (swith p s b v) := by
  unfold swith
  refine ⟨by rw [List.length_set]; exact hs.1, fun n hn => ?_⟩
  rcases List.mem_or_eq_of_mem_set hn with h | rfl
  · exact hs.2 n h
  · exact hv
theorem vc_ways_from (as Q E) (h : sp_ways_from as Q E) : t_ways_from (defEnds 2 Q) (start0 12 as) := by
  obtain ⟨p, r, s, rfl, ⟨hg, hs, hr⟩, hQ⟩ := h
  have hrow := hg.rows p.rs[r] (List.getElem_mem hr)
  unfold ways at hQ
  rw [List.getElem?_eq_getElem hr] at hQ
  generalize hrw : p.rs[r] = row at hQ hrow
  refine ⟨trivial, trivial, ?_⟩
  show t_ways_from_12 (defEnds 2 Q) [.sh p.d, .sh (Way.at r s).d, .sh (dNat r), .sh (stD s), .no, .no, .no, .no, .no, .no, .no, .no]
  refine ⟨_, atI_nat (j := 2) rfl, row.d, atI_nat (by simp [hr, hrw]), trivial, ?_⟩
  -- what is left of a row of one way
  have one : ∀ (x5 x6 x7 x8 : Sl) (o : Nat), (poe p (r + 1 + o) s).d = (poe p (r + 1 + o) s).d → Q (.tm (.lst [(poe p (r + 1 + o) s).d])) [] → t_ways_from_4 (defEnds 2 Q) [.sh p.d, .sh (Way.at r s).d, .sh (dNat r), .sh (stD s), .sh row.d, x5, x6, x7, x8, .sh (dNat o), .no, .no] := by
    intro x5 x6 x7 x8 o _ q
    refine ⟨nd0, p, r + 1 + o, s, ?_, l1, q⟩
    show [Sl.sh p.d, .sh (.int ((r : Int) + 1 + (o : Int))), .sh (stD s)] = _
    rw [show (r : Int) + 1 + (o : Int) = ((r + 1 + o : Nat) : Int) by omega]
  have five : ∀ t : Th, t.fit p.m p.bs → t.dep ≤ 5 := fun t h => Nat.le_trans h.2 (by decide)
  -- what is left of a row of stores
  have stores : ∀ (ts : List Th) (b : Str) (w : Str) (last : D) (x : Sl), row.d = .tuple [.str w, .str b, last] → b ∈ p.bs → ts.length ≤ 1000 → (∀ t ∈ ts, t.fit p.m p.bs) →
      Q (.tm (.lst ((ts.map fun t => poe p (r + 1) (swith p s b (wo p s t))).map Way.d))) [] → (x = .sh (.list (ts.map Th.d)) ∨ x = .ow (.lst (ts.map Th.d))) →
      t_ways_from_2 (defEnds 2 Q) [.sh p.d, .sh (Way.at r s).d, .sh (dNat r), .sh (stD s), .sh row.d, .sh (.str w), x, .no, .no, .no, .no, .no] := by
    intro ts b w last x er hbm hl hf q hx
    rw [er]
    have go : ∀ e0 : Sv, e0 = [.sh p.d, .sh (Way.at r s).d, .sh (dNat r), .sh (stD s), .sh (.tuple [.str w, .str b, last]), .sh (.str w), .sh (.list (ts.map Th.d)), .no, .no, .no, .no, .no] →
        dLcK (.nm 10) [0, 3] dYes (dCall sp_store_with [dVal 0, dVal 3, dOp tIx (dRef 4) (dC (.int 1)), dCall (sp_worth_in 5) [dVal 0, dVal 10, dVal 3]]) (fun r e1 => setS e1 7 r (t_ways_from_1 (defEnds 2 Q))) (ts.map Th.d) e0 := by
      rintro e0 rfl
      refine lc_vc (J := fun ds acc e => ∃ done left : List Th, ts = done ++ left ∧ ds = left.map Th.d ∧ acc = (done.map fun t => stD (swith p s b (wo p s t))) ∧
        e = [.sh p.d, .sh (Way.at r s).d, .sh (dNat r), .sh (stD s), .sh (.tuple [.str w, .str b, last]), .sh (.str w), .sh (.list (ts.map Th.d)), .no, .no, .no, .no, .no]) _ ⟨trivial, trivial⟩ rfl ⟨[], ts, rfl, rfl, rfl, rfl⟩ ?_ ?_
      · rintro acc e ⟨done, left, hd, hl', rfl, rfl⟩
        have : left = [] := by
          cases left with
          | nil => rfl
          | cons a l => cases hl'
        subst this
        rw [List.append_nil] at hd
        subst hd
        refine ⟨_, rfl, trivial, ?_⟩
        show t_ways_from_1 (defEnds 2 Q) [.sh p.d, .sh (Way.at r s).d, .sh (dNat r), .sh (stD s), .sh (.tuple [.str w, .str b, last]), .sh (.str w), .sh (.list (ts.map Th.d)), .ow (.lst (ts.map fun t => stD (swith p s b (wo p s t)))), .no, .no, .no, .no]
        refine lc_vc (J := fun ds acc e => ∃ done left : List Th, ts = done ++ left ∧ ds = (left.map fun t => stD (swith p s b (wo p s t))) ∧ acc = (done.map fun t => (poe p (r + 1) (swith p s b (wo p s t))).d) ∧
          e = [.sh p.d, .sh (Way.at r s).d, .sh (dNat r), .sh (stD s), .sh (.tuple [.str w, .str b, last]), .sh (.str w), .sh (.list (ts.map Th.d)), .sh (.list (ts.map fun t => stD (swith p s b (wo p s t)))), .no, .no, .no, .no]) _ ⟨trivial, trivial⟩ rfl ⟨[], ts, rfl, rfl, rfl, rfl⟩ ?_ ?_
        · rintro acc e ⟨done, left, hd, hl', rfl, rfl⟩
          have : left = [] := by
            cases left with
            | nil => rfl
            | cons a l => cases hl'
          subst this
          rw [List.append_nil] at hd
          subst hd
          rw [List.map_map] at q
          exact ⟨_, rfl, q⟩
        · rintro d ds acc e k hk ⟨done, left, hd, hl', rfl, rfl⟩
          cases left with
          | nil => cases hl'
          | cons t left =>
            cases hl'
            refine ⟨trivial, trivial, nd0, p, r + 1, swith p s b (wo p s t), rfl, ?_, hk _ _ ⟨done ++ [t], left, by rw [hd]; simp, rfl, by simp, rfl⟩⟩
            have := congrArg List.length hd
            rw [List.length_append, List.length_cons] at this
            rw [List.length_map]
            omega
      · rintro d ds acc e k hk ⟨done, left, hd, hl', rfl, rfl⟩
        cases left with
        | nil => cases hl'
        | cons t left =>
          cases hl'
          have ht := hf t (by rw [hd]; simp)
          refine ⟨trivial, trivial, _, atI_nat (j := 1) rfl, nd0, p, t, s, rfl, ⟨hg.bx, hs, ht.1, five t ht⟩, nd0, p, s, b, wo p s t, rfl, ⟨hbm, hg.bx, hs.1⟩, ?_, hk _ _ ⟨done ++ [t], left, by rw [hd]; simp, rfl, by simp, rfl⟩⟩
          have := congrArg List.length hd
          rw [List.length_append, List.length_cons] at this
          rw [List.length_map]
          omega
    rcases hx with rfl | rfl
    · exact go _ rfl
    · exact go _ rfl
  cases row with
  | set b t =>
    show t_ways_from_11 (defEnds 2 Q) [.sh p.d, .sh (Way.at r s).d, .sh (dNat r), .sh (stD s), .sh (Row.set b t).d, .no, .no, .no, .no, .no, .no, .no]
    refine ⟨_, atI_nat (j := 0) rfl, trivial, l2, ⟨rfl, rfl⟩, _, atI_nat (j := 2) rfl, trivial, eqS, _, atI_nat (j := 2) rfl, l1, trivial, ?_⟩
    exact stores [t] b "set" t.d _ rfl hrow.1 (by simp) (fun x hx => by rw [List.mem_singleton.mp hx]; exact hrow.2) hQ (.inr rfl)
  | pick b ts =>
    show t_ways_from_11 (defEnds 2 Q) [.sh p.d, .sh (Way.at r s).d, .sh (dNat r), .sh (stD s), .sh (Row.pick b ts).d, .no, .no, .no, .no, .no, .no, .no]
    refine ⟨_, atI_nat (j := 0) rfl, trivial, l2, ⟨rfl, rfl⟩, _, atI_nat (j := 2) rfl, trivial, eqS, ?_⟩
    exact stores ts b "pick" (.list (ts.map Th.d)) _ rfl hrow.1 (by have := hrow.2.1; omega) hrow.2.2 hQ (.inl rfl)
  | need t =>
    show t_ways_from_11 (defEnds 2 Q) [.sh p.d, .sh (Way.at r s).d, .sh (dNat r), .sh (stD s), .sh (Row.need t).d, .no, .no, .no, .no, .no, .no, .no]
    refine ⟨_, atI_nat (j := 0) rfl, trivial, l2, ⟨rfl, rfl⟩, _, atI_nat (j := 1) rfl, nd0, p, t, s, rfl, ⟨hg.bx, hs, hrow.1, five t hrow⟩, trivial, eqS, eqS, eqI, ?_⟩
    refine ite_vc (fun h => ?_) (fun h => ?_)
    · rw [eqv_int] at h
      have h0 : wo p s t = 0 := by simpa using h
      unfold rowWays at hQ
      dsimp only at hQ
      rw [if_pos h0] at hQ
      exact ⟨l1, hQ⟩
    · rw [eqv_int] at h
      have h0 : ¬ wo p s t = 0 := by simpa using h
      unfold rowWays at hQ
      dsimp only at hQ
      rw [if_neg h0] at hQ
      refine ⟨trivial, eqS, ?_⟩
      exact one _ _ _ _ 0 rfl hQ
  | skip t n =>
    show t_ways_from_11 (defEnds 2 Q) [.sh p.d, .sh (Way.at r s).d, .sh (dNat r), .sh (stD s), .sh (Row.skip t n).d, .no, .no, .no, .no, .no, .no, .no]
    refine ⟨_, atI_nat (j := 0) rfl, trivial, l2, ⟨rfl, rfl⟩, _, atI_nat (j := 1) rfl, nd0, p, t, s, rfl, ⟨hg.bx, hs, hrow.1.1, five t hrow.1⟩, trivial, eqS, eqS, trivial, eqS, eqI, ?_⟩
    refine ite_vc (fun h => ?_) (fun h => ?_)
    · rw [eqv_int] at h
      have h0 : ¬ wo p s t = 0 := by simpa using h
      unfold rowWays at hQ
      dsimp only at hQ
      rw [if_neg h0] at hQ
      exact ⟨_, atI_nat (j := 2) rfl, trivial, one _ _ _ _ n rfl hQ⟩
    · rw [eqv_int] at h
      have h0 : wo p s t = 0 := by simpa using h
      unfold rowWays at hQ
      dsimp only at hQ
      rw [if_pos h0] at hQ
      exact one _ _ _ _ 0 rfl hQ
  | give t =>
    show t_ways_from_11 (defEnds 2 Q) [.sh p.d, .sh (Way.at r s).d, .sh (dNat r), .sh (stD s), .sh (Row.give t).d, .no, .no, .no, .no, .no, .no, .no]
    refine ⟨_, atI_nat (j := 0) rfl, trivial, l2, ⟨rfl, rfl⟩, _, atI_nat (j := 1) rfl, nd0, p, t, s, rfl, ⟨hg.bx, hs, hrow.1, five t hrow⟩, trivial, eqS, l2, l1, hQ⟩
/-! ### all runs -/
def Wok (p : Pg) : Way → Prop
  | .at r s => r < p.rs.length ∧ StOk p.m p.bs s
  | _ => True
theorem poe_ok {p : Pg} {r : Nat} {s : List Nat} (hs : StOk p.m p.bs s) : Wok p (poe p r s) := by
  unfold poe
  split
  · trivial
  · exact ⟨by omega, hs⟩
theorem poe_rk {p : Pg} {r r' : Nat} {s : List Nat} (h : r < p.rs.length) (hr : r < r') : rk p (poe p r' s) < p.rs.length - r := by
  unfold poe
  split
  · show 0 < _; omega
  · show p.rs.length - r' < _; omega
theorem ways_ok {p : Pg} (hg : p.good) {r : Nat} {s : List Nat} (h : r < p.rs.length) (hs : StOk p.m p.bs s) : ∀ w ∈ ways p r s, Wok p w ∧ rk p w < p.rs.length - r := by
  intro w hw
  have hrow := hg.rows p.rs[r] (List.getElem_mem h)
  unfold ways at hw
  rw [List.getElem?_eq_getElem h] at hw
  dsimp only at hw
  generalize p.rs[r] = row at hw hrow
  cases row with
  | set b t =>
    rw [List.mem_singleton.mp hw]
    exact ⟨poe_ok (st_swith hs (wo_lt hg.bx hs hrow.2.1)), poe_rk h (by omega)⟩
  | pick b ts =>
    obtain ⟨t, ht, rfl⟩ := List.mem_map.mp hw
    exact ⟨poe_ok (st_swith hs (wo_lt hg.bx hs (hrow.2.2 t ht).1)), poe_rk h (by omega)⟩
  | need t =>
    unfold rowWays at hw
    dsimp only at hw
    split at hw
    · rw [List.mem_singleton.mp hw]; exact ⟨trivial, by show 0 < _; omega⟩
    · rw [List.mem_singleton.mp hw]; exact ⟨poe_ok hs, poe_rk h (by omega)⟩
  | skip t n =>
    rw [List.mem_singleton.mp hw]
    exact ⟨poe_ok hs, poe_rk h (by omega)⟩
  | give t =>
    rw [List.mem_singleton.mp hw]
    exact ⟨trivial, by show 0 < _; omega⟩
theorem ways_len {p : Pg} (hg : p.good) {r : Nat} {s : List Nat} (h : r < p.rs.length) : 1 ≤ (ways p r s).length ∧ (ways p r s).length ≤ 5 ∧ (isPick p r = false → (ways p r s).length = 1) := by
  have hrow := hg.rows p.rs[r] (List.getElem_mem h)
  unfold ways isPick
  rw [List.getElem?_eq_getElem h]
  dsimp only
  generalize p.rs[r] = row at hrow ⊢
  cases row with
  | set b t => exact ⟨by simp [rowWays], by simp [rowWays], fun _ => rfl⟩
  | pick b ts => exact ⟨by simp [rowWays]; exact hrow.2.1.1, by simp [rowWays]; exact hrow.2.1.2, fun z => by cases z⟩
  | need t =>
    unfold rowWays
    dsimp only
    split <;> exact ⟨by simp, by simp, fun _ => rfl⟩
  | skip t n => exact ⟨by simp [rowWays], by simp [rowWays], fun _ => rfl⟩
  | give t => exact ⟨by simp [rowWays], by simp [rowWays], fun _ => rfl⟩
theorem flatMap_cg {α β : Type} {f g : α → List β} : ∀ {l : List α}, (∀ x ∈ l, f x = g x) → l.flatMap f = l.flatMap g
  | [], _ => rfl
  | a :: l, h => by
    rw [List.flatMap_cons, List.flatMap_cons, h a List.mem_cons_self, flatMap_cg fun x hx => h x (List.mem_cons_of_mem _ hx)]
theorem runF_en {p : Pg} (hg : p.good) : ∀ (f g : Nat) (w : Way), Wok p w → rk p w < f → rk p w < g → runF p f w = runF p g w
  | 0, _, _, _, h, _ => absurd h (Nat.not_lt_zero _)
  | _, 0, _, _, _, h => absurd h (Nat.not_lt_zero _)
  | f + 1, g + 1, w, hw, h1, h2 => by
    cases w with
    | gives n => rfl
    | nothing => rfl
    | «at» r s =>
      obtain ⟨hr, hs⟩ := hw
      have h1' : p.rs.length - r < f + 1 := h1
      have h2' : p.rs.length - r < g + 1 := h2
      have ih : ∀ w ∈ ways p r s, runF p f w = runF p g w := fun w hw => by
        obtain ⟨a, b⟩ := ways_ok hg hr hs w hw
        exact runF_en hg f g w a (by omega) (by omega)
      unfold runF
      split
      · refine flatMap_cg fun wk hwk => ?_
        rw [ih wk.1 (List.fst_mem_of_mem_zipIdx hwk)]
      · cases hws : ways p r s with
        | nil => rfl
        | cons w ws => exact ih w (by rw [hws]; exact List.mem_cons_self)
theorem runs_of {p : Pg} (hg : p.good) {w : Way} {f : Nat} (hw : Wok p w) (h : rk p w < f) : runF p f w = runs p w := runF_en hg f _ w hw h (Nat.lt_succ_self _)
theorem runs_pick {p : Pg} (hg : p.good) {r : Nat} {s : List Nat} (hr : r < p.rs.length) (hs : StOk p.m p.bs s) (hp : isPick p r = true) :
    runs p (.at r s) = (ways p r s).zipIdx.flatMap fun wk => (runs p wk.1).map fun ce => (wk.2 :: ce.1, ce.2) := by
  show runF p (p.rs.length - r + 1) (.at r s) = _
  rw [runF, if_pos hp]
  refine flatMap_cg fun wk hwk => ?_
  obtain ⟨a, b⟩ := ways_ok hg hr hs wk.1 (List.fst_mem_of_mem_zipIdx hwk)
  rw [runs_of hg a (by omega)]
theorem runs_one {p : Pg} (hg : p.good) {r : Nat} {s : List Nat} (hr : r < p.rs.length) (hs : StOk p.m p.bs s) (hp : isPick p r = false) : ∃ w, ways p r s = [w] ∧ runs p (.at r s) = runs p w := by
  have h1 := (ways_len hg (s := s) hr).2.2 hp
  cases hws : ways p r s with
  | nil => rw [hws] at h1; cases h1
  | cons w ws =>
    rw [hws] at h1
    have : ws = [] := by
      cases ws with
      | nil => rfl
      | cons a l => simp at h1
    subst this
    refine ⟨w, rfl, ?_⟩
    show runF p (p.rs.length - r + 1) (.at r s) = _
    rw [runF, if_neg (by rw [hp]; decide), hws]
    obtain ⟨a, b⟩ := ways_ok hg hr hs w (by rw [hws]; exact List.mem_cons_self)
    exact runs_of hg a (by omega)
theorem pl_wayD {w : Way} : pl w.d = true := by
  cases w with
  | «at» r s =>
    show (true && (pl (stD s) && true)) = true
    rw [pl_stD] <;> rfl
  | gives n => rfl
  | nothing => rfl
theorem pl_runD {c : List Nat × Way} : pl (runD c) = true := by
  show (pl (.list (c.1.map dNat)) && (pl c.2.d && true)) = true
  rw [pl_nats, pl_wayD] <;> rfl
def ext (p : Pg) (c : List Nat × Way) : List (List Nat × Way) := (runs p c.2).map fun ce => (c.1 ++ ce.1, ce.2)
def wt (p : Pg) (l : List (List Nat × Way)) : Nat := (l.map fun c => 6 ^ (rk p c.2 + 1)).sum
theorem eqv_nil {ds : List D} : PyData.eqv (.list ds) (.list []) = ds.isEmpty := by cases ds <;> rfl
theorem all_runs_body {p : Pg} (hg : p.good) {s : List Nat} {R : List (List Nat × Way)} (hR : R.length ≤ 2000) {kk : Sv → Prop} {rt : Op → Sv → Prop} {bk : Sv → Prop} {done W : List (List Nat × Way)} {ch : List Nat} {w : Way} {x6 x7 : Sl} (n6 : nio x6) (n7 : nio x7)
    (hch : ch.length ≤ 1000) (hw : Wok p w) (hW : ∀ c ∈ W, Wok p c.2 ∧ c.1.length + rk p c.2 ≤ p.rs.length) (hcr : ch.length + rk p w ≤ p.rs.length) (hWl : W.length ≤ 2000) (hall : done ++ (ext p (ch, w) ++ W.reverse.flatMap (ext p)) = R)
    (hk : ∀ (done2 W2 : List (List Nat × Way)) (x4 x5 x6 x7 : Sl), nio x4 → nio x5 → nio x6 → nio x7 → (∀ c ∈ W2, Wok p c.2 ∧ c.1.length + rk p c.2 ≤ p.rs.length) → done2 ++ W2.reverse.flatMap (ext p) = R → wt p W2 < wt p W + 6 ^ (rk p w + 1) →
      kk [.sh p.d, .sh (stD s), .ow (.lst (done2.map runD)), .ow (.lst (W2.map runD)), x4, x5, x6, x7]) :
    t_all_runs_3 { nx := kk, rt := rt, bk := bk, ct := kk } [.sh p.d, .sh (stD s), .ow (.lst (done.map runD)), .ow (.lst (W.map runD)), .sh (.list (ch.map dNat)), .sh w.d, x6, x7] := by
  have fin : w.isAt = false → t_all_runs_3 { nx := kk, rt := rt, bk := bk, ct := kk } [.sh p.d, .sh (stD s), .ow (.lst (done.map runD)), .ow (.lst (W.map runD)), .sh (.list (ch.map dNat)), .sh w.d, x6, x7] := by
    intro hna
    have hrw : runs p w = [([], w)] := by
      cases w with
      | «at» r s => cases hna
      | gives n => rfl
      | nothing => rfl
    have hx : ext p (ch, w) = [(ch, w)] := by simp [ext, hrw]
    rw [hx] at hall
    have hlen : done.length + 1 ≤ 2000 := by
      have := congrArg List.length hall
      rw [List.length_append, List.length_append, List.length_singleton] at this
      omega
    refine ⟨nd0, w, rfl, ?_⟩
    show if (!w.isAt) = true then _ else _
    rw [if_pos (by rw [hna]; rfl)]
    refine ⟨⟨_, rfl⟩, l2, _, rfl, by rw [List.length_map]; omega, ?_⟩
    show t_all_runs_1 { nx := kk, rt := rt, bk := bk, ct := kk } [.sh p.d, .sh (stD s), .ow (.lst (done.map runD ++ [runD (ch, w)])), .ow (.lst (W.map runD)), .sh (.list (ch.map dNat)), .sh w.d, x6, x7]
    refine ite_vc (fun h => ?_) (fun _ => ?_)
    · have h1 : (2000 : Int) < ((done.map runD ++ [runD (ch, w)]).length : Int) := of_decide_eq_true h
      rw [List.length_append, List.length_map, List.length_singleton] at h1
      omega
    have := hk (done ++ [(ch, w)]) W (.sh (.list (ch.map dNat))) (.sh w.d) x6 x7 trivial trivial n6 n7 hW (by rw [← hall]; simp) (Nat.lt_add_of_pos_right (Nat.pow_pos (by decide)))
    rw [List.map_append] at this
    exact this
  cases w with
  | gives n => exact fin rfl
  | nothing => exact fin rfl
  | «at» r st =>
    obtain ⟨hr, hst⟩ := hw
    have hrk : rk p (.at r st) = p.rs.length - r := rfl
    rw [hrk] at hcr
    have hwy := ways_ok hg hr hst
    have hwl := ways_len hg (s := st) hr
    refine ⟨nd0, .at r st, rfl, nd0, p, r, st, rfl, hr, ?_⟩
    show if isPick p r = true then _ else _
    refine ite_vc (fun hp => ?_) (fun hp => ?_)
    · refine ⟨nd0, p, r, st, rfl, ⟨hg, hst, hr⟩, ni rfl n6, ?_⟩
      show t_all_runs_2 { nx := kk, rt := rt, bk := bk, ct := kk } [.sh p.d, .sh (stD s), .ow (.lst (done.map runD)), .ow (.lst (W.map runD)), .sh (.list (ch.map dNat)), .sh (Way.at r st).d, .ow (.lst ((ways p r st).map Way.d)), x7]
      have hx : ext p (ch, .at r st) = ((ways p r st).zipIdx.map fun wk => (ch ++ [wk.2], wk.1)).flatMap (ext p) := by
        unfold ext
        rw [runs_pick hg hr hst hp, List.map_flatMap, List.flatMap_map]
        refine flatMap_cg fun wk _ => ?_
        rw [List.map_map]
        refine List.map_congr_left fun ce _ => ?_
        simp
      rw [hx] at hall
      generalize hws : ways p r st = ws at hwy hwl hall ⊢
      refine ⟨⟨rfl, (by dsimp only; rw [List.length_map]; omega), (by dsimp only; rw [List.length_map]; omega), by omega, by omega⟩, ?_⟩
      have hn : (((ws.map Way.d).length : Int) - 1 - (-1)).toNat = ws.length := by rw [List.length_map]; omega
      show dLoop (.nm 7) _ _ (dwnD (((ws.map Way.d).length : Int) - 1) (((ws.map Way.d).length : Int) - 1 - (-1)).toNat) [.sh p.d, .sh (stD s), .ow (.lst (done.map runD)), .ow (.lst (W.map runD)), .sh (.list (ch.map dNat)), .sh (Way.at r st).d, .ow (.lst (ws.map Way.d)), x7]
      rw [hn, List.length_map]
      refine dwn_vc (J := fun i e => ∃ x7 : Sl, nio x7 ∧ e = [.sh p.d, .sh (stD s), .ow (.lst (done.map runD)), .ow (.lst ((W ++ (((ws.zipIdx.map fun wk => (ch ++ [wk.2], wk.1)).drop (ws.length - i)).reverse)).map runD)), .sh (.list (ch.map dNat)), .sh (Way.at r st).d, .ow (.lst (ws.map Way.d)), x7]) ⟨x7, n7, by simp⟩ ?_ ?_
      · rintro e ⟨x7, n7, rfl⟩
        refine hk done (W ++ _) (.sh (.list (ch.map dNat))) (.sh (Way.at r st).d) (.ow (.lst (ws.map Way.d))) x7 trivial trivial trivial n7 ?_ ?_ ?_
        · intro c hc
          rcases List.mem_append.mp hc with hc | hc
          · exact hW c hc
          · have hc' := List.mem_of_mem_drop (List.mem_reverse.mp hc)
            obtain ⟨wk, hwk, rfl⟩ := List.mem_map.mp hc'
            obtain ⟨a, b⟩ := hwy wk.1 (List.fst_mem_of_mem_zipIdx hwk)
            refine ⟨a, ?_⟩
            dsimp only
            rw [List.length_append, List.length_singleton]
            omega
        · rw [Nat.sub_self, List.drop_zero, List.reverse_append, List.reverse_reverse, List.flatMap_append]
          exact hall
        · rw [Nat.sub_self, List.drop_zero]
          have hlt : ∀ (l : List (Way × Nat)), (∀ wk ∈ l, rk p wk.1 < p.rs.length - r) → wt p ((l.map fun wk => (ch ++ [wk.2], wk.1)).reverse) ≤ l.length * 6 ^ (p.rs.length - r) := by
            intro l hl
            unfold wt
            rw [List.map_reverse, List.sum_reverse, List.map_map]
            induction l with
            | nil => simp
            | cons a l ih =>
              have h1 := ih fun wk hwk => hl wk (List.mem_cons_of_mem _ hwk)
              have h2 : 6 ^ (rk p a.1 + 1) ≤ 6 ^ (p.rs.length - r) := Nat.pow_le_pow_right (by decide) (hl a List.mem_cons_self)
              rw [List.map_cons, List.sum_cons, List.length_cons, Nat.succ_mul]
              show 6 ^ (rk p a.1 + 1) + _ ≤ _
              omega
          have h1 := hlt ws.zipIdx fun wk hwk => (hwy wk.1 (List.fst_mem_of_mem_zipIdx hwk)).2
          rw [List.length_zipIdx] at h1
          have h2 : wt p (W ++ (ws.zipIdx.map fun wk => (ch ++ [wk.2], wk.1)).reverse) = wt p W + wt p ((ws.zipIdx.map fun wk => (ch ++ [wk.2], wk.1)).reverse) := by simp [wt]
          rw [h2, hrk, Nat.pow_succ]
          have h3 : ws.length * 6 ^ (p.rs.length - r) ≤ 5 * 6 ^ (p.rs.length - r) := Nat.mul_le_mul_right _ hwl.2.1
          have h4 : 0 < 6 ^ (p.rs.length - r) := Nat.pow_pos (by decide)
          omega
      · rintro i e k hi hk' ⟨x7, n7, rfl⟩
        have hj : ws.length - 1 - i < ws.length := by omega
        have ej : ((ws.length : Int) - 1 - (i : Int)) = ((ws.length - 1 - i : Nat) : Int) := by omega
        show setS _ 7 (.vl (.int ((ws.length : Int) - 1 - (i : Int)))) _
        rw [ej]
        refine ⟨ni rfl n7, ?_⟩
        refine ⟨⟨_, rfl⟩, l1, by rw [List.length_map, List.length_singleton]; omega, ws[ws.length - 1 - i].d, atI_nat (by simp [hj]), l2, _, rfl, ?_, hk' _ ⟨.sh (dNat (ws.length - 1 - i)), trivial, ?_⟩⟩
        · rw [List.length_map, List.length_append, List.length_reverse, List.length_drop, List.length_map, List.length_zipIdx]
          have := hwl.2.1
          omega
        · have hL : (ws.zipIdx.map fun wk => (ch ++ [wk.2], wk.1)).drop (ws.length - (i + 1)) = (ch ++ [ws.length - 1 - i], ws[ws.length - 1 - i]) :: (ws.zipIdx.map fun wk => (ch ++ [wk.2], wk.1)).drop (ws.length - i) := by
            rw [List.drop_eq_getElem_cons (by rw [List.length_map, List.length_zipIdx]; omega)]
            have e1 : ws.length - (i + 1) = ws.length - 1 - i := by omega
            have e2 : ws.length - (i + 1) + 1 = ws.length - i := by omega
            rw [e2]
            congr 1
            rw [List.getElem_map, List.getElem_zipIdx]
            simp only [e1, Nat.zero_add]
          rw [hL, List.reverse_cons, ← List.append_assoc, List.map_append (l₂ := [_])]
          have e4 : [(ch ++ [ws.length - 1 - i], ws[ws.length - 1 - i])].map runD = [PyData.tuple [.list (ch.map dNat ++ [dNat (ws.length - 1 - i)]), ws[ws.length - 1 - i].d]] := by simp [runD]
          rw [e4]
          rfl
    · obtain ⟨w2, hw2, hr2⟩ := runs_one hg hr hst hp
      have hw2o := hwy w2 (by rw [hw2]; exact List.mem_cons_self)
      refine ⟨⟨_, rfl⟩, nd0, p, r, st, rfl, ⟨hg, hst, hr⟩, w2.d, ?_, l2, _, rfl, ?_, ?_⟩
      · rw [hw2]; exact atI_nat (j := 0) rfl
      · rw [List.length_map]; omega
      have hrk2 : rk p w2 < p.rs.length - r := hw2o.2
      have hx : ext p (ch, .at r st) = ext p (ch, w2) := by unfold ext; rw [hr2]
      have := hk done (W ++ [(ch, w2)]) (.sh (.list (ch.map dNat))) (.sh (Way.at r st).d) x6 x7 trivial trivial n6 n7 (fun c hc => by
        rcases List.mem_append.mp hc with hc | hc
        · exact hW c hc
        · rw [List.mem_singleton.mp hc]
          exact ⟨hw2o.1, by dsimp only; omega⟩) (by
        rw [← hall, hx, List.reverse_append]
        rfl) (by
        have h2 : wt p (W ++ [(ch, w2)]) = wt p W + 6 ^ (rk p w2 + 1) := by simp [wt]
        rw [h2, hrk]
        have : 6 ^ (rk p w2 + 1) < 6 ^ (p.rs.length - r + 1) := Nat.pow_lt_pow_right (by decide) (by omega)
        omega)
      rw [List.map_append] at this
      exact this
theorem runs_pos {p : Pg} (hg : p.good) : ∀ (n : Nat) (w : Way), rk p w ≤ n → Wok p w → 1 ≤ (runs p w).length
  | n, .gives _, _, _ => Nat.le_refl _
  | n, .nothing, _, _ => Nat.le_refl _
  | 0, .at r s, h, hw => by
    have h' : p.rs.length - r ≤ 0 := h
    have := hw.1
    omega
  | n + 1, .at r s, h, hw => by
    have h' : p.rs.length - r ≤ n + 1 := h
    have hwy := ways_ok hg hw.1 hw.2
    have hwl := ways_len hg (s := s) hw.1
    cases hp : isPick p r with
    | false =>
      obtain ⟨w2, hw2, hr2⟩ := runs_one hg hw.1 hw.2 hp
      rw [hr2]
      obtain ⟨a, b⟩ := hwy w2 (by rw [hw2]; exact List.mem_cons_self)
      exact runs_pos hg n w2 (by omega) a
    | true =>
      rw [runs_pick hg hw.1 hw.2 hp]
      cases hws : ways p r s with
      | nil => rw [hws] at hwl; exact absurd hwl.1 (by decide)
      | cons w2 ws =>
        rw [List.zipIdx_cons, List.flatMap_cons, List.length_append, List.length_map]
        obtain ⟨a, b⟩ := hwy w2 (by rw [hws]; exact List.mem_cons_self)
        have := runs_pos hg n w2 (by omega) a
        dsimp only
        omega
theorem W_len {p : Pg} (hg : p.good) : ∀ (W : List (List Nat × Way)), (∀ c ∈ W, Wok p c.2) → W.length ≤ (W.flatMap (ext p)).length
  | [], _ => Nat.zero_le _
  | c :: W, h => by
    rw [List.flatMap_cons, List.length_append, List.length_cons]
    have h1 := W_len hg W fun x hx => h x (List.mem_cons_of_mem _ hx)
    have h2 := runs_pos hg _ c.2 (Nat.le_refl _) (h c List.mem_cons_self)
    have h3 : (ext p c).length = (runs p c.2).length := by simp [ext]
    omega
theorem rk_le {p : Pg} {w : Way} : rk p w ≤ p.rs.length := by cases w <;> simp [rk]
theorem vc_all_runs (as Q E) (h : sp_all_runs as Q E) : t_all_runs (defEnds 2 Q) (start0 8 as) := by
  obtain ⟨p, s, rfl, ⟨hg, hs, h2000⟩, hQ⟩ := h
  refine ⟨nd0, p, s, rfl, ⟨hg.bx, hs⟩, l0, trivial, l0, nd0, p, s, rfl, l2, l1, trivial, ?_⟩
  show t_all_runs_5 (defEnds 2 Q) [.sh p.d, .sh (stD s), .ow (.lst []), .ow (.lst ([([], poe p 0 s)].map runD)), .no, .no, .no, .no]
  refine ⟨fun m e => ∃ (done W : List (List Nat × Way)) (x4 x5 x6 x7 : Sl), (nio x4 ∧ nio x5 ∧ nio x6 ∧ nio x7) ∧ (∀ c ∈ W, Wok p c.2 ∧ c.1.length + rk p c.2 ≤ p.rs.length) ∧ done ++ W.reverse.flatMap (ext p) = runs p (poe p 0 s) ∧ m = wt p W ∧
    e = [.sh p.d, .sh (stD s), .ow (.lst (done.map runD)), .ow (.lst (W.map runD)), x4, x5, x6, x7], ⟨_, [], [([], poe p 0 s)], .no, .no, .no, .no, ⟨trivial, trivial, trivial, trivial⟩, ?_, ?_, rfl, rfl⟩, ?_⟩
  · intro c hc
    rw [List.mem_singleton.mp hc]
    exact ⟨poe_ok hs, by simpa using rk_le⟩
  · simp [ext]
  rintro m e ⟨done, W, x4, x5, x6, x7, ⟨n4, n5, n6, n7⟩, hW, hall, rfl, rfl⟩
  refine ⟨l0, eqL0 (pls_map (f := runD) fun _ _ => pl_runD), ?_⟩
  refine ite_vc (fun h => ?_) (fun h => ?_)
  · have h1 : (!PyData.eqv (.list (W.map runD)) (.list [])) = true := h
    rw [eqv_nil] at h1
    have hne : W ≠ [] := by
      rintro rfl
      cases h1
    obtain ⟨W', c, rfl⟩ : ∃ W' c, W = W' ++ [c] := ⟨W.dropLast, W.getLast hne, (List.dropLast_concat_getLast hne).symm⟩
    obtain ⟨ch, w⟩ := c
    have hwok := hW (ch, w) (by simp)
    have hW' : ∀ c ∈ W', Wok p c.2 ∧ c.1.length + rk p c.2 ≤ p.rs.length := fun c hc => hW c (List.mem_append_left _ hc)
    have hall' : done ++ (ext p (ch, w) ++ W'.reverse.flatMap (ext p)) = runs p (poe p 0 s) := by
      rw [← hall, List.reverse_append]; rfl
    have hwt : wt p (W' ++ [(ch, w)]) = wt p W' + 6 ^ (rk p w + 1) := by simp [wt]
    have hlen : W'.length ≤ 2000 := by
      have h3 := W_len hg W'.reverse fun c hc => (hW' c (List.mem_reverse.mp hc)).1
      have h4 := congrArg List.length hall'
      rw [List.length_append, List.length_append] at h4
      rw [List.length_reverse] at h3
      omega
    have hch : ch.length ≤ 1000 := by
      have := hwok.2
      have := hg.len
      dsimp only at *
      omega
    refine ⟨W'.map runD, runD (ch, w), ?_, ni rfl n4, ni rfl n5, ?_⟩
    · show some (OD.lst ((W' ++ [(ch, w)]).map runD)) = _
      rw [List.map_append]; rfl
    exact all_runs_body hg h2000 n6 n7 hch hwok.1 hW' hwok.2 hlen hall' (fun done2 W2 x4 x5 x6 x7 n4 n5 n6 n7 h5 h6 h7 => ⟨wt p W2, by rw [hwt]; exact h7, done2, W2, x4, x5, x6, x7, ⟨n4, n5, n6, n7⟩, h5, h6, rfl, rfl⟩)
  · have h1 : (!PyData.eqv (.list (W.map runD)) (.list [])) = false := h
    rw [eqv_nil] at h1
    have he : W = [] := by
      cases W with
      | nil => rfl
      | cons a l => cases h1
    subst he
    have hall' : done = runs p (poe p 0 s) := by simpa using hall
    rw [← hall'] at hQ
    exact hQ
end DL
/-! what the program's stage of answers promises. -/
namespace DL
open PySem PySem.Spec PyProof.Rows L2
def rowBehind (p : Pg) (r : Nat) (s : List Nat) : Row → List (Nat × List Nat)
  | .set b t => [(r + 1, swith p s b (wo p s t))]
  | .pick b ts => ts.map fun t => (r + 1, swith p s b (wo p s t))
  | .need t => if wo p s t = 0 then [] else [(min (r + 1) p.rs.length, s)]
  | .skip t n => [(min (r + 1 + if wo p s t = 0 then 0 else n) p.rs.length, s)]
  | .give _ => []
def behinds (p : Pg) (r : Nat) (s : List Nat) : List (Nat × List Nat) := match p.rs[r]? with
  | some row => rowBehind p r s row
  | none => []
def plD (x : Nat × List Nat) : D := .tuple [dNat x.1, stD x.2]
def sp_stores_behind : FS := fun as Q E => ∃ (p : Pg) (r : Nat) (s : List Nat), as = [.sh p.d, .sh (dNat r), .sh (stD s)] ∧ (p.good ∧ StOk p.m p.bs s ∧ r < p.rs.length) ∧ Q (.tm (.lst ((behinds p r s).map plD))) []
inductive Reach (p : Pg) (s0 : List Nat) : Nat → List Nat → Prop
  | here : Reach p s0 0 s0
  | step {r s r2 s2} : Reach p s0 r s → r < p.rs.length → (r2, s2) ∈ behinds p r s → Reach p s0 r2 s2
/-- there are few stores at each row -/
def Few (p : Pg) (s0 : List Nat) : Prop := ∀ (r : Nat) (ss : List (List Nat)), ss.Nodup → (∀ s ∈ ss, Reach p s0 r s) → ss.length ≤ 2500
def setD (ss : List (List Nat)) : List (D × D) := ss.map fun s => (stD s, .bool true)
structure Sets (p : Pg) (s0 : List Nat) (sets : List (List (List Nat))) : Prop where
  len : sets.length = p.rs.length + 1
  nd : ∀ ss ∈ sets, ss.Nodup
  reach : ∀ r ss, sets[r]? = some ss → ∀ s ∈ ss, Reach p s0 r s
  first : ∀ ss, sets[0]? = some ss → s0 ∈ ss
  closed : ∀ r ss s r2 s2, r < p.rs.length → sets[r]? = some ss → s ∈ ss → (r2, s2) ∈ behinds p r s → ∃ ss2, sets[r2]? = some ss2 ∧ s2 ∈ ss2
def sp_stores_by_rows : FS := fun as Q E => ∃ (p : Pg) (s0 : List Nat), as = [.sh p.d, .sh (stD s0)] ∧ (p.good ∧ StOk p.m p.bs s0 ∧ Few p s0 ∧ p.rs.length ≤ 35) ∧ ∀ sets, Sets p s0 sets → Q (.vl (.list (sets.map fun ss => .dict (setD ss)))) []
/- N: 0=program 1=row 2=store 3=asked 4=worth 5=over 6=thing -/
def t_stores_behind_1 : DS := dRet (dLst [dTup [dCB (tMM mn2) [dOp tAdd (dOp tAdd (dRef 1) (dC (.int 1))) (dRef 5), dCB tLenU [dOp tIx (dRef 0) (dC (.int 2))]], dVal 2]])
def t_stores_behind_2 : DS := dSeq (dIf (dAnd (dTst (dOp tEq (dOp tIx (dRef 3) (dC (.int 0))) (dC (.str "skip")))) (dTst (dOp tNe (dRef 4) (dC (.int 0))))) (dSet 5 (dOp tIx (dRef 3) (dC (.int 2)))) (dNext)) t_stores_behind_1
def t_stores_behind_3 : DS := dSeq (dSet 5 (dC (.int 0))) t_stores_behind_2
def t_stores_behind_4 : DS := dSeq (dIf (dOr (dTst (dOp tEq (dOp tIx (dRef 3) (dC (.int 0))) (dC (.str "give")))) (dAnd (dTst (dOp tEq (dOp tIx (dRef 3) (dC (.int 0))) (dC (.str "need")))) (dTst (dOp tEq (dRef 4) (dC (.int 0)))))) (dRet (dLst [])) (dNext)) t_stores_behind_3
def t_stores_behind_5 : DS := dSeq (dSet 4 (dCall (sp_worth_in 5) [dVal 0, dOp tIx (dRef 3) (dC (.int 1)), dVal 2])) t_stores_behind_4
def t_stores_behind_6 : DS := dSeq (dIf (dTst (dOp tEq (dOp tIx (dRef 3) (dC (.int 0))) (dC (.str "set")))) (dRet (dLst [dTup [dOp tAdd (dRef 1) (dC (.int 1)), dCall sp_store_with [dVal 0, dVal 2, dOp tIx (dRef 3) (dC (.int 1)), dCall (sp_worth_in 5) [dVal 0, dOp tIx (dRef 3) (dC (.int 2)), dVal 2]]]])) (dNext)) t_stores_behind_5
def t_stores_behind_7 : DS := dSeq (dIf (dTst (dOp tEq (dOp tIx (dRef 3) (dC (.int 0))) (dC (.str "pick")))) (dRet (dLc (dSeqI (dOp tIx (dRef 3) (dC (.int 2)))) (.nm 6) [0, 2] (dYes) (dTup [dOp tAdd (dRef 1) (dC (.int 1)), dCall sp_store_with [dVal 0, dVal 2, dOp tIx (dRef 3) (dC (.int 1)), dCall (sp_worth_in 5) [dVal 0, dVal 6, dVal 2]]]))) (dNext)) t_stores_behind_6
def t_stores_behind : DS := dSeq (dSet 3 (dOp tIx (dOp tIx (dRef 0) (dC (.int 2))) (dVal 1))) t_stores_behind_7

theorem vc_stores_behind (as Q E) (h : sp_stores_behind as Q E) : t_stores_behind (defEnds 3 Q) (start0 7 as) := by
  obtain ⟨p, r, s, rfl, ⟨hg, hs, hr⟩, hQ⟩ := h
  have hrow := hg.rows p.rs[r] (List.getElem_mem hr)
  unfold behinds at hQ
  rw [List.getElem?_eq_getElem hr] at hQ
  generalize hrw : p.rs[r] = row at hQ hrow
  have five : ∀ t : Th, t.fit p.m p.bs → t.dep ≤ 5 := fun t h => Nat.le_trans h.2 (by decide)
  have hl := hg.len
  refine ⟨_, atI_nat (j := 2) rfl, row.d, atI_nat (by simp [hr, hrw]), trivial, ?_⟩
  show t_stores_behind_7 (defEnds 3 Q) [.sh p.d, .sh (dNat r), .sh (stD s), .sh row.d, .no, .no, .no]
  have last : ∀ (x4 : Sl) (o : Nat) (x3 : D), Q (.tm (.lst [plD (min (r + 1 + o) p.rs.length, s)])) [] → t_stores_behind_1 (defEnds 3 Q) [.sh p.d, .sh (dNat r), .sh (stD s), .sh x3, x4, .sh (dNat o), .no] := by
    intro x4 o x3 q
    refine ⟨_, atI_nat (j := 2) rfl, l2, l1, ?_⟩
    have e : mn2 ((r : Int) + 1 + (o : Int)) ((p.rs.map Row.d).length : Int) = ((min (r + 1 + o) p.rs.length : Nat) : Int) := by
      rw [List.length_map]; unfold mn2; split <;> omega
    have q' : Q (.tm (.lst [.tuple [.int ((min (r + 1 + o) p.rs.length : Nat) : Int), stD s]])) [] := q
    rw [← e] at q'
    exact q'
  cases row with
  | set b t =>
    refine ⟨_, atI_nat (j := 0) rfl, eqS, _, atI_nat (j := 0) rfl, eqS, _, atI_nat (j := 1) rfl, _, atI_nat (j := 2) rfl, nd0, p, t, s, rfl, ⟨hg.bx, hs, hrow.2.1, five t hrow.2⟩, nd0, p, s, b, wo p s t, rfl, ⟨hrow.1, hg.bx, hs.1⟩, l2, l1, hQ⟩
  | pick b ts =>
    refine ⟨_, atI_nat (j := 0) rfl, eqS, _, atI_nat (j := 2) rfl, ?_⟩
    refine lc_vc (J := fun ds acc e => ∃ done left : List Th, ts = done ++ left ∧ ds = left.map Th.d ∧ acc = (done.map fun t => plD (r + 1, swith p s b (wo p s t))) ∧
      e = [.sh p.d, .sh (dNat r), .sh (stD s), .sh (Row.pick b ts).d, .no, .no, .no]) _ ⟨trivial, trivial⟩ rfl ⟨[], ts, rfl, rfl, rfl, rfl⟩ ?_ ?_
    · rintro acc e ⟨done, left, hd, hl', rfl, rfl⟩
      have : left = [] := by
        cases left with
        | nil => rfl
        | cons a l => cases hl'
      subst this
      rw [List.append_nil] at hd
      subst hd
      refine ⟨_, rfl, ?_⟩
      unfold rowBehind at hQ
      dsimp only at hQ
      rw [List.map_map] at hQ
      exact hQ
    · rintro d ds acc e k hk ⟨done, left, hd, hl', rfl, rfl⟩
      cases left with
      | nil => cases hl'
      | cons t left =>
        cases hl'
        have ht := hrow.2.2 t (by rw [hd]; simp)
        refine ⟨trivial, trivial, _, atI_nat (j := 1) rfl, nd0, p, t, s, rfl, ⟨hg.bx, hs, ht.1, five t ht⟩, nd0, p, s, b, wo p s t, rfl, ⟨hrow.1, hg.bx, hs.1⟩, l2, ?_, hk _ _ ⟨done ++ [t], left, by rw [hd]; simp, rfl, by simp [plD], rfl⟩⟩
        have := congrArg List.length hd
        rw [List.length_append, List.length_cons] at this
        have := hrow.2.1
        rw [List.length_map]
        omega
  | need t =>
    refine ⟨_, atI_nat (j := 0) rfl, eqS, _, atI_nat (j := 0) rfl, eqS, _, atI_nat (j := 1) rfl, nd0, p, t, s, rfl, ⟨hg.bx, hs, hrow.1, five t hrow⟩, trivial, _, atI_nat (j := 0) rfl, eqS, _, atI_nat (j := 0) rfl, eqS, eqI, ?_⟩
    unfold rowBehind at hQ
    dsimp only at hQ
    refine ite_vc (fun h => ?_) (fun h => ?_)
    · rw [eqv_int] at h
      rw [if_pos (by simpa using h)] at hQ
      exact ⟨l0, hQ⟩
    · rw [eqv_int] at h
      rw [if_neg (by simpa using h)] at hQ
      exact ⟨trivial, _, atI_nat (j := 0) rfl, eqS, last _ 0 _ hQ⟩
  | skip t n =>
    refine ⟨_, atI_nat (j := 0) rfl, eqS, _, atI_nat (j := 0) rfl, eqS, _, atI_nat (j := 1) rfl, nd0, p, t, s, rfl, ⟨hg.bx, hs, hrow.1.1, five t hrow.1⟩, trivial, _, atI_nat (j := 0) rfl, eqS, _, atI_nat (j := 0) rfl, eqS, trivial, _, atI_nat (j := 0) rfl, eqS, eqI, ?_⟩
    unfold rowBehind at hQ
    dsimp only at hQ
    refine ite_vc (fun h => ?_) (fun h => ?_)
    · rw [eqv_int] at h
      rw [if_neg (by simpa using h)] at hQ
      exact ⟨_, atI_nat (j := 2) rfl, trivial, last _ n _ hQ⟩
    · rw [eqv_int] at h
      rw [if_pos (by simpa using h)] at hQ
      exact last _ 0 _ hQ
  | give t =>
    exact ⟨_, atI_nat (j := 0) rfl, eqS, _, atI_nat (j := 0) rfl, eqS, _, atI_nat (j := 1) rfl, nd0, p, t, s, rfl, ⟨hg.bx, hs, hrow.1, five t hrow⟩, trivial, _, atI_nat (j := 0) rfl, eqS, l0, hQ⟩
end DL
/-! stores_by_rows: a list of dicts that grow, by hand. -/
namespace DL
open PySem PySem.Spec PyProof.Rows L2
theorem pe_ex {X : Cx} {x : Expr} {t : DE} (h : ∀ G, PD X G x t) : PE X x (exE (wl X) t) := ⟨fun pins s σ H Q I ⟨G, q⟩ => (h G).run pins s σ H Q I q⟩
def exI (g : Wl) (t : DI) : TI := fun σ H R => ∃ G, liftI g G t σ H R
theorem pi_ex {X : Cx} {tg x : Expr} {t : DI} (h : ∀ G, PDI X G tg x t) : PI X tg x (exI (wl X) t) := ⟨fun pins s σ H R I ⟨G, q⟩ => (h G).run pins s σ H R I q⟩
theorem pg_ex {X : Cx} {x : Expr} {t : Tg} (h : ∀ G, PDG X G x t) : PG X x (exG (wl X) t) := ⟨fun pins s σ H v u Q I r ⟨G, q⟩ => (h G).run pins s σ H v u Q I r q⟩
/-- a walk's turns, by hand -/
theorem for_wk {g : Wl} {J : It} {F : Hp} {ds : List D} {gT : TG} {tb : TS} {D0 : Ends} {σ : L2.St} {H : Hp} (hwk : Wk g J F ds) (Pv : Nat → Hp → L2.St → Hp → Prop) (h0 : Pv 0 F σ H) (sm : ∀ i F1 σ H, Pv i F1 σ H → Same F F1 ∧ Same F1 H)
    (hs : ∀ i d F1 σ H F2 H2 x, ds[i]? = some d → Pv i F1 σ H → Grow F1 H F2 H2 → Rp g F2 x d → gT x σ H2 fun σ3 H3 => tb { D0 with nx := fun σ H => ∃ F, Pv (i + 1) F σ H, ct := fun σ H => ∃ F, Pv (i + 1) F σ H, bk := D0.nx } σ3 H3)
    (hd : ∀ F1 σ H, Pv ds.length F1 σ H → D0.nx σ H) :
    ∃ W : Nat → Nat → L2.St → Hp → Prop, (∃ m, W 0 m σ H) ∧ ∀ i m σ H, W i m σ H →
      (J.stop i H ∧ D0.nx σ H) ∨ (J.go i H ∧ ∃ N : L2.St → Hp → Prop, (∀ σ' H', N σ' H' → ∃ m', m' < m ∧ W (i + 1) m' σ' H') ∧ ∀ x H', J.yld i H x H' → gT x σ H' fun σ2 H2 => tb { D0 with nx := N, ct := N, bk := D0.nx } σ2 H2) := by
  refine ⟨fun i m σ H => m = ds.length - i ∧ i ≤ ds.length ∧ ∃ F, Pv i F σ H, ⟨_, rfl, Nat.zero_le _, F, h0⟩, ?_⟩
  rintro i m σ H ⟨rfl, hi, F1, p⟩
  obtain ⟨s1, s2⟩ := sm i F1 σ H p
  obtain ⟨w1, w2⟩ := hwk i F1 H s1 s2
  by_cases hlt : i < ds.length
  · obtain ⟨go, yl⟩ := w1 ds[i] (by simp [hlt])
    refine .inr ⟨go, fun σ H => ∃ F, Pv (i + 1) F σ H, fun σ' H' ⟨F', p'⟩ => ⟨ds.length - (i + 1), by omega, rfl, hlt, F', p'⟩, fun x H2 y => ?_⟩
    obtain ⟨F2, w, rx⟩ := yl x H2 y
    exact hs i ds[i] F1 σ H F2 H2 x (by simp [hlt]) p w rx
  · have e : i = ds.length := by omega
    subst e
    exact .inl ⟨w2 (Nat.le_refl _), hd F1 σ H p⟩
/-! ### the frame, and a list of dicts that no slot knows -/
def plain (e : Sv) : Prop := ∀ s ∈ e, (∀ o, s ≠ Sl.ow o) ∧ ∀ o, s ≠ Sl.io o
theorem plain.noOw {e : Sv} (h : plain e) : noOw e := noOw_of' fun s hs o => (h s hs).1 o
where
  noOw_of' : ∀ {e : Sv}, (∀ s ∈ e, ∀ o, s ≠ Sl.ow o) → DL.noOw e
    | [], _ => trivial
    | s :: e, h => by
      have ih : DL.noOw e := noOw_of' fun x hx => h x (List.mem_cons_of_mem _ hx)
      cases s with
      | ow o => exact absurd rfl (h _ List.mem_cons_self o)
      | no => exact ih
      | sh d => exact ih
      | io o => exact ih
theorem plain.own {e : Sv} (h : plain e) (i : Nat) : ownI e i = none := by
  unfold ownI
  cases q : e[i]? with
  | none => rfl
  | some s =>
    have hm := List.mem_of_getElem? q
    cases s with
    | ow o => exact absurd rfl ((h _ hm).1 o)
    | io o => exact absurd rfl ((h _ hm).2 o)
    | no => rfl
    | sh d => rfl
def DAs (g : Wl) (G : Gr) (F H : Hp) : List Addr → List (List (D × D)) → Prop := Paired fun a kvs => F a = none ∧ G.H0 a = none ∧ ∃ ob xs, H a = some (dN g a ob xs) ∧ Rpn g F xs kvs
structure SBI (g : Wl) (G : Gr) (σ : L2.St) (e : Sv) (F H : Hp) (L : Addr) (as : List Addr) (M : List (List (D × D))) : Prop where
  fi : FI g G σ e F H
  pl : plain e
  l : H L = some (.lst (as.map V.ref))
  lf : F L = none
  l0 : G.H0 L = none
  nd : as.Nodup
  ne : L ∉ as
  da : DAs g G F H as M
section
variable {g : Wl} {G : Gr} {σ σ' : L2.St} {e e' : Sv} {F F' H H' : Hp} {L : Addr} {as : List Addr} {M : List (List (D × D))}
theorem SBI.noM (S : SBI g G σ e F H L as M) (i : Nat) (a : Addr) : G.M i ≠ some a := fun h => by
  obtain ⟨o, ho⟩ := S.fi.iom i a h
  exact absurd rfl ((S.pl _ (List.mem_of_getElem? ho)).2 o)
theorem SBI.reb (S : SBI g G σ e F H L as M) : FI g ⟨G.n, G.M, F, H⟩ σ e F H := S.fi.rebase S.pl.noOw
/-- behind what was done on the ground of now -/
theorem SBI.back (S : SBI g G σ e F H L as M) (I : FI g ⟨G.n, G.M, F, H⟩ σ' e' F' H') (pl : plain e') (s : Same F F') : SBI g G σ' e' F' H' L as M := by
  have hk : ∀ a o, H a = some o → H' a = some o := fun a o h => I.keep a o h fun i => S.noM i a
  have hf : ∀ a o, H a = some o → F a = none → F' a = none := fun a o h f => I.fre a o h f fun i => S.noM i a
  refine ⟨S.fi.back I, pl, hk _ _ S.l, hf _ _ S.l S.lf, S.l0, S.nd, S.ne, ?_⟩
  have key : ∀ {as : List Addr} {M : List (List (D × D))}, DAs g G F H as M → DAs g G F' H' as M := by
    intro as M h
    induction h with
    | nil => exact .nil
    | cons h t ih =>
      obtain ⟨h1, h2, ob, xs, h3, h4⟩ := h
      exact .cons ⟨hf _ _ h3 h1, h2, ob, xs, hk _ _ h3, h4.mono s⟩ ih
  exact key S.da
theorem DAs.at_ : ∀ {as : List Addr} {M : List (List (D × D))} {i : Nat} {kvs : List (D × D)}, DAs g G F H as M → M[i]? = some kvs → ∃ a, as[i]? = some a ∧ F a = none ∧ G.H0 a = none ∧ ∃ ob xs, H a = some (dN g a ob xs) ∧ Rpn g F xs kvs
  | _, _, i, kvs, .nil, h => by simp at h
  | _, _, 0, kvs, .cons h t, e => by simp at e; subst e; exact ⟨_, rfl, h⟩
  | _, _, i + 1, kvs, .cons h t, e => by
    obtain ⟨a, h1, h2⟩ := DAs.at_ (i := i) t (by simpa using e)
    exact ⟨a, by simpa using h1, h2⟩
/-- a dict of the list takes a key -/
theorem DAs.put {a : Addr} {ob : Obj} {xs : List (NK × Addr × V)} {kvs : List (D × D)} (r : Rpn g F xs kvs) : ∀ {as : List Addr} {M : List (List (D × D))} {i : Nat}, DAs g G F H as M → as[i]? = some a → as.Nodup → DAs g G F (upd H a (dN g a ob xs)) as (M.set i kvs)
  | _, _, i, .nil, h, _ => by simp at h
  | b :: as, m :: M, 0, .cons h t, e, nd => by
    simp at e; subst e
    obtain ⟨nd1, nd2⟩ := List.nodup_cons.mp nd
    obtain ⟨h1, h2, _⟩ := h
    refine .cons ⟨h1, h2, ob, xs, upd_same, r⟩ ?_
    have key : ∀ {as : List Addr} {M : List (List (D × D))}, DAs g G F H as M → b ∉ as → DAs g G F (upd H b (dN g b ob xs)) as M := by
      intro as M h
      induction h with
      | nil => intro _; exact .nil
      | cons h t ih =>
        intro hn
        obtain ⟨h1, h2, ob, xs, h3, h4⟩ := h
        exact .cons ⟨h1, h2, ob, xs, by rw [upd_ne (fun z => hn (by rw [← z]; exact List.mem_cons_self))]; exact h3, h4⟩ (ih fun z => hn (List.mem_cons_of_mem _ z))
    exact key t nd1
  | b :: as, m :: M, i + 1, .cons h t, e, nd => by
    obtain ⟨nd1, nd2⟩ := List.nodup_cons.mp nd
    have e' : as[i]? = some a := by simpa using e
    obtain ⟨h1, h2, ob', xs', h3, h4⟩ := h
    have hne : b ≠ a := fun z => nd1 (by rw [z]; exact List.mem_of_getElem? e')
    exact .cons ⟨h1, h2, ob', xs', by rw [upd_ne hne]; exact h3, h4⟩ (DAs.put r t e' nd2)
theorem SBI.put (S : SBI g G σ e F H L as M) {i : Nat} {a : Addr} {ob : Obj} {xs : List (NK × Addr × V)} {kvs : List (D × D)} (ha : as[i]? = some a) (r : Rpn g F xs kvs) (hF : F a = none) (h0 : G.H0 a = none) : SBI g G σ e F (upd H a (dN g a ob xs)) L as (M.set i kvs) := by
  refine ⟨S.fi.offw hF h0 (fun j o h => (by rw [S.pl.own j] at h; cases h)), S.pl, ?_, S.lf, S.l0, S.nd, S.ne, S.da.put r ha S.nd⟩
  rw [upd_ne]
  · exact S.l
  · rintro rfl
    exact S.ne (List.mem_of_getElem? ha)
/-- one thing of nobody's is frozen -/
theorem FI.frz1 (I : FI g G σ e F H) (hp : plain e) {a : Addr} {u : HO} (hF : F a = none) (h0 : G.H0 a = none) (hu : H a = some u) : FI g G σ e (upd F a u) H := by
  have s : Same F (upd F a u) := fun b x q => by rw [upd_ne (ne_of_none q hF)]; exact q
  refine ⟨I.sub0.trans s, fun b x q => ?_, I.len, I.ln, fun j d q => ?_, fun j o' q => ?_, I.dist, I.low, I.io, I.iom, I.keep, fun b o' q1 q2 q3 => ?_⟩
  · by_cases z : b = a
    · subst z; rw [upd_same] at q; cases q; exact hu
    · rw [upd_ne z] at q; exact I.sub _ _ q
  · obtain ⟨v, r3, r4⟩ := I.sh j d q
    exact ⟨v, r3, r4.mono s⟩
  · rw [hp.own j] at q; cases q
  · rw [upd_ne]
    · exact I.fre b o' q1 q2 q3
    · rintro rfl
      rw [h0] at q1; cases q1
/-- all dicts of the list, and the list, are frozen -/
theorem SBI.frz (S : SBI g G σ e F H L as M) : ∃ F', FI g G σ e F' H ∧ Same F F' ∧ Rp g F' (.ref L) (.list (M.map PyData.dict)) := by
  have key : ∀ {as : List Addr} {M : List (List (D × D))} {F : Hp}, FI g G σ e F H → DAs g G F H as M → as.Nodup → F L = none → L ∉ as → ∃ F', FI g G σ e F' H ∧ Same F F' ∧ F' L = none ∧ Rps g F' (as.map V.ref) (M.map PyData.dict) := by
    intro as
    induction as with
    | nil =>
      intro M F I h nd hL _
      cases h
      exact ⟨F, I, Same.refl F, hL, .nil⟩
    | cons a as ih =>
      intro M F I h nd hL hn
      cases h with
      | @cons _ m' _ M' h t =>
        obtain ⟨nd1, nd2⟩ := List.nodup_cons.mp nd
        obtain ⟨h1, h2, ob, xs, h3, h4⟩ := h
        have s : Same F (upd F a (dN g a ob xs)) := fun b x q => by rw [upd_ne (ne_of_none q h1)]; exact q
        have t' : DAs g G (upd F a (dN g a ob xs)) H as M' := by
          have k2 : ∀ {as : List Addr} {M : List (List (D × D))}, DAs g G F H as M → a ∉ as → DAs g G (upd F a (dN g a ob xs)) H as M := by
            intro as M h
            induction h with
            | nil => intro _; exact .nil
            | cons h t ih =>
              intro hn
              obtain ⟨h1, h2, ob, xs, h3, h4⟩ := h
              exact .cons ⟨by rw [upd_ne (fun z => hn (by rw [← z]; exact List.mem_cons_self))]; exact h1, h2, ob, xs, h3, h4.mono s⟩ (ih fun z => hn (List.mem_cons_of_mem _ z))
          exact k2 t nd1
        have hLa : L ≠ a := fun z => hn (by rw [z]; exact List.mem_cons_self)
        obtain ⟨F', I', s', hL', r'⟩ := ih (I.frz1 S.pl h1 h2 h3) t' nd2 (by rw [upd_ne hLa]; exact hL) fun z => hn (List.mem_cons_of_mem _ z)
        exact ⟨F', I', s.trans s', hL', .cons (.dct (s' _ _ upd_same) (h4.mono (s.trans s'))) r'⟩
  obtain ⟨F', I', s', hL, r⟩ := key S.fi S.da S.nd S.lf S.ne
  have s2 : Same F' (upd F' L (.lst (as.map V.ref))) := fun b x q => by rw [upd_ne (ne_of_none q hL)]; exact q
  exact ⟨_, I'.frz1 S.pl hL S.l0 S.l, s'.trans s2, .lst (.inl upd_same) (r.mono s2)⟩
end
end DL
namespace DL
open PySem PySem.Spec PyProof.Rows L2
/-! keys of stores, sets that grow -/
def nums (s : List Nat) : List NK := s.map fun (n : Nat) => .num (n : Int)
theorem nums_d : ∀ s : List Nat, NestedKey.datas (nums s) = s.map dNat
  | [] => rfl
  | n :: s => by
    show NestedKey.data (.num (n : Int)) :: NestedKey.datas (nums s) = dNat n :: s.map dNat
    rw [nums_d s]
    rfl
theorem nums_dep : ∀ s : List Nat, NestedKey.depthAll (nums s) = 0
  | [] => rfl
  | n :: s => by
    show max (NestedKey.depth (.num (n : Int))) (NestedKey.depthAll (nums s)) = 0
    rw [nums_dep s]
    rfl
theorem key_st {s : List Nat} : isKey (stD s) := ⟨nums s, by show _ = PyData.tuple (NestedKey.datas (nums s)); rw [nums_d] <;> rfl, by show NestedKey.depthAll (nums s) + 1 ≤ 8; rw [nums_dep]; decide⟩
theorem stD_inj {s t : List Nat} (h : stD s = stD t) : s = t := by
  unfold stD at h
  injection h with h
  have key : ∀ {s t : List Nat}, s.map dNat = t.map dNat → s = t := by
    intro s
    induction s with
    | nil => intro t h; cases t with
      | nil => rfl
      | cons a l => cases h
    | cons a l ih => intro t h; cases t with
      | nil => cases h
      | cons b m =>
        rw [List.map_cons, List.map_cons] at h
        injection h with h1 h2
        injection h1 with h1
        rw [ih h2]
        congr 1
        omega
  exact key h
theorem eqv_st {s t : List Nat} : PyData.eqv (stD s) (stD t) = decide (s = t) := eqv_pl_dec pl_stD pl_stD ⟨stD_inj, fun h => by rw [h]⟩
def ins (ss : List (List Nat)) (s : List Nat) : List (List Nat) := if s ∈ ss then ss else ss ++ [s]
theorem look_set {ss : List (List Nat)} {s : List Nat} : (lookN (setD ss) (stD s)).isSome = decide (s ∈ ss) := by
  unfold setD lookN
  induction ss with
  | nil => rfl
  | cons t ss ih =>
    rw [List.map_cons, List.find?_cons, eqv_st]
    by_cases h : t = s
    · subst h; simp
    · have h' : ¬ s = t := fun z => h z.symm
      simp only [h, decide_false]
      rw [ih]
      simp [h']
theorem store_set {ss : List (List Nat)} {s : List Nat} : storeN (setD ss) (stD s) (.bool true) = setD (ins ss s) := by
  unfold storeN ins
  rw [look_set]
  by_cases h : s ∈ ss
  · rw [if_pos (decide_eq_true h), if_pos h]
    unfold setD
    rw [List.map_map]
    refine List.map_congr_left fun t _ => ?_
    dsimp only [Function.comp]
    split <;> rfl
  · rw [if_neg (by rw [decide_eq_false h]; decide), if_neg h]
    simp [setD]
theorem dctD_set {ss : List (List Nat)} : dctD (setD ss) := fun kv hkv => by
  obtain ⟨s, _, rfl⟩ := List.mem_map.mp hkv
  exact ⟨_, rfl⟩
def addS (sets : List (List (List Nat))) (r : Nat) (s : List Nat) : List (List (List Nat)) := match sets[r]? with
  | some ss => sets.set r (ins ss s)
  | none => sets
theorem ins_nd {ss : List (List Nat)} {s : List Nat} (h : ss.Nodup) : (ins ss s).Nodup := by
  unfold ins
  split
  · exact h
  · rename_i hn
    exact List.nodup_append.mpr ⟨h, List.nodup_cons.mpr ⟨(fun z => nomatch z), List.nodup_nil⟩, fun a ha b hb e => by
      rw [List.mem_singleton.mp hb] at e
      rw [e] at ha
      exact hn ha⟩
theorem ins_mem {ss : List (List Nat)} {s t : List Nat} : t ∈ ins ss s ↔ t ∈ ss ∨ t = s := by
  unfold ins
  split
  · rename_i h
    constructor
    · exact .inl
    · rintro (h1 | rfl)
      · exact h1
      · exact h
  · simp
/-- what is known of the sets; cl: which stores' ways are in -/
structure SI (p : Pg) (s0 : List Nat) (sets : List (List (List Nat))) (cl : Nat → List Nat → Nat → List Nat → Prop) : Prop where
  len : sets.length = p.rs.length + 1
  nd : ∀ ss ∈ sets, ss.Nodup
  reach : ∀ r ss, sets[r]? = some ss → ∀ s ∈ ss, Reach p s0 r s
  first : ∀ ss, sets[0]? = some ss → s0 ∈ ss
  closed : ∀ r ss s r2 s2, cl r s r2 s2 → sets[r]? = some ss → s ∈ ss → (r2, s2) ∈ behinds p r s → ∃ ss2, sets[r2]? = some ss2 ∧ s2 ∈ ss2
theorem SI.add {p : Pg} {s0 : List Nat} {sets : List (List (List Nat))} {cl cl' : Nat → List Nat → Nat → List Nat → Prop} (S : SI p s0 sets cl) {i r : Nat} {s : List Nat} (hr : Reach p s0 r s) (hrl : r < p.rs.length + 1) (hi : i < r) (low : ∀ r' s' r2 s2, cl' r' s' r2 s2 → r' ≤ i ∧ (cl r' s' r2 s2 ∨ (r2 = r ∧ s2 = s))) :
    SI p s0 (addS sets r s) cl' := by
  have hlt : r < sets.length := by rw [S.len]; exact hrl
  have e : sets[r]? = some sets[r] := List.getElem?_eq_getElem hlt
  unfold addS
  rw [e]
  dsimp only
  have other : ∀ j, r ≠ j → (sets.set r (ins sets[r] s))[j]? = sets[j]? := fun j h => List.getElem?_set_ne h
  have own : (sets.set r (ins sets[r] s))[r]? = some (ins sets[r] s) := List.getElem?_set_self hlt
  refine ⟨by rw [List.length_set]; exact S.len, fun ss hss => ?_, fun j ss hj t ht => ?_, fun ss h0 => ?_, fun r' ss s' r2 s2 hc hss hs' hb => ?_⟩
  · rcases List.mem_or_eq_of_mem_set hss with h | rfl
    · exact S.nd ss h
    · exact ins_nd (S.nd _ (List.getElem_mem hlt))
  · by_cases q : r = j
    · subst q
      rw [own] at hj
      cases hj
      rcases ins_mem.mp ht with h | rfl
      · exact S.reach r _ e t h
      · exact hr
    · rw [other j q] at hj
      exact S.reach j ss hj t ht
  · rw [other 0 (by omega)] at h0
    exact S.first ss h0
  · obtain ⟨l1, l2⟩ := low r' s' r2 s2 hc
    rw [other r' (by omega)] at hss
    rcases l2 with l2 | ⟨rfl, rfl⟩
    · obtain ⟨ss2, h1, h2⟩ := S.closed r' ss s' r2 s2 l2 hss hs' hb
      by_cases q : r = r2
      · subst q
        rw [e] at h1
        cases h1
        exact ⟨_, own, ins_mem.mpr (.inl h2)⟩
      · exact ⟨ss2, by rw [other r2 q]; exact h1, h2⟩
    · exact ⟨_, own, ins_mem.mpr (.inr rfl)⟩
theorem SI.weak {p : Pg} {s0 : List Nat} {sets : List (List (List Nat))} {cl cl' : Nat → List Nat → Nat → List Nat → Prop} (S : SI p s0 sets cl) (h : ∀ r ss s r2 s2, cl' r s r2 s2 → sets[r]? = some ss → s ∈ ss → (r2, s2) ∈ behinds p r s → cl r s r2 s2) : SI p s0 sets cl' :=
  ⟨S.len, S.nd, S.reach, S.first, fun r ss s r2 s2 hc h1 h2 h3 => S.closed r ss s r2 s2 (h r ss s r2 s2 hc h1 h2 h3) h1 h2 h3⟩
theorem behinds_lt {p : Pg} {r : Nat} {s : List Nat} (h : r < p.rs.length) : ∀ x ∈ behinds p r s, r < x.1 ∧ x.1 < p.rs.length + 1 := by
  intro x hx
  unfold behinds at hx
  rw [List.getElem?_eq_getElem h] at hx
  dsimp only at hx
  generalize p.rs[r] = row at hx
  unfold rowBehind at hx
  cases row with
  | set b t => rw [List.mem_singleton.mp hx]; exact ⟨by omega, by dsimp only; omega⟩
  | pick b ts => obtain ⟨t, _, rfl⟩ := List.mem_map.mp hx; exact ⟨by omega, by dsimp only; omega⟩
  | need t =>
    dsimp only at hx
    split at hx
    · cases hx
    · rw [List.mem_singleton.mp hx]; dsimp only; omega
  | skip t n => rw [List.mem_singleton.mp hx]; dsimp only; omega
  | give t => cases hx
theorem reach_ok {p : Pg} (hg : p.good) {s0 : List Nat} (hs : StOk p.m p.bs s0) : ∀ {r : Nat} {s : List Nat}, Reach p s0 r s → StOk p.m p.bs s := by
  intro r s h
  induction h with
  | here => exact hs
  | @step r s r2 s2 h hr hb ih =>
    have hrow := hg.rows p.rs[r] (List.getElem_mem hr)
    unfold behinds at hb
    rw [List.getElem?_eq_getElem hr] at hb
    dsimp only at hb
    generalize p.rs[r] = row at hb hrow
    unfold rowBehind at hb
    cases row with
    | set b t =>
      have := List.mem_singleton.mp hb
      injection this with _ e
      rw [e]
      exact st_swith ih (wo_lt hg.bx ih hrow.2.1)
    | pick b ts =>
      obtain ⟨t, ht, e⟩ := List.mem_map.mp hb
      injection e with _ e
      rw [← e]
      exact st_swith ih (wo_lt hg.bx ih (hrow.2.2 t ht).1)
    | need t =>
      dsimp only at hb
      split at hb
      · cases hb
      · have := List.mem_singleton.mp hb
        injection this with _ e
        rw [e]; exact ih
    | skip t n =>
      have := List.mem_singleton.mp hb
      injection this with _ e
      rw [e]; exact ih
    | give t => cases hb
/-- the step found[r][s] = True -/
theorem sb_put {g : Wl} {G : Gr} {σ : L2.St} {e : Sv} {F H : Hp} {L : Addr} {as : List Addr} {sets : List (List (List Nat))} (S : SBI g G σ e F H L as (sets.map setD)) {r : Nat} {ss : List (List Nat)} {s : List Nat} (hr : sets[r]? = some ss) {v : V} (rv : Rp g F v (stD s)) (hlen : ss.length ≤ 99999) :
    ∃ a ob xs k b, as[r]? = some a ∧ v = .ref b ∧ KeyN g H v k ∧ H a = some (dN g a ob xs) ∧ KeysN g H xs ∧ xs.length < sizeLine ∧ ∀ ob', SBI g G σ e F (upd H a (dN g a ob' (storedN xs k b (.bl true)))) L as ((addS sets r s).map setD) := by
  have hM : (sets.map setD)[r]? = some (setD ss) := by rw [List.getElem?_map, hr] <;> rfl
  obtain ⟨a, h1, h2, h3, ob, xs, h4, h5⟩ := S.da.at_ hM
  have bk : Bp g F H v (stD s) := .of rv
  obtain ⟨k, ek, kn, rk, b, rfl⟩ := bk.key S.fi.sub key_st
  refine ⟨a, ob, xs, k, b, h1, rfl, kn, h4, h5.keys S.fi.sub, ?_, fun ob' => ?_⟩
  · rw [h5.len]
    unfold setD
    rw [List.length_map]
    exact lt_line (by omega)
  · have r' := h5.store (d := .bool true) rk (Rp.bl true)
    rw [← ek, store_set] at r'
    have := S.put (ob := ob') h1 r' h2 h3
    have e2 : (addS sets r s).map setD = (sets.map setD).set r (setD (ins ss s)) := by
      unfold addS
      rw [hr, List.map_set] <;> rfl
    rw [e2]
    exact this
end DL
namespace DL
open PySem PySem.Spec PyProof.Rows L2
def t_sbr3 (g : Wl) : TS := sPutN g (tOp (rIxL g.K) (tVar 2) (tVar 5)) (tVar 6) (tC (.bl true))
def t_sbr2 (g : Wl) : TS := tFor (exI g (dSeqI (dCall sp_stores_behind [dVal 0, dVal 3, dVal 4]))) (exG g (.tp [.nm 5, .nm 6])) (t_sbr3 g)
def t_sbr1 (g : Wl) : TS := tFor (iSeq g.K (tCB (rListN g) (tCons (tOp (rIxL g.K) (tVar 2) (tVar 3)) tNil))) (gName 4) (t_sbr2 g)
def t_sbr0 (g : Wl) : TS := tFor (exI g (dRng1 [dCB tLenU [dOp tIx (dRef 0) (dC (.int 2))]])) (gName 3) (t_sbr1 g)
def t_sbrB (g : Wl) : TS := tSeq (sPutN g (tOp (rIxL g.K) (tVar 2) (tC (.int 0))) (tVar 1) (tC (.bl true))) (tSeq (t_sbr0 g) (tRet (tVar 2)))
def t_sbr (g : Wl) : TS := tSeq (tAsg (tLc (exI g (dRng1 [dOp tAdd (dCB tLenU [dOp tIx (dRef 0) (dC (.int 2))]) (dC (.int 1))])) (gName 3) tYes (tNewN g) [3]) (gName 2)) (t_sbrB g)
section
variable {g : Wl} {G : Gr} {σ : L2.St} {e : Sv} {F H : Hp}
theorem FI.junk (I : FI g G σ e F H) {i : Nat} {x : Option V} (h : e[i]? = some Sl.no) : FI g G (σ.set i x) e F H := by
  have ne : ∀ {j : Nat} {s : Sl}, e[j]? = some s → s ≠ .no → (σ.set i x)[j]? = σ[j]? := fun {j s} hj hs => by
    rw [List.getElem?_set_ne]
    rintro rfl
    rw [h] at hj
    cases hj
    exact hs rfl
  have neo : ∀ {j : Nat} {o : OD}, ownI e j = some o → (σ.set i x)[j]? = σ[j]? := fun {j o} hj => by
    unfold ownI at hj
    cases q : e[j]? with
    | none => rw [q] at hj; cases hj
    | some s =>
      refine ne q ?_
      rintro rfl
      rw [q] at hj; cases hj
  exact ⟨I.sub0, I.sub, by rw [List.length_set]; exact I.len, by rw [List.length_set]; exact I.ln, fun j d q => by rw [ne q (fun z => nomatch z)]; exact I.sh j d q, fun j o q => by rw [neo q]; exact I.own j o q,
    fun j k a o o' q1 q2 q3 q4 => by rw [neo q1] at q3; rw [neo q2] at q4; exact I.dist j k a o o' q1 q2 q3 q4, fun j o a q1 q2 => by rw [ne q1 (fun z => nomatch z)] at q2; exact I.low j o a q1 q2,
    fun j o q => by rw [ne q (fun z => nomatch z)]; exact I.io j o q, I.iom, I.keep, I.fre⟩
end
/-- the frame of stores_by_rows -/
structure CI (g : Wl) (G : Gr) (p : Pg) (s0 : List Nat) (L : Addr) (as : List Addr) (σ : L2.St) (F H : Hp) (sets : List (List (List Nat))) (x3 x4 x5 x6 : Sl) : Prop where
  s : SBI g G σ [.sh p.d, .sh (stD s0), .no, x3, x4, x5, x6] F H L as (sets.map setD)
  l : σ[2]? = some (some (.ref L))
def flat (x : Sl) : Prop := (∀ o, x ≠ Sl.ow o) ∧ ∀ o, x ≠ Sl.io o
theorem flat.nio {x : Sl} (h : flat x) : nio x := by
  cases x <;> first | trivial | exact absurd rfl (h.2 _)
theorem flat_sh {d : D} : flat (.sh d) := ⟨(fun _ z => nomatch z), (fun _ z => nomatch z)⟩
theorem flat_no : flat .no := ⟨(fun _ z => nomatch z), (fun _ z => nomatch z)⟩
theorem plain7 {p : Pg} {s0 : List Nat} {x3 x4 x5 x6 : Sl} (h3 : flat x3) (h4 : flat x4) (h5 : flat x5) (h6 : flat x6) : plain [.sh p.d, .sh (stD s0), .no, x3, x4, x5, x6] := by
  intro s hs
  simp only [List.mem_cons, List.not_mem_nil, or_false] at hs
  rcases hs with rfl | rfl | rfl | rfl | rfl | rfl | rfl
  · exact flat_sh
  · exact flat_sh
  · exact flat_no
  · exact h3
  · exact h4
  · exact h5
  · exact h6
section
variable {g : Wl} {G : Gr} {p : Pg} {s0 : List Nat} {L : Addr} {as : List Addr} {σ : L2.St} {F H F' H' : Hp} {sets : List (List (List Nat))} {x3 x4 x5 x6 : Sl}
theorem CI.flats (C : CI g G p s0 L as σ F H sets x3 x4 x5 x6) : flat x3 ∧ flat x4 ∧ flat x5 ∧ flat x6 :=
  ⟨C.s.pl x3 (by simp), C.s.pl x4 (by simp), C.s.pl x5 (by simp), C.s.pl x6 (by simp)⟩
theorem CI.grow (C : CI g G p s0 L as σ F H sets x3 x4 x5 x6) (w : Grow F H F' H') : CI g G p s0 L as σ F' H' sets x3 x4 x5 x6 := ⟨C.s.back (C.s.reb.grow w) C.s.pl w.ff, C.l⟩
theorem CI.set3 (C : CI g G p s0 L as σ F H sets x3 x4 x5 x6) {v : V} {d : D} (r : Rp g F v d) : CI g G p s0 L as (σ.set 3 (some v)) F H sets (.sh d) x4 x5 x6 := by
  obtain ⟨f3, f4, f5, f6⟩ := C.flats
  refine ⟨⟨?_, plain7 flat_sh f4 f5 f6, C.s.l, C.s.lf, C.s.l0, C.s.nd, C.s.ne, C.s.da⟩, by rw [List.getElem?_set_ne (by decide)]; exact C.l⟩
  exact C.s.fi.setSh (i := 3) (by simp) (fun o h => f3.2 o (by simpa using h)) r
theorem CI.set4 (C : CI g G p s0 L as σ F H sets x3 x4 x5 x6) {v : V} {d : D} (r : Rp g F v d) : CI g G p s0 L as (σ.set 4 (some v)) F H sets x3 (.sh d) x5 x6 := by
  obtain ⟨f3, f4, f5, f6⟩ := C.flats
  refine ⟨⟨?_, plain7 f3 flat_sh f5 f6, C.s.l, C.s.lf, C.s.l0, C.s.nd, C.s.ne, C.s.da⟩, by rw [List.getElem?_set_ne (by decide)]; exact C.l⟩
  exact C.s.fi.setSh (i := 4) (by simp) (fun o h => f4.2 o (by simpa using h)) r
theorem addS_ne {r i : Nat} {s : List Nat} (h : r ≠ i) : (addS sets r s)[i]? = sets[i]? := by
  unfold addS
  split
  · exact List.getElem?_set_ne h
  · rfl
theorem rng_dNat {n : Nat} : rngD 0 n = (List.range n).map dNat := by
  unfold rngD
  refine List.map_congr_left fun i _ => ?_
  rw [Int.zero_add]
/-- the step in the innermost loop -/
theorem vc_sbr3 (hg : p.good) (hs0 : StOk p.m p.bs s0) (few : Few p s0) {cl cl' : Nat → List Nat → Nat → List Nat → Prop} {D0 : Ends} {i r2 : Nat} {s2 : List Nat} (C : CI g G p s0 L as σ F H sets x3 x4 (.sh (dNat r2)) (.sh (stD s2))) (S : SI p s0 sets cl) (hr : Reach p s0 r2 s2) (hrl : r2 < p.rs.length + 1) (hi : i < r2)
    (low : ∀ r' s' r3 s3, cl' r' s' r3 s3 → r' ≤ i ∧ (cl r' s' r3 s3 ∨ (r3 = r2 ∧ s3 = s2)))
    (k : ∀ H', CI g G p s0 L as σ F H' (addS sets r2 s2) x3 x4 (.sh (dNat r2)) (.sh (stD s2)) → SI p s0 (addS sets r2 s2) cl' → D0.nx σ H') : t_sbr3 g D0 σ H := by
  obtain ⟨v5, h5, q5⟩ := C.s.fi.sh 5 (dNat r2) rfl
  obtain ⟨v6, h6, q6⟩ := C.s.fi.sh 6 (stD s2) rfl
  have hlt : r2 < sets.length := by rw [S.len]; exact hrl
  have hss := List.getElem?_eq_getElem hlt
  have hb : (sets[r2]).length ≤ 99999 := by
    have := few r2 sets[r2] (S.nd _ (List.getElem_mem hlt)) (S.reach r2 _ hss)
    omega
  obtain ⟨a, ob, xs, kk, b, ha, rfl, kn, hH, ks, hl, put⟩ := sb_put C.s hss q6 hb
  cases q5
  refine ⟨.ref L, C.l, .int (r2 : Int), h5, L, as.map V.ref, (r2 : Int), .ref a, rfl, rfl, .inl (.inl C.s.l), atI_nat (by rw [List.getElem?_map, ha] <;> rfl), .ref b, h6, a, ob, xs, kk, b, rfl, rfl, kn, hH, ks, hl, fun ob' => ?_⟩
  exact k _ ⟨put ob', C.l⟩ (S.add hr hrl hi low)
/-- the ways of one store -/
theorem vc_sbr2 (hg : p.good) (hs0 : StOk p.m p.bs s0) (few : Few p s0) {D0 : Ends} {i : Nat} {s : List Nat} {ss : List (List Nat)} {don : List (List Nat)} (hi : i < p.rs.length) (C : CI g G p s0 L as σ F H sets (.sh (dNat i)) (.sh (stD s)) x5 x6)
    (S : SI p s0 sets fun r t _ _ => r < i ∨ (r = i ∧ t ∈ don)) (hss : sets[i]? = some ss) (hm : s ∈ ss)
    (k : ∀ σ' F' H' sets' x5' x6', Same F F' → CI g G p s0 L as σ' F' H' sets' (.sh (dNat i)) (.sh (stD s)) x5' x6' → SI p s0 sets' (fun r t _ _ => r < i ∨ (r = i ∧ (t ∈ don ∨ t = s))) → sets'[i]? = some ss → D0.nx σ' H') : t_sbr2 g D0 σ H := by
  have hreach := S.reach i ss hss s hm
  have hst := reach_ok hg hs0 hreach
  refine ⟨_, [.sh p.d, .sh (stD s0), .no, .sh (dNat i), .sh (stD s), x5, x6], F, fun ds e1 => ds = (behinds p i s).map plD ∧ e1 = [.sh p.d, .sh (stD s0), .no, .sh (dNat i), .sh (stD s), x5, x6], C.s.reb, ⟨nd0, p, i, s, rfl, ⟨hg, hst, hi⟩, rfl, rfl⟩, ?_⟩
  rintro ds J e' F1 H1 I1 s1 wk ⟨rfl, rfl⟩
  have C1 : CI g G p s0 L as σ F1 H1 sets (.sh (dNat i)) (.sh (stD s)) x5 x6 := ⟨C.s.back I1 C.s.pl s1, C.l⟩
  refine for_wk wk (fun j F2 σ2 H2 => ∃ sets2 x5 x6, Same F1 F2 ∧ CI g G p s0 L as σ2 F2 H2 sets2 (.sh (dNat i)) (.sh (stD s)) x5 x6 ∧ sets2[i]? = some ss ∧
    SI p s0 sets2 fun r t r2 s2 => r < i ∨ (r = i ∧ (t ∈ don ∨ (t = s ∧ (r2, s2) ∈ (behinds p i s).take j)))) ⟨sets, x5, x6, Same.refl F1, C1, hss, ?_⟩ ?_ ?_ ?_
  · refine S.weak fun r _ t r2 s2 h _ _ _ => ?_
    rcases h with h | ⟨h1, h2 | ⟨_, h3⟩⟩
    · exact .inl h
    · exact .inr ⟨h1, h2⟩
    · rw [List.take_zero] at h3; cases h3
  · rintro j F2 σ2 H2 ⟨_, _, _, sm, C2, _⟩
    exact ⟨sm, C2.s.fi.sub⟩
  · rintro j d F2 σ2 H2 F3 H3 x hd ⟨sets2, y5, y6, sm, C2, hss2, S2⟩ w rx
    rw [List.getElem?_map] at hd
    cases hq : (behinds p i s)[j]? with
    | none => rw [hq] at hd; cases hd
    | some y =>
      obtain ⟨r2, s2⟩ := y
      rw [hq] at hd
      cases hd
      have hmem : (r2, s2) ∈ behinds p i s := List.mem_of_getElem? hq
      obtain ⟨lo, hi2⟩ := behinds_lt hi _ hmem
      have C3 := C2.grow w
      obtain ⟨_, _, f5, f6⟩ := C3.flats
      refine ⟨_, [.sh p.d, .sh (stD s0), .no, .sh (dNat i), .sh (stD s), y5, y6], F3, fun e1 => e1 = [.sh p.d, .sh (stD s0), .no, .sh (dNat i), .sh (stD s), .sh (dNat r2), .sh (stD s2)], plD (r2, s2), C3.s.reb, rx, ⟨ni rfl f5.nio, ni rfl f6.nio, rfl⟩, ?_⟩
      rintro σ4 e4 F4 H4 I4 s4 off rfl
      have C4 : CI g G p s0 L as σ4 F4 H4 sets2 (.sh (dNat i)) (.sh (stD s)) (.sh (dNat r2)) (.sh (stD s2)) := by
        refine ⟨C3.s.back I4 (plain7 flat_sh flat_sh flat_sh flat_sh) s4, ?_⟩
        rw [off.2 2 (by decide)]
        exact C3.l
      refine vc_sbr3 hg hs0 few C4 S2 (.step hreach hi hmem) hi2 lo (cl' := fun r t r2 s2 => r < i ∨ (r = i ∧ (t ∈ don ∨ (t = s ∧ (r2, s2) ∈ (behinds p i s).take (j + 1))))) (fun r' s' r3 s3 h => ?_) fun H5 C5 S5 => ⟨F4, _, _, _, (sm.trans w.ff).trans s4, C5, ?_, S5⟩
      · rcases h with h | ⟨h1, h2 | ⟨h3, h4⟩⟩
        · exact ⟨by omega, .inl (.inl h)⟩
        · exact ⟨by omega, .inl (.inr ⟨h1, .inl h2⟩)⟩
        · refine ⟨by omega, ?_⟩
          rw [List.take_succ, hq] at h4
          rcases List.mem_append.mp h4 with h4 | h4
          · exact .inl (.inr ⟨h1, .inr ⟨h3, h4⟩⟩)
          · have := List.mem_singleton.mp h4
            injection this with a b
            exact .inr ⟨a, b⟩
      · rw [addS_ne (by dsimp only at lo; omega)]
        exact hss2
  · rintro F2 σ2 H2 ⟨sets2, y5, y6, sm, C2, hss2, S2⟩
    refine k σ2 F2 H2 sets2 y5 y6 (s1.trans sm) C2 (S2.weak fun r _ t r2 s2 h _ _ hb => ?_) hss2
    rcases h with h | ⟨h1, h2 | h3⟩
    · exact .inl h
    · exact .inr ⟨h1, .inl h2⟩
    · subst h1; subst h3
      rw [List.length_map, List.take_length]
      exact .inr ⟨rfl, .inr ⟨rfl, hb⟩⟩
/-- the stores of one row -/
theorem vc_sbr1 (hg : p.good) (hs0 : StOk p.m p.bs s0) (few : Few p s0) {D0 : Ends} {i : Nat} (hi : i < p.rs.length) (C : CI g G p s0 L as σ F H sets (.sh (dNat i)) x4 x5 x6)
    (S : SI p s0 sets fun r _ _ _ => r < i)
    (k : ∀ σ' F' H' sets' x4' x5' x6', Same F F' → CI g G p s0 L as σ' F' H' sets' (.sh (dNat i)) x4' x5' x6' → SI p s0 sets' (fun r _ _ _ => r < i + 1) → D0.nx σ' H') : t_sbr1 g D0 σ H := by
  obtain ⟨v3, h3, q3⟩ := C.s.fi.sh 3 (dNat i) rfl
  cases q3
  have hlt : i < sets.length := by rw [S.len]; omega
  have hss := List.getElem?_eq_getElem hlt
  generalize sets[i] = ss at hss
  have hM : (sets.map setD)[i]? = some (setD ss) := by rw [List.getElem?_map, hss] <;> rfl
  obtain ⟨a, ha, _, _, ob, xs, hH, hr⟩ := C.s.da.at_ hM
  refine ⟨.ref L, C.l, .int (i : Int), h3, L, as.map V.ref, (i : Int), .ref a, rfl, rfl, .inl (.inl C.s.l), atI_nat (by rw [List.getElem?_map, ha] <;> rfl), a, ob, xs, rfl, hH, fun l hl => .inl ⟨l, rfl, ⟨_, .inl (.inl upd_same)⟩, ?_⟩⟩
  have w0 : Grow F H (upd F l (.lst (xs.map fun x => V.ref x.2.1))) (upd H l (.lst (xs.map fun x => V.ref x.2.1))) := Grow.new C.s.fi.sub hl
  have hk := hr.keyRps.1
  have hks : (setD ss).map (·.1) = ss.map stD := by unfold setD; rw [List.map_map] <;> rfl
  rw [hks] at hk
  have wk : Wk g (Itl g.K l) (upd F l (.lst (xs.map fun x => V.ref x.2.1))) (ss.map stD) := wk_list (.inl (.inl upd_same)) (hk.mono w0.ff)
  refine for_wk wk (fun j F2 σ2 H2 => ∃ sets2 x4 x5 x6, Same (upd F l (.lst (xs.map fun x => V.ref x.2.1))) F2 ∧ CI g G p s0 L as σ2 F2 H2 sets2 (.sh (dNat i)) x4 x5 x6 ∧ sets2[i]? = some ss ∧
    SI p s0 sets2 fun r t _ _ => r < i ∨ (r = i ∧ t ∈ ss.take j)) ⟨sets, x4, x5, x6, Same.refl _, C.grow w0, hss, ?_⟩ ?_ ?_ ?_
  · refine S.weak fun r _ t r2 s2 h _ _ _ => ?_
    rcases h with h | ⟨_, h3⟩
    · exact h
    · rw [List.take_zero] at h3; cases h3
  · rintro j F2 σ2 H2 ⟨_, _, _, _, sm, C2, _⟩
    exact ⟨sm, C2.s.fi.sub⟩
  · rintro j d F2 σ2 H2 F3 H3 x hd ⟨sets2, y4, y5, y6, sm, C2, hss2, S2⟩ w rx
    rw [List.getElem?_map] at hd
    cases hq : ss[j]? with
    | none => rw [hq] at hd; cases hd
    | some t =>
      rw [hq] at hd
      cases hd
      have C3 := (C2.grow w).set4 rx
      refine vc_sbr2 hg hs0 few hi C3 S2 hss2 (List.mem_of_getElem? hq) fun σ5 F5 H5 sets5 z5 z6 s5 C5 S5 hss5 => ⟨F5, sets5, _, z5, z6, (sm.trans w.ff).trans s5, C5, hss5, S5.weak fun r _ t' r2 s2 h _ _ _ => ?_⟩
      rcases h with h | ⟨h1, h2⟩
      · exact .inl h
      · rw [List.take_succ, hq] at h2
        rcases List.mem_append.mp h2 with h2 | h2
        · exact .inr ⟨h1, .inl h2⟩
        · exact .inr ⟨h1, .inr (List.mem_singleton.mp h2)⟩
  · rintro F2 σ2 H2 ⟨sets2, y4, y5, y6, sm, C2, hss2, S2⟩
    refine k σ2 F2 H2 sets2 y4 y5 y6 (w0.ff.trans sm) C2 (S2.weak fun r ss' t r2 s2 h hss' ht _ => ?_)
    by_cases q : r < i
    · exact .inl q
    · have : r = i := by omega
      subst this
      rw [hss2] at hss'
      cases hss'
      rw [List.length_map, List.take_length]
      exact .inr ⟨rfl, ht⟩
/-- all rows -/
theorem vc_sbr0 (hg : p.good) (hs0 : StOk p.m p.bs s0) (few : Few p s0) {D0 : Ends} (C : CI g G p s0 L as σ F H sets x3 x4 x5 x6) (S : SI p s0 sets fun _ _ _ _ => False)
    (k : ∀ σ' F' H' sets' x3' x4' x5' x6', Same F F' → CI g G p s0 L as σ' F' H' sets' x3' x4' x5' x6' → SI p s0 sets' (fun r _ _ _ => r < p.rs.length) → D0.nx σ' H') : t_sbr0 g D0 σ H := by
  have hl := hg.len
  refine ⟨_, [.sh p.d, .sh (stD s0), .no, x3, x4, x5, x6], F, fun ds e1 => ds = (List.range p.rs.length).map dNat ∧ e1 = [.sh p.d, .sh (stD s0), .no, x3, x4, x5, x6], C.s.reb, ⟨_, atI_nat (j := 2) rfl, by rw [List.length_map]; omega, by rw [List.length_map]; omega, ?_, rfl⟩, ?_⟩
  · rw [← rng_dNat, List.length_map]
    congr 1
  rintro ds J e' F1 H1 I1 s1 wk ⟨rfl, rfl⟩
  have C1 : CI g G p s0 L as σ F1 H1 sets x3 x4 x5 x6 := ⟨C.s.back I1 C.s.pl s1, C.l⟩
  refine for_wk wk (fun j F2 σ2 H2 => ∃ sets2 x3 x4 x5 x6, Same F1 F2 ∧ CI g G p s0 L as σ2 F2 H2 sets2 x3 x4 x5 x6 ∧ SI p s0 sets2 fun r _ _ _ => r < j) ⟨sets, x3, x4, x5, x6, Same.refl F1, C1, S.weak fun r _ _ _ _ h _ _ _ => absurd h (Nat.not_lt_zero _)⟩ ?_ ?_ ?_
  · rintro j F2 σ2 H2 ⟨_, _, _, _, _, sm, C2, _⟩
    exact ⟨sm, C2.s.fi.sub⟩
  · rintro j d F2 σ2 H2 F3 H3 x hd ⟨sets2, y3, y4, y5, y6, sm, C2, S2⟩ w rx
    rw [List.getElem?_map] at hd
    cases hq : (List.range p.rs.length)[j]? with
    | none => rw [hq] at hd; cases hd
    | some i =>
      rw [hq] at hd
      cases hd
      obtain ⟨h1, h2⟩ := List.getElem?_eq_some_iff.mp hq
      rw [List.getElem_range] at h2
      subst h2
      rw [List.length_range] at h1
      have C3 := (C2.grow w).set3 rx
      exact vc_sbr1 hg hs0 few h1 C3 S2 fun σ5 F5 H5 sets5 z4 z5 z6 s5 C5 S5 => ⟨F5, sets5, _, z4, z5, z6, (sm.trans w.ff).trans s5, C5, S5⟩
  · rintro F2 σ2 H2 ⟨sets2, y3, y4, y5, y6, sm, C2, S2⟩
    rw [List.length_map, List.length_range] at S2
    exact k σ2 F2 H2 sets2 y3 y4 y5 y6 (s1.trans sm) C2 S2
end
end DL
namespace DL
open PySem PySem.Spec PyProof.Rows L2
theorem map_rep {n : Nat} : (List.replicate n ([] : List (List Nat))).map setD = List.replicate n [] := by
  rw [List.map_replicate] <;> rfl
theorem DAs.snoc {g : Wl} {G : Gr} {F H : Hp} {b : Addr} {ob : Obj} (hF : F b = none) (h0 : G.H0 b = none) (hn : H b = some (dN g b ob [])) : ∀ {as : List Addr} {M : List (List (D × D))}, DAs g G F H as M → DAs g G F H (as ++ [b]) (M ++ [[]])
  | _, _, .nil => .cons ⟨hF, h0, ob, [], hn, .nil⟩ .nil
  | _, _, .cons h t => .cons h (DAs.snoc hF h0 hn t)
theorem DAs.mem {g : Wl} {G : Gr} {F H : Hp} : ∀ {as : List Addr} {M : List (List (D × D))}, DAs g G F H as M → ∀ a ∈ as, ∃ u, H a = some u
  | _, _, .nil, a, h => nomatch h
  | _, _, .cons h t, a, hm => by
    rcases List.mem_cons.mp hm with rfl | hm
    · obtain ⟨_, _, ob, xs, h3, _⟩ := h; exact ⟨_, h3⟩
    · exact DAs.mem t a hm
theorem DAs.offL {g : Wl} {G : Gr} {F H : Hp} {L : Addr} {u : HO} : ∀ {as : List Addr} {M : List (List (D × D))}, L ∉ as → DAs g G F H as M → DAs g G F (upd H L u) as M
  | _, _, _, .nil => .nil
  | a :: as, _, hn, .cons h t => by
    obtain ⟨h1, h2, ob, xs, h3, h4⟩ := h
    exact .cons ⟨h1, h2, ob, xs, by rw [upd_ne (fun z => hn (by rw [← z]; exact List.mem_cons_self))]; exact h3, h4⟩ (DAs.offL (fun z => hn (List.mem_cons_of_mem _ z)) t)
theorem vc_sbr {g : Wl} {vs : List V} {H : Hp} {Q : VK} {E : XK} {x0 x1 x2 x3 x4 x5 x6 : Str} (h : spOf g sp_stores_by_rows vs H Q E) : t_sbr g { nx := fun _ H' => Q .non H', rt := Q } (L2.start [x0, x1, x2, x3, x4, x5, x6] vs) H := by
  obtain ⟨F, as, Qd, Ed, sF, ha, ⟨p, s0, rfl, ⟨hg, hs0, few, h35⟩, hQ⟩, kQ, _⟩ := h
  have I0 := FI.entry (N := [x0, x1, x2, x3, x4, x5, x6]) sF ha (by show 2 ≤ 7; decide)
  obtain ⟨v0, v1, rfl⟩ : ∃ v0 v1, vs = [v0, v1] := by
    have := ha.length
    match vs, this with
    | [a, b], _ => exact ⟨a, b, rfl⟩
  generalize hG : (⟨[x0, x1, x2, x3, x4, x5, x6].length, entM [v0, v1] [.sh p.d, .sh (stD s0)], F, H⟩ : Gr) = G at I0
  have hl := hg.len
  refine ⟨G, [.sh p.d, .sh (stD s0), .no, .no, .no, .no, .no], F, fun ds e1 => ds = (List.range (p.rs.length + 1)).map dNat ∧ e1 = [.sh p.d, .sh (stD s0), .no, .no, .no, .no, .no], I0, ⟨_, atI_nat (j := 2) rfl, by rw [List.length_map]; omega, by rw [List.length_map]; omega, ?_, rfl⟩, ?_⟩
  · rw [← rng_dNat, List.length_map]
    congr 1
  rintro ds J e' F1 H1 I1 s1 wk ⟨rfl, rfl⟩ L hL
  -- the comprehension
  have C0 : SBI g G [some v0, some v1, none, none, none, none, none] [.sh p.d, .sh (stD s0), .no, .no, .no, .no, .no] F1 (upd H1 L (.lst [])) L [] [] := by
    refine ⟨I1.grow (Grow.tmp I1.sub hL), plain7 flat_no flat_no flat_no flat_no, upd_same, I1.sub.free hL, I1.fresh hL, List.nodup_nil, (fun z => nomatch z), .nil⟩
  refine ⟨fun i m H2 => m = p.rs.length + 1 - i ∧ i ≤ p.rs.length + 1 ∧ ∃ F2 as, Same F1 F2 ∧ SBI g G [some v0, some v1, none, none, none, none, none] [.sh p.d, .sh (stD s0), .no, .no, .no, .no, .no] F2 H2 L as (List.replicate i []), ⟨_, rfl, Nat.zero_le _, F1, [], Same.refl F1, C0⟩, ?_⟩
  rintro i m H2 ⟨rfl, hi, F2, as, sm, S⟩
  obtain ⟨w1, w2⟩ := wk i F2 H2 sm S.fi.sub
  rw [List.length_map, List.length_range] at w2
  by_cases hlt : i < p.rs.length + 1
  · obtain ⟨go, yl⟩ := w1 (dNat i) (by rw [List.getElem?_map, List.getElem?_range hlt] <;> rfl)
    refine .inr ⟨go, fun H3 => ∃ F3 as, Same F1 F3 ∧ SBI g G [some v0, some v1, none, none, none, none, none] [.sh p.d, .sh (stD s0), .no, .no, .no, .no, .no] F3 H3 L as (List.replicate (i + 1) []), fun H3 ⟨F3, as3, q1, q2⟩ => ⟨p.rs.length + 1 - (i + 1), by omega, rfl, hlt, F3, as3, q1, q2⟩, fun x H3 y => ?_⟩
    obtain ⟨F3, w, rx⟩ := yl x H3 y
    have S3 := S.back (S.reb.grow w) S.pl w.ff
    refine ⟨rfl, fun b ob hb => ⟨as.map V.ref, ?_, ?_, F3, as ++ [b], sm.trans w.ff, ?_⟩⟩
    · rw [upd_ne (ne_of_none S3.l hb)]; exact S3.l
    · have := Paired.length S3.da
      rw [List.length_replicate] at this
      rw [List.length_map, this]
      exact lt_line (by omega)
    · have S4 := S3.back (S3.reb.grow (Grow.tmp (o := dN g b ob []) S3.fi.sub hb)) S3.pl (Same.refl F3)
      have hF3 : F3 b = none := S3.fi.sub.free hb
      have h0b : G.H0 b = none := S3.fi.fresh hb
      have hbL : b ≠ L := fun z => by rw [z, S3.l] at hb; cases hb
      have hbas : b ∉ as := fun z => by
        obtain ⟨u, hu⟩ := S3.da.mem b z
        rw [hb] at hu; cases hu
      have d1 := S4.da.snoc hF3 h0b upd_same
      have nd : (as ++ [b]).Nodup := List.nodup_append.mpr ⟨S4.nd, List.nodup_cons.mpr ⟨(fun z => nomatch z), List.nodup_nil⟩, fun a ha c hc e => by
        rw [List.mem_singleton.mp hc] at e
        rw [e] at ha
        exact hbas ha⟩
      have ne : L ∉ as ++ [b] := fun z => (List.mem_append.mp z).elim S4.ne fun z => hbL (List.mem_singleton.mp z).symm
      refine ⟨S4.fi.offw S4.lf S4.l0 (fun j o h => (by rw [S4.pl.own j] at h; cases h)), S4.pl, ?_, S4.lf, S4.l0, nd, ne, ?_⟩
      · rw [upd_same, List.map_append] <;> rfl
      · have e : List.replicate (i + 1) ([] : List (D × D)) = List.replicate i [] ++ [[]] := List.replicate_succ'
        rw [e]
        exact DAs.offL ne d1
  · have ei : i = p.rs.length + 1 := by omega
    subst ei
    refine .inl ⟨w2 (Nat.le_refl _), ?_⟩
    -- found stands
    have S' : SBI g G [some v0, some v1, some (.ref L), none, none, none, none] [.sh p.d, .sh (stD s0), .no, .no, .no, .no, .no] F2 H2 L as ((List.replicate (p.rs.length + 1) []).map setD) := by
      rw [map_rep]
      exact ⟨S.fi.junk (i := 2) (x := some (.ref L)) rfl, S.pl, S.l, S.lf, S.l0, S.nd, S.ne, S.da⟩
    have C2 : CI g G p s0 L as [some v0, some v1, some (.ref L), none, none, none, none] F2 H2 (List.replicate (p.rs.length + 1) []) .no .no .no .no := ⟨S', rfl⟩
    obtain ⟨v1', h1, q1⟩ := C2.s.fi.sh 1 (stD s0) rfl
    have hr0 : (List.replicate (p.rs.length + 1) ([] : List (List Nat)))[0]? = some [] := by rw [List.getElem?_replicate, if_pos (by omega)]
    obtain ⟨a, ob, xs, kk, b, ha', rfl, kn, hH, ks, hlen, put⟩ := sb_put C2.s hr0 q1 (by show 0 ≤ 99999; decide)
    refine ⟨.ref L, rfl, L, as.map V.ref, 0, .ref a, rfl, rfl, .inl (.inl C2.s.l), atI_nat (j := 0) (by rw [List.getElem?_map, ha'] <;> rfl), .ref b, h1, a, ob, xs, kk, b, rfl, rfl, kn, hH, ks, hlen, fun ob' => ?_⟩
    have C3 : CI g G p s0 L as [some v0, some v1, some (.ref L), none, none, none, none] F2 _ (addS (List.replicate (p.rs.length + 1) []) 0 s0) .no .no .no .no := ⟨put ob', rfl⟩
    have eS : addS (List.replicate (p.rs.length + 1) []) 0 s0 = [s0] :: List.replicate p.rs.length [] := by
      unfold addS
      rw [hr0]
      rfl
    have S0 : SI p s0 (addS (List.replicate (p.rs.length + 1) []) 0 s0) fun _ _ _ _ => False := by
      rw [eS]
      refine ⟨by simp, fun ss hss => ?_, fun r ss hr s hs => ?_, fun ss h0 => ?_, fun _ _ _ _ _ z => z.elim⟩
      · rcases List.mem_cons.mp hss with rfl | h
        · exact List.nodup_cons.mpr ⟨(fun z => nomatch z), List.nodup_nil⟩
        · rw [List.eq_of_mem_replicate h]; exact List.nodup_nil
      · cases r with
        | zero =>
          simp at hr
          subst hr
          rw [List.mem_singleton.mp hs]
          exact .here
        | succ r =>
          rw [List.getElem?_cons_succ, List.getElem?_replicate] at hr
          split at hr
          · cases hr; cases hs
          · cases hr
      · simp at h0
        subst h0
        exact List.mem_singleton.mpr rfl
    refine vc_sbr0 hg hs0 few C3 S0 fun σ' F5 H5 sets y3 y4 y5 y6 s5 C5 S5 => ?_
    refine ⟨.ref L, C5.l, ?_⟩
    obtain ⟨F6, I6, s6, r6⟩ := C5.s.frz
    subst hG
    obtain ⟨kp, out⟩ := FI.exit ha (by show 2 ≤ 7; decide) I6
    refine kQ (.vl (.list (sets.map fun ss => .dict (setD ss)))) [] (.ref L) F6 H5 kp out ?_ (hQ sets ⟨S5.len, S5.nd, S5.reach, S5.first, fun r ss s r2 s2 hr => S5.closed r ss s r2 s2 hr⟩)
    rw [List.map_map] at r6
    exact r6
end DL
/-! counting runs by their ends. -/
namespace DL
open PySem PySem.Spec PyProof.Rows L2
def ends (p : Pg) (w : Way) : List Way := (runs p w).map (·.2)
/-- l tells f, where f is not 0 -/
structure IsC (f : Way → Nat) (l : List (Way × Nat)) : Prop where
  nd : (l.map (·.1)).Nodup
  at_ : ∀ e n, (e, n) ∈ l ↔ n = f e ∧ 0 < n
def cntD (l : List (Way × Nat)) : List (D × D) := l.map fun x => (x.1.d, dNat x.2)
def cntOf (es : List Way) (e : Way) : Nat := es.count e
abbrev Places := List ((Nat × List Nat) × List (Way × Nat))
def plcD (ft : Places) : List (D × D) := ft.map fun x => ((Way.at x.1.1 x.1.2).d, .dict (cntD x.2))
/-- what counts_on tells -/
structure Plc (p : Pg) (ft : Places) (inn : Nat → List Nat → Prop) : Prop where
  nd : (ft.map (·.1)).Nodup
  ok : ∀ x ∈ ft, IsC (cntOf (ends p (.at x.1.1 x.1.2))) x.2
  all : ∀ r s, inn r s → ∃ l, ((r, s), l) ∈ ft
def sp_counts_on : FS := fun as Q E => ∃ (p : Pg) (s0 : List Nat), as = [.sh p.d, .sh (stD s0)] ∧ (p.good ∧ StOk p.m p.bs s0 ∧ Few p s0 ∧ p.rs.length ≤ 35) ∧ ∀ ft, Plc p ft (fun r s => Reach p s0 r s ∧ r < p.rs.length) → Q (.tm (.dct (plcD ft))) []
def sp_ends_counted : FS := fun as Q E => ∃ (p : Pg) (s0 : List Nat), as = [.sh p.d, .sh (stD s0)] ∧ (p.good ∧ StOk p.m p.bs s0 ∧ Few p s0 ∧ p.rs.length ≤ 35) ∧ ∀ l r, IsC (cntOf (ends p (poe p 0 s0))) l → (r = .vl (.dict (cntD l)) ∨ r = .tm (.dct (cntD l))) → Q r []
def ansL (p : Pg) (s0 : List Nat) : List (Nat × Nat) := ((List.range p.m).map fun n => (n, cntOf (ends p (poe p 0 s0)) (.gives n))).filter fun x => decide (0 < x.2)
def ansD (l : List (Nat × Nat)) : D := .list (l.map fun x => .tuple [dNat x.1, dNat x.2])
def sp_answer_counts : FS := fun as Q E => ∃ (p : Pg) (s0 : List Nat), as = [.sh p.d, .sh (stD s0)] ∧ (p.good ∧ StOk p.m p.bs s0 ∧ Few p s0 ∧ p.rs.length ≤ 35) ∧ Q (.tm (.lst ((ansL p s0).map fun x => .tuple [dNat x.1, dNat x.2]))) []
def sp_count_nothing : FS := fun as Q E => ∃ (p : Pg) (s0 : List Nat), as = [.sh p.d, .sh (stD s0)] ∧ (p.good ∧ StOk p.m p.bs s0 ∧ Few p s0 ∧ p.rs.length ≤ 35) ∧ Q (.vl (dNat (cntOf (ends p (poe p 0 s0)) .nothing))) []
def sp_run_count : FS := fun as Q E => ∃ (p : Pg) (s0 : List Nat), as = [.sh p.d, .sh (stD s0)] ∧ (p.good ∧ StOk p.m p.bs s0 ∧ Few p s0 ∧ p.rs.length ≤ 35) ∧ Q (.vl (dNat (runs p (poe p 0 s0)).length)) []
/- N: 0=program 1=store 2=found 3=stores 4=row 5=here 6=counts 7=way 8=behind 9=end 10=many -/
def t_counts_on_1 : DS := dFor (dItems (dVal 8)) (.tp [.nm 9, .nm 10]) (dPut 6 (dVal 9) (dOp tAdd (dDGet2 (dRef 6) (dVal 9) (dC (.int 0))) (dRef 10)))
def t_counts_on_2 : DS := dSeq (dIf (dTst (dCall sp_is_place [dVal 7])) (dSet 8 (dOp tDGet (dRef 2) (dVal 7))) (dNext)) t_counts_on_1
def t_counts_on_3 : DS := dPut 2 (dTup [dVal 4, dVal 5]) (dVal 6)
def t_counts_on_4 : DS := dSeq (dFor (dSeqI (dCall sp_ways_from [dVal 0, dTup [dVal 4, dVal 5]])) (.nm 7) (dSeq (dSet 8 (dD1 7 1)) t_counts_on_2)) t_counts_on_3
def t_counts_on_5 : DS := dRet (dMov 2)
def t_counts_on_6 : DS := dSeq (dFor (dRng3 [dOp (tI0 (· - ·)) (dCB tLenU [dOp tIx (dRef 0) (dC (.int 2))]) (dC (.int 1)), dUn tNeg (dC (.int 1)), dUn tNeg (dC (.int 1))]) (.nm 4) (dFor (dKeysI (dOp tIx (dRef 3) (dVal 4))) (.nm 5) (dSeq (dSet 6 (dDNew)) t_counts_on_4))) t_counts_on_5
def t_counts_on_7 : DS := dSeq (dSet 3 (dCall sp_stores_by_rows [dVal 0, dVal 1])) t_counts_on_6
def t_counts_on : DS := dSeq (dSet 2 (dDNew)) t_counts_on_7

/- N: 0=program 1=store 2=begin -/
def t_ends_counted_1 : DS := dRet (dOp tDGet (dCall sp_counts_on [dVal 0, dVal 1]) (dVal 2))
def t_ends_counted_2 : DS := dSeq (dIf (dNot (dTst (dCall sp_is_place [dVal 2]))) (dRet (dD1 2 1)) (dNext)) t_ends_counted_1
def t_ends_counted_3 : DS := dSeq (dSet 2 (dCall sp_begin_of [dVal 0, dVal 1])) t_ends_counted_2
def t_ends_counted : DS := dSeq (dDrop (dCall sp_need_store [dVal 0, dVal 1])) t_ends_counted_3

/- N: 0=program 1=store 2=counts 3=end -/
def t_answer_counts_1 : DS := dRet (dLc (dSeqI (dCB tSortedU [dRef 2])) (.nm 3) [] (dTst (dOp tNe (dRef 3) (dC (.tuple d_NOTHING)))) (dTup [dOp tIx (dRef 3) (dC (.int 1)), dOp tDGet (dRef 2) (dVal 3)]))
def t_answer_counts : DS := dSeq (dSet 2 (dCall sp_ends_counted [dVal 0, dVal 1])) t_answer_counts_1

/- N: 0=program 1=store -/
def t_count_nothing : DS := dRet (dDGet2 (dCall sp_ends_counted [dVal 0, dVal 1]) (dC (.tuple d_NOTHING)) (dC (.int 0)))

/- N: 0=program 1=store -/
def t_run_count : DS := dRet (dSumV (dCall sp_ends_counted [dVal 0, dVal 1]))

theorem wayD_inj : ∀ {a b : Way}, a.d = b.d → a = b
  | .at r s, .at r' s', h => by
    injection h with h
    injection h with h1 h2
    injection h2 with h2 _
    injection h1 with h1
    have e1 : r = r' := by omega
    rw [e1, stD_inj h2]
  | .gives n, .gives m, h => by
    injection h with h
    injection h with _ h2
    injection h2 with h2 _
    injection h2 with h2
    have : n = m := by omega
    rw [this]
  | .nothing, .nothing, _ => rfl
  | .at _ _, .gives _, h => by injection h with h; injection h with h1 _; cases h1
  | .at _ _, .nothing, h => by injection h with h; injection h with h1 _; cases h1
  | .gives _, .at _ _, h => by injection h with h; injection h with h1 _; cases h1
  | .nothing, .at _ _, h => by injection h with h; injection h with h1 _; cases h1
  | .gives _, .nothing, h => by injection h with h; injection h with h1 h2; cases h2
  | .nothing, .gives _, h => by injection h with h; injection h with h1 h2; cases h2
theorem eqv_way {a b : Way} : PyData.eqv a.d b.d = decide (a = b) := eqv_pl_dec pl_wayD pl_wayD ⟨wayD_inj, fun h => by rw [h]⟩
theorem key_way : ∀ {w : Way}, isKey w.d
  | .at r s => ⟨[.num (r : Int), .tup (nums s)], by
      show PyData.tuple [dNat r, stD s] = PyData.tuple [.int r, .tuple (NestedKey.datas (nums s))]
      rw [nums_d] <;> rfl, by
      show max (0 : Nat) (max (NestedKey.depthAll (nums s) + 1) 0) + 1 ≤ 8
      rw [nums_dep]; decide⟩
  | .gives n => ⟨[.text "gives", .num (n : Int)], rfl, by show max (0 : Nat) (max 0 0) + 1 ≤ 8; decide⟩
  | .nothing => ⟨[.text "nothing"], rfl, by show max (0 : Nat) 0 + 1 ≤ 8; decide⟩
theorem dctD_cnt {l : List (Way × Nat)} : dctD (cntD l) := fun kv h => by
  obtain ⟨x, _, rfl⟩ := List.mem_map.mp h
  obtain ⟨w, n⟩ := x
  cases w <;> exact ⟨_, rfl⟩
theorem look_gen {α β : Type} [DecidableEq α] {k : α → D} {v : β → D} (hk : ∀ a b, PyData.eqv (k a) (k b) = decide (a = b)) {l : List (α × β)} (nd : (l.map (·.1)).Nodup) {a : α} {b : β} (h : (a, b) ∈ l) : lookN (l.map fun x => (k x.1, v x.2)) (k a) = some (v b) := by
  unfold lookN
  induction l with
  | nil => cases h
  | cons x l ih =>
    rw [List.map_cons] at nd
    obtain ⟨nd1, nd2⟩ := List.nodup_cons.mp nd
    rw [List.map_cons, List.find?_cons, hk]
    rcases List.mem_cons.mp h with rfl | h
    · simp
    · have hne : ¬ x.1 = a := fun z => nd1 (by rw [z]; exact List.mem_map.mpr ⟨_, h, rfl⟩)
      simp only [hne, decide_false]
      exact ih nd2 h
theorem look_none {α β : Type} [DecidableEq α] {k : α → D} {v : β → D} (hk : ∀ a b, PyData.eqv (k a) (k b) = decide (a = b)) {l : List (α × β)} {a : α} (h : ∀ b, (a, b) ∉ l) : lookN (l.map fun x => (k x.1, v x.2)) (k a) = none := by
  unfold lookN
  induction l with
  | nil => rfl
  | cons x l ih =>
    have hne : ¬ x.1 = a := fun z => h x.2 (by rw [← z]; exact List.mem_cons_self)
    rw [List.map_cons, List.find?_cons, hk]
    simp only [hne, decide_false]
    exact ih fun b hb => h b (List.mem_cons_of_mem _ hb)
theorem IsC.look {f : Way → Nat} {l : List (Way × Nat)} (h : IsC f l) (e : Way) : lookN (cntD l) e.d = if 0 < f e then some (dNat (f e)) else none := by
  by_cases q : 0 < f e
  · rw [if_pos q]
    exact look_gen (k := Way.d) (v := dNat) (fun a b => eqv_way) h.nd ((h.at_ e (f e)).mpr ⟨rfl, q⟩)
  · rw [if_neg q]
    exact look_none (k := Way.d) (v := dNat) (fun a b => eqv_way) fun n hn => by
      obtain ⟨h1, h2⟩ := (h.at_ e n).mp hn
      omega
theorem IsC.getD {f : Way → Nat} {l : List (Way × Nat)} (h : IsC f l) (e : Way) : (lookN (cntD l) e.d).getD (.int 0) = dNat (f e) := by
  rw [h.look]
  split
  · rfl
  · have : f e = 0 := by omega
    rw [this]; rfl
def putW (l : List (Way × Nat)) (e : Way) (n : Nat) : List (Way × Nat) := if e ∈ l.map (·.1) then l.map (fun x => if x.1 = e then (x.1, n) else x) else l ++ [(e, n)]
theorem IsC.key {f : Way → Nat} {l : List (Way × Nat)} (h : IsC f l) (e : Way) : e ∈ l.map (·.1) ↔ 0 < f e := by
  constructor
  · intro z
    obtain ⟨x, hx, rfl⟩ := List.mem_map.mp z
    obtain ⟨h1, h2⟩ := (h.at_ x.1 x.2).mp hx
    omega
  · intro z
    exact List.mem_map.mpr ⟨_, (h.at_ e (f e)).mpr ⟨rfl, z⟩, rfl⟩
theorem store_cnt {f : Way → Nat} {l : List (Way × Nat)} (h : IsC f l) (e : Way) (n : Nat) : storeN (cntD l) e.d (dNat n) = cntD (putW l e n) := by
  unfold storeN putW
  rw [h.look]
  by_cases q : 0 < f e
  · rw [if_pos q, if_pos ((h.key e).mpr q)]
    rw [if_pos (by rfl)]
    unfold cntD
    rw [List.map_map, List.map_map]
    refine List.map_congr_left fun x _ => ?_
    dsimp only [Function.comp]
    rw [eqv_way]
    by_cases z : x.1 = e <;> simp [z]
  · rw [if_neg q, if_neg (fun z => q ((h.key e).mp z)), if_neg (by simp)]
    simp [cntD]
theorem IsC.put {f : Way → Nat} {l : List (Way × Nat)} (h : IsC f l) (e : Way) {n : Nat} (hn : 0 < n) : IsC (fun x => if x = e then n else f x) (putW l e n) := by
  unfold putW
  by_cases q : e ∈ l.map (·.1)
  · rw [if_pos q]
    refine ⟨?_, fun x m => ?_⟩
    · rw [List.map_map]
      have : (l.map ((fun x => x.1) ∘ fun x => if x.1 = e then (x.1, n) else x)) = l.map (·.1) := List.map_congr_left fun x _ => by
        dsimp only [Function.comp]
        split <;> rfl
      rw [this]; exact h.nd
    · constructor
      · intro z
        obtain ⟨y, hy, ey⟩ := List.mem_map.mp z
        by_cases c : y.1 = e
        · rw [if_pos c] at ey
          injection ey with e1 e2
          subst e1; subst e2
          rw [if_pos c]
          exact ⟨rfl, hn⟩
        · rw [if_neg c] at ey
          subst ey
          rw [if_neg c]
          exact (h.at_ _ _).mp hy
      · rintro ⟨z1, z2⟩
        by_cases c : x = e
        · rw [if_pos c] at z1
          subst z1
          subst c
          obtain ⟨y, hy, rfl⟩ := List.mem_map.mp q
          exact List.mem_map.mpr ⟨y, hy, by rw [if_pos rfl]⟩
        · rw [if_neg c] at z1
          exact List.mem_map.mpr ⟨(x, m), (h.at_ x m).mpr ⟨z1, z2⟩, by rw [if_neg c]⟩
  · rw [if_neg q]
    have hf : f e = 0 := by
      have : ¬ 0 < f e := fun z => q ((h.key e).mpr z)
      omega
    refine ⟨?_, fun x m => ?_⟩
    · rw [List.map_append]
      refine List.nodup_append.mpr ⟨h.nd, List.nodup_cons.mpr ⟨(fun z => nomatch z), List.nodup_nil⟩, fun a ha b hb z => ?_⟩
      rw [List.mem_singleton.mp hb] at z
      rw [z] at ha
      exact q ha
    · rw [List.mem_append, List.mem_singleton, h.at_]
      by_cases c : x = e
      · subst c
        rw [if_pos rfl, hf]
        constructor
        · rintro (⟨z1, z2⟩ | z)
          · omega
          · injection z with _ z; exact ⟨z, by omega⟩
        · rintro ⟨z1, _⟩
          exact .inr (by rw [z1])
      · rw [if_neg c]
        constructor
        · rintro (z | z)
          · exact z
          · injection z with z _; exact absurd z c
        · exact fun z => .inl z
theorem IsC.congr {f f' : Way → Nat} {l : List (Way × Nat)} (h : IsC f l) (e : ∀ x, f x = f' x) : IsC f' l := ⟨h.nd, fun x n => by rw [← e]; exact h.at_ x n⟩
theorem ends_at {p : Pg} (hg : p.good) {r : Nat} {s : List Nat} (hr : r < p.rs.length) (hs : StOk p.m p.bs s) : ends p (.at r s) = (ways p r s).flatMap (ends p) := by
  unfold ends
  cases hp : isPick p r with
  | true =>
    rw [runs_pick hg hr hs hp, List.map_flatMap]
    have key : ∀ (ws : List Way) (k : Nat), ((ws.zipIdx k).flatMap fun wk => ((runs p wk.1).map fun ce => (wk.2 :: ce.1, ce.2)).map (·.2)) = ws.flatMap fun w => (runs p w).map (·.2) := by
      intro ws
      induction ws with
      | nil => intro k; rfl
      | cons w ws ih =>
        intro k
        rw [List.zipIdx_cons, List.flatMap_cons, List.flatMap_cons, ih, List.map_map]
        rfl
    exact key _ 0
  | false =>
    obtain ⟨w, hw, he⟩ := runs_one hg hr hs hp
    rw [he, hw]
    simp
theorem ends_end {p : Pg} {w : Way} (h : w.isAt = false) : ends p w = [w] := by
  cases w with
  | «at» r s => cases h
  | gives n => rfl
  | nothing => rfl
/-! ### ends are few -/
def univ (p : Pg) : List Way := .nothing :: (List.range p.m).map Way.gives
theorem nodup_le {α : Type} [DecidableEq α] : ∀ {xs ys : List α}, xs.Nodup → (∀ x ∈ xs, x ∈ ys) → xs.length ≤ ys.length
  | [], _, _, _ => Nat.zero_le _
  | x :: xs, ys, nd, h => by
    obtain ⟨nd1, nd2⟩ := List.nodup_cons.mp nd
    have hx := h x List.mem_cons_self
    have := nodup_le (xs := xs) (ys := ys.erase x) nd2 fun y hy => by
      refine (List.mem_erase_of_ne ?_).mpr (h y (List.mem_cons_of_mem _ hy))
      rintro rfl
      exact nd1 hy
    rw [List.length_erase_of_mem hx] at this
    have := List.length_pos_of_mem hx
    rw [List.length_cons]
    omega
theorem univ_len {p : Pg} : (univ p).length = p.m + 1 := by simp [univ]
theorem ends_univ {p : Pg} (hg : p.good) : ∀ (n : Nat) (w : Way), rk p w ≤ n → Wok p w → (∀ k, w = .gives k → k < p.m) → ∀ e ∈ ends p w, e ∈ univ p
  | n, .gives k, _, _, h, e, he => by
    rw [ends_end rfl] at he
    rw [List.mem_singleton.mp he]
    exact List.mem_cons_of_mem _ (List.mem_map.mpr ⟨k, List.mem_range.mpr (h k rfl), rfl⟩)
  | n, .nothing, _, _, _, e, he => by
    rw [ends_end rfl] at he
    rw [List.mem_singleton.mp he]
    exact List.mem_cons_self
  | 0, .at r s, h, hw, _, e, he => by
    have h' : p.rs.length - r ≤ 0 := h
    have := hw.1
    omega
  | n + 1, .at r s, h, hw, _, e, he => by
    have h' : p.rs.length - r ≤ n + 1 := h
    rw [ends_at hg hw.1 hw.2] at he
    obtain ⟨w2, hw2, he2⟩ := List.mem_flatMap.mp he
    obtain ⟨a, b⟩ := ways_ok hg hw.1 hw.2 w2 hw2
    refine ends_univ hg n w2 (by omega) a (fun k hk => ?_) e he2
    subst hk
    have hrow := hg.rows p.rs[r] (List.getElem_mem hw.1)
    unfold ways at hw2
    rw [List.getElem?_eq_getElem hw.1] at hw2
    dsimp only at hw2
    generalize p.rs[r] = row at hw2 hrow
    have noP : ∀ r' s', Way.gives k ≠ poe p r' s' := fun r' s' z => by
      unfold poe at z
      split at z <;> cases z
    unfold rowWays at hw2
    cases row with
    | set b t => exact absurd (List.mem_singleton.mp hw2) (noP _ _)
    | pick b ts => obtain ⟨t, _, z⟩ := List.mem_map.mp hw2; exact absurd z.symm (noP _ _)
    | need t =>
      dsimp only at hw2
      split at hw2
      · cases List.mem_singleton.mp hw2
      · exact absurd (List.mem_singleton.mp hw2) (noP _ _)
    | skip t n => exact absurd (List.mem_singleton.mp hw2) (noP _ _)
    | give t =>
      have := List.mem_singleton.mp hw2
      injection this with this
      rw [this]
      exact wo_lt hg.bx hw.2 hrow.1
theorem IsC.small {p : Pg} {f : Way → Nat} {l : List (Way × Nat)} (h : IsC f l) (hu : ∀ e, 0 < f e → e ∈ univ p) : l.length ≤ p.m + 1 := by
  have := nodup_le h.nd (ys := univ p) fun e he => hu e ((h.key e).mp he)
  rw [List.length_map, univ_len] at this
  exact this
def fD (l : List (Way × Nat)) (e : Way) : Nat := ((l.filter fun x => decide (x.1 = e)).map (·.2)).sum
theorem fD_snoc {l : List (Way × Nat)} {a e : Way} {n : Nat} : fD (l ++ [(a, n)]) e = fD l e + if e = a then n else 0 := by
  unfold fD
  rw [List.filter_append, List.map_append, List.sum_append]
  by_cases h : a = e
  · subst h; simp
  · have h' : ¬ e = a := fun z => h z.symm
    simp [h, h']
theorem IsC.fD {f : Way → Nat} {l : List (Way × Nat)} (h : IsC f l) (e : Way) : DL.fD l e = f e := by
  have key : ∀ {l : List (Way × Nat)}, (l.map (·.1)).Nodup → (∀ n, (e, n) ∈ l → n = f e) → (0 < f e → ∃ n, (e, n) ∈ l) → (f e = 0 → ∀ n, (e, n) ∉ l) → DL.fD l e = f e := by
    intro l
    induction l with
    | nil =>
      intro _ _ h2 _
      by_cases q : 0 < f e
      · obtain ⟨n, hn⟩ := h2 q; cases hn
      · show 0 = f e; omega
    | cons x l ih =>
      intro nd h1 h2 h3
      rw [List.map_cons] at nd
      obtain ⟨nd1, nd2⟩ := List.nodup_cons.mp nd
      by_cases q : x.1 = e
      · have hx : x.2 = f e := h1 x.2 (by rw [← q]; exact List.mem_cons_self)
        have hno : ∀ n, (e, n) ∉ l := fun n hn => nd1 (by rw [q]; exact List.mem_map.mpr ⟨_, hn, rfl⟩)
        have hz : (l.filter fun x => decide (x.1 = e)) = [] := List.filter_eq_nil_iff.mpr fun y hy z => by
          have := of_decide_eq_true z
          exact hno y.2 (by rw [← this]; exact hy)
        unfold DL.fD
        rw [List.filter_cons_of_pos (by simp [q]), hz]
        simp [hx]
      · unfold DL.fD
        rw [List.filter_cons_of_neg (by simp [q])]
        refine ih nd2 (fun n hn => h1 n (List.mem_cons_of_mem _ hn)) (fun z => ?_) fun z n hn => h3 z n (List.mem_cons_of_mem _ hn)
        obtain ⟨n, hn⟩ := h2 z
        rcases List.mem_cons.mp hn with hn | hn
        · exact absurd (by rw [← hn]) q
        · exact ⟨n, hn⟩
  refine key h.nd (fun n hn => ((h.at_ e n).mp hn).1) (fun q => ⟨_, (h.at_ e _).mpr ⟨rfl, q⟩⟩) fun q n hn => ?_
  obtain ⟨h1, h2⟩ := (h.at_ e n).mp hn
  omega
/-- the counts of one way are put to the counts -/
theorem vc_items {p : Pg} (hm : p.m ≤ 16) {f g : Way → Nat} {lc lb : List (Way × Nat)} (hf : IsC f lc) (hg : IsC g lb) (uf : ∀ e, 0 < f e → e ∈ univ p) (ug : ∀ e, 0 < g e → e ∈ univ p) {DD : DEn} {d0 d1 d3 d4 d5 d7 : D} {o2 : OD} {x8 x9 x10 : Sl} (h8 : x8 = .ow (.dct (cntD lb)) ∨ x8 = .sh (.dict (cntD lb))) (n9 : nio x9) (n10 : nio x10)
    (k : ∀ lc' y8 y9 y10, IsC (fun e => f e + g e) lc' → nio y8 → nio y9 → nio y10 → DD.nx [.sh d0, .sh d1, .ow o2, .sh d3, .sh d4, .sh d5, .ow (.dct (cntD lc')), .sh d7, y8, y9, y10]) :
    t_counts_on_1 DD [.sh d0, .sh d1, .ow o2, .sh d3, .sh d4, .sh d5, .ow (.dct (cntD lc)), .sh d7, x8, x9, x10] := by
  have main : dLoop (.tp [.nm 9, .nm 10]) (dPut 6 (dVal 9) (dOp tAdd (dDGet2 (dRef 6) (dVal 9) (dC (.int 0))) (dRef 10))) DD ((cntD lb).map fun kv => .tuple [kv.1, kv.2]) [.sh d0, .sh d1, .ow o2, .sh d3, .sh d4, .sh d5, .ow (.dct (cntD lc)), .sh d7, .sh (.dict (cntD lb)), x9, x10] := by
    refine loop_vc (J := fun ds e => ∃ (don left : List (Way × Nat)) (lc' : List (Way × Nat)) (y9 y10 : Sl), lb = don ++ left ∧ ds = (cntD left).map (fun kv => PyData.tuple [kv.1, kv.2]) ∧ IsC (fun e => f e + fD don e) lc' ∧ nio y9 ∧ nio y10 ∧
      e = [.sh d0, .sh d1, .ow o2, .sh d3, .sh d4, .sh d5, .ow (.dct (cntD lc')), .sh d7, .sh (.dict (cntD lb)), y9, y10]) ?_ ?_ _ _ ⟨[], lb, lc, x9, x10, rfl, rfl, hf.congr (fun x => by simp [fD]), n9, n10, rfl⟩
    · rintro e ⟨don, left, lc', y9, y10, hl, hd, hc, m9, m10, rfl⟩
      have : left = [] := by
        cases left with
        | nil => rfl
        | cons a l => cases hd
      subst this
      rw [List.append_nil] at hl
      subst hl
      exact k lc' _ y9 y10 (hc.congr fun e => by rw [hg.fD]) trivial m9 m10
    · rintro d ds e kk hk ⟨don, left, lc', y9, y10, hl, hd, hc, m9, m10, rfl⟩
      cases left with
      | nil => cases hd
      | cons y left =>
        obtain ⟨e1, n1⟩ := y
        cases hd
        have hmem : (e1, n1) ∈ lb := by rw [hl]; simp
        obtain ⟨hn1, hpos⟩ := (hg.at_ e1 n1).mp hmem
        have hsup : ∀ e, 0 < f e + fD don e → e ∈ univ p := fun e he => by
          by_cases q : 0 < f e
          · exact uf e q
          · have : 0 < fD don e := by omega
            unfold fD at this
            have hne : (don.filter fun x => decide (x.1 = e)) ≠ [] := by
              intro z
              rw [z] at this
              exact absurd this (by decide)
            obtain ⟨x, hx⟩ := List.exists_mem_of_ne_nil _ hne
            obtain ⟨hx1, hx2⟩ := List.mem_filter.mp hx
            have hx3 := of_decide_eq_true hx2
            have hb : (x.1, x.2) ∈ lb := by rw [hl]; exact List.mem_append_left _ hx1
            obtain ⟨z1, z2⟩ := (hg.at_ _ _).mp hb
            rw [← hx3]
            exact ug _ (by omega)
        have hlen := hc.small hsup
        refine ⟨ni rfl m9, ni rfl m10, ⟨_, rfl, dctD_cnt⟩, _, rfl, ⟨key_way, dctD_cnt⟩, ?_⟩
        have eg := hc.getD e1
        have body : ∀ v : D, v = dNat (f e1 + fD don e1) → (tAdd v (dNat n1) fun r => (match ownI [.sh d0, .sh d1, .ow o2, .sh d3, .sh d4, .sh d5, .ow (.dct (cntD lc')), .sh d7, .sh (.dict (cntD lb)), .sh e1.d, .sh (dNat n1)] 6 with | some _ => True | none => False) ∧ dPut.vO r fun v => ∃ kvs, ownI [.sh d0, .sh d1, .ow o2, .sh d3, .sh d4, .sh d5, .ow (.dct (cntD lc')), .sh d7, .sh (.dict (cntD lb)), .sh e1.d, .sh (dNat n1)] 6 = some (.dct kvs) ∧ (isKey e1.d ∧ kvs.length < 100000) ∧ kk (putO [.sh d0, .sh d1, .ow o2, .sh d3, .sh d4, .sh d5, .ow (.dct (cntD lc')), .sh d7, .sh (.dict (cntD lb)), .sh e1.d, .sh (dNat n1)] 6 (.dct (storeN kvs e1.d v)))) := by
          rintro v rfl
          refine ⟨trivial, cntD lc', rfl, ⟨key_way, by unfold cntD; rw [List.length_map]; omega⟩, ?_⟩
          have es : storeN (cntD lc') e1.d (.int (((f e1 + fD don e1 : Nat) : Int) + (n1 : Int))) = cntD (putW lc' e1 (f e1 + fD don e1 + n1)) := store_cnt hc e1 (f e1 + fD don e1 + n1)
          rw [es]
          refine hk _ ⟨don ++ [(e1, n1)], left, putW lc' e1 (f e1 + fD don e1 + n1), .sh e1.d, .sh (dNat n1), by rw [hl]; simp, rfl, (hc.put e1 (by omega)).congr fun x => ?_, trivial, trivial, rfl⟩
          rw [fD_snoc]
          by_cases q : x = e1
          · subst q; simp; omega
          · simp [q]
        exact body _ eg
  rcases h8 with rfl | rfl
  · exact ⟨dctD_cnt, main⟩
  · exact ⟨dctD_cnt, main⟩
theorem ways_behind {p : Pg} {r r' : Nat} {s s' : List Nat} (hr : r < p.rs.length) (h : Way.at r' s' ∈ ways p r s) : (r', s') ∈ behinds p r s ∧ r < r' ∧ r' < p.rs.length := by
  unfold ways at h
  unfold behinds
  rw [List.getElem?_eq_getElem hr] at h ⊢
  dsimp only at h ⊢
  generalize p.rs[r] = row at h ⊢
  have poe' : ∀ {a : Nat} {t : List Nat}, Way.at r' s' = poe p a t → r' = a ∧ s' = t ∧ a < p.rs.length := by
    intro a t z
    unfold poe at z
    split at z
    · cases z
    · injection z with z1 z2
      exact ⟨z1, z2, by omega⟩
  unfold rowWays at h
  unfold rowBehind
  cases row with
  | set b t =>
    obtain ⟨rfl, rfl, h3⟩ := poe' (List.mem_singleton.mp h)
    exact ⟨List.mem_singleton.mpr rfl, by omega, h3⟩
  | pick b ts =>
    obtain ⟨t, ht, z⟩ := List.mem_map.mp h
    obtain ⟨rfl, rfl, h3⟩ := poe' z.symm
    exact ⟨List.mem_map.mpr ⟨t, ht, rfl⟩, by omega, h3⟩
  | need t =>
    dsimp only at h ⊢
    split at h
    · cases List.mem_singleton.mp h
    · rename_i hn
      obtain ⟨rfl, rfl, h3⟩ := poe' (List.mem_singleton.mp h)
      rw [if_neg hn]
      exact ⟨List.mem_singleton.mpr (by rw [Nat.min_eq_left (by omega)]), by omega, h3⟩
  | skip t n =>
    obtain ⟨rfl, rfl, h3⟩ := poe' (List.mem_singleton.mp h)
    exact ⟨List.mem_singleton.mpr (by rw [Nat.min_eq_left (by omega)]), by omega, h3⟩
  | give t => cases List.mem_singleton.mp h
theorem cnt_one {w : Way} : IsC (cntOf [w]) [(w, 1)] := by
  refine ⟨List.nodup_cons.mpr ⟨(fun z => nomatch z), List.nodup_nil⟩, fun e n => ?_⟩
  unfold cntOf
  rw [List.mem_singleton, List.count_singleton]
  by_cases h : w = e
  · subst h
    simp
    omega
  · have h' : ¬ e = w := fun z => h z.symm
    simp [h, h']
def placeD (x : Nat × List Nat) : D := (Way.at x.1 x.2).d
theorem eqv_place {a b : Nat × List Nat} : PyData.eqv (placeD a) (placeD b) = decide (a = b) := by
  unfold placeD
  rw [eqv_way]
  obtain ⟨a1, a2⟩ := a
  obtain ⟨b1, b2⟩ := b
  by_cases h : a1 = b1 ∧ a2 = b2
  · obtain ⟨rfl, rfl⟩ := h; simp
  · have : ¬ (Way.at a1 a2 = Way.at b1 b2) := fun z => h (by injection z with z1 z2; exact ⟨z1, z2⟩)
    have h2 : ¬ ((a1, a2) = (b1, b2)) := fun z => h (by injection z with z1 z2; exact ⟨z1, z2⟩)
    rw [decide_eq_false this, decide_eq_false h2]
theorem dctD_plc {ft : Places} : dctD (plcD ft) := fun kv h => by
  obtain ⟨x, _, rfl⟩ := List.mem_map.mp h
  exact ⟨_, rfl⟩
theorem look_plc {ft : Places} (nd : (ft.map (·.1)).Nodup) {r : Nat} {s : List Nat} {l : List (Way × Nat)} (h : ((r, s), l) ∈ ft) : lookN (plcD ft) (Way.at r s).d = some (.dict (cntD l)) :=
  look_gen (k := placeD) (v := fun l => PyData.dict (cntD l)) (fun a b => eqv_place) nd h
theorem store_plc {ft : Places} {r : Nat} {s : List Nat} {l : List (Way × Nat)} (h : ∀ l, ((r, s), l) ∉ ft) : storeN (plcD ft) (Way.at r s).d (.dict (cntD l)) = plcD (ft ++ [((r, s), l)]) := by
  unfold storeN
  have e : lookN (plcD ft) (Way.at r s).d = none := look_none (k := placeD) (v := fun l => PyData.dict (cntD l)) (fun a b => eqv_place) (a := (r, s)) h
  rw [e, if_neg (by simp)]
  simp [plcD]
theorem cnt_univ {p : Pg} {es : List Way} (h : ∀ e ∈ es, e ∈ univ p) : ∀ e, 0 < cntOf es e → e ∈ univ p := fun e he => h e (List.count_pos_iff.mp he)
theorem way_univ {p : Pg} (hg : p.good) {r : Nat} {s : List Nat} (hr : r < p.rs.length) (hs : StOk p.m p.bs s) {w : Way} (hw : w ∈ ways p r s) : ∀ e ∈ ends p w, e ∈ univ p := fun e he => by
  refine ends_univ hg _ (.at r s) (Nat.le_refl _) ⟨hr, hs⟩ (fun k z => by cases z) e ?_
  rw [ends_at hg hr hs]
  exact List.mem_flatMap.mpr ⟨w, hw, he⟩
/-- one place -/
theorem vc_place {p : Pg} (hg : p.good) {r : Nat} {s : List Nat} (hr : r < p.rs.length) (hs : StOk p.m p.bs s) {ft : Places} (nd : (ft.map (·.1)).Nodup) (hlen : ft.length < 100000) (new : ∀ l, ((r, s), l) ∉ ft)
    (have_ : ∀ r' s', Way.at r' s' ∈ ways p r s → ∃ l, ((r', s'), l) ∈ ft ∧ IsC (cntOf (ends p (.at r' s'))) l) {DD : DEn} {d1 d3 : D} {x7 x8 x9 x10 : Sl} (n7 : nio x7) (n8 : nio x8) (n9 : nio x9) (n10 : nio x10)
    (k : ∀ l y7 y8 y9 y10, IsC (cntOf (ends p (.at r s))) l → nio y7 → nio y8 → nio y9 → nio y10 → DD.nx [.sh p.d, .sh d1, .ow (.dct (plcD (ft ++ [((r, s), l)]))), .sh d3, .sh (dNat r), .sh (stD s), .sh (.dict (cntD l)), y7, y8, y9, y10]) :
    t_counts_on_4 DD [.sh p.d, .sh d1, .ow (.dct (plcD ft)), .sh d3, .sh (dNat r), .sh (stD s), .ow (.dct []), x7, x8, x9, x10] := by
  refine ⟨l2, nd0, p, r, s, rfl, ⟨hg, hs, hr⟩, ?_⟩
  refine loop_vc (J := fun ds e => ∃ (don left : List Way) (lc : List (Way × Nat)) (y7 y8 y9 y10 : Sl), ways p r s = don ++ left ∧ ds = left.map Way.d ∧ IsC (cntOf (don.flatMap (ends p))) lc ∧ nio y7 ∧ nio y8 ∧ nio y9 ∧ nio y10 ∧
    e = [.sh p.d, .sh d1, .ow (.dct (plcD ft)), .sh d3, .sh (dNat r), .sh (stD s), .ow (.dct (cntD lc)), y7, y8, y9, y10]) ?_ ?_ _ _ ⟨[], ways p r s, [], x7, x8, x9, x10, rfl, rfl, ⟨List.nodup_nil, fun e n => ?_⟩, n7, n8, n9, n10, rfl⟩
  · rintro e ⟨don, left, lc, y7, y8, y9, y10, hw, hd, hc, m7, m8, m9, m10, rfl⟩
    have : left = [] := by
      cases left with
      | nil => rfl
      | cons a l => cases hd
    subst this
    rw [List.append_nil] at hw
    subst hw
    rw [← ends_at hg hr hs] at hc
    show t_counts_on_3 DD [.sh p.d, .sh d1, .ow (.dct (plcD ft)), .sh d3, .sh (dNat r), .sh (stD s), .ow (.dct (cntD lc)), y7, y8, y9, y10]
    refine ⟨trivial, l2, plcD ft, rfl, ⟨key_way (w := .at r s), by unfold plcD; rw [List.length_map]; exact hlen⟩, ?_⟩
    have e := store_plc (l := lc) new
    have := k lc y7 y8 y9 y10 hc m7 m8 m9 m10
    rw [← e] at this
    exact this
  · rintro d ds e kk hk ⟨don, left, lc, y7, y8, y9, y10, hw, hd, hc, m7, m8, m9, m10, rfl⟩
    cases left with
    | nil => cases hd
    | cons w left =>
      cases hd
      have hwm : w ∈ ways p r s := by rw [hw]; simp
      have uf : ∀ e, 0 < cntOf (don.flatMap (ends p)) e → e ∈ univ p := cnt_univ fun e he => by
        obtain ⟨w', hw', he'⟩ := List.mem_flatMap.mp he
        exact way_univ hg hr hs (by rw [hw]; exact List.mem_append_left _ hw') e he'
      have ug : ∀ e, 0 < cntOf (ends p w) e → e ∈ univ p := cnt_univ (way_univ hg hr hs hwm)
      have fin : ∀ (lb : List (Way × Nat)) (z8 : Sl), IsC (cntOf (ends p w)) lb → (z8 = .ow (.dct (cntD lb)) ∨ z8 = .sh (.dict (cntD lb))) →
          t_counts_on_1 { nx := kk, rt := DD.rt, ct := kk, bk := t_counts_on_3 DD } [.sh p.d, .sh d1, .ow (.dct (plcD ft)), .sh d3, .sh (dNat r), .sh (stD s), .ow (.dct (cntD lc)), .sh w.d, z8, y9, y10] := by
        intro lb z8 hb h8
        refine vc_items hg.bx.m16 hc hb uf ug h8 m9 m10 fun lc' u8 u9 u10 hc' q8 q9 q10 => hk _ ⟨don ++ [w], left, lc', .sh w.d, u8, u9, u10, by rw [hw]; simp, rfl, hc'.congr fun e => ?_, trivial, q8, q9, q10, rfl⟩
        unfold cntOf
        rw [List.flatMap_append, List.count_append]
        simp
      refine ⟨ni rfl m7, key_way, ni rfl m8, ?_⟩
      show t_counts_on_2 { nx := kk, rt := DD.rt, ct := kk, bk := t_counts_on_3 DD } [.sh p.d, .sh d1, .ow (.dct (plcD ft)), .sh d3, .sh (dNat r), .sh (stD s), .ow (.dct (cntD lc)), .sh w.d, .ow (.dct (cntD [(w, 1)])), y9, y10]
      refine ⟨nd0, w, rfl, ?_⟩
      show if w.isAt = true then _ else _
      cases w with
      | «at» r' s' =>
        obtain ⟨lb, hlb, hcb⟩ := have_ r' s' hwm
        exact ⟨⟨key_way, dctD_plc⟩, _, look_plc nd hlb, trivial, fin lb _ hcb (.inr rfl)⟩
      | gives n => exact fin _ _ (by rw [ends_end rfl]; exact cnt_one) (.inl rfl)
      | nothing => exact fin _ _ (by rw [ends_end rfl]; exact cnt_one) (.inl rfl)
  · constructor
    · intro z; cases z
    · rintro ⟨z1, z2⟩
      have : n = 0 := z1
      omega
theorem mem_getI {α : Type} {l : List α} {a : α} (h : a ∈ l) : ∃ i : Nat, l[i]? = some a := List.mem_iff_getElem?.mp h
theorem flat_len {α β : Type} {f : α → List β} {b : Nat} : ∀ {l : List α}, (∀ a ∈ l, (f a).length ≤ b) → (l.flatMap f).length ≤ l.length * b
  | [], _ => Nat.zero_le _
  | a :: l, h => by
    rw [List.flatMap_cons, List.length_append, List.length_cons, Nat.succ_mul]
    have h1 := h a List.mem_cons_self
    have h2 := flat_len (l := l) fun x hx => h x (List.mem_cons_of_mem _ hx)
    omega
/-- what stands in found while the rows are gone through -/
structure PF (p : Pg) (s0 : List Nat) (ft : Places) (inn : Nat → List Nat → Prop) : Prop where
  nd : (ft.map (·.1)).Nodup
  ok : ∀ x ∈ ft, IsC (cntOf (ends p (.at x.1.1 x.1.2))) x.2
  reach : ∀ x ∈ ft, Reach p s0 x.1.1 x.1.2 ∧ x.1.1 < p.rs.length
  iff : ∀ r s, (∃ l, ((r, s), l) ∈ ft) ↔ inn r s
theorem PF.len {p : Pg} {s0 : List Nat} {ft : Places} {inn : Nat → List Nat → Prop} {sets : List (List (List Nat))} (h : PF p s0 ft inn) (S : Sets p s0 sets) (few : Few p s0) (h35 : p.rs.length ≤ 35) (hin : ∀ r s, inn r s → r < p.rs.length ∧ ∃ ss, sets[r]? = some ss ∧ s ∈ ss) : ft.length < 100000 := by
  have h1 := nodup_le h.nd (ys := (List.range p.rs.length).flatMap fun r => (sets.getD r []).map fun s => (r, s)) fun x hx => by
    obtain ⟨y, hy, rfl⟩ := List.mem_map.mp hx
    obtain ⟨h2, ss, h3, h4⟩ := hin y.1.1 y.1.2 ((h.iff _ _).mp ⟨y.2, hy⟩)
    refine List.mem_flatMap.mpr ⟨y.1.1, List.mem_range.mpr h2, List.mem_map.mpr ⟨y.1.2, ?_, rfl⟩⟩
    rw [List.getD_eq_getElem?_getD, h3]
    exact h4
  have h2 : ((List.range p.rs.length).flatMap fun r => (sets.getD r []).map fun s => (r, s)).length ≤ (List.range p.rs.length).length * 2500 := flat_len fun r hr => by
    have hlt : r < sets.length := by rw [S.len]; have := List.mem_range.mp hr; omega
    rw [List.length_map, List.getD_eq_getElem?_getD, List.getElem?_eq_getElem hlt]
    exact few r _ (S.nd _ (List.getElem_mem hlt)) (S.reach r _ (List.getElem?_eq_getElem hlt))
  rw [List.length_range] at h2
  rw [List.length_map] at h1
  have : p.rs.length * 2500 ≤ 35 * 2500 := Nat.mul_le_mul_right _ h35
  omega
theorem vc_counts_on (as Q E) (h : sp_counts_on as Q E) : t_counts_on (defEnds 2 Q) (start0 11 as) := by
  obtain ⟨p, s0, rfl, ⟨hg, hs0, few, h35⟩, hQ⟩ := h
  refine ⟨trivial, nd0, p, s0, rfl, ⟨hg, hs0, few, h35⟩, fun sets S => ⟨trivial, ?_⟩⟩
  have hl := hg.len
  show t_counts_on_6 (defEnds 2 Q) [.sh p.d, .sh (stD s0), .ow (.dct []), .sh (.list (sets.map fun ss => .dict (setD ss))), .no, .no, .no, .no, .no, .no, .no]
  refine ⟨_, atI_nat (j := 2) rfl, ⟨rfl, (by dsimp only; rw [List.length_map]; omega), (by dsimp only; rw [List.length_map]; omega), by omega, by omega⟩, ?_⟩
  have hn : (((p.rs.map Row.d).length : Int) - 1 - (-1)).toNat = p.rs.length := by rw [List.length_map]; omega
  show dLoop (.nm 4) _ _ (dwnD (((p.rs.map Row.d).length : Int) - 1) (((p.rs.map Row.d).length : Int) - 1 - (-1)).toNat) _
  rw [hn, List.length_map]
  have hinn : ∀ i : Nat, ∀ r s, (p.rs.length - i ≤ r ∧ r < p.rs.length ∧ ∃ ss, sets[r]? = some ss ∧ s ∈ ss) → r < p.rs.length ∧ ∃ ss, sets[r]? = some ss ∧ s ∈ ss := fun i r s h => h.2
  refine dwn_vc (J := fun i e => ∃ (ft : Places) (y4 y5 y6 y7 y8 y9 y10 : Sl), (nio y4 ∧ nio y5 ∧ nio y6 ∧ nio y7 ∧ nio y8 ∧ nio y9 ∧ nio y10) ∧ PF p s0 ft (fun r s => p.rs.length - i ≤ r ∧ r < p.rs.length ∧ ∃ ss, sets[r]? = some ss ∧ s ∈ ss) ∧
    e = [.sh p.d, .sh (stD s0), .ow (.dct (plcD ft)), .sh (.list (sets.map fun ss => .dict (setD ss))), y4, y5, y6, y7, y8, y9, y10]) ⟨[], .no, .no, .no, .no, .no, .no, .no, ⟨trivial, trivial, trivial, trivial, trivial, trivial, trivial⟩, ⟨List.nodup_nil, (fun _ z => nomatch z), (fun _ z => nomatch z), fun r s => ⟨(fun ⟨_, z⟩ => nomatch z), fun ⟨z1, z2, _⟩ => by omega⟩⟩, rfl⟩ ?_ ?_
  · rintro e ⟨ft, y4, y5, y6, y7, y8, y9, y10, _, hp, rfl⟩
    refine hQ ft ⟨hp.nd, hp.ok, fun r s ⟨hr1, hr2⟩ => (hp.iff r s).mpr ⟨by omega, hr2, ?_⟩⟩
    -- all that are come to stand in the sets
    have key : ∀ {r s}, Reach p s0 r s → r ≤ p.rs.length → ∃ ss, sets[r]? = some ss ∧ s ∈ ss := by
      intro r s h
      induction h with
      | here =>
        intro _
        have hlt : 0 < sets.length := by rw [S.len]; omega
        exact ⟨_, List.getElem?_eq_getElem hlt, S.first _ (List.getElem?_eq_getElem hlt)⟩
      | @step r s r2 s2 h hr hb ih =>
        intro _
        obtain ⟨ss, h1, h2⟩ := ih (by omega)
        exact S.closed r ss s r2 s2 hr h1 h2 hb
    exact key hr1 (by omega)
  · rintro i e k hi hk ⟨ft, y4, y5, y6, y7, y8, y9, y10, ⟨n4, n5, n6, n7, n8, n9, n10⟩, hp, rfl⟩
    have ej : ((p.rs.length : Int) - 1 - (i : Int)) = ((p.rs.length - 1 - i : Nat) : Int) := by omega
    show setS _ 4 (.vl (.int ((p.rs.length : Int) - 1 - (i : Int)))) _
    rw [ej]
    generalize hrr : p.rs.length - 1 - i = r
    have hr : r < p.rs.length := by omega
    have hlt : r < sets.length := by rw [S.len]; omega
    have hss := List.getElem?_eq_getElem hlt
    generalize sets[r] = ss at hss
    refine ⟨ni rfl n4, .dict (setD ss), atI_nat (by rw [List.getElem?_map, hss] <;> rfl), dctD_set, ?_⟩
    refine loop_vc (J := fun ds e => ∃ (don left : List (List Nat)) (ft : Places) (y5 y6 y7 y8 y9 y10 : Sl), ss = don ++ left ∧ ds = left.map stD ∧ (nio y5 ∧ nio y6 ∧ nio y7 ∧ nio y8 ∧ nio y9 ∧ nio y10) ∧
      PF p s0 ft (fun r' s => (p.rs.length - i ≤ r' ∧ r' < p.rs.length ∧ ∃ ss, sets[r']? = some ss ∧ s ∈ ss) ∨ (r' = r ∧ s ∈ don)) ∧
      e = [.sh p.d, .sh (stD s0), .ow (.dct (plcD ft)), .sh (.list (sets.map fun ss => .dict (setD ss))), .sh (dNat r), y5, y6, y7, y8, y9, y10]) ?_ ?_ _ _ ⟨[], ss, ft, y5, y6, y7, y8, y9, y10, rfl, by unfold setD; rw [List.map_map] <;> rfl, ⟨n5, n6, n7, n8, n9, n10⟩, ⟨hp.nd, hp.ok, hp.reach, fun r' s => (hp.iff r' s).trans ⟨.inl, fun z => z.elim id fun z => nomatch z.2⟩⟩, rfl⟩
    · rintro e ⟨don, left, ft, z5, z6, z7, z8, z9, z10, hd, hl', ⟨m5, m6, m7, m8, m9, m10⟩, hp2, rfl⟩
      have : left = [] := by
        cases left with
        | nil => rfl
        | cons a l => cases hl'
      subst this
      rw [List.append_nil] at hd
      subst hd
      refine hk _ ⟨ft, .sh (dNat r), z5, z6, z7, z8, z9, z10, ⟨trivial, m5, m6, m7, m8, m9, m10⟩, ⟨hp2.nd, hp2.ok, hp2.reach, fun r' s => (hp2.iff r' s).trans ⟨fun z => ?_, fun z => ?_⟩⟩, rfl⟩
      · rcases z with ⟨z1, z2, z3⟩ | ⟨rfl, z2⟩
        · exact ⟨by omega, z2, z3⟩
        · exact ⟨by omega, hr, _, hss, z2⟩
      · obtain ⟨z1, z2, ss', z3, z4⟩ := z
        by_cases q : p.rs.length - i ≤ r'
        · exact .inl ⟨q, z2, ss', z3, z4⟩
        · have : r' = r := by omega
          subst this
          rw [hss] at z3
          cases z3
          exact .inr ⟨rfl, z4⟩
    · rintro d ds e kk hkk ⟨don, left, ft, z5, z6, z7, z8, z9, z10, hd, hl', ⟨m5, m6, m7, m8, m9, m10⟩, hp2, rfl⟩
      cases left with
      | nil => cases hl'
      | cons s left =>
        cases hl'
        have hsm : s ∈ ss := by rw [hd]; simp
        have hreach := S.reach r ss hss s hsm
        have hst := reach_ok hg hs0 hreach
        have hnd := S.nd ss (List.mem_of_getElem? hss)
        have hnew : s ∉ don := by
          rw [hd] at hnd
          intro z
          exact (List.nodup_append.mp hnd).2.2 s z s List.mem_cons_self rfl
        refine ⟨ni rfl m5, ni rfl m6, ?_⟩
        show t_counts_on_4 _ [.sh p.d, .sh (stD s0), .ow (.dct (plcD ft)), .sh (.list (sets.map fun ss => .dict (setD ss))), .sh (dNat r), .sh (stD s), .ow (.dct []), z7, z8, z9, z10]
        have hnoti : ∀ l, ((r, s), l) ∉ ft := fun l z => by
          rcases (hp2.iff r s).mp ⟨l, z⟩ with ⟨z1, _⟩ | ⟨_, z2⟩
          · omega
          · exact hnew z2
        refine vc_place hg hr hst hp2.nd (hp2.len S few h35 fun r' s' z => ?_) hnoti (fun r' s' hw => ?_) m7 m8 m9 m10 fun l u7 u8 u9 u10 hc q7 q8 q9 q10 => hkk _ ⟨don ++ [s], left, ft ++ [((r, s), l)], .sh (stD s), .sh (.dict (cntD l)), u7, u8, u9, u10, by rw [hd]; simp, rfl, ⟨trivial, trivial, q7, q8, q9, q10⟩, ?_, rfl⟩
        · rcases z with ⟨_, z2, z3⟩ | ⟨rfl, z2⟩
          · exact ⟨z2, z3⟩
          · exact ⟨hr, ss, hss, by rw [hd]; exact List.mem_append_left _ z2⟩
        · obtain ⟨h1, h2, h3⟩ := ways_behind hr hw
          obtain ⟨ss2, h4, h5⟩ := S.closed r ss s r' s' hr hss hsm h1
          obtain ⟨l, hl2⟩ := (hp2.iff r' s').mpr (.inl ⟨by omega, h3, ss2, h4, h5⟩)
          exact ⟨l, hl2, hp2.ok _ hl2⟩
        · refine ⟨?_, fun x hx => ?_, fun x hx => ?_, fun r' s' => ?_⟩
          · rw [List.map_append]
            refine List.nodup_append.mpr ⟨hp2.nd, List.nodup_cons.mpr ⟨(fun z => nomatch z), List.nodup_nil⟩, fun a ha b hb z => ?_⟩
            rw [List.mem_singleton.mp hb] at z
            obtain ⟨y, hy, ey⟩ := List.mem_map.mp ha
            exact hnoti y.2 (by have e : y.1 = (r, s) := ey.trans z; rw [← e]; exact hy)
          · rcases List.mem_append.mp hx with hx | hx
            · exact hp2.ok x hx
            · rw [List.mem_singleton.mp hx]; exact hc
          · rcases List.mem_append.mp hx with hx | hx
            · exact hp2.reach x hx
            · rw [List.mem_singleton.mp hx]; exact ⟨hreach, hr⟩
          · constructor
            · rintro ⟨l', hl'⟩
              rcases List.mem_append.mp hl' with hl' | hl'
              · rcases (hp2.iff r' s').mp ⟨l', hl'⟩ with z | ⟨z1, z2⟩
                · exact .inl z
                · exact .inr ⟨z1, List.mem_append_left _ z2⟩
              · have := List.mem_singleton.mp hl'
                injection this with h1 _
                injection h1 with h1 h2
                exact .inr ⟨h1, by rw [h2]; simp⟩
            · rintro (z | ⟨rfl, z2⟩)
              · obtain ⟨l', hl'⟩ := (hp2.iff r' s').mpr (.inl z)
                exact ⟨l', List.mem_append_left _ hl'⟩
              · rcases List.mem_append.mp z2 with z2 | z2
                · obtain ⟨l', hl'⟩ := (hp2.iff r' s').mpr (.inr ⟨rfl, z2⟩)
                  exact ⟨l', List.mem_append_left _ hl'⟩
                · rw [List.mem_singleton.mp z2]
                  exact ⟨l, List.mem_append_right _ List.mem_cons_self⟩
theorem vc_ends_counted (as Q E) (h : sp_ends_counted as Q E) : t_ends_counted (defEnds 2 Q) (start0 3 as) := by
  obtain ⟨p, s0, rfl, ⟨hg, hs0, few, h35⟩, hQ⟩ := h
  refine ⟨nd0, p, s0, rfl, ⟨hg.bx, hs0⟩, nd0, p, s0, rfl, trivial, ?_⟩
  show t_ends_counted_2 (defEnds 2 Q) [.sh p.d, .sh (stD s0), .sh (poe p 0 s0).d]
  refine ⟨nd0, poe p 0 s0, rfl, ?_⟩
  show if (!(poe p 0 s0).isAt) = true then _ else _
  refine ite_vc (fun h => ?_) (fun h => ?_)
  · have hna : (poe p 0 s0).isAt = false := by simpa using h
    have hc : IsC (cntOf (ends p (poe p 0 s0))) [(poe p 0 s0, 1)] := by rw [ends_end hna]; exact cnt_one
    exact ⟨key_way, hQ _ _ hc (.inr rfl)⟩
  · have hna : (poe p 0 s0).isAt = true := by simpa using h
    have hpos : 0 < p.rs.length ∧ poe p 0 s0 = .at 0 s0 := by
      unfold poe at hna ⊢
      split at hna
      · cases hna
      · rename_i hn
        rw [if_neg hn]
        exact ⟨by omega, rfl⟩
    rw [hpos.2] at hQ ⊢
    refine ⟨nd0, p, s0, rfl, ⟨hg, hs0, few, h35⟩, fun ft hf => ⟨⟨key_way, dctD_plc⟩, ?_⟩⟩
    obtain ⟨l, hl⟩ := hf.all 0 s0 ⟨.here, hpos.1⟩
    exact ⟨_, look_plc hf.nd hl, hQ l _ (hf.ok _ hl) (.inl rfl)⟩
theorem vc_count_nothing (as Q E) (h : sp_count_nothing as Q E) : t_count_nothing (defEnds 2 Q) (start0 2 as) := by
  obtain ⟨p, s0, rfl, ⟨hg, hs0, few, h35⟩, hQ⟩ := h
  refine ⟨nd0, p, s0, rfl, ⟨hg, hs0, few, h35⟩, fun l r hc hr => ?_⟩
  have e := hc.getD .nothing
  have fin : Q (.vl ((lookN (cntD l) (Way.nothing).d).getD (.int 0))) [] := by rw [e]; exact hQ
  rcases hr with rfl | rfl
  · exact ⟨⟨_, rfl, dctD_cnt⟩, _, rfl, ⟨key_way (w := .nothing), dctD_cnt⟩, fin⟩
  · exact ⟨⟨_, rfl, dctD_cnt⟩, _, rfl, ⟨key_way (w := .nothing), dctD_cnt⟩, fin⟩
theorem IsC.total {es : List Way} : ∀ {l : List (Way × Nat)}, (l.map (·.1)).Nodup → (∀ x ∈ l, x.2 = es.count x.1) → (∀ e ∈ es, e ∈ l.map (·.1)) → (l.map (·.2)).sum = es.length := by
  intro l
  induction l generalizing es with
  | nil =>
    intro _ _ h
    cases es with
    | nil => rfl
    | cons e es => exact nomatch h e List.mem_cons_self
  | cons x l ih =>
    intro nd h1 h2
    rw [List.map_cons] at nd
    obtain ⟨nd1, nd2⟩ := List.nodup_cons.mp nd
    rw [List.map_cons, List.sum_cons]
    have hf : ∀ y, y ≠ x.1 → (es.filter fun z => decide (z ≠ x.1)).count y = es.count y := fun y hy => List.count_filter (by simpa using hy)
    have := ih (es := es.filter fun z => decide (z ≠ x.1)) nd2 (fun y hy => by
      have hne : y.1 ≠ x.1 := fun z => nd1 (by rw [← z]; exact List.mem_map.mpr ⟨y, hy, rfl⟩)
      rw [hf _ hne]
      exact h1 y (List.mem_cons_of_mem _ hy)) fun e he => by
      obtain ⟨he1, he2⟩ := List.mem_filter.mp he
      have he3 : e ≠ x.1 := by simpa using he2
      have := h2 e he1
      rw [List.map_cons] at this
      exact (List.mem_cons.mp this).resolve_left he3
    rw [this, h1 x List.mem_cons_self]
    have : ∀ es : List Way, es.count x.1 + (es.filter fun z => decide (z ≠ x.1)).length = es.length := by
      intro es
      induction es with
      | nil => rfl
      | cons e es ih =>
        rw [List.count_cons, List.length_cons]
        by_cases q : e = x.1
        · rw [List.filter_cons_of_neg (by simp [q]), if_pos (by simp [q])]
          omega
        · rw [List.filter_cons_of_pos (by simp [q]), List.length_cons, if_neg (by simp [q])]
          omega
    exact this es
theorem vc_run_count (as Q E) (h : sp_run_count as Q E) : t_run_count (defEnds 2 Q) (start0 2 as) := by
  obtain ⟨p, s0, rfl, ⟨hg, hs0, few, h35⟩, hQ⟩ := h
  refine ⟨nd0, p, s0, rfl, ⟨hg, hs0, few, h35⟩, fun l r hc hr => ?_⟩
  have hsum : (l.map (·.2)).sum = (runs p (poe p 0 s0)).length := by
    have := IsC.total (es := ends p (poe p 0 s0)) hc.nd (fun x hx => ((hc.at_ x.1 x.2).mp hx).1) fun e he => (hc.key e).mpr (List.count_pos_iff.mpr he)
    rw [this]
    simp [ends]
  have hi : (l.map fun x => (x.2 : Int)).sum = ((runs p (poe p 0 s0)).length : Int) := by
    rw [← hsum]
    clear hsum hc hr
    induction l with
    | nil => rfl
    | cons x l ih => rw [List.map_cons, List.map_cons, List.sum_cons, List.sum_cons, ih]; omega
  have fin : ∃ ns : List Int, (cntD l).map (·.2) = ns.map PyData.int ∧ Q (.vl (.int ns.sum)) [] := by
    refine ⟨l.map fun x => (x.2 : Int), ?_, ?_⟩
    · unfold cntD
      rw [List.map_map, List.map_map]
      rfl
    · rw [hi]; exact hQ
  rcases hr with rfl | rfl
  · exact ⟨_, rfl, dctD_cnt, fin⟩
  · exact ⟨_, rfl, dctD_cnt, fin⟩
end DL
/-! answers with how many runs give each, in order. -/
namespace DL
open PySem PySem.Spec PyProof.Rows L2 PySem.W
def rkW : Way → Nat
  | .gives n => n
  | .nothing => 1000
  | .at _ _ => 0
def sortW (ws : List Way) : List Way := ws.mergeSort fun a b => decide (rkW a ≤ rkW b)
theorem lt_gg {a b : Nat} : dataLt (Way.gives a).d (Way.gives b).d = decide (a < b) := by
  show dataLt (.tuple [.str "gives", .int a]) (.tuple [.str "gives", .int b]) = _
  rw [dataLt_pair (by rfl) (by rfl), eqv_str, if_pos (decide_eq_true rfl), eqv_int, dataLt_int]
  by_cases h : (a : Int) = (b : Int)
  · rw [if_pos (decide_eq_true h)]
    have : ¬ a < b := by omega
    simp [this]
  · rw [if_neg (by simpa using h)]
    by_cases q : a < b
    · have : (a : Int) < (b : Int) := by omega
      simp [q, this]
    · have : ¬ (a : Int) < (b : Int) := by omega
      simp [q, this]
theorem lt_gn {a : Nat} : dataLt (Way.gives a).d Way.nothing.d = true := by
  show dataLt (.tuple [.str "gives", .int a]) (.tuple [.str "nothing"]) = _
  rw [dataLt_tuple, dataLt_cons (by rfl), eqv_str, if_neg (by decide +kernel), dataLt_str]
  decide +kernel
theorem lt_ng {a : Nat} : dataLt Way.nothing.d (Way.gives a).d = false := by
  show dataLt (.tuple [.str "nothing"]) (.tuple [.str "gives", .int a]) = _
  rw [dataLt_tuple, dataLt_cons (by rfl), eqv_str, if_neg (by decide +kernel), dataLt_str]
  decide +kernel
theorem lt_nn : dataLt Way.nothing.d Way.nothing.d = false := by
  show dataLt (.tuple [.str "nothing"]) (.tuple [.str "nothing"]) = _
  rw [dataLt_tuple, dataLt_cons (by rfl), eqv_str, if_pos (by decide +kernel)]
  rfl
theorem univ_cases {p : Pg} {w : Way} (h : w ∈ univ p) : w = .nothing ∨ ∃ n, n < p.m ∧ w = .gives n := by
  rcases List.mem_cons.mp h with h | h
  · exact .inl h
  · obtain ⟨n, hn, rfl⟩ := List.mem_map.mp h
    exact .inr ⟨n, List.mem_range.mp hn, rfl⟩
theorem le_way {p : Pg} (hm : p.m ≤ 16) {a b : Way} (ha : a ∈ univ p) (hb : b ∈ univ p) : decide (rkW a ≤ rkW b) = dataLe false id a.d b.d := by
  rw [dataLe_eq]
  show _ = !dataLt b.d a.d
  rcases univ_cases ha with rfl | ⟨n, hn, rfl⟩ <;> rcases univ_cases hb with rfl | ⟨k, hk, rfl⟩
  · rw [lt_nn]; rfl
  · rw [lt_gn]
    have : ¬ 1000 ≤ k := by omega
    simp [rkW, this]
  · rw [lt_ng]
    have : n ≤ 1000 := by omega
    simp [rkW, this]
  · rw [lt_gg]
    by_cases q : n ≤ k
    · have : ¬ k < n := by omega
      simp [rkW, q, this]
    · have : k < n := by omega
      simp [rkW, q, this]
theorem sortD_ways {p : Pg} (hm : p.m ≤ 16) {ws : List Way} (h : ∀ w ∈ ws, w ∈ univ p) : sortD (ws.map Way.d) = (sortW ws).map Way.d := by
  unfold sortD sortW
  rw [List.map_mergeSort]
  intro a ha b hb
  exact le_way hm (h a ha) (h b hb)
theorem sortOk_ways {p : Pg} (hm : p.m ≤ 16) {ws : List Way} (h : ∀ w ∈ ws, w ∈ univ p) (hl : ws.length ≤ 100000) : sortOk (ws.map Way.d) := by
  refine ⟨fun d hd d' hd' => ?_, .inl fun d hd => ?_, pls_noDicts (pls_map (f := Way.d) fun _ _ => pl_wayD), fun d hd => ?_, by rw [List.length_map]; exact hl⟩
  · obtain ⟨a, ha, rfl⟩ := List.mem_map.mp hd
    obtain ⟨b, hb, rfl⟩ := List.mem_map.mp hd'
    rcases univ_cases (h a ha) with rfl | ⟨n, hn, rfl⟩ <;> rcases univ_cases (h b hb) with rfl | ⟨k, hk, rfl⟩ <;> rfl
  · obtain ⟨a, ha, rfl⟩ := List.mem_map.mp hd
    rcases univ_cases (h a ha) with rfl | ⟨n, hn, rfl⟩ <;> exact ⟨_, _, rfl⟩
  · obtain ⟨a, ha, rfl⟩ := List.mem_map.mp hd
    rcases univ_cases (h a ha) with rfl | ⟨n, hn, rfl⟩
    · show (PyData.tuple [.str "nothing"]).depth ≤ 60
      exact Nat.le_trans (depth_tuple (n := 0) (by rw [PyData.depthAll, PyData.depthAll, PyData.depth]; decide)) (by decide)
    · show (PyData.tuple [.str "gives", dNat n]).depth ≤ 60
      exact Nat.le_trans (depth_tuple (n := 0) (by rw [PyData.depthAll, PyData.depthAll, PyData.depthAll, PyData.depth, PyData.depth]; decide)) (by decide)
theorem strict_ext : ∀ {xs ys : List Nat}, xs.Pairwise (· < ·) → ys.Pairwise (· < ·) → (∀ n, n ∈ xs ↔ n ∈ ys) → xs = ys
  | [], [], _, _, _ => rfl
  | [], y :: ys, _, _, h => nomatch (h y).mpr List.mem_cons_self
  | x :: xs, [], _, _, h => nomatch (h x).mp List.mem_cons_self
  | x :: xs, y :: ys, hx, hy, h => by
    obtain ⟨hx1, hx2⟩ := List.pairwise_cons.mp hx
    obtain ⟨hy1, hy2⟩ := List.pairwise_cons.mp hy
    have e : x = y := by
      rcases List.mem_cons.mp ((h x).mp List.mem_cons_self) with h1 | h1
      · exact h1
      · rcases List.mem_cons.mp ((h y).mpr List.mem_cons_self) with h2 | h2
        · exact h2.symm
        · have := hy1 x h1
          have := hx1 y h2
          omega
    subst e
    rw [strict_ext hx2 hy2 fun n => ?_]
    constructor
    · intro hn
      rcases List.mem_cons.mp ((h n).mp (List.mem_cons_of_mem _ hn)) with z | z
      · have := hx1 n hn; omega
      · exact z
    · intro hn
      rcases List.mem_cons.mp ((h n).mpr (List.mem_cons_of_mem _ hn)) with z | z
      · have := hy1 n hn; omega
      · exact z
def numW : Way → Option Nat
  | .gives n => some n
  | _ => none
theorem sorted_nums {p : Pg} (hm : p.m ≤ 16) {f : Way → Nat} {l : List (Way × Nat)} (hc : IsC f l) (hu : ∀ e, 0 < f e → e ∈ univ p) : (sortW (l.map (·.1))).filterMap numW = (List.range p.m).filter fun n => decide (0 < f (.gives n)) := by
  have perm : (sortW (l.map (·.1))).Perm (l.map (·.1)) := List.mergeSort_perm _ _
  have nd : (sortW (l.map (·.1))).Nodup := perm.nodup_iff.mpr hc.nd
  have so : (sortW (l.map (·.1))).Pairwise fun a b => decide (rkW a ≤ rkW b) = true := List.pairwise_mergeSort (le := fun a b => decide (rkW a ≤ rkW b)) (fun a b c h1 h2 => by simp at *; omega) (fun a b => by simp; omega) _
  refine strict_ext ?_ (List.Pairwise.filter _ List.pairwise_lt_range) fun n => ?_
  · refine List.Pairwise.filterMap numW (R := fun a b => rkW a ≤ rkW b ∧ a ≠ b) (fun a b ⟨h1, h2⟩ x hx y hy => ?_) (List.Pairwise.and (so.imp fun h => by simpa using h) nd)
    cases a <;> cases b <;> first | cases hx | skip
    all_goals first | cases hy | skip
    have h1' : x ≤ y := h1
    have : x ≠ y := fun z => h2 (by rw [z])
    omega
  · rw [List.mem_filterMap, List.mem_filter, List.mem_range]
    constructor
    · rintro ⟨w, hw, hn⟩
      cases w with
      | gives k =>
        cases hn
        have := (hc.key (.gives n)).mp (perm.mem_iff.mp hw)
        rcases univ_cases (hu _ this) with z | ⟨j, hj, z⟩
        · cases z
        · cases z; exact ⟨hj, decide_eq_true this⟩
      | nothing => cases hn
      | «at» r s => cases hn
    · rintro ⟨_, hn⟩
      exact ⟨.gives n, perm.mem_iff.mpr ((hc.key _).mpr (of_decide_eq_true hn)), rfl⟩
theorem ansL_eq {p : Pg} {s0 : List Nat} : ansL p s0 = ((List.range p.m).filter fun n => decide (0 < cntOf (ends p (poe p 0 s0)) (.gives n))).map fun n => (n, cntOf (ends p (poe p 0 s0)) (.gives n)) := by
  unfold ansL
  rw [List.filter_map]
  rfl
theorem lcK_in {tg : Tg} {fz : List Nat} {tt : DT} {te : DE} {Q : Op → Sv → Prop} {ds : List D} {e1 : Sv} (h : noIoS (frzS e1 fz) tg.slots)
    (q : dCl tg tt te (fun acc e3 => Q (.tm (.lst acc)) (backS (frzS e1 fz) (unlend (wipeS (frzS e1 fz) tg.slots) e3) tg.slots)) ds [] (lend (wipeS (frzS e1 fz) tg.slots))) : dLcK tg fz tt te Q ds e1 := by
  unfold dLcK
  exact ⟨h, q⟩
theorem vc_answer_counts (as Q E) (h : sp_answer_counts as Q E) : t_answer_counts (defEnds 2 Q) (start0 4 as) := by
  obtain ⟨p, s0, rfl, ⟨hg, hs0, few, h35⟩, hQ⟩ := h
  refine ⟨nd0, p, s0, rfl, ⟨hg, hs0, few, h35⟩, fun l r hc hr => ?_⟩
  have hu : ∀ e, 0 < cntOf (ends p (poe p 0 s0)) e → e ∈ univ p := cnt_univ (ends_univ hg _ _ (Nat.le_refl _) (poe_ok hs0) fun k z => by
    unfold poe at z
    split at z <;> cases z)
  have hw : ∀ w ∈ l.map (·.1), w ∈ univ p := fun w hw => hu w ((hc.key w).mp hw)
  have hsm := hc.small hu
  have hm := hg.bx.m16
  have hk : (cntD l).map (·.1) = (l.map (·.1)).map Way.d := by unfold cntD; rw [List.map_map, List.map_map] <;> rfl
  generalize hS : sortW (l.map (·.1)) = S
  have hSm : ∀ w ∈ S, 0 < cntOf (ends p (poe p 0 s0)) w := fun w z => by
    rw [← hS] at z
    exact (hc.key w).mp ((List.mergeSort_perm _ _).mem_iff.mp z)
  have hSl : S.length ≤ 17 := by
    rw [← hS]
    unfold sortW
    rw [List.length_mergeSort, List.length_map]
    omega
  have hnum := sorted_nums hm hc hu
  rw [hS] at hnum
  -- the comprehension over the sorted ends
  have go : ∀ x2 : Sl, (x2 = .sh (.dict (cntD l)) ∨ x2 = .io (.dct (cntD l))) → ∀ (Q' : List D → Sv → Prop), Q' (((S.filterMap numW).map fun n => PyData.tuple [dNat n, dNat (cntOf (ends p (poe p 0 s0)) (.gives n))])) [.sh p.d, .sh (stD s0), x2, .no] →
      dCl (.nm 3) (dTst (dOp tNe (dRef 3) (dC (.tuple d_NOTHING)))) (dTup [dOp tIx (dRef 3) (dC (.int 1)), dOp tDGet (dRef 2) (dVal 3)]) Q' (S.map Way.d) [] [.sh p.d, .sh (stD s0), x2, .no] := by
    intro x2 hx2 Q' q
    refine cl_vc (J := fun ds acc e => ∃ don left : List Way, S = don ++ left ∧ ds = left.map Way.d ∧ acc = ((don.filterMap numW).map fun n => PyData.tuple [dNat n, dNat (cntOf (ends p (poe p 0 s0)) (.gives n))]) ∧ e = [.sh p.d, .sh (stD s0), x2, .no]) ?_ ?_ _ _ _ ⟨[], S, rfl, rfl, rfl, rfl⟩
    · rintro acc e ⟨don, left, hd, hl, rfl, rfl⟩
      have : left = [] := by
        cases left with
        | nil => rfl
        | cons a l => cases hl
      subst this
      rw [List.append_nil] at hd
      subst hd
      exact q
    · rintro d ds acc e k hk ⟨don, left, hd, hl, rfl, rfl⟩
      cases left with
      | nil => cases hl
      | cons w left =>
        cases hl
        have hwm : w ∈ S := by rw [hd]; simp
        have hpos := hSm w hwm
        have hlk : lookN (cntD l) w.d = some (dNat (cntOf (ends p (poe p 0 s0)) w)) := by rw [hc.look, if_pos hpos]
        have hlen : ((don.filterMap numW).map fun n => PyData.tuple [dNat n, dNat (cntOf (ends p (poe p 0 s0)) (.gives n))]).length < 100000 := by
          rw [List.length_map]
          have h1 := List.length_filterMap_le numW don
          have h2 := congrArg List.length hd
          rw [List.length_append] at h2
          omega
        have now : noOw [.sh p.d, .sh (stD s0), x2, .no] := by
          rcases hx2 with rfl | rfl <;> trivial
        have cnd : noDict w.d = true ∧ noDict (PyData.tuple d_NOTHING) = true ∧ min w.d.depth (PyData.tuple d_NOTHING).depth ≤ 60 :=
          ⟨pl_noDict pl_wayD, rfl, Nat.le_trans (Nat.min_le_right _ _) (Nat.le_trans (depth_tuple (n := 0) (by rw [PyData.depthAll, PyData.depthAll, PyData.depth]; decide)) (by decide))⟩
        refine ⟨now, trivial, cnd, ?_⟩
        have ee : PyData.eqv w.d (.tuple d_NOTHING) = decide (w = .nothing) := eqv_way (b := .nothing)
        rcases univ_cases (hu w hpos) with rfl | ⟨n, hn, rfl⟩
        · exact hk _ _ ⟨don ++ [.nothing], left, by rw [hd]; simp, rfl, by simp [numW], rfl⟩
        · have fin := hk _ [.sh p.d, .sh (stD s0), x2, .no] ⟨don ++ [.gives n], left, by rw [hd]; simp, rfl, rfl, rfl⟩
          rw [List.filterMap_append, List.map_append] at fin
          rcases hx2 with rfl | rfl
          · exact ⟨_, atI_nat (j := 1) rfl, ⟨key_way (w := .gives n), dctD_cnt⟩, _, hlk, l2, hlen, fin⟩
          · exact ⟨_, atI_nat (j := 1) rfl, ⟨key_way (w := .gives n), dctD_cnt⟩, _, hlk, l2, hlen, fin⟩
  have srt : ∀ Q' : Op → Prop, Q' (.tm (.lst (S.map Way.d))) → tSortedU [.dict (cntD l)] Q' := by
    intro Q' q
    unfold tSortedU
    refine ⟨⟨dctD_cnt, ?_⟩, ?_⟩
    · rw [hk]; exact sortOk_ways hm hw (by rw [List.length_map]; omega)
    · rw [hk, sortD_ways hm hw, hS]; exact q
  have fin : Q (.tm (.lst ((S.filterMap numW).map fun n => PyData.tuple [dNat n, dNat (cntOf (ends p (poe p 0 s0)) (.gives n))]))) [] := by
    rw [hnum]
    rw [ansL_eq, List.map_map] at hQ
    exact hQ
  rcases hr with rfl | rfl
  · refine ⟨trivial, srt _ ?_⟩
    exact lcK_in ⟨trivial, trivial⟩ (go _ (.inl rfl) _ fin)
  · refine ⟨trivial, srt _ ?_⟩
    exact lcK_in ⟨trivial, trivial⟩ (go _ (.inr rfl) _ fin)
end DL
/-! the runs of rows, with the store that is left; a program put behind another. -/
namespace DL
open PySem PySem.Spec PyProof.Rows L2 PySem.W
abbrev Rn := List Nat × Option (Nat × List Nat)
def runL (m : Nat) (bs : List Str) : List Row → List Nat → List Rn
  | [], _ => [([], none)]
  | .set b t :: rs, s => runL m bs rs (s.set (bs.idxOf b) (t.worth m bs s))
  | .pick b ts :: rs, s => ts.zipIdx.flatMap fun tk => (runL m bs rs (s.set (bs.idxOf b) (tk.1.worth m bs s))).map fun ce => (tk.2 :: ce.1, ce.2)
  | .need t :: rs, s => if t.worth m bs s = 0 then [([], none)] else runL m bs rs s
  | .skip t n :: rs, s => if t.worth m bs s = 0 then runL m bs rs s else runL m bs (rs.drop n) s
  | .give t :: _, s => [([], some (t.worth m bs s, s))]
termination_by rs => rs.length
decreasing_by all_goals (simp only [List.length_cons, List.length_drop]; omega)
def fgt (ce : Rn) : List Nat × Way := (ce.1, match ce.2 with | some x => .gives x.1 | none => .nothing)
theorem runs_L {p : Pg} (hg : p.good) : ∀ (k r : Nat) (s : List Nat), p.rs.length - r ≤ k → StOk p.m p.bs s → runs p (poe p r s) = (runL p.m p.bs (p.rs.drop r) s).map fgt := by
  intro k
  induction k with
  | zero =>
    intro r s h _
    have : p.rs.length ≤ r := by omega
    rw [List.drop_eq_nil_of_le this, runL]
    unfold poe
    rw [if_pos this]
    rfl
  | succ k ih =>
    intro r s h hs
    by_cases hr : p.rs.length ≤ r
    · rw [List.drop_eq_nil_of_le hr, runL]
      unfold poe
      rw [if_pos hr]
      rfl
    have hr' : r < p.rs.length := by omega
    have e : poe p r s = .at r s := by unfold poe; rw [if_neg hr]
    rw [e, List.drop_eq_getElem_cons hr']
    have hrow : p.rs[r]? = some p.rs[r] := List.getElem?_eq_getElem hr'
    have hok := hg.rows _ (List.getElem_mem hr')
    generalize p.rs[r] = row at hrow hok
    have hw : ways p r s = rowWays p r s row := by unfold ways; rw [hrow]
    have hp : isPick p r = row.isPick := by unfold isPick; rw [hrow]
    cases row with
    | set b t =>
      obtain ⟨w, h1, h2⟩ := runs_one hg hr' hs (hp.trans rfl)
      rw [h2, runL]
      rw [hw] at h1
      cases h1
      exact ih _ _ (by omega) (st_swith hs (wo_lt hg.bx hs hok.2.1))
    | pick b ts =>
      rw [runs_pick hg hr' hs (hp.trans rfl), hw, runL]
      show (ts.map fun t => poe p (r + 1) (swith p s b (wo p s t))).zipIdx.flatMap _ = _
      rw [List.zipIdx_map, List.flatMap_map, List.map_flatMap]
      refine flatMap_cg fun x hx => ?_
      have hx1 := List.fst_mem_of_mem_zipIdx hx
      show (runs p (poe p (r + 1) (swith p s b (wo p s x.1)))).map _ = _
      rw [ih _ _ (by omega) (st_swith hs (wo_lt hg.bx hs (hok.2.2 _ hx1).1)), List.map_map, List.map_map]
      rfl
    | need t =>
      obtain ⟨w, h1, h2⟩ := runs_one hg hr' hs (hp.trans rfl)
      rw [h2, runL]
      rw [hw] at h1
      replace h1 : (if wo p s t = 0 then [Way.nothing] else [poe p (r + 1) s]) = [w] := h1
      by_cases z : wo p s t = 0
      · rw [if_pos z] at h1
        cases h1
        rw [if_pos (show t.worth p.m p.bs s = 0 from z)]
        rfl
      · rw [if_neg z] at h1
        cases h1
        rw [if_neg (show ¬ t.worth p.m p.bs s = 0 from z)]
        exact ih _ _ (by omega) hs
    | skip t n =>
      obtain ⟨w, h1, h2⟩ := runs_one hg hr' hs (hp.trans rfl)
      rw [h2, runL]
      rw [hw] at h1
      replace h1 : [poe p (r + 1 + if wo p s t = 0 then 0 else n) s] = [w] := h1
      by_cases z : wo p s t = 0
      · rw [if_pos z] at h1
        cases h1
        rw [if_pos (show t.worth p.m p.bs s = 0 from z)]
        exact ih _ _ (by omega) hs
      · rw [if_neg z] at h1
        cases h1
        rw [if_neg (show ¬ t.worth p.m p.bs s = 0 from z), List.drop_drop]
        exact ih _ _ (by omega) hs
    | give t =>
      obtain ⟨w, h1, h2⟩ := runs_one hg hr' hs (hp.trans rfl)
      rw [h2, runL]
      rw [hw] at h1
      cases h1
      rfl
theorem runs_L0 {p : Pg} (hg : p.good) {s : List Nat} (hs : StOk p.m p.bs s) : runs p (poe p 0 s) = (runL p.m p.bs p.rs s).map fgt := runs_L hg _ 0 s (Nat.le_refl _) hs
/-- the stores that are left have their length -/
theorem runL_len {m : Nat} {bs : List Str} : ∀ (k : Nat) (rs : List Row) (s : List Nat), rs.length ≤ k → ∀ ce ∈ runL m bs rs s, ∀ v s', ce.2 = some (v, s') → s'.length = s.length := by
  intro k
  induction k with
  | zero =>
    intro rs s h ce hce v s' e
    cases rs with
    | nil => rw [runL] at hce; cases List.mem_singleton.mp hce; cases e
    | cons r rs => cases h
  | succ k ih =>
    intro rs s h ce hce v s' e
    cases rs with
    | nil => rw [runL] at hce; cases List.mem_singleton.mp hce; cases e
    | cons r rs =>
      have h' : rs.length ≤ k := Nat.le_of_succ_le_succ h
      cases r with
      | set b t =>
        rw [runL] at hce
        rw [ih _ _ h' ce hce v s' e, List.length_set]
      | pick b ts =>
        rw [runL] at hce
        obtain ⟨x, _, hx⟩ := List.mem_flatMap.mp hce
        obtain ⟨y, hy, rfl⟩ := List.mem_map.mp hx
        rw [ih _ _ h' y hy v s' e, List.length_set]
      | need t =>
        rw [runL] at hce
        split at hce
        · cases List.mem_singleton.mp hce; cases e
        · exact ih _ _ h' ce hce v s' e
      | skip t n =>
        rw [runL] at hce
        split at hce
        · exact ih _ _ h' ce hce v s' e
        · exact ih _ _ (by rw [List.length_drop]; omega) ce hce v s' e
      | give t =>
        rw [runL] at hce
        cases List.mem_singleton.mp hce
        cases e
        rfl
theorem wides_pos {m : Nat} {bs : List Str} : ∀ {rs : List Row}, (∀ r ∈ rs, r.ok m bs) → 1 ≤ wides rs
  | [], _ => Nat.le_refl _
  | r :: rs, h => by
    have h1 := wides_pos fun x hx => h x (List.mem_cons_of_mem _ hx)
    have h2 : 1 ≤ r.wide := by
      have := h r List.mem_cons_self
      cases r with
      | pick b ts => exact this.2.1.1
      | set b t => exact Nat.le_refl _
      | need t => exact Nat.le_refl _
      | skip t n => exact Nat.le_refl _
      | give t => exact Nat.le_refl _
    show 1 ≤ r.wide * wides rs
    exact Nat.mul_pos h2 h1
theorem wides_drop {m : Nat} {bs : List Str} {rs : List Row} (h : ∀ r ∈ rs, r.ok m bs) : ∀ n, wides (rs.drop n) ≤ wides rs := by
  induction rs with
  | nil => intro n; rw [List.drop_nil]; exact Nat.le_refl _
  | cons r rs ih =>
    intro n
    cases n with
    | zero => exact Nat.le_refl _
    | succ n =>
      have h1 := ih (fun x hx => h x (List.mem_cons_of_mem _ hx)) n
      have h2 : 1 ≤ wides [r] := wides_pos fun x hx => by rw [List.mem_singleton.mp hx]; exact h r List.mem_cons_self
      replace h2 : 1 ≤ r.wide * 1 := h2
      show wides (rs.drop n) ≤ r.wide * wides rs
      exact Nat.le_trans h1 (Nat.le_mul_of_pos_left _ (by omega))
theorem sum_le_mul {α : Type} {f : α → Nat} {c : Nat} : ∀ {l : List α}, (∀ x ∈ l, f x ≤ c) → (l.map f).sum ≤ l.length * c
  | [], _ => Nat.zero_le _
  | x :: l, h => by
    have h1 := sum_le_mul fun y hy => h y (List.mem_cons_of_mem _ hy)
    have h2 := h x List.mem_cons_self
    rw [List.map_cons, List.sum_cons, List.length_cons, Nat.succ_mul]
    omega
theorem runL_wide {m : Nat} {bs : List Str} : ∀ (k : Nat) (rs : List Row) (s : List Nat), rs.length ≤ k → (∀ r ∈ rs, r.ok m bs) → (runL m bs rs s).length ≤ wides rs := by
  intro k
  induction k with
  | zero =>
    intro rs s h _
    cases rs with
    | nil => rw [runL]; exact Nat.le_refl _
    | cons r rs => cases h
  | succ k ih =>
    intro rs s h ok
    cases rs with
    | nil => rw [runL]; exact Nat.le_refl _
    | cons r rs =>
      have h' : rs.length ≤ k := Nat.le_of_succ_le_succ h
      have ok' : ∀ r ∈ rs, r.ok m bs := fun x hx => ok x (List.mem_cons_of_mem _ hx)
      show _ ≤ r.wide * wides rs
      cases r with
      | set b t =>
        rw [runL]
        show _ ≤ 1 * wides rs
        rw [Nat.one_mul]
        exact ih _ _ h' ok'
      | pick b ts =>
        rw [runL, List.length_flatMap]
        show _ ≤ ts.length * wides rs
        refine Nat.le_trans (sum_le_mul (c := wides rs) fun x _ => ?_) (by rw [List.length_zipIdx]; exact Nat.le_refl _)
        rw [List.length_map]
        exact ih _ _ h' ok'
      | need t =>
        rw [runL]
        show _ ≤ 1 * wides rs
        rw [Nat.one_mul]
        split
        · exact wides_pos ok'
        · exact ih _ _ h' ok'
      | skip t n =>
        rw [runL]
        show _ ≤ 1 * wides rs
        rw [Nat.one_mul]
        split
        · exact ih _ _ h' ok'
        · exact Nat.le_trans (ih _ _ (by rw [List.length_drop]; omega) fun x hx => ok' x (List.mem_of_mem_drop hx)) (wides_drop ok' n)
      | give t =>
        rw [runL]
        show _ ≤ 1 * wides rs
        rw [Nat.one_mul]
        exact wides_pos ok'
end DL
/-! one program put behind another: what the defs promise. -/
namespace DL
open PySem PySem.Spec PyProof.Rows L2
def Row.gi : Row → Nat
  | .give _ => 1
  | _ => 0
def spot (rows : List Row) (i : Nat) : Nat := ((rows.take i).map fun r => 1 + r.gi).sum
def spots (rows : List Row) : List Nat := (List.range (rows.length + 1)).map (spot rows)
def rowsD (rows : List Row) : D := .list (rows.map Row.d)
def skipBy (t : Th) (many : Nat) (bs : List Str) : Row := if many = 0 then .set (bs.headD "") (.box (bs.headD "")) else .skip t many
def rowAnew (rows : List Row) (at_ : Nat) (box : Str) (bs : List Str) : List Row := match rows[at_]? with
  | some (.give t) => [.set box t, .skip (.num 1) (spot rows rows.length - spot rows at_ - 1)]
  | some (.skip t n) => [skipBy t (spot rows (min (at_ + 1 + n) rows.length) - spot rows at_ - 1) bs]
  | some r => [r]
  | none => []
def putRows (p q : Pg) (box : Str) : List Row := (List.range p.rs.length).flatMap (fun i => rowAnew p.rs i box p.bs) ++ [.need (.num 0)] ++ q.rs
def putAfter (p q : Pg) (box : Str) : Pg := ⟨p.m, p.bs, putRows p q box⟩
def sp_need_alike : FS := fun as Q E => ∃ p q : Pg, as = [.sh p.d, .sh q.d] ∧ (p.m = q.m ∧ p.bs = q.bs) ∧ Q (.vl .none) []
def sp_spots_behind : FS := fun as Q E => ∃ rows : List Row, as = [.sh (rowsD rows)] ∧ rows.length ≤ 1000 ∧ Q (.tm (nats (spots rows))) []
def sp_skip_by : FS := fun as Q E => ∃ (t : Th) (many : Nat) (bs : List Str), as = [.sh t.d, .sh (dNat many), .sh (bxD bs)] ∧ bs ≠ [] ∧ Q (.vl (skipBy t many bs).d) []
def sp_copied_row : FS := fun as Q E => ∃ r : Row, as = [.sh r.d] ∧ Q (.vl r.d) []
def sp_row_anew : FS := fun as Q E => ∃ (rows : List Row) (at_ : Nat) (box : Str) (bs : List Str), as = [.sh (rowsD rows), .sh (dNat at_), .sh (.list ((spots rows).map dNat)), .sh (.str box), .sh (bxD bs)] ∧ (at_ < rows.length ∧ bs ≠ []) ∧
  Q (.tm (.lst ((rowAnew rows at_ box bs).map Row.d))) []
def sp_put_after : FS := fun as Q E => ∃ (p q : Pg) (box : Str), as = [.sh p.d, .sh q.d, .sh (.str box)] ∧ (p.m = q.m ∧ p.bs = q.bs ∧ box ∈ p.bs ∧ BxOk p.m p.bs ∧ spot p.rs p.rs.length + 1 + q.rs.length ≤ 30) ∧ Q (.vl (putAfter p q box).d) []
/- N: 0=one 1=other -/
def t_need_alike : DS := dIf (dOr (dTst (dOp tNe (dOp tIx (dRef 0) (dC (.int 0))) (dOp tIx (dRef 1) (dC (.int 0))))) (dTst (dOp tNe (dOp tIx (dRef 0) (dC (.int 1))) (dOp tIx (dRef 1) (dC (.int 1)))))) (dNever) (dNext)

/- N: 0=rows 1=found 2=row -/
def t_spots_behind_1 : DS := dRet (dMov 1)
def t_spots_behind_2 : DS := dSeq (dFor (dSeqI (dVal 0)) (.nm 2) (dDrop (dApp 1 (dOp tAdd (dOp tAdd (dOp tIx (dRef 1) (dUn tNeg (dC (.int 1)))) (dC (.int 1))) (dCB tInt1 [dOp tEq (dOp tIx (dRef 2) (dC (.int 0))) (dC (.str "give"))]))))) t_spots_behind_1
def t_spots_behind : DS := dSeq (dSet 1 (dLst [dC (.int 0)])) t_spots_behind_2

/- N: 0=thing 1=many 2=boxes -/
def t_skip_by_1 : DS := dRet (dTup [dC (.str "skip"), dVal 0, dVal 1])
def t_skip_by : DS := dSeq (dIf (dTst (dOp tEq (dRef 1) (dC (.int 0)))) (dRet (dTup [dC (.str "set"), dOp tIx (dRef 2) (dC (.int 0)), dTup [dC (.str "box"), dOp tIx (dRef 2) (dC (.int 0))]])) (dNext)) t_skip_by_1

/- N: 0=row -/
def t_copied_row_1 : DS := dRet (dMov 0)
def t_copied_row : DS := dSeq (dIf (dTst (dOp tEq (dOp tIx (dRef 0) (dC (.int 0))) (dC (.str "pick")))) (dRet (dTup [dC (.str "pick"), dOp tIx (dRef 0) (dC (.int 1)), dCB tListU [dOp tIx (dRef 0) (dC (.int 2))]])) (dNext)) t_copied_row_1

/- N: 0=rows 1=at 2=spots 3=box 4=boxes 5=row 6=last -/
def t_row_anew_1 : DS := dRet (dLst [dCall sp_copied_row [dVal 5]])
def t_row_anew_2 : DS := dSeq (dIf (dTst (dOp tEq (dOp tIx (dRef 5) (dC (.int 0))) (dC (.str "skip")))) (dRet (dLst [dCall sp_skip_by [dOp tIx (dRef 5) (dC (.int 1)), dOp (tI0 (· - ·)) (dOp (tI0 (· - ·)) (dOp tIx (dRef 2) (dCB (tMM mn2) [dOp tAdd (dOp tAdd (dRef 1) (dC (.int 1))) (dOp tIx (dRef 5) (dC (.int 2))), dCB tLenU [dRef 0]])) (dOp tIx (dRef 2) (dVal 1))) (dC (.int 1)), dVal 4]])) (dNext)) t_row_anew_1
def t_row_anew_3 : DS := dSeq (dIf (dTst (dOp tEq (dOp tIx (dRef 5) (dC (.int 0))) (dC (.str "give")))) (dRet (dLst [dTup [dC (.str "set"), dVal 3, dOp tIx (dRef 5) (dC (.int 1))], dTup [dC (.str "skip"), dTup [dC (.str "number"), dC (.int 1)], dOp (tI0 (· - ·)) (dOp (tI0 (· - ·)) (dRef 6) (dOp tIx (dRef 2) (dVal 1))) (dC (.int 1))]])) (dNext)) t_row_anew_2
def t_row_anew_4 : DS := dSeq (dSet 6 (dOp tIx (dRef 2) (dUn tNeg (dC (.int 1))))) t_row_anew_3
def t_row_anew : DS := dSeq (dSet 5 (dOp tIx (dRef 0) (dVal 1))) t_row_anew_4

/- N: 0=one 1=other 2=box 3=spots 4=rows 5=at 6=row -/
def t_put_after_1 : DS := dRet (dTup [dOp tIx (dRef 0) (dC (.int 0)), dCB tListU [dOp tIx (dRef 0) (dC (.int 1))], dOp tAdd (dRef 4) (dLc (dSeqI (dOp tIx (dRef 1) (dC (.int 2)))) (.nm 6) [] (dYes) (dCall sp_copied_row [dVal 6]))])
def t_put_after_2 : DS := dSeq (dDrop (dApp 4 (dTup [dC (.str "need"), dTup [dC (.str "number"), dC (.int 0)]]))) t_put_after_1
def t_put_after_3 : DS := dSeq (dFor (dRng1 [dCB tLenU [dOp tIx (dRef 0) (dC (.int 2))]]) (.nm 5) (dDrop (dExt 4 (dCall sp_row_anew [dOp tIx (dRef 0) (dC (.int 2)), dVal 5, dVal 3, dVal 2, dOp tIx (dRef 0) (dC (.int 1))])))) t_put_after_2
def t_put_after_4 : DS := dSeq (dSet 4 (dLst [])) t_put_after_3
def t_put_after_5 : DS := dSeq (dIf (dTst (dOp (tB0 fun i j => decide (j < i)) (dOp tAdd (dOp tAdd (dOp tIx (dRef 3) (dUn tNeg (dC (.int 1)))) (dC (.int 1))) (dCB tLenU [dOp tIx (dRef 1) (dC (.int 2))])) (dC (.int 30)))) (dNever) (dNext)) t_put_after_4
def t_put_after_6 : DS := dSeq (dSet 3 (dCall sp_spots_behind [dOp tIx (dRef 0) (dC (.int 2))])) t_put_after_5
def t_put_after_7 : DS := dSeq (dIf (dOr (dNot (dTst (dIsi "str" (dRef 2)))) (dTst (dOp (tInB true) (dRef 2) (dOp tIx (dRef 0) (dC (.int 1)))))) (dNever) (dNext)) t_put_after_6
def t_put_after : DS := dSeq (dDrop (dCall sp_need_alike [dVal 0, dVal 1])) t_put_after_7

theorem pl_bxD {bs : List Str} : pl (bxD bs) = true := pls_map (f := PyData.str) fun _ _ => rfl
theorem dep_bxD {bs : List Str} : (bxD bs).depth ≤ 1 := depth_list (depthAll_map (f := PyData.str) fun _ _ => by rw [PyData.depth]; exact Nat.le_refl _)
theorem vc_need_alike (as Q E) (h : sp_need_alike as Q E) : t_need_alike (defEnds 2 Q) (start0 2 as) := by
  obtain ⟨p, q, rfl, ⟨h1, h2⟩, hQ⟩ := h
  refine ⟨_, atI_nat (j := 0) rfl, _, atI_nat (j := 0) rfl, eqI, ?_⟩
  refine ite_vc (fun h => ?_) (fun _ => ?_)
  · rw [eqv_int, h1] at h; simp at h
  refine ⟨_, atI_nat (j := 1) rfl, _, atI_nat (j := 1) rfl, ⟨pl_noDict pl_bxD, pl_noDict pl_bxD, Nat.le_trans (Nat.min_le_left _ _) (Nat.le_trans dep_bxD (by decide))⟩, ?_⟩
  refine ite_vc (fun h => ?_) (fun _ => hQ)
  have h' : (!PyData.eqv (bxD p.bs) (bxD q.bs)) = true := h
  rw [h2, (eqv_pl pl_bxD pl_bxD).mpr rfl] at h'
  cases h'
theorem spot_succ {rows : List Row} {r : Row} : spots (rows ++ [r]) = spots rows ++ [spot rows rows.length + 1 + r.gi] := by
  unfold spots
  rw [List.length_append, List.length_singleton, List.range_succ, List.map_append, List.map_singleton]
  congr 1
  · refine List.map_congr_left fun i hi => ?_
    have := List.mem_range.mp hi
    unfold spot
    rw [List.take_append_of_le_length (by omega)]
  · unfold spot
    rw [List.take_of_length_le (by simp), List.take_of_length_le (by simp)]
    simp [Nat.add_assoc]
theorem spots_last {rows : List Row} : spots rows = ((List.range rows.length).map (spot rows)) ++ [spot rows rows.length] := by
  unfold spots
  rw [List.range_succ, List.map_append, List.map_singleton]
theorem ixLast {rows : List Row} : atI ((spots rows).map dNat) (-1) = some (dNat (spot rows rows.length)) := by
  rw [spots_last, List.map_append]
  exact atI_last _ _
theorem spots_len {rows : List Row} : (spots rows).length = rows.length + 1 := by simp [spots]
theorem ixSpot {rows : List Row} {i : Nat} (h : i ≤ rows.length) : atI ((spots rows).map dNat) (i : Int) = some (dNat (spot rows i)) := by
  refine atI_nat ?_
  unfold spots
  rw [List.map_map, List.getElem?_map, List.getElem?_range (by omega)]
  rfl
theorem spot_mono {rows : List Row} {i j : Nat} (h : i < j) (hj : j ≤ rows.length) : spot rows i + 1 ≤ spot rows j := by
  unfold spot
  obtain ⟨k, rfl⟩ : ∃ k, j = i + 1 + k := ⟨j - (i + 1), by omega⟩
  have e : rows.take (i + 1 + k) = rows.take (i + 1) ++ (rows.drop (i + 1)).take k := by rw [List.take_add]
  have e2 : rows.take (i + 1) = rows.take i ++ [rows[i]] := by rw [List.take_succ_eq_append_getElem]
  rw [e, e2, List.map_append, List.map_append, List.sum_append, List.sum_append]
  simp
  omega
theorem gi_int (w : Str) (r : Row) (rest : List D) (h : r.d = .tuple (.str w :: rest)) : (if PyData.eqv (.str w) (.str "give") = true then (1 : Int) else 0) = (r.gi : Int) := by
  rw [eqv_str]
  cases r <;> (cases h; first | rfl | (rw [decide_eq_false (by decide +kernel)] <;> rfl) | (rw [decide_eq_true rfl] <;> rfl))
theorem row_word (r : Row) : ∃ (w : Str) (rest : List D), r.d = .tuple (.str w :: rest) := by cases r <;> exact ⟨_, _, rfl⟩
theorem vc_spots_behind (as Q E) (h : sp_spots_behind as Q E) : t_spots_behind (defEnds 1 Q) (start0 3 as) := by
  obtain ⟨rows, rfl, hl, hQ⟩ := h
  refine ⟨l1, trivial, ?_⟩
  refine loop_vc (J := fun ds e => ∃ (done left : List Row) (x2 : Sl), rows = done ++ left ∧ ds = left.map Row.d ∧ nio x2 ∧ e = [.sh (rowsD rows), .ow (nats (spots done)), x2]) ?_ ?_ _ _ ⟨[], rows, .no, rfl, rfl, trivial, rfl⟩
  · rintro e ⟨done, left, x2, hd, hl', _, rfl⟩
    have : left = [] := by
      cases left with
      | nil => rfl
      | cons a l => cases hl'
    subst this
    rw [List.append_nil] at hd
    subst hd
    exact hQ
  · rintro d ds e k hk ⟨done, left, x2, hd, hl', n2, rfl⟩
    cases left with
    | nil => cases hl'
    | cons r left =>
      cases hl'
      refine ⟨ni rfl n2, ⟨_, rfl⟩, _, ixLast, ?_⟩
      have hk' := hk [.sh (rowsD rows), .ow (nats (spots (done ++ [r]))), .sh r.d] ⟨done ++ [r], left, .sh r.d, by rw [hd]; simp, rfl, trivial, rfl⟩
      obtain ⟨w, rest, er⟩ := row_word r
      have eg := gi_int w r rest er
      rw [er] at hk' ⊢
      refine ⟨_, atI_nat (j := 0) rfl, eqS, _, rfl, ?_, ?_⟩
      · have := congrArg List.length hd
        rw [List.length_append, List.length_cons] at this
        rw [List.length_map, spots_len]
        omega
      · have e : (nats (spots (done ++ [r]))) = .lst ((spots done).map dNat ++ [.int ((spot done done.length : Int) + 1 + (if PyData.eqv (.str w) (.str "give") = true then (1 : Int) else 0))]) := by
          rw [eg, spot_succ]
          unfold nats
          rw [List.map_append, List.map_singleton]
          rfl
        rw [e] at hk'
        exact hk'
theorem vc_skip_by (as Q E) (h : sp_skip_by as Q E) : t_skip_by (defEnds 3 Q) (start0 3 as) := by
  obtain ⟨t, many, bs, rfl, hb, hQ⟩ := h
  unfold skipBy at hQ
  refine ⟨eqI, ite_vc (fun h => ?_) (fun h => ?_)⟩
  · rw [eqv_int] at h
    rw [if_pos (by simpa using h)] at hQ
    obtain ⟨b, l, rfl⟩ : ∃ b l, bs = b :: l := by
      cases bs with
      | nil => exact absurd rfl hb
      | cons b l => exact ⟨b, l, rfl⟩
    exact ⟨_, atI_nat (j := 0) rfl, _, atI_nat (j := 0) rfl, l2, l3, hQ⟩
  · rw [eqv_int] at h
    rw [if_neg (by simpa using h)] at hQ
    exact ⟨l3, hQ⟩
theorem vc_copied_row (as Q E) (h : sp_copied_row as Q E) : t_copied_row (defEnds 1 Q) (start0 1 as) := by
  obtain ⟨r, rfl, hQ⟩ := h
  cases r with
  | set b t => exact ⟨_, atI_nat (j := 0) rfl, eqS, hQ⟩
  | pick b ts => exact ⟨_, atI_nat (j := 0) rfl, eqS, _, atI_nat (j := 1) rfl, _, atI_nat (j := 2) rfl, l3, hQ⟩
  | need t => exact ⟨_, atI_nat (j := 0) rfl, eqS, hQ⟩
  | skip t n => exact ⟨_, atI_nat (j := 0) rfl, eqS, hQ⟩
  | give t => exact ⟨_, atI_nat (j := 0) rfl, eqS, hQ⟩
theorem vc_row_anew (as Q E) (h : sp_row_anew as Q E) : t_row_anew (defEnds 5 Q) (start0 7 as) := by
  obtain ⟨rows, at_, box, bs, rfl, ⟨hat, hb⟩, hQ⟩ := h
  have hm := spot_mono (rows := rows) hat (Nat.le_refl _)
  unfold rowAnew at hQ
  rw [List.getElem?_eq_getElem hat] at hQ
  refine ⟨rows[at_].d, atI_nat (by simp [hat]), trivial, _, ixLast, trivial, ?_⟩
  generalize rows[at_] = row at hQ ⊢
  show t_row_anew_3 (defEnds 5 Q) [.sh (rowsD rows), .sh (dNat at_), .sh (.list ((spots rows).map dNat)), .sh (.str box), .sh (bxD bs), .sh row.d, .sh (dNat (spot rows rows.length))]
  cases row with
  | set b t => exact ⟨_, atI_nat (j := 0) rfl, eqS, _, atI_nat (j := 0) rfl, eqS, nd0, .set b t, rfl, l1, hQ⟩
  | pick b ts => exact ⟨_, atI_nat (j := 0) rfl, eqS, _, atI_nat (j := 0) rfl, eqS, nd0, .pick b ts, rfl, l1, hQ⟩
  | need t => exact ⟨_, atI_nat (j := 0) rfl, eqS, _, atI_nat (j := 0) rfl, eqS, nd0, .need t, rfl, l1, hQ⟩
  | skip t n =>
    refine ⟨_, atI_nat (j := 0) rfl, eqS, _, atI_nat (j := 0) rfl, eqS, _, atI_nat (j := 1) rfl, _, atI_nat (j := 2) rfl, ?_⟩
    have emn : mn2 ((at_ : Int) + 1 + (n : Int)) ((rows.map Row.d).length : Int) = ((min (at_ + 1 + n) rows.length : Nat) : Int) := by
      rw [List.length_map]; unfold mn2; split <;> omega
    have hix := ixSpot (rows := rows) (i := min (at_ + 1 + n) rows.length) (Nat.min_le_right _ _)
    rw [← emn] at hix
    refine ⟨_, hix, _, ixSpot (Nat.le_of_lt hat), nd0, t, spot rows (min (at_ + 1 + n) rows.length) - spot rows at_ - 1, bs, ?_, hb, l1, hQ⟩
    have h1 := spot_mono (rows := rows) (i := at_) (j := min (at_ + 1 + n) rows.length) (by omega) (Nat.min_le_right _ _)
    show [Sl.sh t.d, .sh (.int ((spot rows (min (at_ + 1 + n) rows.length) : Int) - (spot rows at_ : Int) - 1)), .sh (bxD bs)] = _
    rw [show (spot rows (min (at_ + 1 + n) rows.length) : Int) - (spot rows at_ : Int) - 1 = ((spot rows (min (at_ + 1 + n) rows.length) - spot rows at_ - 1 : Nat) : Int) by omega]
  | give t =>
    refine ⟨_, atI_nat (j := 0) rfl, eqS, _, atI_nat (j := 1) rfl, l3, l2, _, ixSpot (Nat.le_of_lt hat), l3, l2, ?_⟩
    have e : dNat (spot rows rows.length - spot rows at_ - 1) = .int ((spot rows rows.length : Int) - (spot rows at_ : Int) - 1) := by
      unfold dNat
      rw [show (spot rows rows.length : Int) - (spot rows at_ : Int) - 1 = ((spot rows rows.length - spot rows at_ - 1 : Nat) : Int) by omega]
    have hQ' : Q (.tm (.lst [.tuple [.str "set", .str box, t.d], .tuple [.str "skip", .tuple [.str "number", .int 1], dNat (spot rows rows.length - spot rows at_ - 1)]])) [] := hQ
    rw [e] at hQ'
    exact hQ'
theorem anew_len {rows : List Row} {i : Nat} {box : Str} {bs : List Str} : (rowAnew rows i box bs).length ≤ 2 := by
  unfold rowAnew
  split <;> simp
theorem anews_len {rows : List Row} {box : Str} {bs : List Str} : ∀ (l : List Nat), (l.flatMap fun i => rowAnew rows i box bs).length ≤ 2 * l.length
  | [] => Nat.le_refl _
  | a :: l => by
    rw [List.flatMap_cons, List.length_append, List.length_cons]
    have h1 := anews_len (rows := rows) (box := box) (bs := bs) l
    have h2 := anew_len (rows := rows) (i := a) (box := box) (bs := bs)
    omega
theorem spot_ge {rows : List Row} : rows.length ≤ spot rows rows.length := by
  unfold spot
  rw [List.take_length]
  induction rows with
  | nil => exact Nat.le_refl _
  | cons r rows ih => rw [List.map_cons, List.sum_cons, List.length_cons]; omega
theorem any_box {bs : List Str} {b : Str} : ((bs.map PyData.str).any fun d => PyData.eqv d (.str b)) = decide (b ∈ bs) := by
  induction bs with
  | nil => rfl
  | cons c bs ih =>
    rw [List.map_cons, List.any_cons, ih, eqv_str]
    by_cases h : c = b
    · subst h; simp
    · have h' : ¬ b = c := fun z => h z.symm
      simp [h, h']
theorem all_atom {bs : List Str} : (bs.map PyData.str).all atom = true := by
  rw [List.all_eq_true]
  intro d hd
  obtain ⟨x, _, rfl⟩ := List.mem_map.mp hd
  rfl
theorem noOw_of : ∀ {e : Sv}, (∀ s ∈ e, ∀ o, s ≠ Sl.ow o) → noOw e
  | [], _ => trivial
  | s :: e, h => by
    have ih : noOw e := noOw_of fun x hx => h x (List.mem_cons_of_mem _ hx)
    cases s with
    | ow o => exact absurd rfl (h _ List.mem_cons_self o)
    | no => exact ih
    | sh d => exact ih
    | io o => exact ih
theorem lend1_no {x : Sl} {o : OD} : lend1 x ≠ Sl.ow o := by cases x <;> exact fun z => nomatch z
theorem vc_put_after (as Q E) (h : sp_put_after as Q E) : t_put_after (defEnds 3 Q) (start0 7 as) := by
  obtain ⟨p, q, box, rfl, ⟨h1, h2, hbm, hb, h30⟩, hQ⟩ := h
  have hge := spot_ge (rows := p.rs)
  refine ⟨nd0, p, q, rfl, ⟨h1, h2⟩, ?_⟩
  refine ⟨rfl, true, kit_ss, ?_⟩
  refine ⟨_, atI_nat (j := 1) rfl, ⟨rfl, all_atom⟩, ?_⟩
  refine ite_vc (fun h => ?_) (fun _ => ?_)
  · have h' : (!((p.bs.map PyData.str).any fun d => PyData.eqv d (.str box))) = true := h
    rw [any_box, decide_eq_true hbm] at h'
    cases h'
  show t_put_after_6 (defEnds 3 Q) [.sh p.d, .sh q.d, .sh (.str box), .no, .no, .no, .no]
  refine ⟨_, atI_nat (j := 2) rfl, nd0, p.rs, rfl, by omega, trivial, _, ixLast, _, atI_nat (j := 2) rfl, ?_⟩
  refine ite_vc (fun h => ?_) (fun _ => ?_)
  · have h' : (30 : Int) < (spot p.rs p.rs.length : Int) + 1 + ((q.rs.map Row.d).length : Int) := of_decide_eq_true h
    rw [List.length_map] at h'
    omega
  refine ⟨l0, trivial, ?_⟩
  show t_put_after_3 (defEnds 3 Q) [.sh p.d, .sh q.d, .sh (.str box), .ow (nats (spots p.rs)), .ow (.lst []), .no, .no]
  refine ⟨_, atI_nat (j := 2) rfl, by rw [List.length_map]; omega, by rw [List.length_map]; omega, ?_⟩
  show dLoop (.nm 5) _ _ (rngD 0 (((p.rs.map Row.d).length : Int)).toNat) _
  have en : (((p.rs.map Row.d).length : Int)).toNat = p.rs.length := by rw [List.length_map]; omega
  rw [en]
  refine rng_vc (J := fun i e => ∃ x3 x5 : Sl, nio x5 ∧ (x3 = .ow (nats (spots p.rs)) ∨ x3 = .sh (.list ((spots p.rs).map dNat))) ∧
    e = [.sh p.d, .sh q.d, .sh (.str box), x3, .ow (.lst (((List.range i).flatMap fun i => rowAnew p.rs i box p.bs).map Row.d)), x5, .no]) ⟨_, .no, trivial, .inl rfl, rfl⟩ ?_ ?_
  · rintro e ⟨x3, x5, n5, hx3, rfl⟩
    have hn := anews_len (rows := p.rs) (box := box) (bs := p.bs) (List.range p.rs.length)
    rw [List.length_range] at hn
    refine ⟨⟨_, rfl⟩, l2, l2, _, rfl, by rw [List.length_map]; omega, ?_⟩
    generalize hA : (List.range p.rs.length).flatMap (fun i => rowAnew p.rs i box p.bs) = A at hn
    have hput : putRows p q box = A ++ [Row.need (.num 0)] ++ q.rs := by unfold putRows; rw [hA]
    have go : ∀ x3' : Sl, nio x3' → t_put_after_1 (defEnds 3 Q) [.sh p.d, .sh q.d, .sh (.str box), x3', .ow (.lst ((A ++ [Row.need (.num 0)]).map Row.d)), x5, .no] := by
      intro x3' n3
      refine ⟨_, atI_nat (j := 0) rfl, _, atI_nat (j := 1) rfl, _, atI_nat (j := 2) rfl, ?_⟩
      refine lc_vc (J := fun ds acc e => ∃ done left : List Row, q.rs = done ++ left ∧ ds = left.map Row.d ∧ acc = done.map Row.d ∧
        e = [.sh p.d, .sh q.d, .sh (.str box), lend1 x3', .io (.lst ((A ++ [Row.need (.num 0)]).map Row.d)), lend1 x5, .no]) _ ⟨trivial, trivial⟩ rfl ⟨[], q.rs, rfl, rfl, rfl, rfl⟩ ?_ ?_
      · rintro acc e ⟨done, left, hd, hl', rfl, rfl⟩
        have : left = [] := by
          cases left with
          | nil => rfl
          | cons a l => cases hl'
        subst this
        rw [List.append_nil] at hd
        refine ⟨[.sh p.d, .sh q.d, .sh (.str box), unl1 x3' (lend1 x3'), .ow (.lst ((A ++ [Row.need (.num 0)]).map Row.d)), unl1 x5 (lend1 x5), .no], rfl, ?_, l3, ?_⟩
        · rw [List.length_map, List.length_map, List.length_append, List.length_singleton, ← hd]
          omega
        · have e : (putAfter p q box).d = .tuple [dNat p.m, bxD p.bs, .list ((A ++ [Row.need (.num 0)]).map Row.d ++ done.map Row.d)] := by
            unfold putAfter Pg.d
            dsimp only
            rw [hput, hd, List.map_append (l₁ := A ++ [Row.need (.num 0)])]
          rw [e] at hQ
          exact hQ
      · rintro d ds acc e k hk ⟨done, left, hd, hl', rfl, rfl⟩
        cases left with
        | nil => cases hl'
        | cons r left =>
          cases hl'
          refine ⟨noOw_of fun s hs o => ?_, trivial, nd0, r, rfl, ?_, hk _ _ ⟨done ++ [r], left, by rw [hd]; simp, rfl, by simp, rfl⟩⟩
          · simp only [List.mem_cons, List.not_mem_nil, or_false] at hs
            rcases hs with rfl | rfl | rfl | rfl | rfl | rfl | rfl <;> first | exact lend1_no | (intro z; cases z)
          · have := congrArg List.length hd
            rw [List.length_append, List.length_cons] at this
            rw [List.length_map]
            omega
    have := go x3 (by rcases hx3 with rfl | rfl <;> trivial)
    rw [List.map_append] at this
    exact this
  · rintro i e k hi hk ⟨x3, x5, n5, hx3, rfl⟩
    have step : ∀ x3' : Sl, (x3' = .ow (nats (spots p.rs)) ∨ x3' = .sh (.list ((spots p.rs).map dNat))) → (dDrop (dExt 4 (dCall sp_row_anew [dOp tIx (dRef 0) (dC (.int 2)), dVal 5, dVal 3, dVal 2, dOp tIx (dRef 0) (dC (.int 1))]))) { nx := k, rt := rtQ 3 Q, ct := k, bk := fun _ => True }
        [.sh p.d, .sh q.d, .sh (.str box), x3', .ow (.lst (((List.range i).flatMap fun i => rowAnew p.rs i box p.bs).map Row.d)), .sh (.int (0 + (i : Int))), .no] := by
      intro x3' h3
      have hn := anews_len (rows := p.rs) (box := box) (bs := p.bs) (List.range i)
      rw [List.length_range] at hn
      have hn2 := anew_len (rows := p.rs) (i := i) (box := box) (bs := p.bs)
      have fin : ∀ x3'' : Sl, (x3'' = .sh (.list ((spots p.rs).map dNat))) → k [.sh p.d, .sh q.d, .sh (.str box), x3'', .ow (.lst (((List.range i).flatMap fun i => rowAnew p.rs i box p.bs).map Row.d ++ (rowAnew p.rs i box p.bs).map Row.d)), .sh (.int (0 + (i : Int))), .no] := by
        intro x3'' h3''
        refine hk _ ⟨x3'', .sh (.int (0 + (i : Int))), trivial, .inr h3'', ?_⟩
        rw [← List.map_append, List.range_succ, List.flatMap_append]
        simp
      rcases h3 with rfl | rfl
      · refine ⟨⟨_, rfl⟩, _, atI_nat (j := 2) rfl, _, atI_nat (j := 1) rfl, nd0, p.rs, i, box, p.bs, ?_, ⟨hi, hb.ne⟩, _, _, rfl, rfl, by rw [List.length_map, List.length_map]; omega, fin _ rfl⟩
        show [Sl.sh (rowsD p.rs), .sh (.int (0 + (i : Int))), .sh (.list ((spots p.rs).map dNat)), .sh (.str box), .sh (bxD p.bs)] = _
        rw [Int.zero_add]
      · refine ⟨⟨_, rfl⟩, _, atI_nat (j := 2) rfl, _, atI_nat (j := 1) rfl, nd0, p.rs, i, box, p.bs, ?_, ⟨hi, hb.ne⟩, _, _, rfl, rfl, by rw [List.length_map, List.length_map]; omega, fin _ rfl⟩
        show [Sl.sh (rowsD p.rs), .sh (.int (0 + (i : Int))), .sh (.list ((spots p.rs).map dNat)), .sh (.str box), .sh (bxD p.bs)] = _
        rw [Int.zero_add]
    refine ⟨ni rfl n5, ?_⟩
    exact step x3 hx3
end DL
/-! the runs of a program put behind another. -/
namespace DL
open PySem PySem.Spec PyProof.Rows L2 PySem.W
def tl (p q : Pg) (box : Str) (r : Nat) : List Row := ((List.range p.rs.length).drop r).flatMap (fun i => rowAnew p.rs i box p.bs) ++ (.need (.num 0) :: q.rs)
theorem tl_step {p q : Pg} {box : Str} {r : Nat} (h : r < p.rs.length) : tl p q box r = rowAnew p.rs r box p.bs ++ tl p q box (r + 1) := by
  unfold tl
  rw [List.drop_eq_getElem_cons (by rw [List.length_range]; exact h), List.getElem_range, List.flatMap_cons, List.append_assoc]
theorem tl_end {p q : Pg} {box : Str} : tl p q box p.rs.length = .need (.num 0) :: q.rs := by
  unfold tl
  rw [List.drop_eq_nil_of_le (by rw [List.length_range]; exact Nat.le_refl _)]
  rfl
theorem spot_next {rows : List Row} {r : Nat} (h : r < rows.length) : spot rows (r + 1) = spot rows r + (1 + rows[r].gi) := by
  unfold spot
  rw [List.take_succ_eq_append_getElem h, List.map_append, List.sum_append]
  rfl
theorem anew_exact {rows : List Row} {r : Nat} {box : Str} {bs : List Str} (h : r < rows.length) : (rowAnew rows r box bs).length = 1 + rows[r].gi := by
  unfold rowAnew
  rw [List.getElem?_eq_getElem h]
  cases rows[r] <;> rfl
theorem tl_drop {p q : Pg} {box : Str} {r : Nat} : ∀ d, r + d ≤ p.rs.length → (tl p q box r).drop (spot p.rs (r + d) - spot p.rs r) = tl p q box (r + d)
  | 0, _ => by rw [Nat.add_zero, Nat.sub_self]; rfl
  | d + 1, h => by
    have ih := tl_drop (p := p) (q := q) (box := box) (r := r) d (by omega)
    have hs := spot_next (rows := p.rs) (r := r + d) (by omega)
    have hl := anew_exact (rows := p.rs) (r := r + d) (box := box) (bs := p.bs) (by omega)
    have mono : spot p.rs r ≤ spot p.rs (r + d) := by
      cases d with
      | zero => exact Nat.le_refl _
      | succ d => exact Nat.le_of_succ_le (spot_mono (by omega) (by omega))
    have e : spot p.rs (r + (d + 1)) - spot p.rs r = (spot p.rs (r + d) - spot p.rs r) + (rowAnew p.rs (r + d) box p.bs).length := by
      rw [hl, ← Nat.add_assoc, hs]
      omega
    rw [e, ← List.drop_drop, ih, tl_step (by omega), List.drop_left' rfl]
    rfl
theorem tl_to {p q : Pg} {box : Str} {r r2 : Nat} (h1 : r ≤ r2) (h2 : r2 ≤ p.rs.length) : (tl p q box r).drop (spot p.rs r2 - spot p.rs r) = tl p q box r2 := by
  have := tl_drop (p := p) (q := q) (box := box) (r := r) (r2 - r) (by omega)
  rwa [show r + (r2 - r) = r2 by omega] at this
def thn (m : Nat) (bs : List Str) (qs : List Row) (box : Str) (ce : Rn) : List Rn := match ce.2 with
  | none => [(ce.1, none)]
  | some vs => (runL m bs qs (vs.2.set (bs.idxOf box) vs.1)).map fun x => (ce.1 ++ x.1, x.2)
theorem set_self {s : List Nat} {i : Nat} : s.set i (s.getD i 0) = s := by
  refine List.ext_getElem (by rw [List.length_set]) fun j h1 h2 => ?_
  rw [List.getElem_set]
  split
  · rename_i h
    subst h
    rw [List.getD_eq_getElem?_getD, List.getElem?_eq_getElem h2]
    rfl
  · rfl
theorem runs_tl {p q : Pg} {box : Str} : ∀ (k r : Nat) (s : List Nat), p.rs.length - r ≤ k → r ≤ p.rs.length → runL p.m p.bs (tl p q box r) s = (runL p.m p.bs (p.rs.drop r) s).flatMap (thn p.m p.bs q.rs box) := by
  have base : ∀ s, runL p.m p.bs (tl p q box p.rs.length) s = (runL p.m p.bs (p.rs.drop p.rs.length) s).flatMap (thn p.m p.bs q.rs box) := by
    intro s
    rw [tl_end, List.drop_length, runL, runL]
    rfl
  intro k
  induction k with
  | zero =>
    intro r s h hr
    have : r = p.rs.length := by omega
    subst this
    exact base s
  | succ k ih =>
    intro r s h hr
    by_cases hr2 : r = p.rs.length
    · subst hr2; exact base s
    have hr' : r < p.rs.length := by omega
    have hsn := spot_next hr'
    rw [tl_step hr', List.drop_eq_getElem_cons hr']
    have han : rowAnew p.rs r box p.bs = match p.rs[r] with
      | .give t => [.set box t, .skip (.num 1) (spot p.rs p.rs.length - spot p.rs r - 1)]
      | .skip t n => [skipBy t (spot p.rs (min (r + 1 + n) p.rs.length) - spot p.rs r - 1) p.bs]
      | x => [x] := by
      unfold rowAnew
      rw [List.getElem?_eq_getElem hr']
      cases p.rs[r] <;> rfl
    rw [han]
    generalize hrow : p.rs[r] = row at hsn
    cases row with
    | set b t =>
      show runL _ _ (.set b t :: tl p q box (r + 1)) s = _
      rw [runL, runL]
      exact ih _ _ (by omega) hr'
    | pick b ts =>
      show runL _ _ (.pick b ts :: tl p q box (r + 1)) s = _
      rw [runL, runL, List.flatMap_assoc]
      refine flatMap_cg fun x hx => ?_
      rw [ih _ _ (by omega) hr', List.map_flatMap, List.flatMap_map]
      refine flatMap_cg fun ce _ => ?_
      obtain ⟨c, e⟩ := ce
      cases e with
      | none => rfl
      | some vs =>
        show ((runL _ _ _ _).map _).map _ = (runL _ _ _ _).map _
        rw [List.map_map]
        rfl
    | need t =>
      show runL _ _ (.need t :: tl p q box (r + 1)) s = _
      rw [runL, runL]
      split
      · rfl
      · exact ih _ _ (by omega) hr'
    | skip t n =>
      have hs1 : spot p.rs (r + 1) = spot p.rs r + 1 := hsn
      have hmin : r + 1 ≤ min (r + 1 + n) p.rs.length := by omega
      have hd : (tl p q box (r + 1)).drop (spot p.rs (min (r + 1 + n) p.rs.length) - spot p.rs r - 1) = tl p q box (min (r + 1 + n) p.rs.length) := by
        rw [← tl_to hmin (Nat.min_le_right _ _), hs1, Nat.sub_sub]
      have hrow2 : (p.rs.drop (r + 1)).drop n = p.rs.drop (min (r + 1 + n) p.rs.length) := by
        rw [List.drop_drop]
        by_cases z : r + 1 + n ≤ p.rs.length
        · rw [Nat.min_eq_left z]
        · rw [Nat.min_eq_right (by omega), List.drop_length, List.drop_eq_nil_of_le (by omega)]
      show runL _ _ (skipBy t (spot p.rs (min (r + 1 + n) p.rs.length) - spot p.rs r - 1) p.bs :: tl p q box (r + 1)) s = (runL _ _ (.skip t n :: _) s).flatMap _
      rw [runL, hrow2]
      unfold skipBy
      by_cases z : spot p.rs (min (r + 1 + n) p.rs.length) - spot p.rs r - 1 = 0
      · rw [if_pos z, runL]
        show runL _ _ _ (s.set _ (s.getD _ 0)) = _
        rw [set_self]
        rw [z, List.drop_zero] at hd
        split
        · exact ih _ _ (by omega) hr'
        · rw [hd]
          exact ih _ _ (by omega) (Nat.min_le_right _ _)
      · rw [if_neg z, runL]
        split
        · exact ih _ _ (by omega) hr'
        · rw [hd]
          exact ih _ _ (by omega) (Nat.min_le_right _ _)
    | give t =>
      have hs1 : spot p.rs (r + 1) = spot p.rs r + 2 := hsn
      have hm : spot p.rs (r + 1) ≤ spot p.rs p.rs.length := by
        by_cases z : r + 1 = p.rs.length
        · rw [z]; exact Nat.le_refl _
        · exact Nat.le_of_succ_le (spot_mono (by omega) (Nat.le_refl _))
      have hd : (tl p q box (r + 1)).drop (spot p.rs p.rs.length - spot p.rs r - 1) = q.rs := by
        rw [show spot p.rs p.rs.length - spot p.rs r - 1 = (spot p.rs p.rs.length - spot p.rs (r + 1)) + 1 by omega, ← List.drop_drop, tl_to hr' (Nat.le_refl _), tl_end]
        rfl
      show runL _ _ (.set box t :: .skip (.num 1) (spot p.rs p.rs.length - spot p.rs r - 1) :: tl p q box (r + 1)) s = _
      rw [runL, runL, runL, hd, if_neg (by show ¬ (1 : Nat) = 0; decide), List.flatMap_cons]
      show _ = (runL _ _ _ _).map (fun x : Rn => ([] ++ x.1, x.2)) ++ []
      rw [List.append_nil]
      exact (List.map_id _).symm
theorem put_rows {p q : Pg} {box : Str} : (putAfter p q box).rs = tl p q box 0 := by
  show putRows p q box = _
  unfold putRows tl
  rw [List.append_assoc]
  rfl
theorem runs_put {p q : Pg} {box : Str} {s : List Nat} (hg : (putAfter p q box).good) (hs : StOk p.m p.bs s) :
    runs (putAfter p q box) (poe (putAfter p q box) 0 s) = ((runL p.m p.bs p.rs s).flatMap (thn p.m p.bs q.rs box)).map fgt := by
  rw [runs_L0 hg hs]
  show (runL p.m p.bs (putAfter p q box).rs s).map fgt = _
  rw [put_rows, runs_tl _ 0 s (Nat.le_refl _) (Nat.zero_le _)]
  rfl
end DL
/-! programs put behind others are good, and have few stores. -/
namespace DL
open PySem PySem.Spec PyProof.Rows L2 PySem.W
def front (p : Pg) (s0 : List Nat) : Nat → List (Nat × List Nat)
  | 0 => [(0, s0)]
  | k + 1 => (front p s0 k).flatMap fun x => if x.1 = k then behinds p k x.2 else [x]
theorem wide_pos {m : Nat} {bs : List Str} {r : Row} (h : r.ok m bs) : 1 ≤ r.wide := by
  cases r with
  | pick b ts => exact h.2.1.1
  | set b t => exact Nat.le_refl _
  | need t => exact Nat.le_refl _
  | skip t n => exact Nat.le_refl _
  | give t => exact Nat.le_refl _
theorem wides_app : ∀ {a b : List Row}, wides (a ++ b) = wides a * wides b
  | [], b => (Nat.one_mul _).symm
  | r :: a, b => by
    show r.wide * wides (a ++ b) = r.wide * wides a * wides b
    rw [wides_app, Nat.mul_assoc]
theorem behinds_wide {p : Pg} (hg : p.good) {r : Nat} {s : List Nat} (h : r < p.rs.length) : (behinds p r s).length ≤ p.rs[r].wide := by
  unfold behinds
  rw [List.getElem?_eq_getElem h]
  show (rowBehind p r s p.rs[r]).length ≤ _
  cases p.rs[r] with
  | pick b ts => exact Nat.le_of_eq (List.length_map _)
  | set b t => exact Nat.le_refl _
  | need t =>
    show (if _ then _ else _ : List (Nat × List Nat)).length ≤ 1
    split
    · exact Nat.zero_le _
    · exact Nat.le_refl _
  | skip t n => exact Nat.le_refl _
  | give t => exact Nat.zero_le _
theorem behinds_to {p : Pg} {r r2 : Nat} {s s2 : List Nat} (h : r < p.rs.length) (hm : (r2, s2) ∈ behinds p r s) : r < r2 ∧ r2 ≤ p.rs.length := by
  unfold behinds at hm
  rw [List.getElem?_eq_getElem h] at hm
  replace hm : (r2, s2) ∈ rowBehind p r s p.rs[r] := hm
  cases hr : p.rs[r] with
  | pick b ts =>
    rw [hr] at hm
    obtain ⟨t, _, e⟩ := List.mem_map.mp hm
    cases e
    omega
  | set b t =>
    rw [hr] at hm
    cases List.mem_singleton.mp hm
    omega
  | need t =>
    rw [hr] at hm
    replace hm : (r2, s2) ∈ (if _ then _ else _ : List (Nat × List Nat)) := hm
    split at hm
    · cases hm
    · cases List.mem_singleton.mp hm
      omega
  | skip t n =>
    rw [hr] at hm
    cases List.mem_singleton.mp hm
    omega
  | give t =>
    rw [hr] at hm
    cases hm
theorem front_len {p : Pg} (hg : p.good) {s0 : List Nat} : ∀ k, k ≤ p.rs.length → (front p s0 k).length ≤ wides (p.rs.take k)
  | 0, _ => Nat.le_refl _
  | k + 1, h => by
    have ih := front_len hg (s0 := s0) k (by omega)
    have hk : k < p.rs.length := h
    rw [List.take_succ_eq_append_getElem hk, wides_app]
    show ((front p s0 k).flatMap _).length ≤ _ * (p.rs[k].wide * 1)
    rw [Nat.mul_one, List.length_flatMap]
    refine Nat.le_trans (sum_le_mul (c := p.rs[k].wide) fun x _ => ?_) (Nat.mul_le_mul_right _ ih)
    split
    · exact behinds_wide hg hk
    · exact wide_pos (hg.rows _ (List.getElem_mem hk))
theorem front_stay {p : Pg} {s0 : List Nat} {r : Nat} {s : List Nat} : ∀ d k, k + d = r → (r, s) ∈ front p s0 k → (r, s) ∈ front p s0 r
  | 0, k, e, h => by
    have e : k = r := e
    rwa [e] at h
  | d + 1, k, e, h => by
    refine front_stay d (k + 1) (by omega) ?_
    show (r, s) ∈ (front p s0 k).flatMap _
    refine List.mem_flatMap.mpr ⟨_, h, ?_⟩
    rw [if_neg (by show ¬ r = k; omega)]
    exact List.mem_singleton.mpr rfl
theorem reach_front {p : Pg} {s0 : List Nat} {r : Nat} {s : List Nat} (h : Reach p s0 r s) : (r, s) ∈ front p s0 r ∧ r ≤ p.rs.length := by
  induction h with
  | here => exact ⟨List.mem_singleton.mpr rfl, Nat.zero_le _⟩
  | @step r s r2 s2 h1 hr hm ih =>
    obtain ⟨a, b⟩ := behinds_to hr hm
    refine ⟨front_stay (r2 - (r + 1)) (r + 1) (by omega) ?_, b⟩
    refine List.mem_flatMap.mpr ⟨_, ih.1, ?_⟩
    rw [if_pos rfl]
    exact hm
theorem nodup_len {α : Type} [DecidableEq α] : ∀ {a b : List α}, a.Nodup → (∀ x ∈ a, x ∈ b) → a.length ≤ b.length
  | [], _, _, _ => Nat.zero_le _
  | x :: a, b, hn, hs => by
    obtain ⟨h1, h2⟩ := List.nodup_cons.mp hn
    have hx := hs x List.mem_cons_self
    have := nodup_len (b := b.erase x) h2 fun y hy => (List.mem_erase_of_ne (by rintro rfl; exact h1 hy)).mpr (hs y (List.mem_cons_of_mem _ hy))
    rw [List.length_erase_of_mem hx] at this
    have : 1 ≤ b.length := List.length_pos_of_mem hx
    rw [List.length_cons]
    omega
theorem few_of {p : Pg} (hg : p.good) {s0 : List Nat} (hw : wides p.rs ≤ 2500) : Few p s0 := by
  intro r ss hn hr
  by_cases h : r ≤ p.rs.length
  · have h1 := nodup_len (b := front p s0 r) (a := ss.map fun s => (r, s)) (List.pairwise_map.mpr (List.Pairwise.imp (fun h e => h (by cases e; rfl)) hn)) fun x hx => by
      obtain ⟨s, hs, rfl⟩ := List.mem_map.mp hx
      exact (reach_front (hr s hs)).1
    rw [List.length_map] at h1
    refine Nat.le_trans (Nat.le_trans h1 (front_len hg r h)) (Nat.le_trans ?_ hw)
    have : wides p.rs = wides (p.rs.take r) * wides (p.rs.drop r) := by rw [← wides_app, List.take_append_drop]
    rw [this]
    exact Nat.le_mul_of_pos_right _ (wides_pos fun x hx => hg.rows x (List.mem_of_mem_drop hx))
  · cases ss with
    | nil => exact Nat.zero_le _
    | cons s ss => exact absurd (reach_front (hr s List.mem_cons_self)).2 h
theorem spot_le {rows : List Row} : ∀ {i : Nat}, i ≤ rows.length → spot rows i ≤ 2 * i
  | 0, _ => Nat.zero_le _
  | i + 1, h => by
    have := spot_le (rows := rows) (i := i) (by omega)
    rw [spot_next (show i < rows.length from h)]
    have : rows[i].gi ≤ 1 := by cases rows[i] <;> first | exact Nat.zero_le _ | exact Nat.le_refl _
    omega
theorem spot_up {rows : List Row} {i j : Nat} (h : i ≤ j) (hj : j ≤ rows.length) : spot rows i ≤ spot rows j := by
  by_cases z : i = j
  · rw [z]; exact Nat.le_refl _
  · exact Nat.le_of_succ_le (spot_mono (by omega) hj)
theorem anew_ok {p : Pg} (hg : p.good) {box : Str} (hb : box ∈ p.bs) (hl : p.rs.length ≤ 15) {i : Nat} : ∀ r ∈ rowAnew p.rs i box p.bs, r.ok p.m p.bs := by
  intro r hr
  unfold rowAnew at hr
  by_cases hi : i < p.rs.length
  · rw [List.getElem?_eq_getElem hi] at hr
    have hok := hg.rows _ (List.getElem_mem hi)
    have hsn := spot_next hi
    have hup := spot_le (rows := p.rs) (Nat.le_refl _)
    generalize p.rs[i] = row at hr hok hsn
    cases row with
    | set b t => cases List.mem_singleton.mp hr; exact hok
    | pick b ts => cases List.mem_singleton.mp hr; exact hok
    | need t => cases List.mem_singleton.mp hr; exact hok
    | skip t n =>
      have e := List.mem_singleton.mp hr
      have := spot_up (rows := p.rs) (Nat.min_le_right (i + 1 + n) _) (Nat.le_refl _)
      generalize hk : spot p.rs (min (i + 1 + n) p.rs.length) - spot p.rs i - 1 = k at e
      unfold skipBy at e
      split at e
      · subst e
        have : p.bs.headD "" ∈ p.bs := by
          have := hg.bx.ne
          cases hbs : p.bs with
          | nil => exact absurd hbs this
          | cons a l => exact List.mem_cons_self
        exact ⟨this, this, by show (1 : Nat) ≤ 4; decide⟩
      · subst e
        exact ⟨hok.1, by omega, by omega⟩
    | give t =>
      have hsn : spot p.rs (i + 1) = spot p.rs i + 2 := hsn
      have hle := spot_up (rows := p.rs) (show i + 1 ≤ p.rs.length from hi) (Nat.le_refl _)
      rcases List.mem_cons.mp hr with e | e
      · subst e; exact ⟨hb, hok⟩
      · cases List.mem_singleton.mp e
        refine ⟨⟨?_, by show (1 : Nat) ≤ 4; decide⟩, by omega, by omega⟩
        show 1 < p.m
        have := hg.bx.m2
        omega
  · rw [List.getElem?_eq_none (by omega)] at hr
    cases hr
theorem put_len {p q : Pg} {box : Str} : (putAfter p q box).rs.length ≤ 2 * p.rs.length + 1 + q.rs.length := by
  show (putRows p q box).length ≤ _
  unfold putRows
  rw [List.length_append, List.length_append]
  have := anews_len (rows := p.rs) (box := box) (bs := p.bs) (List.range p.rs.length)
  rw [List.length_range] at this
  have : [Row.need (.num 0)].length = 1 := rfl
  omega
theorem put_good {p q : Pg} {box : Str} (hg : p.good) (hq : ∀ r ∈ q.rs, r.ok p.m p.bs) (hb : box ∈ p.bs) (hl : 2 * p.rs.length + 1 + q.rs.length ≤ 30) : (putAfter p q box).good := by
  refine ⟨hg.bx, fun r hr => ?_, Nat.le_trans put_len (by omega)⟩
  replace hr : r ∈ putRows p q box := hr
  show r.ok p.m p.bs
  unfold putRows at hr
  rcases List.mem_append.mp hr with hr | hr
  · rcases List.mem_append.mp hr with hr | hr
    · obtain ⟨i, _, hi⟩ := List.mem_flatMap.mp hr
      exact anew_ok hg hb (by omega) r hi
    · cases List.mem_singleton.mp hr
      refine ⟨?_, by show (1 : Nat) ≤ 4; decide⟩
      show 0 < p.m
      have := hg.bx.m2
      omega
  · exact hq r hr
theorem anew_wides {rows : List Row} {i : Nat} {box : Str} {bs : List Str} (h : i < rows.length) : wides (rowAnew rows i box bs) = rows[i].wide := by
  unfold rowAnew
  rw [List.getElem?_eq_getElem h]
  cases rows[i] with
  | skip t n =>
    show wides [skipBy t _ bs] = 1
    unfold skipBy
    split <;> rfl
  | set b t => rfl
  | pick b ts => exact Nat.mul_one _
  | need t => rfl
  | give t => rfl
theorem tl_wides {p q : Pg} {box : Str} : ∀ (k r : Nat), p.rs.length - r ≤ k → r ≤ p.rs.length → wides (tl p q box r) = wides (p.rs.drop r) * wides q.rs
  | 0, r, h, hr => by
    have : r = p.rs.length := by omega
    subst this
    rw [tl_end, List.drop_length]
    rfl
  | k + 1, r, h, hr => by
    by_cases z : r = p.rs.length
    · subst z
      rw [tl_end, List.drop_length]
      rfl
    have hr' : r < p.rs.length := by omega
    rw [tl_step hr', wides_app, anew_wides hr', tl_wides k (r + 1) (by omega) hr', List.drop_eq_getElem_cons hr', ← Nat.mul_assoc]
    rfl
theorem put_wides {p q : Pg} {box : Str} : wides (putAfter p q box).rs = wides p.rs * wides q.rs := by
  rw [put_rows]
  exact tl_wides _ 0 (Nat.le_refl _) (Nat.zero_le _)
end DL
/-! runs compared, and what they are at most. -/
namespace DL
open PySem PySem.Spec PyProof.Rows L2 PySem.W
theorem runs_le {p : Pg} (hg : p.good) {s : List Nat} (hs : StOk p.m p.bs s) : (runs p (poe p 0 s)).length ≤ wides p.rs := by
  rw [runs_L0 hg hs, List.length_map]
  exact runL_wide _ _ _ (Nat.le_refl _) hg.rows
theorem dep_way {w : Way} : w.d.depth ≤ 3 := by
  have i1 : ∀ n : Nat, (dNat n).depth ≤ 1 := fun n => by rw [PyData.depth]; decide
  cases w with
  | nothing => exact Nat.le_trans (depth_tuple (n := 0) (by rw [PyData.depthAll, PyData.depthAll, PyData.depth]; decide)) (by decide)
  | gives n => exact Nat.le_trans (depth_tuple (n := 0) (by rw [PyData.depthAll, PyData.depthAll, PyData.depthAll, PyData.depth, PyData.depth]; decide)) (by decide)
  | «at» r s =>
    refine depth_tuple (n := 2) ?_
    rw [PyData.depthAll, PyData.depthAll, PyData.depthAll]
    refine Nat.max_le.mpr ⟨Nat.le_trans (i1 r) (by decide), Nat.max_le.mpr ⟨depth_tuple (depthAll_map (f := dNat) fun x _ => i1 x), by decide⟩⟩
theorem dep_run {c : List Nat × Way} : (runD c).depth ≤ 4 := by
  have i1 : ∀ n : Nat, (dNat n).depth ≤ 1 := fun n => by rw [PyData.depth]; decide
  refine depth_tuple (n := 3) ?_
  rw [PyData.depthAll, PyData.depthAll, PyData.depthAll]
  exact Nat.max_le.mpr ⟨Nat.le_trans (depth_list (depthAll_map (f := dNat) fun x _ => i1 x)) (by decide), Nat.max_le.mpr ⟨dep_way, by decide⟩⟩
theorem eq_runs {xs ys : List (List Nat × Way)} : noDict (.list (xs.map runD)) = true ∧ noDict (.list (ys.map runD)) = true ∧ min (PyData.list (xs.map runD)).depth (PyData.list (ys.map runD)).depth ≤ 60 := by
  have hp : ∀ zs : List (List Nat × Way), pls (zs.map runD) = true := fun zs => pls_map (f := runD) fun _ _ => pl_runD
  exact ⟨pl_noDict (d := .list _) (hp xs), pl_noDict (d := .list _) (hp ys), Nat.le_trans (Nat.min_le_left _ _) (Nat.le_trans (depth_list (depthAll_map (f := runD) fun x _ => dep_run)) (by decide))⟩
theorem eqv_runs {xs : List (List Nat × Way)} : PyData.eqv (.list (xs.map runD)) (.list (xs.map runD)) = true := by
  have hp : pl (.list (xs.map runD)) = true := pls_map (f := runD) fun _ _ => pl_runD
  exact (eqv_pl hp hp).mpr rfl
theorem ne_runs {xs : List (List Nat × Way)} {X : Prop} (h : (!PyData.eqv (.list (xs.map runD)) (.list (xs.map runD))) = true) : X := by
  rw [eqv_runs] at h
  cases h
end DL
/-! three programs behind one another. -/
namespace DL
open PySem PySem.Spec PyProof.Rows L2 PySem.W
theorem tl_len {p q : Pg} {box : Str} : ∀ (k r : Nat), p.rs.length - r ≤ k → r ≤ p.rs.length → (tl p q box r).length + spot p.rs r = spot p.rs p.rs.length + 1 + q.rs.length
  | 0, r, h, hr => by
    have : r = p.rs.length := by omega
    subst this
    rw [tl_end, List.length_cons]; omega
  | k + 1, r, h, hr => by
    by_cases z : r = p.rs.length
    · subst z
      rw [tl_end, List.length_cons]; omega
    have hr' : r < p.rs.length := by omega
    have ih := tl_len (p := p) (q := q) (box := box) k (r + 1) (by omega) hr'
    rw [spot_next hr'] at ih
    rw [tl_step hr', List.length_append, anew_exact hr']
    omega
theorem put_exact {p q : Pg} {box : Str} : (putAfter p q box).rs.length = spot p.rs p.rs.length + 1 + q.rs.length := by
  rw [put_rows]
  exact tl_len _ 0 (Nat.le_refl _) (Nat.zero_le _)
theorem anew_ok2 {p : Pg} (hg : p.good) {box : Str} (hb : box ∈ p.bs) (hup : spot p.rs p.rs.length ≤ 30) {i : Nat} : ∀ r ∈ rowAnew p.rs i box p.bs, r.ok p.m p.bs := by
  intro r hr
  unfold rowAnew at hr
  by_cases hi : i < p.rs.length
  · rw [List.getElem?_eq_getElem hi] at hr
    have hok := hg.rows _ (List.getElem_mem hi)
    have hsn := spot_next hi
    generalize p.rs[i] = row at hr hok hsn
    cases row with
    | set b t => cases List.mem_singleton.mp hr; exact hok
    | pick b ts => cases List.mem_singleton.mp hr; exact hok
    | need t => cases List.mem_singleton.mp hr; exact hok
    | skip t n =>
      have e := List.mem_singleton.mp hr
      have := spot_up (rows := p.rs) (Nat.min_le_right (i + 1 + n) _) (Nat.le_refl _)
      generalize hk : spot p.rs (min (i + 1 + n) p.rs.length) - spot p.rs i - 1 = k at e
      unfold skipBy at e
      split at e
      · subst e
        have : p.bs.headD "" ∈ p.bs := by
          have := hg.bx.ne
          cases hbs : p.bs with
          | nil => exact absurd hbs this
          | cons a l => exact List.mem_cons_self
        exact ⟨this, this, by show (1 : Nat) ≤ 4; decide⟩
      · subst e
        exact ⟨hok.1, by omega, by omega⟩
    | give t =>
      have hsn : spot p.rs (i + 1) = spot p.rs i + 2 := hsn
      have hle := spot_up (rows := p.rs) (show i + 1 ≤ p.rs.length from hi) (Nat.le_refl _)
      rcases List.mem_cons.mp hr with e | e
      · subst e; exact ⟨hb, hok⟩
      · cases List.mem_singleton.mp e
        refine ⟨⟨?_, by show (1 : Nat) ≤ 4; decide⟩, by omega, by omega⟩
        show 1 < p.m
        have := hg.bx.m2
        omega
  · rw [List.getElem?_eq_none (by omega)] at hr
    cases hr
theorem put_good2 {p q : Pg} {box : Str} (hg : p.good) (hq : ∀ r ∈ q.rs, r.ok p.m p.bs) (hb : box ∈ p.bs) (hl : spot p.rs p.rs.length + 1 + q.rs.length ≤ 30) : (putAfter p q box).good := by
  refine ⟨hg.bx, fun r hr => ?_, by rw [put_exact]; omega⟩
  replace hr : r ∈ putRows p q box := hr
  show r.ok p.m p.bs
  unfold putRows at hr
  rcases List.mem_append.mp hr with hr | hr
  · rcases List.mem_append.mp hr with hr | hr
    · obtain ⟨i, _, hi⟩ := List.mem_flatMap.mp hr
      exact anew_ok2 hg hb (by omega) r hi
    · cases List.mem_singleton.mp hr
      refine ⟨?_, by show (1 : Nat) ≤ 4; decide⟩
      show 0 < p.m
      have := hg.bx.m2
      omega
  · exact hq r hr
theorem runL_put {p q : Pg} {box : Str} {s : List Nat} : runL p.m p.bs (putAfter p q box).rs s = (runL p.m p.bs p.rs s).flatMap (thn p.m p.bs q.rs box) := by
  rw [put_rows, runs_tl _ 0 s (Nat.le_refl _) (Nat.zero_le _)]
  rfl
theorem thn_pre {m : Nat} {bs : List Str} {qs : List Row} {box : Str} {c : List Nat} (z : Rn) : thn m bs qs box (c ++ z.1, z.2) = (thn m bs qs box z).map fun x => (c ++ x.1, x.2) := by
  obtain ⟨c1, e⟩ := z
  cases e with
  | none => rfl
  | some vs =>
    show (runL m bs qs _).map _ = ((runL m bs qs _).map _).map _
    rw [List.map_map]
    refine List.map_congr_left fun x _ => ?_
    show (c ++ c1 ++ x.1, x.2) = (c ++ (c1 ++ x.1), x.2)
    rw [List.append_assoc]
/-- put behind one another either two first -/
theorem runL_assoc {a b c : Pg} {x y : Str} {s : List Nat} (hm : b.m = a.m) (hb : b.bs = a.bs) :
    runL a.m a.bs (putAfter (putAfter a b x) c y).rs s = runL a.m a.bs (putAfter a (putAfter b c y) x).rs s := by
  rw [runL_put (p := a) (q := putAfter b c y)]
  have e1 : runL a.m a.bs (putAfter (putAfter a b x) c y).rs s = (runL a.m a.bs (putAfter a b x).rs s).flatMap (thn a.m a.bs c.rs y) := runL_put (p := putAfter a b x)
  rw [e1, runL_put, List.flatMap_assoc]
  refine flatMap_cg fun ce _ => ?_
  obtain ⟨c1, e⟩ := ce
  cases e with
  | none => rfl
  | some vs =>
    have e2 : runL a.m a.bs (putAfter b c y).rs (vs.2.set (a.bs.idxOf x) vs.1) = (runL a.m a.bs b.rs (vs.2.set (a.bs.idxOf x) vs.1)).flatMap (thn a.m a.bs c.rs y) := by
      have := runL_put (p := b) (q := c) (box := y) (s := vs.2.set (a.bs.idxOf x) vs.1)
      rwa [hm, hb] at this
    show ((runL a.m a.bs b.rs _).map _).flatMap _ = (runL a.m a.bs (putAfter b c y).rs _).map _
    rw [e2, List.flatMap_map, List.map_flatMap]
    refine flatMap_cg fun z _ => ?_
    exact thn_pre z
/-- a program as it is drawn here -/
structure P56 (m : Nat) (bs : List Str) (p : Pg) : Prop where
  m_ : p.m = m
  bs_ : p.bs = bs
  ok : p.ok 5 6
theorem P56.good {m : Nat} {bs : List Str} {p : Pg} (h : P56 m bs p) : p.good := ⟨h.ok.bx, h.ok.rows, Nat.le_trans h.ok.len (by decide)⟩
structure Alk (p q : Pg) (s : List Nat) : Prop where
  pg : p.good
  qg : q.good
  st : StOk p.m p.bs s
  m_ : q.m = p.m
  bs_ : q.bs = p.bs
  pf : wides p.rs ≤ 2000
  qf : wides q.rs ≤ 2000
  pl_ : p.rs.length ≤ 35
  ql : q.rs.length ≤ 35
  rn : runs q (poe q 0 s) = runs p (poe p 0 s)
theorem ans_alike {p q : Pg} {s : List Nat} (h : Alk p q s) : ansL q s = ansL p s := by
  unfold ansL ends
  rw [h.rn, h.m_]
theorem cnt_alike {p q : Pg} {s : List Nat} (h : Alk p q s) (e : Way) : cntOf (ends q (poe q 0 s)) e = cntOf (ends p (poe p 0 s)) e := by
  unfold ends
  rw [h.rn]
theorem alk_of {a b c : Pg} {x y : Str} {m : Nat} {bs : List Str} {s : List Nat} (ha : P56 m bs a) (hb : P56 m bs b) (hc : P56 m bs c) (hx : x ∈ bs) (hy : y ∈ bs) (hs : StOk m bs s)
    (r1 : spot a.rs a.rs.length + 1 + b.rs.length ≤ 30) (r2 : spot b.rs b.rs.length + 1 + c.rs.length ≤ 30)
    (r3 : spot (putAfter a b x).rs (putAfter a b x).rs.length + 1 + c.rs.length ≤ 30) (r4 : spot a.rs a.rs.length + 1 + (putAfter b c y).rs.length ≤ 30) :
    Alk (putAfter (putAfter a b x) c y) (putAfter a (putAfter b c y) x) s := by
  obtain ⟨rfl, rfl, oa⟩ := ha
  have gb := hb.good
  have gc := hc.good
  obtain ⟨bm, bb, ob⟩ := hb
  obtain ⟨cm, cb, oc⟩ := hc
  have ga : a.good := ⟨oa.bx, oa.rows, Nat.le_trans oa.len (by decide)⟩
  have g1 : (putAfter a b x).good := put_good2 ga (fun r hr => by have := gb.rows r hr; rwa [bm, bb] at this) hx r1
  have g2 : (putAfter b c y).good := put_good2 gb (fun r hr => by have := gc.rows r hr; rw [cm, cb] at this; rwa [bm, bb]) (by rw [bb]; exact hy) r2
  have g3 : (putAfter (putAfter a b x) c y).good := put_good2 g1 (fun r hr => by have := gc.rows r hr; rwa [cm, cb] at this) hy r3
  have g4 : (putAfter a (putAfter b c y) x).good := put_good2 ga (fun r hr => by have := g2.rows r hr; rwa [show (putAfter b c y).m = a.m from bm, show (putAfter b c y).bs = a.bs from bb] at this) hx r4
  have w : wides a.rs * wides b.rs * wides c.rs ≤ 2000 := by
    have h1 : wides a.rs * wides b.rs ≤ 6 * 6 := Nat.mul_le_mul oa.wid ob.wid
    exact Nat.le_trans (Nat.mul_le_mul h1 oc.wid) (by decide)
  refine ⟨g3, g4, hs, rfl, rfl, ?_, ?_, ?_, ?_, ?_⟩
  · rw [put_wides, put_wides]; exact w
  · rw [put_wides, put_wides, ← Nat.mul_assoc]; exact w
  · rw [put_exact]; omega
  · rw [put_exact]; omega
  · rw [runs_L0 g4 hs, runs_L0 g3 hs]
    show (runL a.m a.bs (putAfter a (putAfter b c y) x).rs s).map fgt = (runL a.m a.bs (putAfter (putAfter a b x) c y).rs s).map fgt
    rw [runL_assoc bm bb]
def sp__law_room : FS := fun as Q E => ∃ p q : Pg, as = [.sh p.d, .sh q.d] ∧ (p.rs.length ≤ 1000 ∧ q.rs.length ≤ 1000) ∧ Q (.vl (.bool (decide (spot p.rs p.rs.length + 1 + q.rs.length ≤ 30)))) []
def sp__law_alike : FS := fun as Q E => ∃ (p q : Pg) (s : List Nat), as = [.sh p.d, .sh q.d, .sh (stD s)] ∧ Alk p q s ∧ Q (.vl (.bool true)) []
/- N: 0=one 1=other 2=gives 3=row -/
def t__law_room_1 : DS := dRet (dOp (tB0 fun i j => decide (i ≤ j)) (dOp tAdd (dOp tAdd (dOp tAdd (dCB tLenU [dOp tIx (dRef 0) (dC (.int 2))]) (dCB tLenU [dRef 2])) (dC (.int 1))) (dCB tLenU [dOp tIx (dRef 1) (dC (.int 2))])) (dC (.int 30)))
def t__law_room : DS := dSeq (dSet 2 (dLc (dSeqI (dOp tIx (dRef 0) (dC (.int 2)))) (.nm 3) [] (dTst (dOp tEq (dOp tIx (dRef 3) (dC (.int 0))) (dC (.str "give")))) (dVal 3))) t__law_room_1

/- N: 0=one 1=other 2=store -/
def t__law_alike_1 : DS := dRet (dOp tEq (dCall sp_all_runs [dVal 0, dVal 2]) (dCall sp_all_runs [dVal 1, dVal 2]))
def t__law_alike_2 : DS := dSeq (dIf (dTst (dOp tNe (dCall sp_count_nothing [dVal 0, dVal 2]) (dCall sp_count_nothing [dVal 1, dVal 2]))) (dRet (dC (.bool false))) (dNext)) t__law_alike_1
def t__law_alike : DS := dSeq (dIf (dTst (dOp tNe (dCall sp_answer_counts [dVal 0, dVal 2]) (dCall sp_answer_counts [dVal 1, dVal 2]))) (dRet (dC (.bool false))) (dNext)) t__law_alike_2

theorem nS {a b : Str} {X : Prop} (n : PyData.eqv (.str a) (.str b) = false) (h : PyData.eqv (.str a) (.str b) = true) : X := by rw [n] at h; cases h
theorem spot_gi : ∀ rows : List Row, spot rows rows.length = rows.length + (rows.map Row.gi).sum := by
  intro rows
  unfold spot
  rw [List.take_length]
  induction rows with
  | nil => rfl
  | cons r l ih =>
    rw [List.map_cons, List.sum_cons, ih, List.map_cons, List.sum_cons, List.length_cons]
    omega
theorem gi_le : ∀ rows : List Row, (rows.map Row.gi).sum ≤ rows.length
  | [] => Nat.le_refl _
  | r :: l => by
    have := gi_le l
    have h : r.gi ≤ 1 := by cases r <;> first | exact Nat.zero_le _ | exact Nat.le_refl _
    rw [List.map_cons, List.sum_cons, List.length_cons]
    omega
theorem vc__law_room (as Q E) (h : sp__law_room as Q E) : t__law_room (defEnds 2 Q) (start0 4 as) := by
  obtain ⟨p, q, rfl, ⟨hp, hq⟩, hQ⟩ := h
  refine ⟨_, atI_nat (j := 2) rfl, ?_⟩
  refine lc_vc (J := fun ds acc e => ∃ don left : List Row, p.rs = don ++ left ∧ ds = left.map Row.d ∧ acc.length = (don.map Row.gi).sum ∧ e = [.sh p.d, .sh q.d, .no, .no]) _ ⟨trivial, trivial⟩ rfl ⟨[], p.rs, rfl, rfl, rfl, rfl⟩ ?_ ?_
  · rintro acc e ⟨don, left, hd, hl, ha, rfl⟩
    have hl0 : left = [] := List.map_eq_nil_iff.mp hl.symm
    subst hl0
    rw [List.append_nil] at hd
    subst hd
    refine ⟨_, rfl, trivial, ?_⟩
    show t__law_room_1 (defEnds 2 Q) [.sh p.d, .sh q.d, .ow (.lst acc), .no]
    have e : decide (spot p.rs p.rs.length + 1 + q.rs.length ≤ 30) = decide ((((p.rs.map Row.d).length : Int) + (acc.length : Int) + 1 + ((q.rs.map Row.d).length : Int)) ≤ 30) := by
      apply decide_eq_decide.mpr
      rw [List.length_map, List.length_map, ha, spot_gi]
      omega
    rw [e] at hQ
    exact ⟨_, atI_nat (j := 2) rfl, _, atI_nat (j := 2) rfl, hQ⟩
  · rintro d ds acc e k hk ⟨don, left, hd, hl, ha, rfl⟩
    cases left with
    | nil => cases hl
    | cons r left =>
      have hl' : d :: ds = r.d :: left.map Row.d := hl
      injection hl' with h1 h2
      subst h1 h2
      have nx : ∀ acc2, acc2.length = ((don ++ [r]).map Row.gi).sum → k acc2 [.sh p.d, .sh q.d, .no, .no] := fun acc2 h => hk _ _ ⟨don ++ [r], left, by rw [hd, List.append_assoc]; rfl, rfl, h, rfl⟩
      have hb : acc.length < 100000 := by
        have h3 := gi_le don
        have h4 : don.length ≤ p.rs.length := by rw [hd, List.length_append]; omega
        omega
      have sm : ((don ++ [r]).map Row.gi).sum = acc.length + r.gi := by rw [List.map_append, List.sum_append, ← ha]; rfl
      cases r with
      | give t => refine ⟨trivial, trivial, _, atI_nat (j := 0) rfl, eqS, ?_⟩; exact ⟨hb, nx _ (by rw [sm, List.length_append]; rfl)⟩
      | set b t => refine ⟨trivial, trivial, _, atI_nat (j := 0) rfl, eqS, ?_⟩; exact nx _ (by rw [sm]; rfl)
      | pick b t => refine ⟨trivial, trivial, _, atI_nat (j := 0) rfl, eqS, ?_⟩; exact nx _ (by rw [sm]; rfl)
      | need t => refine ⟨trivial, trivial, _, atI_nat (j := 0) rfl, eqS, ?_⟩; exact nx _ (by rw [sm]; rfl)
      | skip t n => refine ⟨trivial, trivial, _, atI_nat (j := 0) rfl, eqS, ?_⟩; exact nx _ (by rw [sm]; rfl)
def ansF (x : Nat × Nat) : D := .tuple [dNat x.1, dNat x.2]
theorem eq_ans {xs ys : List (Nat × Nat)} : noDict (.list (xs.map ansF)) = true ∧ noDict (.list (ys.map ansF)) = true ∧ min (PyData.list (xs.map ansF)).depth (PyData.list (ys.map ansF)).depth ≤ 60 := by
  have hp : ∀ zs : List (Nat × Nat), pls (zs.map ansF) = true := fun zs => pls_map (f := ansF) fun _ _ => rfl
  have hd : ∀ x : Nat × Nat, (ansF x).depth ≤ 1 := fun x => depth_tuple (n := 0) (by rw [PyData.depthAll, PyData.depthAll, PyData.depthAll, PyData.depth, PyData.depth]; decide)
  exact ⟨pl_noDict (d := .list _) (hp xs), pl_noDict (d := .list _) (hp ys), Nat.le_trans (Nat.min_le_left _ _) (Nat.le_trans (depth_list (depthAll_map (f := ansF) fun x _ => hd x)) (by decide))⟩
theorem eqv_ans {xs : List (Nat × Nat)} : PyData.eqv (.list (xs.map ansF)) (.list (xs.map ansF)) = true := by
  have hp : pl (.list (xs.map ansF)) = true := pls_map (f := ansF) fun _ _ => rfl
  exact (eqv_pl hp hp).mpr rfl
theorem ne_self {d : D} {X : Prop} (e : PyData.eqv d d = true) (h : (!PyData.eqv d d) = true) : X := by
  rw [e] at h
  cases h
theorem vc__law_alike (as Q E) (h : sp__law_alike as Q E) : t__law_alike (defEnds 3 Q) (start0 3 as) := by
  obtain ⟨p, q, s, rfl, h, hQ⟩ := h
  have hf := few_of h.pg (s0 := s) (Nat.le_trans h.pf (by decide))
  have gf := few_of h.qg (s0 := s) (Nat.le_trans h.qf (by decide))
  have hsq : StOk q.m q.bs s := by rw [h.m_, h.bs_]; exact h.st
  have r1 := runs_le h.pg h.st
  have r2 := runs_le h.qg hsq
  have w1 := h.pf
  have w2 := h.qf
  refine ⟨nd0, p, s, rfl, ⟨h.pg, h.st, hf, h.pl_⟩, ?_⟩
  refine ⟨nd0, q, s, rfl, ⟨h.qg, hsq, gf, h.ql⟩, eq_ans, ?_⟩
  rw [ans_alike h]
  refine ite_vc (fun z => ne_self eqv_ans z) fun _ => ?_
  refine ⟨nd0, p, s, rfl, ⟨h.pg, h.st, hf, h.pl_⟩, ?_⟩
  refine ⟨nd0, q, s, rfl, ⟨h.qg, hsq, gf, h.ql⟩, eqI, ?_⟩
  rw [cnt_alike h]
  refine ite_vc (fun z => ne_self (eqv_int.trans (decide_eq_true rfl)) z) fun _ => ?_
  refine ⟨nd0, p, s, rfl, ⟨h.pg, h.st, by omega⟩, ?_⟩
  refine ⟨nd0, q, s, rfl, ⟨h.qg, hsq, by omega⟩, eq_runs, ?_⟩
  rw [h.rn]
  have q : Q (.vl (.bool (PyData.eqv (.list ((runs p (poe p 0 s)).map runD)) (.list ((runs p (poe p 0 s)).map runD))))) [] := by
    rw [eqv_runs]; exact hQ
  exact q
theorem pick_box {bs : List Str} (hbl : 0 < bs.length) (n : Nat) : ∃ x, x ∈ bs ∧ atI (bs.map PyData.str) ((n : Int) % ((bs.map PyData.str).length : Int)) = some (.str x) := by
  have hlt : n % bs.length < bs.length := Nat.mod_lt _ hbl
  have e0 : (n : Int) % ((bs.map PyData.str).length : Int) = ((n % bs.length : Nat) : Int) := by rw [List.length_map]; simp
  refine ⟨bs[n % bs.length], List.getElem_mem hlt, ?_⟩
  rw [e0]
  exact atI_nat (by simp [hlt])
end DL
/-! runs by number, and a run gone along. -/
namespace DL
open PySem PySem.Spec PyProof.Rows L2 PySem.W
/-- the runs from a place, with the store that is left -/
def Lr (p : Pg) (r : Nat) (s : List Nat) : List Rn := runL p.m p.bs (p.rs.drop r) s
def Nx (p : Pg) (s : List Nat) (w : Way) (c : List Nat) (e : Option (Nat × List Nat)) : Prop := match w with
  | .at r2 s2 => (c, e) ∈ Lr p r2 s2
  | .gives v => c = [] ∧ e = some (v, s)
  | .nothing => c = [] ∧ e = none
theorem Nx_poe {p : Pg} {s s2 : List Nat} {r2 : Nat} {c : List Nat} {e : Option (Nat × List Nat)} (h : (c, e) ∈ Lr p r2 s2) : Nx p s (poe p r2 s2) c e := by
  unfold poe
  split
  · rename_i hl
    unfold Lr at h
    rw [List.drop_eq_nil_of_le hl, runL] at h
    cases List.mem_singleton.mp h
    exact ⟨rfl, rfl⟩
  · exact h
theorem zip_mem {α : Type} {l : List α} {x : α × Nat} (h : x ∈ l.zipIdx) : l[x.2]? = some x.1 := List.mk_mem_zipIdx_iff_getElem?.mp h
/-- one step of a run -/
theorem Lr_step {p : Pg} {r : Nat} {s : List Nat} (hr : r < p.rs.length) {c : List Nat} {e : Option (Nat × List Nat)} (h : (c, e) ∈ Lr p r s) :
    ∃ k w, (ways p r s)[k]? = some w ∧ ((isPick p r = true ∧ ∃ c', c = k :: c' ∧ Nx p s w c' e) ∨ (isPick p r = false ∧ k = 0 ∧ Nx p s w c e)) := by
  have hrow : p.rs[r]? = some p.rs[r] := List.getElem?_eq_getElem hr
  unfold Lr at h
  rw [List.drop_eq_getElem_cons hr] at h
  generalize p.rs[r] = row at hrow h
  have hw : ways p r s = rowWays p r s row := by unfold ways; rw [hrow]
  have hp : isPick p r = row.isPick := by unfold isPick; rw [hrow]
  rw [hw, hp]
  cases row with
  | set b t =>
    rw [runL] at h
    exact ⟨0, _, rfl, .inr ⟨rfl, rfl, Nx_poe h⟩⟩
  | pick b ts =>
    rw [runL] at h
    obtain ⟨x, hx, hy⟩ := List.mem_flatMap.mp h
    obtain ⟨y, hy2, e1⟩ := List.mem_map.mp hy
    injection e1 with e1 e2
    subst e1 e2
    refine ⟨x.2, poe p (r + 1) (swith p s b (wo p s x.1)), ?_, .inl ⟨rfl, y.1, rfl, Nx_poe hy2⟩⟩
    show (ts.map fun t => poe p (r + 1) (swith p s b (wo p s t)))[x.2]? = _
    rw [List.getElem?_map, zip_mem hx]
    rfl
  | need t =>
    rw [runL] at h
    by_cases z : t.worth p.m p.bs s = 0
    · rw [if_pos z] at h
      cases List.mem_singleton.mp h
      refine ⟨0, .nothing, ?_, .inr ⟨rfl, rfl, rfl, rfl⟩⟩
      show (if wo p s t = 0 then [Way.nothing] else [poe p (r + 1) s])[0]? = _
      rw [if_pos (show wo p s t = 0 from z)]
      rfl
    · rw [if_neg z] at h
      refine ⟨0, poe p (r + 1) s, ?_, .inr ⟨rfl, rfl, Nx_poe h⟩⟩
      show (if wo p s t = 0 then [Way.nothing] else [poe p (r + 1) s])[0]? = _
      rw [if_neg (show ¬ wo p s t = 0 from z)]
      rfl
  | skip t n =>
    rw [runL] at h
    refine ⟨0, poe p (r + 1 + if wo p s t = 0 then 0 else n) s, rfl, .inr ⟨rfl, rfl, Nx_poe ?_⟩⟩
    by_cases z : t.worth p.m p.bs s = 0
    · rw [if_pos z] at h
      rw [if_pos (show wo p s t = 0 from z)]
      exact h
    · rw [if_neg z, List.drop_drop] at h
      rw [if_neg (show ¬ wo p s t = 0 from z)]
      exact h
  | give t =>
    rw [runL] at h
    cases List.mem_singleton.mp h
    exact ⟨0, .gives (wo p s t), rfl, .inr ⟨rfl, rfl, rfl, rfl⟩⟩
theorem runs_mem {p : Pg} (hg : p.good) {s : List Nat} (hs : StOk p.m p.bs s) {c : List Nat} {w : Way} (h : (c, w) ∈ runs p (poe p 0 s)) : ∃ e, (c, e) ∈ Lr p 0 s ∧ w = (fgt (c, e)).2 := by
  rw [runs_L0 hg hs] at h
  obtain ⟨x, hx, e1⟩ := List.mem_map.mp h
  injection e1 with e1 e2
  subst e1 e2
  exact ⟨x.2, hx, rfl⟩
/-! ### by number -/
def kRuns (p : Pg) (k : Nat) (ws : List Way) : List (List Nat × Way) := (ws.zipIdx k).flatMap fun wk => (runs p wk.1).map fun ce => (wk.2 :: ce.1, ce.2)
theorem kRuns_here {p : Pg} {k n : Nat} {w : Way} {ws : List Way} (h : n < (runs p w).length) : (kRuns p k (w :: ws))[n]? = ((runs p w)[n]?).map fun ce => (k :: ce.1, ce.2) := by
  unfold kRuns
  rw [List.zipIdx_cons, List.flatMap_cons, List.getElem?_append_left (by rw [List.length_map]; exact h), List.getElem?_map]
theorem kRuns_next {p : Pg} {k n : Nat} {w : Way} {ws : List Way} (h : ¬ n < (runs p w).length) : (kRuns p k (w :: ws))[n]? = (kRuns p (k + 1) ws)[n - (runs p w).length]? := by
  unfold kRuns
  rw [List.zipIdx_cons, List.flatMap_cons, List.getElem?_append_right (by rw [List.length_map]; exact Nat.le_of_not_lt h), List.length_map]
def inPl (p : Pg) (s0 : List Nat) (r : Nat) (s : List Nat) : Prop := Reach p s0 r s ∧ r < p.rs.length
/-- a way that a run from s0 may come to -/
def wIn (p : Pg) (s0 : List Nat) : Way → Prop
  | .at r s => inPl p s0 r s ∧ StOk p.m p.bs s
  | _ => True
def sp_runs_by : FS := fun as Q E => ∃ (p : Pg) (s0 : List Nat) (ft : Places) (w : Way), as = [.sh (.dict (plcD ft)), .sh w.d, .sh .none] ∧ (p.good ∧ Plc p ft (inPl p s0) ∧ wIn p s0 w) ∧ Q (.vl (dNat (runs p w).length)) []
def sp_run_led : FS := fun as Q E => ∃ (p : Pg) (s0 : List Nat) (n : Nat), as = [.sh p.d, .sh (stD s0), .sh (dNat n), .sh .none] ∧ (p.good ∧ StOk p.m p.bs s0 ∧ Few p s0 ∧ p.rs.length ≤ 35) ∧ ∃ c w, (runs p (poe p 0 s0))[n]? = some (c, w) ∧ Q (.tm (.lst (c.map dNat))) []
def sp_run_by_number : FS := fun as Q E => ∃ (p : Pg) (s0 : List Nat) (n : Nat), as = [.sh p.d, .sh (stD s0), .sh (dNat n)] ∧ (p.good ∧ StOk p.m p.bs s0 ∧ Few p s0 ∧ p.rs.length ≤ 35) ∧ ∃ c w, (runs p (poe p 0 s0))[n]? = some (c, w) ∧ Q (.tm (.lst (c.map dNat))) []
def sp_walked : FS := fun as Q E => ∃ (p : Pg) (s0 : List Nat) (c : List Nat) (w : Way), as = [.sh p.d, .sh (stD s0), .sh (.list (c.map dNat))] ∧ (p.good ∧ StOk p.m p.bs s0 ∧ (c, w) ∈ runs p (poe p 0 s0)) ∧ ∀ ws : List Way, Q (.tm (.lst ((ws ++ [w]).map Way.d))) []
def sp_end_of : FS := fun as Q E => ∃ (p : Pg) (s0 : List Nat) (c : List Nat) (w : Way), as = [.sh p.d, .sh (stD s0), .sh (.list (c.map dNat))] ∧ (p.good ∧ StOk p.m p.bs s0 ∧ (c, w) ∈ runs p (poe p 0 s0)) ∧ Q (.vl w.d) []
/- N: 0=counts 1=way 2=wanted -/
def t_runs_by_1 : DS := dRet (dDGet2 (dOp tDGet (dRef 0) (dVal 1)) (dVal 2) (dC (.int 0)))
def t_runs_by_2 : DS := dSeq (dIf (dTst (dIsN false (dRef 2))) (dRet (dSumV (dOp tDGet (dRef 0) (dVal 1)))) (dNext)) t_runs_by_1
def t_runs_by : DS := dSeq (dIf (dNot (dTst (dCall sp_is_place [dVal 1]))) (dRet (dCB tInt1 [dOrV (dIsN false (dRef 2)) (dOp tEq (dRef 1) (dRef 2))])) (dNext)) t_runs_by_2

/- N: 0=program 1=store 2=number 3=wanted 4=counts 5=way 6=choices 7=ways 8=choice -/
def t_run_led_1 : DS := dAug 8 (· + ·) (dC (.int 1))
def t_run_led_2 : DS := dSeq (dAug 2 (· - ·) (dCall sp_runs_by [dVal 4, dOp tIx (dRef 7) (dVal 8), dVal 3])) t_run_led_1
def t_run_led_3 : DS := dSet 5 (dOp tIx (dRef 7) (dVal 8))
def t_run_led_4 : DS := dSeq (dIf (dTst (dCall sp_is_pick [dVal 0, dVal 5])) (dDrop (dApp 6 (dVal 8))) (dNext)) t_run_led_3
def t_run_led_5 : DS := dSeq (dWhile (dTst (dOp (tB0 fun i j => decide (j ≤ i)) (dRef 2) (dCall sp_runs_by [dVal 4, dOp tIx (dRef 7) (dVal 8), dVal 3]))) (t_run_led_2)) t_run_led_4
def t_run_led_6 : DS := dSeq (dSet 8 (dC (.int 0))) t_run_led_5
def t_run_led_7 : DS := dSeq (dSet 7 (dCall sp_ways_from [dVal 0, dVal 5])) t_run_led_6
def t_run_led_8 : DS := dRet (dMov 6)
def t_run_led_9 : DS := dSeq (dWhile (dTst (dCall sp_is_place [dVal 5])) (dWipe [7, 8] (t_run_led_7))) t_run_led_8
def t_run_led_10 : DS := dSeq (dSet 6 (dLst [])) t_run_led_9
def t_run_led_11 : DS := dSeq (dIf (dNot (dTst (dChain (tB0 fun i j => decide (i ≤ j)) (tB0 fun i j => decide (i < j)) (dC (.int 0)) (dRef 2) (dCall sp_runs_by [dVal 4, dVal 5, dVal 3])))) (dNever) (dNext)) t_run_led_10
def t_run_led_12 : DS := dSeq (dIf (dOr (dNot (dTst (dIsi "int" (dRef 2)))) (dTst (dIsi "bool" (dRef 2)))) (dNever) (dNext)) t_run_led_11
def t_run_led_13 : DS := dSeq (dSet 5 (dCall sp_begin_of [dVal 0, dVal 1])) t_run_led_12
def t_run_led : DS := dSeq (dSet 4 (dCall sp_counts_on [dVal 0, dVal 1])) t_run_led_13

/- N: 0=program 1=store 2=number -/
def t_run_by_number_1 : DS := dRet (dCall sp_run_led [dVal 0, dVal 1, dVal 2, dC .none])
def t_run_by_number : DS := dSeq (dDrop (dCall sp_need_store [dVal 0, dVal 1])) t_run_by_number_1

/- N: 0=program 1=store 2=choices 3=found 4=met 5=ways 6=choice -/
def t_walked_1 : DS := dAug 4 (· + ·) (dC (.int 1))
def t_walked_2 : DS := dSeq (dSet 6 (dOp tIx (dRef 2) (dVal 4))) t_walked_1
def t_walked_3 : DS := dDrop (dApp 3 (dOp tIx (dRef 5) (dVal 6)))
def t_walked_4 : DS := dSeq (dIf (dTst (dCall sp_is_pick [dVal 0, dOp tIx (dRef 3) (dUn tNeg (dC (.int 1)))])) (dSeq (dIf (dOr (dTst (dOp tEq (dRef 4) (dCB tLenU [dRef 2]))) (dNot (dTst (dCall sp_is_whole [dOp tIx (dRef 2) (dVal 4), dC (.int 0), dOp (tI0 (· - ·)) (dCB tLenU [dRef 5]) (dC (.int 1))])))) (dNever) (dNext)) t_walked_2) (dNext)) t_walked_3
def t_walked_5 : DS := dSeq (dSet 6 (dC (.int 0))) t_walked_4
def t_walked_6 : DS := dSeq (dSet 5 (dCall sp_ways_from [dVal 0, dOp tIx (dRef 3) (dUn tNeg (dC (.int 1)))])) t_walked_5
def t_walked_7 : DS := dRet (dMov 3)
def t_walked_8 : DS := dSeq (dIf (dTst (dOp (tB0 fun i j => decide (i < j)) (dRef 4) (dCB tLenU [dRef 2]))) (dNever) (dNext)) t_walked_7
def t_walked_9 : DS := dSeq (dWhile (dTst (dCall sp_is_place [dOp tIx (dRef 3) (dUn tNeg (dC (.int 1)))])) (dWipe [5, 6] (t_walked_6))) t_walked_8
def t_walked_10 : DS := dSeq (dSet 4 (dC (.int 0))) t_walked_9
def t_walked_11 : DS := dSeq (dSet 3 (dLst [dCall sp_begin_of [dVal 0, dVal 1]])) t_walked_10
def t_walked_12 : DS := dSeq (dIf (dNot (dTst (dIsi "list" (dRef 2)))) (dNever) (dNext)) t_walked_11
def t_walked : DS := dSeq (dDrop (dCall sp_need_store [dVal 0, dVal 1])) t_walked_12

/- N: 0=program 1=store 2=choices -/
def t_end_of : DS := dRet (dOp tIx (dCall sp_walked [dVal 0, dVal 1, dVal 2]) (dUn tNeg (dC (.int 1))))

theorem runs_endW {p : Pg} {w : Way} (h : w.isAt = false) : runs p w = [([], w)] := by
  cases w with
  | «at» r s => cases h
  | gives n => rfl
  | nothing => rfl
theorem sum_ints : ∀ l : List (Way × Nat), (l.map fun x => (x.2 : Int)).sum = (((l.map (·.2)).sum : Nat) : Int)
  | [] => rfl
  | x :: l => by rw [List.map_cons, List.map_cons, List.sum_cons, List.sum_cons, sum_ints l]; omega
theorem vc_runs_by (as Q E) (h : sp_runs_by as Q E) : t_runs_by (defEnds 3 Q) (start0 3 as) := by
  obtain ⟨p, s0, ft, w, rfl, ⟨hg, hf, hw⟩, hQ⟩ := h
  refine ⟨nd0, w, rfl, ?_⟩
  show if (!w.isAt) = true then _ else _
  refine ite_vc (fun h => ?_) (fun h => ?_)
  · have hna : w.isAt = false := by simpa using h
    rw [runs_endW hna] at hQ
    exact hQ
  · have hna : w.isAt = true := by simpa using h
    cases w with
    | gives n => cases hna
    | nothing => cases hna
    | «at» r s =>
      obtain ⟨l, hl⟩ := hf.all r s hw.1
      have hc := hf.ok _ hl
      refine ⟨⟨key_way, dctD_plc⟩, _, look_plc hf.nd hl, _, rfl, dctD_cnt, l.map fun x => (x.2 : Int), ?_, ?_⟩
      · unfold cntD
        rw [List.map_map, List.map_map]
        rfl
      · have := IsC.total (es := ends p (.at r s)) hc.nd (fun x hx => ((hc.at_ x.1 x.2).mp hx).1) fun e he => (hc.key e).mpr (List.count_pos_iff.mpr he)
        have e : (ends p (.at r s)).length = (runs p (.at r s)).length := by unfold ends; rw [List.length_map]
        have e2 : (l.map fun x => (x.2 : Int)).sum = ((runs p (.at r s)).length : Int) := by rw [sum_ints]; exact congrArg Nat.cast (this.trans e)
        rw [e2]
        exact hQ
theorem vc_run_by_number (as Q E) (h : sp_run_by_number as Q E) : t_run_by_number (defEnds 3 Q) (start0 3 as) := by
  obtain ⟨p, s0, n, rfl, ⟨hg, hs, few, h35⟩, c, w, hn, hQ⟩ := h
  refine ⟨nd0, p, s0, rfl, ⟨hg.bx, hs⟩, ?_⟩
  exact ⟨nd0, p, s0, n, rfl, ⟨hg, hs, few, h35⟩, c, w, hn, hQ⟩
theorem Nx_end {p : Pg} {s : List Nat} {w : Way} {c : List Nat} {e : Option (Nat × List Nat)} (h : Nx p s w c e) (ha : w.isAt = false) : c = [] ∧ (fgt ([], e)).2 = w := by
  cases w with
  | «at» r s => cases ha
  | gives v => obtain ⟨rfl, rfl⟩ := h; exact ⟨rfl, rfl⟩
  | nothing => obtain ⟨rfl, rfl⟩ := h; exact ⟨rfl, rfl⟩
theorem wIn_way {p : Pg} (hg : p.good) {s0 : List Nat} {r : Nat} {s : List Nat} (h : wIn p s0 (.at r s)) {w : Way} (hw : w ∈ ways p r s) : wIn p s0 w := by
  obtain ⟨⟨h1, h2⟩, h3⟩ := h
  cases w with
  | gives v => trivial
  | nothing => trivial
  | «at» r2 s2 =>
    obtain ⟨b1, b2, b3⟩ := ways_behind h2 hw
    exact ⟨⟨.step h1 h2 b1, b3⟩, ((ways_ok hg h2 h3 _ hw).1).2⟩
/-- what is left of the counting down at a place -/
def Kat (p : Pg) (r : Nat) (s : List Nat) (c : List Nat) (wl : Way) (k n : Nat) : Prop :=
  (isPick p r = true ∧ (kRuns p k ((ways p r s).drop k))[n]? = some (c, wl)) ∨ (isPick p r = false ∧ k = 0 ∧ ∃ w', ways p r s = [w'] ∧ (runs p w')[n]? = some (c, wl))
theorem Kat_start {p : Pg} (hg : p.good) {r : Nat} {s : List Nat} (hr : r < p.rs.length) (hs : StOk p.m p.bs s) {c : List Nat} {wl : Way} {n : Nat} (h : (runs p (.at r s))[n]? = some (c, wl)) : Kat p r s c wl 0 n := by
  cases hp : isPick p r with
  | true =>
    refine .inl ⟨hp, ?_⟩
    rw [runs_pick hg hr hs hp] at h
    exact h
  | false =>
    obtain ⟨w', h1, h2⟩ := runs_one hg hr hs hp
    rw [h2] at h
    exact .inr ⟨hp, rfl, w', h1, h⟩
theorem Kat_len {p : Pg} {r : Nat} {s : List Nat} {c : List Nat} {wl : Way} {k n : Nat} (h : Kat p r s c wl k n) : k < (ways p r s).length := by
  rcases h with ⟨_, h⟩ | ⟨_, rfl, w', h, _⟩
  · apply Classical.byContradiction
    intro z
    rw [List.drop_eq_nil_of_le (by omega)] at h
    cases h
  · rw [h]; exact Nat.zero_lt_one
theorem Kat_next {p : Pg} {r : Nat} {s : List Nat} {c : List Nat} {wl : Way} {k n : Nat} (h : Kat p r s c wl k n) {w : Way} (hw : (ways p r s)[k]? = some w) (hn : (runs p w).length ≤ n) : Kat p r s c wl (k + 1) (n - (runs p w).length) := by
  have hk := Kat_len h
  rcases h with ⟨hp, h⟩ | ⟨_, rfl, w', h, h2⟩
  · refine .inl ⟨hp, ?_⟩
    rw [List.drop_eq_getElem_cons hk] at h
    have e : (ways p r s)[k] = w := by rw [List.getElem?_eq_getElem hk] at hw; exact Option.some.inj hw
    rw [e, kRuns_next (by omega)] at h
    exact h
  · rw [h] at hw
    cases hw
    rw [List.getElem?_eq_none hn] at h2
    cases h2
theorem Kat_here {p : Pg} {r : Nat} {s : List Nat} {c : List Nat} {wl : Way} {k n : Nat} (h : Kat p r s c wl k n) {w : Way} (hw : (ways p r s)[k]? = some w) (hn : n < (runs p w).length) :
    (isPick p r = true ∧ ∃ c', c = k :: c' ∧ (runs p w)[n]? = some (c', wl)) ∨ (isPick p r = false ∧ (runs p w)[n]? = some (c, wl)) := by
  have hk := Kat_len h
  rcases h with ⟨hp, h⟩ | ⟨hp, rfl, w', h, h2⟩
  · rw [List.drop_eq_getElem_cons hk] at h
    have e : (ways p r s)[k] = w := by rw [List.getElem?_eq_getElem hk] at hw; exact Option.some.inj hw
    rw [e, kRuns_here hn, List.getElem?_eq_getElem hn] at h
    have h3 := Option.some.inj h
    injection h3 with h3 h4
    refine .inl ⟨hp, _, h3.symm, ?_⟩
    rw [List.getElem?_eq_getElem hn, ← h4]
  · rw [h] at hw
    cases hw
    exact .inr ⟨hp, h2⟩
def Eled (p : Pg) (s0 : List Nat) (ft : Places) (a : Int) (w : Way) (pre : List Nat) (x7 x8 : Sl) : Sv := [.sh p.d, .sh (stD s0), .sh (.int a), .sh .none, .sh (.dict (plcD ft)), .sh w.d, .ow (.lst (pre.map dNat)), x7, x8]
theorem led_body {p : Pg} (hg : p.good) {s0 : List Nat} {ft : Places} (hf : Plc p ft (inPl p s0)) {DD : DEn} {r : Nat} {s : List Nat} (hw : wIn p s0 (.at r s)) {pre c : List Nat} {wl : Way} {n : Nat} (hpre : pre.length < 1000) (h : (runs p (.at r s))[n]? = some (c, wl))
    (nx : ∀ (w' : Way) (n' k : Nat) (pre' c' : List Nat), w' ∈ ways p r s → (runs p w')[n']? = some (c', wl) → pre ++ c = pre' ++ c' → pre'.length ≤ pre.length + 1 → DD.nx (Eled p s0 ft (n' : Int) w' pre' (.ow (.lst ((ways p r s).map Way.d))) (.sh (.int (k : Int))))) :
    t_run_led_7 DD (Eled p s0 ft (n : Int) (.at r s) pre .no .no) := by
  obtain ⟨⟨h1, hr⟩, hs⟩ := id hw
  refine ⟨nd0, p, r, s, rfl, ⟨hg, hs, hr⟩, trivial, trivial, ?_⟩
  show t_run_led_5 DD [.sh p.d, .sh (stD s0), .sh (dNat n), .sh .none, .sh (.dict (plcD ft)), .sh (Way.at r s).d, .ow (.lst (pre.map dNat)), .ow (.lst ((ways p r s).map Way.d)), .sh (.int 0)]
  refine ⟨fun m e => ∃ (k n2 : Nat) (b a : Int), m = (ways p r s).length - k ∧ Kat p r s c wl k n2 ∧ a = (n2 : Int) ∧ b = (k : Int) ∧ e = [.sh p.d, .sh (stD s0), .sh (.int a), .sh .none, .sh (.dict (plcD ft)), .sh (Way.at r s).d, .ow (.lst (pre.map dNat)), .ow (.lst ((ways p r s).map Way.d)), .sh (.int b)],
    ⟨_, 0, n, 0, (n : Int), rfl, Kat_start hg hr hs h, rfl, rfl, rfl⟩, ?_⟩
  rintro m e ⟨k, n2, b, a, rfl, hk, rfl, rfl, rfl⟩
  have hkl := Kat_len hk
  have hix : atI ((ways p r s).map Way.d) (k : Int) = some ((ways p r s)[k]).d := atI_nat (by rw [List.getElem?_map, List.getElem?_eq_getElem hkl]; rfl)
  have hwk : (ways p r s)[k]? = some (ways p r s)[k] := List.getElem?_eq_getElem hkl
  have hmem : (ways p r s)[k] ∈ ways p r s := List.getElem_mem hkl
  generalize (ways p r s)[k] = w at hix hwk hmem
  have hwin := wIn_way hg hw hmem
  refine ⟨_, hix, nd0, p, s0, ft, w, rfl, ⟨hg, hf, hwin⟩, ?_⟩
  refine ite_vc (fun z => ?_) (fun z => ?_)
  · have z : ((runs p w).length : Int) ≤ (n2 : Int) := of_decide_eq_true z
    refine ⟨_, hix, nd0, p, s0, ft, w, rfl, ⟨hg, hf, hwin⟩, trivial, trivial, ?_⟩
    exact ⟨(ways p r s).length - (k + 1), by omega, k + 1, n2 - (runs p w).length, _, _, rfl, Kat_next hk hwk (by omega), (by show (n2 : Int) - ((runs p w).length : Int) = _; omega), (by show (k : Int) + 1 = _; omega), rfl⟩
  · have z : ¬ ((runs p w).length : Int) ≤ (n2 : Int) := of_decide_eq_false z
    show t_run_led_4 DD [.sh p.d, .sh (stD s0), .sh (dNat n2), .sh .none, .sh (.dict (plcD ft)), .sh (Way.at r s).d, .ow (.lst (pre.map dNat)), .ow (.lst ((ways p r s).map Way.d)), .sh (dNat k)]
    refine ⟨nd0, p, r, s, rfl, hr, ?_⟩
    rcases Kat_here hk hwk (by omega) with ⟨hp, c', rfl, h2⟩ | ⟨hp, h2⟩
    · rw [hp]
      refine ⟨⟨_, rfl⟩, _, rfl, by rw [List.length_map]; omega, ?_⟩
      refine ⟨_, hix, trivial, ?_⟩
      have := nx w n2 k (pre ++ [k]) c' hmem h2 (by rw [List.append_assoc]; rfl) (by rw [List.length_append]; exact Nat.le_refl _)
      unfold Eled at this
      rw [List.map_append] at this
      exact this
    · rw [hp]
      refine ⟨_, hix, trivial, ?_⟩
      exact nx w n2 k pre c hmem h2 rfl (Nat.le_succ _)
theorem vc_run_led (as Q E) (h : sp_run_led as Q E) : t_run_led (defEnds 4 Q) (start0 9 as) := by
  obtain ⟨p, s0, n, rfl, ⟨hg, hs, few, h35⟩, c, wl, hn, hQ⟩ := h
  refine ⟨nd0, p, s0, rfl, ⟨hg, hs, few, h35⟩, fun ft hf => ⟨trivial, ?_⟩⟩
  refine ⟨nd0, p, s0, rfl, trivial, ?_⟩
  have hw0 : wIn p s0 (poe p 0 s0) := by
    unfold poe
    split
    · trivial
    · exact ⟨⟨.here, by omega⟩, hs⟩
  have hrk : rk p (poe p 0 s0) ≤ p.rs.length := rk_le
  have hlen := (List.getElem?_eq_some_iff.mp hn).1
  generalize poe p 0 s0 = w0 at hw0 hrk hn hlen
  show t_run_led_12 (defEnds 4 Q) [.sh p.d, .sh (stD s0), .sh (dNat n), .sh .none, .ow (.dct (plcD ft)), .sh w0.d, .no, .no, .no]
  refine ⟨rfl, true, kit_ii, rfl, false, kit_ib, ?_⟩
  show t_run_led_11 (defEnds 4 Q) [.sh p.d, .sh (stD s0), .sh (dNat n), .sh .none, .ow (.dct (plcD ft)), .sh w0.d, .no, .no, .no]
  refine ⟨nd0, p, s0, ft, w0, rfl, ⟨hg, hf, hw0⟩, ?_⟩
  refine ite_vc (fun z => ?_) fun _ => ?_
  · have z : (!decide ((n : Int) < ((runs p w0).length : Int))) = true := z
    rw [decide_eq_true (by omega)] at z
    cases z
  refine ⟨l0, trivial, ?_⟩
  show t_run_led_9 (defEnds 4 Q) (Eled p s0 ft (n : Int) w0 [] .no .no)
  refine ⟨fun m e => ∃ (w : Way) (n2 : Nat) (pre c' : List Nat), m = rk p w ∧ wIn p s0 w ∧ pre.length + rk p w ≤ p.rs.length ∧ (runs p w)[n2]? = some (c', wl) ∧ c = pre ++ c' ∧ e = Eled p s0 ft (n2 : Int) w pre .no .no,
    ⟨_, w0, n, [], c, rfl, hw0, by simpa using hrk, hn, rfl, rfl⟩, ?_⟩
  rintro m e ⟨w, n2, pre, c', rfl, hw, hl, hr, rfl, rfl⟩
  refine ⟨nd0, w, rfl, ?_⟩
  cases w with
  | gives v =>
    have e : runs p (Way.gives v) = [([], .gives v)] := rfl
    rw [e] at hr
    obtain ⟨_, h2⟩ := List.getElem?_eq_some_iff.mp hr
    have hz : n2 = 0 := by
      have h3 : n2 < 1 := (List.getElem?_eq_some_iff.mp hr).1
      omega
    subst hz
    cases hr
    rw [List.append_nil] at hQ
    exact hQ
  | nothing =>
    have e : runs p Way.nothing = [([], .nothing)] := rfl
    rw [e] at hr
    have hz : n2 = 0 := by
      have h3 : n2 < 1 := (List.getElem?_eq_some_iff.mp hr).1
      omega
    subst hz
    cases hr
    rw [List.append_nil] at hQ
    exact hQ
  | «at» r s =>
    have hlt := hw.1.2
    have hst := hw.2
    have hl' : pre.length + (p.rs.length - r) ≤ p.rs.length := hl
    have h35' := h35
    refine led_body hg hf hw (by omega) hr fun w' n' k pre' c'' hm h1 h2 h3 => ?_
    have hk := (ways_ok hg hlt hst w' hm).2
    exact ⟨⟨trivial, trivial, trivial⟩, rk p w', hk, w', n', pre', c'', rfl, wIn_way hg hw hm, by omega, h1, h2, rfl⟩
theorem last_way {ws : List Way} {w : Way} : atI ((ws ++ [w]).map Way.d) (-1) = some w.d := by
  rw [List.map_append]
  exact atI_last _ _
theorem nats_pl {c : List Nat} : pls (c.map dNat) = true := pls_map (f := dNat) fun _ _ => rfl
theorem eqv_nn {a b : Nat} : PyData.eqv (dNat a) (dNat b) = decide (a = b) := by
  rw [eqv_int]
  by_cases h : a = b
  · subst h; simp
  · have : ¬ (a : Int) = (b : Int) := by omega
    simp [h, this]
theorem kit_ll : kitB "list" "list" = some true := by decide +kernel
def Ewk (p : Pg) (s0 c : List Nat) (ws : List Way) (a : Int) (x5 x6 : Sl) : Sv := [.sh p.d, .sh (stD s0), .sh (.list (c.map dNat)), .ow (.lst (ws.map Way.d)), .sh (.int a), x5, x6]
theorem wk_body {p : Pg} (hg : p.good) {s0 : List Nat} {DD : DEn} {r : Nat} {s c1 c2 : List Nat} {ws : List Way} {ee : Option (Nat × List Nat)} (hr : r < p.rs.length) (hs : StOk p.m p.bs s) (hl : ws.length < 1000) (h : (c2, ee) ∈ Lr p r s)
    (nx : ∀ (w' : Way) (c1' c2' : List Nat) (x5 x6 : Sl), nio x5 → nio x6 → w' ∈ ways p r s → c1 ++ c2 = c1' ++ c2' → Nx p s w' c2' ee → DD.nx (Ewk p s0 (c1 ++ c2) (ws ++ [.at r s] ++ [w']) (c1'.length : Int) x5 x6)) :
    t_walked_6 DD (Ewk p s0 (c1 ++ c2) (ws ++ [.at r s]) (c1.length : Int) .no .no) := by
  refine ⟨_, last_way, nd0, p, r, s, rfl, ⟨hg, hs, hr⟩, trivial, trivial, ?_⟩
  refine ⟨_, last_way, nd0, p, r, s, rfl, hr, ?_⟩
  obtain ⟨k, w, hw, ⟨hp, c', rfl, hn⟩ | ⟨hp, rfl, hn⟩⟩ := Lr_step hr h
  · rw [hp]
    have hk := (List.getElem?_eq_some_iff.mp hw).1
    have hmem := List.mem_of_getElem? hw
    have hix : atI ((ways p r s).map Way.d) (k : Int) = some w.d := atI_nat (by rw [List.getElem?_map, hw]; rfl)
    have hck : atI ((c1 ++ k :: c').map dNat) (c1.length : Int) = some (dNat k) := atI_nat (by rw [List.getElem?_map, List.getElem?_append_right (Nat.le_refl _), Nat.sub_self]; rfl)
    refine ⟨eqI, ite_vc (fun z => ?_) fun _ => ?_⟩
    · rw [List.length_map, eqv_nn] at z
      have := of_decide_eq_true z
      rw [List.length_append, List.length_cons] at this
      omega
    refine ⟨_, hck, nd0, k, 0, _, rfl, ?_⟩
    have ez : decide ((0 : Int) ≤ (k : Int) ∧ (k : Int) ≤ ((ways p r s).length : Int) - 1) = true := by rw [decide_eq_true_eq]; omega
    rw [List.length_map, ez]
    refine ⟨_, hck, trivial, trivial, ?_⟩
    refine ⟨⟨_, rfl⟩, _, hix, _, rfl, by rw [List.length_map, List.length_append, List.length_singleton]; omega, ?_⟩
    have := nx w (c1 ++ [k]) c' (.ow (.lst ((ways p r s).map Way.d))) (.sh (dNat k)) trivial trivial hmem (by rw [List.append_assoc]; rfl) hn
    unfold Ewk at this
    rw [List.map_append (l₁ := ws ++ [Way.at r s]), List.length_append] at this
    exact this
  · rw [hp]
    have hmem := List.mem_of_getElem? hw
    have hix : atI ((ways p r s).map Way.d) (0 : Int) = some w.d := atI_nat (j := 0) (by rw [List.getElem?_map, hw]; rfl)
    refine ⟨⟨_, rfl⟩, _, hix, _, rfl, by rw [List.length_map, List.length_append, List.length_singleton]; omega, ?_⟩
    have := nx w c1 c2 (.ow (.lst ((ways p r s).map Way.d))) (.sh (.int 0)) trivial trivial hmem rfl hn
    unfold Ewk at this
    rw [List.map_append (l₁ := ws ++ [Way.at r s])] at this
    exact this
theorem vc_walked (as Q E) (h : sp_walked as Q E) : t_walked (defEnds 3 Q) (start0 7 as) := by
  obtain ⟨p, s0, c, wl, rfl, ⟨hg, hs, hm⟩, hQ⟩ := h
  obtain ⟨ee, he, hwl⟩ := runs_mem hg hs hm
  refine ⟨nd0, p, s0, rfl, ⟨hg.bx, hs⟩, ?_⟩
  refine ⟨pl_noDict (d := .list _) nats_pl, true, kit_ll, ?_⟩
  refine ⟨nd0, p, s0, rfl, l1, trivial, trivial, ?_⟩
  have hn0 : Nx p [] (poe p 0 s0) c ee := Nx_poe he
  have hok := poe_ok (p := p) (r := 0) hs
  have hrk : rk p (poe p 0 s0) ≤ p.rs.length := rk_le
  have hl1000 := hg.len
  generalize poe p 0 s0 = w0 at hn0 hok hrk
  show t_walked_9 (defEnds 3 Q) (Ewk p s0 c ([] ++ [w0]) 0 .no .no)
  refine ⟨fun m e => ∃ (ws : List Way) (w : Way) (c1 c2 sp : List Nat) (a : Int), m = rk p w ∧ Wok p w ∧ ws.length + rk p w ≤ p.rs.length ∧ c = c1 ++ c2 ∧ Nx p sp w c2 ee ∧ a = (c1.length : Int) ∧ e = Ewk p s0 c (ws ++ [w]) a .no .no,
    ⟨_, [], w0, [], c, [], 0, rfl, hok, by simpa using hrk, rfl, hn0, rfl, rfl⟩, ?_⟩
  rintro m e ⟨ws, w, c1, c2, sp, a, rfl, hok, hl, rfl, hn, rfl, rfl⟩
  refine ⟨_, last_way, nd0, w, rfl, ?_⟩
  have fin : w.isAt = false → t_walked_8 (defEnds 3 Q) (Ewk p s0 (c1 ++ c2) (ws ++ [w]) (c1.length : Int) .no .no) := fun ha => by
    obtain ⟨rfl, h2⟩ := Nx_end hn ha
    refine ite_vc (fun z => ?_) fun _ => ?_
    · have z := of_decide_eq_true z
      rw [List.append_nil, List.length_map] at z
      omega
    · have : wl = w := by rw [hwl]; exact h2
      rw [← this]
      exact hQ ws
  cases w with
  | gives v => exact fin rfl
  | nothing => exact fin rfl
  | «at» r s =>
    have hl' : ws.length + (p.rs.length - r) ≤ p.rs.length := hl
    have hr := hok.1
    refine wk_body hg hok.1 hok.2 (by omega) hn fun w' c1' c2' x5 x6 n5 n6 hmem e1 hn' => ?_
    obtain ⟨h3, h4⟩ := ways_ok hg hok.1 hok.2 w' hmem
    exact ⟨⟨ni rfl n5, ni rfl n6, trivial⟩, rk p w', h4, ws ++ [.at r s], w', c1', c2', s, _, rfl, h3, by rw [List.length_append, List.length_singleton]; omega, e1, hn', rfl, rfl⟩
theorem vc_end_of (as Q E) (h : sp_end_of as Q E) : t_end_of (defEnds 3 Q) (start0 3 as) := by
  obtain ⟨p, s0, c, wl, rfl, hh, hQ⟩ := h
  exact ⟨nd0, p, s0, c, wl, rfl, hh, fun ws => ⟨_, last_way, hQ⟩⟩
end DL
/-! the law's own reading of a program. -/
namespace DL
open PySem PySem.Spec PyProof.Rows L2 PySem.W
def sp__law_worth (dm : Nat) : FS := sp_worth_in dm
def sp__law_set : FS := sp_store_with
def sp__law_ways : FS := fun as Q E => ∃ (p : Pg) (r : Nat) (s : List Nat), as = [.sh p.d, .sh (Way.at r s).d] ∧ (p.good ∧ StOk p.m p.bs s ∧ r < p.rs.length) ∧ Q (.tm (.lst ((ways p r s).map Way.d))) []
def sp__law_left : FS := fun as Q E => ∃ (p : Pg) (s0 c : List Nat) (v : Nat) (s' : List Nat), as = [.sh p.d, .sh (stD s0), .sh (.list (c.map dNat))] ∧ (p.good ∧ StOk p.m p.bs s0 ∧ (c, some (v, s')) ∈ Lr p 0 s0 ∧ c.length ≤ 1000) ∧ Q (.vl (stD s')) []
def sp__law_gone : FS := fun as Q E => ∃ (p : Pg) (s0 c1 c2 : List Nat) (e : Option (Nat × List Nat)), as = [.sh p.d, .sh (stD s0), .sh (.list ((c1 ++ c2).map dNat))] ∧ (p.good ∧ StOk p.m p.bs s0 ∧ (c1, e) ∈ Lr p 0 s0 ∧ c1.length + c2.length ≤ 1000) ∧
  ∀ here : List Nat, (∀ v s', e = some (v, s') → here = s') → Q (.vl (.tuple [(fgt ([], e)).2.d, stD here, .list (c2.map dNat)])) []
def sp__law_run_right : FS := fun as Q E => ∃ (p q : Pg) (box : Str) (s0 c : List Nat) (w : Way), as = [.sh p.d, .sh q.d, .sh (.str box), .sh (stD s0), .sh (putAfter p q box).d, .sh (.list (c.map dNat))] ∧
  (p.good ∧ q.good ∧ q.m = p.m ∧ q.bs = p.bs ∧ box ∈ p.bs ∧ (putAfter p q box).good ∧ StOk p.m p.bs s0 ∧ (c, w) ∈ runs (putAfter p q box) (poe (putAfter p q box) 0 s0)) ∧ Q (.vl (.bool true)) []
structure Wide (m : Nat) (bs : List Str) (most : Nat) (p : Pg) : Prop where
  m_ : p.m = m
  bs_ : p.bs = bs
  rows : ∀ r ∈ p.rs, r.ok m bs
  len : p.rs.length ≤ most
  gives : (p.rs.map Row.gi).sum ≤ 4
def sp__law_wide : FS := fun as Q E => ∃ (ns : List Nat) (m : Nat) (bs : List Str) (most : Nat), as = [.io (nats ns), .sh (dNat m), .sh (bxD bs), .sh (dNat most)] ∧ (BxOk m bs ∧ 1 ≤ most ∧ most ≤ 100) ∧ ∀ (p : Pg) (ms : List Nat), Wide m bs most p → Q (.vl p.d) [nats ms]
/- N: 0=program 1=thing 2=store 3=one 4=other -/
def t__law_worth_1 (dm : Nat) : DS := dRet (dOp (tI (fun _ j => 0 < j) (· % ·)) (dOp tIx (dLst [dOp tAdd (dRef 3) (dRef 4), dOp tMulU (dRef 3) (dRef 4)]) (dCB tInt1 [dOp tEq (dOp tIx (dRef 1) (dC (.int 0))) (dC (.str "times"))])) (dOp tIx (dRef 0) (dC (.int 0))))
def t__law_worth_2 (dm : Nat) : DS := dSeq (dIf (dTst (dOp tEq (dOp tIx (dRef 1) (dC (.int 0))) (dC (.str "same")))) (dRet (dCB tInt1 [dOp tEq (dRef 3) (dRef 4)])) (dNext)) (t__law_worth_1 dm)
def t__law_worth_3 (dm : Nat) : DS := dSeq (dIf (dTst (dOp tEq (dOp tIx (dRef 1) (dC (.int 0))) (dC (.str "less")))) (dRet (dCB tInt1 [dOp (tB0 fun i j => decide (i < j)) (dRef 3) (dRef 4)])) (dNext)) (t__law_worth_2 dm)
def t__law_worth_4 (dm : Nat) : DS := dSeq (dSet 4 (dCall (sp__law_worth dm) [dVal 0, dOp tIx (dRef 1) (dC (.int 2)), dVal 2])) (t__law_worth_3 dm)
def t__law_worth_5 (dm : Nat) : DS := dSeq (dSet 3 (dCall (sp__law_worth dm) [dVal 0, dOp tIx (dRef 1) (dC (.int 1)), dVal 2])) (t__law_worth_4 dm)
def t__law_worth_6 (dm : Nat) : DS := dSeq (dIf (dTst (dOp tEq (dOp tIx (dRef 1) (dC (.int 0))) (dC (.str "box")))) (dRet (dOp tIx (dRef 2) (dBM ckL tIndex (dOp tIx (dRef 0) (dC (.int 1))) [dOp tIx (dRef 1) (dC (.int 1))]))) (dNext)) (t__law_worth_5 dm)
def t__law_worth (dm : Nat) : DS := dSeq (dIf (dTst (dOp tEq (dOp tIx (dRef 1) (dC (.int 0))) (dC (.str "number")))) (dRet (dOp tIx (dRef 1) (dC (.int 1)))) (dNext)) (t__law_worth_6 dm)

/- N: 0=program 1=store 2=box 3=worth 4=at -/
def t__law_set_1 : DS := dRet (dOp tAdd (dOp tAdd (dSl (dRef 1) none (some (dVal 4))) (dTup [dVal 3])) (dSl (dRef 1) (some (dOp tAdd (dRef 4) (dC (.int 1)))) none))
def t__law_set : DS := dSeq (dSet 4 (dBM ckL tIndex (dOp tIx (dRef 0) (dC (.int 1))) [dRef 2])) t__law_set_1

/- N: 0=program 1=place 2=at 3=store 4=row 5=stores 6=to 7=thing 8=one -/
def t__law_ways_1 : DS := dRet (dLc (dSeqI (dVal 5)) (.nm 8) [6] (dYes) (dTup [dVal 6, dVal 8]))
def t__law_ways_2 : DS := dSeq (dIf (dTst (dOp (tB0 fun i j => decide (j ≤ i)) (dRef 6) (dCB tLenU [dOp tIx (dRef 0) (dC (.int 2))]))) (dRet (dOp tMulU (dLst [dTup [dC (.str "nothing")]]) (dCB tLenU [dRef 5]))) (dNext)) t__law_ways_1
def t__law_ways_3 : DS := dSeq (dIf (dTst (dOp tEq (dOp tIx (dRef 4) (dC (.int 0))) (dC (.str "pick")))) (dSet 5 (dLc (dSeqI (dOp tIx (dRef 4) (dC (.int 2)))) (.nm 7) [0, 3] (dYes) (dCall sp__law_set [dVal 0, dVal 3, dOp tIx (dRef 4) (dC (.int 1)), dCall (sp__law_worth 5) [dVal 0, dVal 7, dVal 3]]))) (dNext)) t__law_ways_2
def t__law_ways_4 : DS := dSeq (dIf (dTst (dOp tEq (dOp tIx (dRef 4) (dC (.int 0))) (dC (.str "set")))) (dSet 5 (dLst [dCall sp__law_set [dVal 0, dVal 3, dOp tIx (dRef 4) (dC (.int 1)), dCall (sp__law_worth 5) [dVal 0, dOp tIx (dRef 4) (dC (.int 2)), dVal 3]]])) (dNext)) t__law_ways_3
def t__law_ways_5 : DS := dSeq (dIf (dAnd (dTst (dOp tEq (dOp tIx (dRef 4) (dC (.int 0))) (dC (.str "skip")))) (dTst (dOp tNe (dCall (sp__law_worth 5) [dVal 0, dOp tIx (dRef 4) (dC (.int 1)), dVal 3]) (dC (.int 0))))) (dSet 6 (dOp tAdd (dRef 6) (dOp tIx (dRef 4) (dC (.int 2))))) (dNext)) t__law_ways_4
def t__law_ways_6 : DS := dSeq (dIf (dAnd (dTst (dOp tEq (dOp tIx (dRef 4) (dC (.int 0))) (dC (.str "need")))) (dTst (dOp tEq (dCall (sp__law_worth 5) [dVal 0, dOp tIx (dRef 4) (dC (.int 1)), dVal 3]) (dC (.int 0))))) (dRet (dLst [dTup [dC (.str "nothing")]])) (dNext)) t__law_ways_5
def t__law_ways_7 : DS := dSeq (dSet 6 (dOp tAdd (dRef 2) (dC (.int 1)))) t__law_ways_6
def t__law_ways_8 : DS := dSeq (dSet 5 (dLst [dVal 3])) t__law_ways_7
def t__law_ways_9 : DS := dSeq (dIf (dTst (dOp tEq (dOp tIx (dRef 4) (dC (.int 0))) (dC (.str "give")))) (dRet (dLst [dTup [dC (.str "gives"), dCall (sp__law_worth 5) [dVal 0, dOp tIx (dRef 4) (dC (.int 1)), dVal 3]]])) (dNext)) t__law_ways_8
def t__law_ways_10 : DS := dSeq (dSet 4 (dOp tIx (dOp tIx (dRef 0) (dC (.int 2))) (dVal 2))) t__law_ways_9
def t__law_ways : DS := dSeq (dAsg (.tp [.nm 2, .nm 3]) (dVal 1)) t__law_ways_10

/- N: 0=program 1=store 2=choices 3=way 4=place 5=left 6=choice -/
def t__law_left_1 : DS := dSet 3 (dOp tIx (dCall sp__law_ways [dVal 0, dVal 4]) (dVal 6))
def t__law_left_2 : DS := dSeq (dIf (dTst (dOp tEq (dOp tIx (dOp tIx (dOp tIx (dRef 0) (dC (.int 2))) (dOp tIx (dRef 4) (dC (.int 0)))) (dC (.int 0))) (dC (.str "pick")))) (dSet 6 (dPopAt 5 (dC (.int 0)))) (dNext)) t__law_left_1
def t__law_left_3 : DS := dSeq (dSet 6 (dC (.int 0))) t__law_left_2
def t__law_left_4 : DS := dSeq (dSet 4 (dVal 3)) t__law_left_3
def t__law_left_5 : DS := dRet (dOp tIx (dRef 4) (dC (.int 1)))
def t__law_left_6 : DS := dSeq (dWhile (dTst (dOp (tInB true) (dOp tIx (dRef 3) (dC (.int 0))) (dTup [dC (.str "gives"), dC (.str "nothing")]))) (dWipe [6] (t__law_left_4))) t__law_left_5
def t__law_left_7 : DS := dSeq (dSet 5 (dCB tListU [dRef 2])) t__law_left_6
def t__law_left_8 : DS := dSeq (dSet 4 (dVal 3)) t__law_left_7
def t__law_left : DS := dSeq (dSet 3 (dTup [dC (.int 0), dVal 1])) t__law_left_8

/- N: 0=program 1=store 2=choices 3=way 4=place 5=left 6=ways 7=choice -/
def t__law_gone_1 : DS := dSet 5 (dSl (dRef 5) (some (dC (.int 1))) none)
def t__law_gone_2 : DS := dSet 3 (dOp tIx (dRef 6) (dVal 7))
def t__law_gone_3 : DS := dSeq (dIf (dTst (dInRng true (dRef 7) (dCB tLenU [dRef 6]))) (dRet (dTup [dC .none, dVal 1, dLst []])) (dNext)) t__law_gone_2
def t__law_gone_4 : DS := dSeq (dIf (dTst (dOp tEq (dOp tIx (dOp tIx (dOp tIx (dRef 0) (dC (.int 2))) (dOp tIx (dRef 4) (dC (.int 0)))) (dC (.int 0))) (dC (.str "pick")))) (dSeq (dSet 7 (dPopT (dOp tAdd (dRef 5) (dLst [dUn tNeg (dC (.int 1))])) 0)) t__law_gone_1) (dNext)) t__law_gone_3
def t__law_gone_5 : DS := dSeq (dSet 7 (dC (.int 0))) t__law_gone_4
def t__law_gone_6 : DS := dSeq (dSet 6 (dCall sp__law_ways [dVal 0, dVal 4])) t__law_gone_5
def t__law_gone_7 : DS := dSeq (dSet 4 (dVal 3)) t__law_gone_6
def t__law_gone_8 : DS := dRet (dTup [dVal 3, dOp tIx (dRef 4) (dC (.int 1)), dVal 5])
def t__law_gone_9 : DS := dSeq (dWhile (dTst (dOp (tInB true) (dOp tIx (dRef 3) (dC (.int 0))) (dTup [dC (.str "gives"), dC (.str "nothing")]))) (dWipe [6, 7] (t__law_gone_7))) t__law_gone_8
def t__law_gone_10 : DS := dSeq (dIf (dTst (dOp tEq (dOp tIx (dRef 0) (dC (.int 2))) (dLst []))) (dSet 3 (dTup [dC (.str "nothing")])) (dNext)) t__law_gone_9
def t__law_gone_11 : DS := dSeq (dSet 5 (dCB tListU [dRef 2])) t__law_gone_10
def t__law_gone_12 : DS := dSeq (dSet 4 (dVal 3)) t__law_gone_11
def t__law_gone : DS := dSeq (dSet 3 (dTup [dC (.int 0), dVal 1])) t__law_gone_12

/- N: 0=one 1=other 2=box 3=store 4=both 5=choices 6=end 7=here 8=left -/
def t__law_run_right_1 : DS := dRet (dAndV (dIsN true (dRef 6)) (dAndV (dOp tEq (dRef 8) (dLst [])) (dOp tEq (dCall sp_end_of [dVal 4, dVal 3, dVal 5]) (dRef 6))))
def t__law_run_right_2 : DS := dSeq (dIf (dAnd (dTst (dIsN true (dRef 6))) (dTst (dOp tEq (dOp tIx (dRef 6) (dC (.int 0))) (dC (.str "gives"))))) (dAsg (.tp [.nm 6, .nm 7, .nm 8]) (dCall sp__law_gone [dVal 1, dCall sp__law_set [dVal 0, dVal 7, dVal 2, dOp tIx (dRef 6) (dC (.int 1))], dVal 8])) (dNext)) t__law_run_right_1
def t__law_run_right : DS := dSeq (dAsg (.tp [.nm 6, .nm 7, .nm 8]) (dCall sp__law_gone [dVal 0, dVal 3, dVal 5])) t__law_run_right_2

/- N: 0=deck 1=m 2=boxes 3=most 4=rows 5=gives 6=k 7=way 8=things 9=box 10=row 11=j -/
def t__law_wide_1 : DS := dSet 5 (dOp tAdd (dRef 5) (dC (.int 1)))
def t__law_wide_2 : DS := dDrop (dApp 4 (dVal 10))
def t__law_wide_3 : DS := dSeq (dIf (dAnd (dTst (dOp (tB0 fun i j => decide (j < i)) (dRef 7) (dC (.int 8)))) (dAnd (dTst (dOp (tB0 fun i j => decide (i < j)) (dRef 5) (dC (.int 3)))) (dTst (dOp (tB0 fun i j => decide (j < i)) (dRef 6) (dC (.int 2)))))) (dSeq (dSet 10 (dTup [dC (.str "give"), dOp tIx (dRef 8) (dC (.int 0))])) t__law_wide_1) (dNext)) t__law_wide_2
def t__law_wide_4 : DS := dSeq (dIf (dTst (dOp tEq (dRef 7) (dC (.int 8)))) (dSet 10 (dTup [dC (.str "need"), dOp tIx (dRef 8) (dC (.int 0))])) (dNext)) t__law_wide_3
def t__law_wide_5 : DS := dSeq (dIf (dTst (dOp tEq (dRef 7) (dC (.int 7)))) (dSet 10 (dTup [dC (.str "skip"), dOp tIx (dRef 8) (dC (.int 0)), dOp tAdd (dC (.int 1)) (dOp (tI (fun _ j => 0 < j) (· % ·)) (dCall sp__law_next [dRef 0]) (dC (.int 12)))])) (dNext)) t__law_wide_4
def t__law_wide_6 : DS := dSeq (dIf (dTst (dOp tEq (dRef 7) (dC (.int 6)))) (dSet 10 (dTup [dC (.str "set"), dVal 9, dOp tIx (dRef 8) (dC (.int 0))])) (dNext)) t__law_wide_5
def t__law_wide_7 : DS := dSeq (dSet 10 (dTup [dC (.str "pick"), dVal 9, dVal 8])) t__law_wide_6
def t__law_wide_8 : DS := dSeq (dSet 9 (dOp tIx (dRef 2) (dOp (tI (fun _ j => 0 < j) (· % ·)) (dCall sp__law_next [dRef 0]) (dCB tLenU [dRef 2])))) t__law_wide_7
def t__law_wide_9 : DS := dSeq (dSet 8 (dLc (dRng1 [dOp tAdd (dC (.int 2)) (dOp (tI (fun _ j => 0 < j) (· % ·)) (dCall sp__law_next [dRef 0]) (dC (.int 4)))]) (.nm 11) [1, 2] (dYes) (dCall (sp__law_thing 5) [dRef 0, dVal 1, dVal 2, dOp tAdd (dC (.int 1)) (dOp (tI (fun _ j => 0 < j) (· % ·)) (dCall sp__law_next [dRef 0]) (dC (.int 2)))]))) t__law_wide_8
def t__law_wide_10 : DS := dSeq (dSet 7 (dOp (tI (fun _ j => 0 < j) (· % ·)) (dCall sp__law_next [dRef 0]) (dC (.int 11)))) t__law_wide_9
def t__law_wide_11 : DS := dRet (dTup [dVal 1, dCB tListU [dRef 2], dOp tAdd (dRef 4) (dLst [dTup [dC (.str "give"), dCall (sp__law_thing 5) [dRef 0, dVal 1, dVal 2, dC (.int 2)]]])])
def t__law_wide_12 : DS := dSeq (dFor (dRng1 [dOp (tI (fun _ j => 0 < j) (· % ·)) (dCall sp__law_next [dRef 0]) (dRef 3)]) (.nm 6) (dWipe [6, 7, 8, 9, 10] (t__law_wide_10))) t__law_wide_11
def t__law_wide_13 : DS := dSeq (dSet 5 (dC (.int 0))) t__law_wide_12
def t__law_wide : DS := dSeq (dSet 4 (dLst [])) t__law_wide_13

theorem no__law_worth (as Q E) : ¬ sp__law_worth 0 as Q E := no_worth_in as Q E
theorem vc__law_worth (dm : Nat) (as Q E) (h : sp__law_worth (dm + 1) as Q E) : t__law_worth dm (defEnds 3 Q) (start0 5 as) := by
  obtain ⟨p, t, s, rfl, ⟨hb, hs, ht, hd⟩, hQ⟩ := h
  cases t with
  | num n => exact ⟨_, atI_nat (j := 0) rfl, eqS, _, atI_nat (j := 1) rfl, hQ⟩
  | box b =>
    have hi : p.bs.idxOf b < p.bs.length := List.idxOf_lt_length_of_mem ht
    refine ⟨_, atI_nat (j := 0) rfl, eqS, _, atI_nat (j := 0) rfl, eqS, _, atI_nat (j := 1) rfl, trivial, _, atI_nat (j := 1) rfl, idx_vc ht ?_⟩
    refine ⟨dNat (s.getD (p.bs.idxOf b) 0), ?_, hQ⟩
    refine atI_nat ?_
    rw [List.getElem?_map, List.getD_eq_getElem?_getD, List.getElem?_eq_getElem (by rw [hs.1]; exact hi)]
    rfl
  | op w x y =>
    have hw : w ≠ "number" ∧ w ≠ "box" := by
      have := ht.1
      simp only [List.mem_cons, List.not_mem_nil, or_false] at this
      rcases this with rfl | rfl | rfl | rfl <;> exact ⟨by decide +kernel, by decide +kernel⟩
    have hdx : x.dep ≤ dm ∧ y.dep ≤ dm := by
      have : max x.dep y.dep + 1 ≤ dm + 1 := hd
      omega
    refine ⟨_, atI_nat (j := 0) rfl, eqS, ite_vc (fun h => ?_) (fun _ => ?_)⟩
    · rw [eqv_str] at h; exact absurd (of_decide_eq_true h) hw.1
    refine ⟨_, atI_nat (j := 0) rfl, eqS, ite_vc (fun h => ?_) (fun _ => ?_)⟩
    · rw [eqv_str] at h; exact absurd (of_decide_eq_true h) hw.2
    refine ⟨_, atI_nat (j := 1) rfl, nd0, p, x, s, rfl, ⟨hb, hs, ht.2.1, hdx.1⟩, trivial, ?_⟩
    refine ⟨_, atI_nat (j := 2) rfl, nd0, p, y, s, rfl, ⟨hb, hs, ht.2.2, hdx.2⟩, trivial, ?_⟩
    show t__law_worth_3 dm (defEnds 3 Q) [.sh p.d, .sh (Th.op w x y).d, .sh (stD s), .sh (dNat (wo p s x)), .sh (dNat (wo p s y))]
    have h1 := wo_lt hb hs ht.2.1
    have h2 := wo_lt hb hs ht.2.2
    have hm := hb.m16
    have hm2 := hb.m2
    have hQ' : Q (.vl (dNat (if w = "plus" then (wo p s x + wo p s y) % p.m else if w = "times" then wo p s x * wo p s y % p.m else if w = "less" then (if wo p s x < wo p s y then 1 else 0) else (if wo p s x = wo p s y then 1 else 0)))) [] := hQ
    refine ⟨_, atI_nat (j := 0) rfl, eqS, ite_vc (fun h => ?_) (fun hl => ?_)⟩
    · rw [eqv_str] at h
      have hw2 := of_decide_eq_true h
      rw [if_neg (by rw [hw2]; decide +kernel), if_neg (by rw [hw2]; decide +kernel), if_pos hw2] at hQ'
      have e : (if decide ((wo p s x : Int) < (wo p s y : Int)) = true then (1 : Int) else 0) = ((if wo p s x < wo p s y then 1 else 0 : Nat) : Int) := by
        by_cases h : wo p s x < wo p s y <;> simp [h]
      show rtQ 3 Q (.vl (.int (if decide ((wo p s x : Int) < (wo p s y : Int)) = true then (1 : Int) else 0))) _
      rw [e]
      exact hQ'
    rw [eqv_str] at hl
    have hl := of_decide_eq_false hl
    refine ⟨_, atI_nat (j := 0) rfl, eqS, ite_vc (fun h => ?_) (fun he => ?_)⟩
    · rw [eqv_str] at h
      have hw2 := of_decide_eq_true h
      rw [if_neg (by rw [hw2]; decide +kernel), if_neg (by rw [hw2]; decide +kernel), if_neg hl] at hQ'
      refine ⟨eqI, ?_⟩
      have e : (if PyData.eqv (dNat (wo p s x)) (dNat (wo p s y)) = true then (1 : Int) else 0) = ((if wo p s x = wo p s y then 1 else 0 : Nat) : Int) := by
        rw [eqv_nn]
        by_cases h : wo p s x = wo p s y <;> simp [h]
      show rtQ 3 Q (.vl (.int (if PyData.eqv (dNat (wo p s x)) (dNat (wo p s y)) = true then (1 : Int) else 0))) _
      rw [e]
      exact hQ'
    rw [eqv_str] at he
    have he := of_decide_eq_false he
    refine ⟨Or.inl ⟨by omega, by omega⟩, l2, _, atI_nat (j := 0) rfl, eqS, ?_⟩
    rw [eqv_str]
    have hc := ht.1
    simp only [List.mem_cons, List.not_mem_nil, or_false] at hc
    rcases hc with rfl | rfl | rfl | rfl
    · rw [if_pos rfl] at hQ'
      refine ⟨_, atI_nat (j := 0) rfl, _, atI_nat (j := 0) rfl, by omega, ?_⟩
      exact hQ'
    · rw [if_neg (by decide +kernel), if_pos rfl] at hQ'
      refine ⟨_, atI_nat (j := 1) rfl, _, atI_nat (j := 0) rfl, by omega, ?_⟩
      exact hQ'
    · exact absurd rfl hl
    · exact absurd rfl he
theorem vc__law_set (as Q E) (h : sp__law_set as Q E) : t__law_set (defEnds 4 Q) (start0 5 as) := vc_store_with as Q E h
def Ewy (p : Pg) (r : Nat) (s : List Nat) (row : Row) (x5 x6 : Sl) : Sv := [.sh p.d, .sh (Way.at r s).d, .sh (dNat r), .sh (stD s), .sh row.d, x5, x6, .no, .no]
theorem ways_tail {p : Pg} {r : Nat} {s : List Nat} {row : Row} {DD : DEn} (ss : List (List Nat)) (to : Nat) (a : Int) (ha : a = (to : Int)) (hl : ss.length ≤ 1000)
    (h : ∀ x5 x6, DD.rt (.tm (.lst (ss.map fun s' => (poe p to s').d))) (Ewy p r s row x5 x6)) : t__law_ways_2 DD (Ewy p r s row (.ow (.lst (ss.map stD))) (.sh (.int a))) := by
  subst ha
  refine ⟨_, atI_nat (j := 2) rfl, ?_⟩
  refine ite_vc (fun z => ?_) (fun z => ?_)
  · have z : (((p.rs.map Row.d).length : Nat) : Int) ≤ (to : Int) := of_decide_eq_true z
    rw [List.length_map] at z
    refine ⟨l1, l1, ⟨Int.natCast_nonneg _, by rw [List.length_map]; omega, by simp; omega⟩, ?_⟩
    have e : (List.replicate ((ss.map stD).length : Int).toNat [PyData.tuple [.str "nothing"]]).flatten = ss.map fun s' => (poe p to s').d := by
      rw [Int.toNat_natCast, List.length_map]
      have : ∀ n, (List.replicate n [PyData.tuple [.str "nothing"]]).flatten = List.replicate n (PyData.tuple [.str "nothing"]) := by
        intro n
        induction n with
        | zero => rfl
        | succ n ih => rw [List.replicate_succ, List.flatten_cons, ih, List.replicate_succ]; rfl
      rw [this]
      clear h this
      induction ss with
      | nil => rfl
      | cons x ss ih =>
        rw [List.length_cons, List.replicate_succ, List.map_cons, ih (by rw [List.length_cons] at hl; omega)]
        unfold poe
        rw [if_pos (by omega)]
        rfl
    have := h (.ow (.lst (ss.map stD))) (.sh (.int (to : Int)))
    rw [← e] at this
    exact this
  · have z : ¬ (((p.rs.map Row.d).length : Nat) : Int) ≤ (to : Int) := of_decide_eq_false z
    rw [List.length_map] at z
    show t__law_ways_1 DD (Ewy p r s row (.ow (.lst (ss.map stD))) (.sh (.int (to : Int))))
    refine lc_vc (J := fun ds acc e => ∃ done left : List (List Nat), ss = done ++ left ∧ ds = left.map stD ∧ acc = (done.map fun s' => (poe p to s').d) ∧ e = Ewy p r s row (.sh (.list (ss.map stD))) (.sh (.int (to : Int)))) _ ⟨trivial, trivial⟩ rfl ⟨[], ss, rfl, rfl, rfl, rfl⟩ ?_ ?_
    · rintro acc e ⟨done, left, hd, hl', rfl, rfl⟩
      have : left = [] := List.map_eq_nil_iff.mp hl'.symm
      subst this
      rw [List.append_nil] at hd
      subst hd
      exact ⟨Ewy p r s row (.sh (.list (ss.map stD))) (.sh (.int (to : Int))), rfl, h _ _⟩
    · rintro d ds acc e k hk ⟨done, left, hd, hl', rfl, rfl⟩
      cases left with
      | nil => cases hl'
      | cons s' left =>
        cases hl'
        have := congrArg List.length hd
        rw [List.length_append, List.length_cons] at this
        refine ⟨trivial, trivial, l2, by rw [List.length_map]; omega, hk _ _ ⟨done ++ [s'], left, by rw [hd, List.append_assoc]; rfl, rfl, ?_, rfl⟩⟩
        rw [List.map_append, List.map_singleton]
        unfold poe
        rw [if_neg (by omega)]
        rfl
theorem five {p : Pg} {t : Th} (h : t.fit p.m p.bs) : t.dep ≤ 5 := Nat.le_trans h.2 (by decide)
theorem vc__law_ways (as Q E) (h : sp__law_ways as Q E) : t__law_ways (defEnds 2 Q) (start0 9 as) := by
  obtain ⟨p, r, s, rfl, ⟨hg, hs, hr⟩, hQ⟩ := h
  have hrow := hg.rows p.rs[r] (List.getElem_mem hr)
  unfold ways at hQ
  rw [List.getElem?_eq_getElem hr] at hQ
  generalize hrw : p.rs[r] = row at hQ hrow
  have hix : atI (p.rs.map Row.d) (r : Int) = some row.d := atI_nat (by rw [List.getElem?_map, List.getElem?_eq_getElem hr, hrw]; rfl)
  refine ⟨trivial, trivial, ?_⟩
  refine ⟨_, atI_nat (j := 2) rfl, row.d, hix, trivial, ?_⟩
  show t__law_ways_9 (defEnds 2 Q) (Ewy p r s row .no .no)
  cases row with
  | give t =>
    exact ⟨_, atI_nat (j := 0) rfl, eqS, _, atI_nat (j := 1) rfl, nd0, p, t, s, rfl, ⟨hg.bx, hs, hrow.1, five hrow⟩, l2, l1, hQ⟩
  | set b t =>
    refine ⟨_, atI_nat (j := 0) rfl, eqS, l1, trivial, trivial, ?_⟩
    refine ⟨_, atI_nat (j := 0) rfl, eqS, ?_⟩
    refine ⟨_, atI_nat (j := 0) rfl, eqS, ?_⟩
    refine ⟨_, atI_nat (j := 0) rfl, eqS, ?_⟩
    refine ⟨_, atI_nat (j := 1) rfl, _, atI_nat (j := 2) rfl, nd0, p, t, s, rfl, ⟨hg.bx, hs, hrow.2.1, five hrow.2⟩, nd0, p, s, b, wo p s t, rfl, ⟨hrow.1, hg.bx, hs.1⟩, l1, trivial, ?_⟩
    refine ⟨_, atI_nat (j := 0) rfl, eqS, ?_⟩
    exact ways_tail [swith p s b (wo p s t)] (r + 1) _ (by show (r : Int) + 1 = _; omega) (by simp) fun _ _ => hQ
  | need t =>
    refine ⟨_, atI_nat (j := 0) rfl, eqS, l1, trivial, trivial, ?_⟩
    refine ⟨_, atI_nat (j := 0) rfl, eqS, ?_⟩
    refine ⟨_, atI_nat (j := 1) rfl, nd0, p, t, s, rfl, ⟨hg.bx, hs, hrow.1, five hrow⟩, eqI, ?_⟩
    have hQ' : Q (.tm (.lst ((if wo p s t = 0 then [Way.nothing] else [poe p (r + 1) s]).map Way.d))) [] := hQ
    refine ite_vc (fun z => ?_) (fun z => ?_)
    · have z : PyData.eqv (dNat (wo p s t)) (dNat 0) = true := z
      rw [eqv_nn] at z
      rw [if_pos (of_decide_eq_true z)] at hQ'
      exact ⟨l1, l1, hQ'⟩
    · have z : PyData.eqv (dNat (wo p s t)) (dNat 0) = false := z
      rw [eqv_nn] at z
      rw [if_neg (of_decide_eq_false z)] at hQ'
      refine ⟨_, atI_nat (j := 0) rfl, eqS, ?_⟩
      refine ⟨_, atI_nat (j := 0) rfl, eqS, ?_⟩
      refine ⟨_, atI_nat (j := 0) rfl, eqS, ?_⟩
      exact ways_tail [s] (r + 1) _ (by show (r : Int) + 1 = _; omega) (by simp) fun _ _ => hQ'
  | skip t n =>
    refine ⟨_, atI_nat (j := 0) rfl, eqS, l1, trivial, trivial, ?_⟩
    refine ⟨_, atI_nat (j := 0) rfl, eqS, ?_⟩
    refine ⟨_, atI_nat (j := 0) rfl, eqS, ?_⟩
    refine ⟨_, atI_nat (j := 1) rfl, nd0, p, t, s, rfl, ⟨hg.bx, hs, hrow.1.1, five hrow.1⟩, eqI, ?_⟩
    have hQ' : Q (.tm (.lst [(poe p (r + 1 + if wo p s t = 0 then 0 else n) s).d])) [] := hQ
    refine ite_vc (fun z => ?_) (fun z => ?_)
    · have z : (!PyData.eqv (dNat (wo p s t)) (dNat 0)) = true := z
      rw [eqv_nn] at z
      rw [if_neg (by simpa using z)] at hQ'
      refine ⟨_, atI_nat (j := 2) rfl, trivial, ?_⟩
      refine ⟨_, atI_nat (j := 0) rfl, eqS, ?_⟩
      refine ⟨_, atI_nat (j := 0) rfl, eqS, ?_⟩
      exact ways_tail [s] (r + 1 + n) _ (by show (r : Int) + 1 + (n : Int) = _; omega) (by simp) fun _ _ => hQ'
    · have z : (!PyData.eqv (dNat (wo p s t)) (dNat 0)) = false := z
      rw [eqv_nn] at z
      rw [if_pos (by simpa using z)] at hQ'
      refine ⟨_, atI_nat (j := 0) rfl, eqS, ?_⟩
      refine ⟨_, atI_nat (j := 0) rfl, eqS, ?_⟩
      exact ways_tail [s] (r + 1) _ (by show (r : Int) + 1 = _; omega) (by simp) fun _ _ => hQ'
  | pick b ts =>
    refine ⟨_, atI_nat (j := 0) rfl, eqS, l1, trivial, trivial, ?_⟩
    refine ⟨_, atI_nat (j := 0) rfl, eqS, ?_⟩
    refine ⟨_, atI_nat (j := 0) rfl, eqS, ?_⟩
    refine ⟨_, atI_nat (j := 0) rfl, eqS, ?_⟩
    refine ⟨_, atI_nat (j := 0) rfl, eqS, ?_⟩
    refine ⟨_, atI_nat (j := 2) rfl, ?_⟩
    have hl5 := hrow.2.1.2
    refine lc_vc (J := fun ds acc e => ∃ done left : List Th, ts = done ++ left ∧ ds = left.map Th.d ∧ acc = (done.map fun t => stD (swith p s b (wo p s t))) ∧ e = Ewy p r s (.pick b ts) (.io (.lst [stD s])) (.sh (.int ((r : Int) + 1)))) _ ⟨trivial, trivial⟩ rfl ⟨[], ts, rfl, rfl, rfl, rfl⟩ ?_ ?_
    · rintro acc e ⟨done, left, hd, hl', rfl, rfl⟩
      have : left = [] := List.map_eq_nil_iff.mp hl'.symm
      subst this
      rw [List.append_nil] at hd
      subst hd
      refine ⟨Ewy p r s (.pick b ts) (.ow (.lst [stD s])) (.sh (.int ((r : Int) + 1))), rfl, trivial, ?_⟩
      have hQ' : Q (.tm (.lst ((ts.map fun t => poe p (r + 1) (swith p s b (wo p s t))).map Way.d))) [] := hQ
      have := ways_tail (r := r) (s := s) (row := .pick b ts) (DD := defEnds 2 Q) (ts.map fun t => swith p s b (wo p s t)) (r + 1) ((r : Int) + 1) (by omega) (by rw [List.length_map]; omega) fun _ _ => by
        rw [List.map_map]
        rw [List.map_map] at hQ'
        exact hQ'
      rw [List.map_map] at this
      exact this
    · rintro d ds acc e k hk ⟨done, left, hd, hl', rfl, rfl⟩
      cases left with
      | nil => cases hl'
      | cons t left =>
        cases hl'
        have ht := hrow.2.2 t (by rw [hd]; simp)
        have := congrArg List.length hd
        rw [List.length_append, List.length_cons] at this
        refine ⟨trivial, trivial, _, atI_nat (j := 1) rfl, nd0, p, t, s, rfl, ⟨hg.bx, hs, ht.1, five ht⟩, nd0, p, s, b, wo p s t, rfl, ⟨hrow.1, hg.bx, hs.1⟩, ?_⟩
        exact ⟨by rw [List.length_map]; omega, hk _ _ ⟨done ++ [t], left, by rw [hd, List.append_assoc]; rfl, rfl, by rw [List.map_append]; rfl, rfl⟩⟩
theorem pl_th : ∀ t : Th, pl t.d = true
  | .num _ => rfl
  | .box _ => rfl
  | .op w x y => by
    show (pl (.str w) && (pl x.d && (pl y.d && true))) = true
    rw [pl_th x, pl_th y]
    rfl
theorem pl_row {r : Row} : pl r.d = true := by
  cases r with
  | set b t => show (pl (.str "set") && (pl (.str b) && (pl t.d && true))) = true; rw [pl_th t]; rfl
  | pick b ts =>
    show (pl (.str "pick") && (pl (.str b) && (pls (ts.map Th.d) && true))) = true
    rw [pls_map (f := Th.d) fun t _ => pl_th t]; rfl
  | need t => show (pl (.str "need") && (pl t.d && true)) = true; rw [pl_th t]; rfl
  | skip t n => show (pl (.str "skip") && (pl t.d && (pl (dNat n) && true))) = true; rw [pl_th t]; rfl
  | give t => show (pl (.str "give") && (pl t.d && true)) = true; rw [pl_th t]; rfl
theorem row_pk (row : Row) : ∃ (w : Str) (ds : List D), row.d = .tuple (.str w :: ds) ∧ PyData.eqv (.str w) (.str "pick") = row.isPick := by
  cases row with
  | set b t => exact ⟨_, _, rfl, (show PyData.eqv (.str "set") (.str "pick") = false by decide +kernel)⟩
  | pick b ts => exact ⟨_, _, rfl, (show PyData.eqv (.str "pick") (.str "pick") = true by decide +kernel)⟩
  | need t => exact ⟨_, _, rfl, (show PyData.eqv (.str "need") (.str "pick") = false by decide +kernel)⟩
  | skip t n => exact ⟨_, _, rfl, (show PyData.eqv (.str "skip") (.str "pick") = false by decide +kernel)⟩
  | give t => exact ⟨_, _, rfl, (show PyData.eqv (.str "give") (.str "pick") = false by decide +kernel)⟩
theorem pick_word {p : Pg} {r : Nat} (hr : r < p.rs.length) : ∃ (w : Str) (ds : List D), atI (p.rs.map Row.d) (r : Int) = some (.tuple (.str w :: ds)) ∧ PyData.eqv (.str w) (.str "pick") = isPick p r := by
  obtain ⟨w, ds, h1, h2⟩ := row_pk p.rs[r]
  refine ⟨w, ds, atI_nat (by rw [List.getElem?_map, List.getElem?_eq_getElem hr]; exact congrArg some h1), ?_⟩
  unfold isPick
  rw [List.getElem?_eq_getElem hr]
  exact h2
theorem at_atoms {r : Nat} : atom (dNat r) = true ∧ [PyData.str "gives", .str "nothing"].all atom = true := ⟨rfl, rfl⟩
theorem str_atoms {w : Str} : atom (.str w) = true ∧ [PyData.str "gives", .str "nothing"].all atom = true := ⟨rfl, rfl⟩
theorem Lr_pos {p : Pg} {s0 c : List Nat} {v : Nat} {s' : List Nat} (h : (c, some (v, s')) ∈ Lr p 0 s0) : 0 < p.rs.length := by
  apply Classical.byContradiction
  intro z
  unfold Lr at h
  rw [List.drop_eq_nil_of_le (by omega), runL] at h
  cases List.mem_singleton.mp h
def Elf (p : Pg) (s0 : List Nat) (cD : D) (w pl : Way) (c2 : List Nat) (x6 : Sl) : Sv := [.sh p.d, .sh (stD s0), .sh cD, .sh w.d, .sh pl.d, .ow (.lst (c2.map dNat)), x6]
theorem left_body {p : Pg} (hg : p.good) {s0 : List Nat} {cD : D} {pl : Way} {DD : DEn} {r : Nat} {s c : List Nat} {e : Option (Nat × List Nat)} (hr : r < p.rs.length) (hs : StOk p.m p.bs s) (hc : c.length ≤ 1000) (h : (c, e) ∈ Lr p r s)
    (nx : ∀ (w : Way) (c' : List Nat) (x6 : Sl), nio x6 → w ∈ ways p r s → c'.length ≤ c.length → Nx p s w c' e → DD.nx (Elf p s0 cD w (.at r s) c' x6)) : t__law_left_4 DD (Elf p s0 cD (.at r s) pl c .no) := by
  obtain ⟨k, w, hw, hst⟩ := Lr_step hr h
  have hmem := List.mem_of_getElem? hw
  have hix : atI ((ways p r s).map Way.d) (k : Int) = some w.d := atI_nat (by rw [List.getElem?_map, hw]; rfl)
  obtain ⟨wd, ds, h1, h2⟩ := pick_word hr
  refine ⟨trivial, trivial, ?_⟩
  refine ⟨_, atI_nat (j := 2) rfl, _, atI_nat (j := 0) rfl, _, h1, _, atI_nat (j := 0) rfl, eqS, ?_⟩
  rw [h2]
  rcases hst with ⟨hp, c', rfl, hn⟩ | ⟨hp, rfl, hn⟩
  · rw [hp]
    refine ⟨⟨_, rfl⟩, _, 0, dNat k, rfl, rfl, rfl, by rw [List.length_map]; omega, trivial, ?_⟩
    refine ⟨nd0, p, r, s, rfl, ⟨hg, hs, hr⟩, _, hix, trivial, ?_⟩
    exact nx w c' (.sh (dNat k)) trivial hmem (by rw [List.length_cons]; omega) hn
  · rw [hp]
    refine ⟨nd0, p, r, s, rfl, ⟨hg, hs, hr⟩, _, hix, trivial, ?_⟩
    exact nx w c (.sh (.int 0)) trivial hmem (Nat.le_refl _) hn
theorem vc__law_left (as Q E) (h : sp__law_left as Q E) : t__law_left (defEnds 3 Q) (start0 7 as) := by
  obtain ⟨p, s0, c, v, s', rfl, ⟨hg, hs, hm, hc⟩, hQ⟩ := h
  have hpos := Lr_pos hm
  refine ⟨l2, trivial, trivial, trivial, ?_⟩
  show t__law_left_6 (defEnds 3 Q) (Elf p s0 (.list (c.map dNat)) (.at 0 s0) (.at 0 s0) c .no)
  refine ⟨fun m e => ∃ (w : Way) (r2 : Nat) (spl c2 : List Nat), m = rk p w ∧ Wok p w ∧ c2.length ≤ 1000 ∧ Nx p spl w c2 (some (v, s')) ∧ e = Elf p s0 (.list (c.map dNat)) w (.at r2 spl) c2 .no, ⟨_, .at 0 s0, 0, s0, c, rfl, ⟨hpos, hs⟩, hc, hm, rfl⟩, ?_⟩
  rintro m e ⟨w, r2, spl, c2, rfl, hok, hl, hn, rfl⟩
  cases w with
  | nothing => obtain ⟨_, z⟩ := hn; cases z
  | gives v2 =>
    obtain ⟨_, z⟩ := hn
    cases z
    exact ⟨_, atI_nat (j := 0) rfl, l2, str_atoms, _, atI_nat (j := 1) rfl, hQ⟩
  | «at» r s =>
    refine ⟨_, atI_nat (j := 0) rfl, l2, at_atoms, ?_⟩
    refine left_body hg hok.1 hok.2 hl hn fun w' c' x6 n6 hmem h1 h2 => ?_
    obtain ⟨h3, h4⟩ := ways_ok hg hok.1 hok.2 w' hmem
    exact ⟨⟨ni rfl n6, trivial⟩, rk p w', h4, w', r, s, c', rfl, h3, by omega, h2, rfl⟩
theorem cut_tail {x : D} {xs : List D} : cutD (x :: xs) (some 1) none = xs := by
  unfold cutD
  rw [HT.sIx_none, show (1 : Int) = ((1 : Nat) : Int) from rfl, HT.sIx_nat]
  rw [List.take_of_length_le]
  · rw [Nat.min_eq_left (by rw [List.length_cons]; omega)]
    rfl
  · rw [Nat.min_eq_left (by rw [List.length_cons]; omega)]
    rw [List.length_drop]
    exact Nat.le_refl _
def Egn (p : Pg) (s0 : List Nat) (cD : D) (w pl : Way) (c2 : List Nat) (x6 x7 : Sl) : Sv := [.sh p.d, .sh (stD s0), .sh cD, .sh w.d, .sh pl.d, .ow (.lst (c2.map dNat)), x6, x7]
theorem gone_body {p : Pg} (hg : p.good) {s0 : List Nat} {cD : D} {pl : Way} {DD : DEn} {r : Nat} {s c c2 : List Nat} {e : Option (Nat × List Nat)} (hr : r < p.rs.length) (hs : StOk p.m p.bs s) (hc : c.length + c2.length ≤ 1000) (h : (c, e) ∈ Lr p r s)
    (nx : ∀ (w : Way) (c' : List Nat) (x6 x7 : Sl), nio x6 → nio x7 → w ∈ ways p r s → c'.length ≤ c.length → Nx p s w c' e → DD.nx (Egn p s0 cD w (.at r s) (c' ++ c2) x6 x7)) : t__law_gone_7 DD (Egn p s0 cD (.at r s) pl (c ++ c2) .no .no) := by
  obtain ⟨k, w, hw, hst⟩ := Lr_step hr h
  have hmem := List.mem_of_getElem? hw
  have hk := (List.getElem?_eq_some_iff.mp hw).1
  have hix : atI ((ways p r s).map Way.d) (k : Int) = some w.d := atI_nat (by rw [List.getElem?_map, hw]; rfl)
  have hin : decide ((0 : Int) ≤ (k : Int) ∧ (k : Int) < (((ways p r s).map Way.d).length : Int)) = true := by rw [decide_eq_true_eq, List.length_map]; omega
  obtain ⟨wd, ds, h1, h2⟩ := pick_word hr
  refine ⟨trivial, nd0, p, r, s, rfl, ⟨hg, hs, hr⟩, trivial, trivial, ?_⟩
  refine ⟨_, atI_nat (j := 2) rfl, _, atI_nat (j := 0) rfl, _, h1, _, atI_nat (j := 0) rfl, eqS, ?_⟩
  rw [h2]
  rcases hst with ⟨hp, c', rfl, hn⟩ | ⟨hp, rfl, hn⟩
  · rw [hp]
    have hl : (((k :: c') ++ c2).map dNat).length ≤ 1000 := by rw [List.length_map, List.length_append]; exact hc
    refine ⟨l1, by rw [List.length_singleton]; omega, dNat k, rfl, by rw [List.length_append, List.length_singleton]; omega, trivial, trivial, ?_⟩
    show t__law_gone_3 DD [.sh p.d, .sh (stD s0), .sh cD, .sh (Way.at r s).d, .sh (Way.at r s).d, .ow (.lst (cutD (dNat k :: (c' ++ c2).map dNat) (some 1) none)), .ow (.lst ((ways p r s).map Way.d)), .sh (dNat k)]
    rw [cut_tail]
    show if (!decide ((0 : Int) ≤ (k : Int) ∧ (k : Int) < (((ways p r s).map Way.d).length : Int))) = true then _ else _
    rw [hin]
    refine ⟨_, hix, trivial, ?_⟩
    exact nx w c' (.ow (.lst ((ways p r s).map Way.d))) (.sh (dNat k)) trivial trivial hmem (by rw [List.length_cons]; omega) hn
  · rw [hp]
    show if (!decide ((0 : Int) ≤ ((0 : Nat) : Int) ∧ ((0 : Nat) : Int) < (((ways p r s).map Way.d).length : Int))) = true then _ else _
    rw [hin]
    refine ⟨_, hix, trivial, ?_⟩
    exact nx w c (.ow (.lst ((ways p r s).map Way.d))) (.sh (.int 0)) trivial trivial hmem (Nat.le_refl _) hn
theorem vc__law_gone (as Q E) (h : sp__law_gone as Q E) : t__law_gone (defEnds 3 Q) (start0 8 as) := by
  obtain ⟨p, s0, c1, c2, e, rfl, ⟨hg, hs, hm, hc⟩, hQ⟩ := h
  refine ⟨l2, trivial, trivial, trivial, ?_⟩
  refine ⟨_, atI_nat (j := 2) rfl, l0, eqL0 (pls_map (f := Row.d) fun _ _ => pl_row), ?_⟩
  have main : ∀ w0 : Way, Nx p s0 w0 c1 e → Wok p w0 → t__law_gone_9 (defEnds 3 Q) (Egn p s0 (.list ((c1 ++ c2).map dNat)) w0 (.at 0 s0) (c1 ++ c2) .no .no) := by
    intro w0 hn0 hok0
    refine ⟨fun m ee => ∃ (w : Way) (r2 : Nat) (spl c' : List Nat), m = rk p w ∧ Wok p w ∧ c'.length + c2.length ≤ 1000 ∧ Nx p spl w c' e ∧ ee = Egn p s0 (.list ((c1 ++ c2).map dNat)) w (.at r2 spl) (c' ++ c2) .no .no, ⟨_, w0, 0, s0, c1, rfl, hok0, hc, hn0, rfl⟩, ?_⟩
    rintro m ee ⟨w, r2, spl, c', rfl, hok, hl, hn, rfl⟩
    cases w with
    | nothing =>
      obtain ⟨rfl, rfl⟩ := hn
      exact ⟨_, atI_nat (j := 0) rfl, l2, str_atoms, _, atI_nat (j := 1) rfl, l3, hQ spl (fun _ _ z => nomatch z)⟩
    | gives v2 =>
      obtain ⟨rfl, rfl⟩ := hn
      exact ⟨_, atI_nat (j := 0) rfl, l2, str_atoms, _, atI_nat (j := 1) rfl, l3, hQ spl (fun _ _ z => by cases z; rfl)⟩
    | «at» r s =>
      refine ⟨_, atI_nat (j := 0) rfl, l2, at_atoms, ?_⟩
      refine gone_body hg hok.1 hok.2 hl hn fun w' c'' x6 x7 n6 n7 hmem h1 h2 => ?_
      obtain ⟨h3, h4⟩ := ways_ok hg hok.1 hok.2 w' hmem
      exact ⟨⟨ni rfl n6, ni rfl n7, trivial⟩, rk p w', h4, w', r, s, c'', rfl, h3, by omega, h2, rfl⟩
  refine ite_vc (fun z => ?_) (fun z => ?_)
  · have z : PyData.eqv (.list (p.rs.map Row.d)) (.list []) = true := z
    rw [eqv_nil] at z
    have hnil : p.rs = [] := by
      cases hp : p.rs with
      | nil => rfl
      | cons a l => rw [hp] at z; cases z
    unfold Lr at hm
    rw [hnil, List.drop_nil, runL] at hm
    cases List.mem_singleton.mp hm
    exact ⟨l1, trivial, main .nothing ⟨rfl, rfl⟩ trivial⟩
  · have z : PyData.eqv (.list (p.rs.map Row.d)) (.list []) = false := z
    rw [eqv_nil] at z
    have hpos : 0 < p.rs.length := by
      cases hp : p.rs with
      | nil => rw [hp] at z; cases z
      | cons a l => exact Nat.succ_pos _
    exact main (.at 0 s0) hm ⟨hpos, hs⟩
theorem runL_clen {m : Nat} {bs : List Str} : ∀ (k : Nat) (rs : List Row) (s : List Nat), rs.length ≤ k → ∀ ce ∈ runL m bs rs s, ce.1.length ≤ rs.length := by
  intro k
  induction k with
  | zero =>
    intro rs s h ce hce
    cases rs with
    | nil => rw [runL] at hce; cases List.mem_singleton.mp hce; exact Nat.le_refl _
    | cons r rs => cases h
  | succ k ih =>
    intro rs s h ce hce
    cases rs with
    | nil => rw [runL] at hce; cases List.mem_singleton.mp hce; exact Nat.le_refl _
    | cons r rs =>
      have h' : rs.length ≤ k := Nat.le_of_succ_le_succ h
      rw [List.length_cons]
      cases r with
      | set b t => rw [runL] at hce; have := ih _ _ h' ce hce; omega
      | pick b ts =>
        rw [runL] at hce
        obtain ⟨x, _, hx⟩ := List.mem_flatMap.mp hce
        obtain ⟨y, hy, rfl⟩ := List.mem_map.mp hx
        have := ih _ _ h' y hy
        rw [List.length_cons]; omega
      | need t =>
        rw [runL] at hce
        split at hce
        · cases List.mem_singleton.mp hce; exact Nat.zero_le _
        · have := ih _ _ h' ce hce; omega
      | skip t n =>
        rw [runL] at hce
        split at hce
        · have := ih _ _ h' ce hce; omega
        · have := ih _ _ (by rw [List.length_drop]; omega) ce hce
          rw [List.length_drop] at this; omega
      | give t => rw [runL] at hce; cases List.mem_singleton.mp hce; exact Nat.zero_le _
theorem runL_st {m : Nat} {bs : List Str} (hb : BxOk m bs) : ∀ (k : Nat) (rs : List Row) (s : List Nat), rs.length ≤ k → (∀ r ∈ rs, r.ok m bs) → StOk m bs s → ∀ ce ∈ runL m bs rs s, ∀ v s', ce.2 = some (v, s') → StOk m bs s' ∧ v < m := by
  have wl : ∀ {s : List Nat} {t : Th}, StOk m bs s → t.ok m bs → t.worth m bs s < m := fun {s t} hs ht => wo_lt (p := ⟨m, bs, []⟩) hb hs ht
  have sw : ∀ {s : List Nat} {b : Str} {v : Nat}, StOk m bs s → v < m → StOk m bs (s.set (bs.idxOf b) v) := fun {s b v} hs hv => st_swith (p := ⟨m, bs, []⟩) (b := b) hs hv
  intro k
  induction k with
  | zero =>
    intro rs s h ok hs ce hce v s' e
    cases rs with
    | nil => rw [runL] at hce; cases List.mem_singleton.mp hce; cases e
    | cons r rs => cases h
  | succ k ih =>
    intro rs s h ok hs ce hce v s' e
    cases rs with
    | nil => rw [runL] at hce; cases List.mem_singleton.mp hce; cases e
    | cons r rs =>
      have h' : rs.length ≤ k := Nat.le_of_succ_le_succ h
      have ok' : ∀ r ∈ rs, r.ok m bs := fun x hx => ok x (List.mem_cons_of_mem _ hx)
      have okr := ok r List.mem_cons_self
      cases r with
      | set b t => rw [runL] at hce; exact ih _ _ h' ok' (sw hs (wl hs okr.2.1)) ce hce v s' e
      | pick b ts =>
        rw [runL] at hce
        obtain ⟨x, hx0, hx⟩ := List.mem_flatMap.mp hce
        obtain ⟨y, hy, rfl⟩ := List.mem_map.mp hx
        exact ih _ _ h' ok' (sw hs (wl hs (okr.2.2 _ (List.fst_mem_of_mem_zipIdx hx0)).1)) y hy v s' e
      | need t =>
        rw [runL] at hce
        split at hce
        · cases List.mem_singleton.mp hce; cases e
        · exact ih _ _ h' ok' hs ce hce v s' e
      | skip t n =>
        rw [runL] at hce
        split at hce
        · exact ih _ _ h' ok' hs ce hce v s' e
        · exact ih _ _ (by rw [List.length_drop]; omega) (fun x hx => ok' x (List.mem_of_mem_drop hx)) hs ce hce v s' e
      | give t =>
        rw [runL] at hce
        cases List.mem_singleton.mp hce
        cases e
        exact ⟨hs, wl hs okr.1⟩
theorem put_mem {p q : Pg} {box : Str} {s c : List Nat} {w : Way} (hg : (putAfter p q box).good) (hs : StOk p.m p.bs s) (h : (c, w) ∈ runs (putAfter p q box) (poe (putAfter p q box) 0 s)) :
    ((c, none) ∈ Lr p 0 s ∧ w = .nothing) ∨ ∃ c1 c2 v s' e, c = c1 ++ c2 ∧ (c1, some (v, s')) ∈ Lr p 0 s ∧ (c2, e) ∈ runL p.m p.bs q.rs (s'.set (p.bs.idxOf box) v) ∧ w = (fgt ([], e)).2 := by
  rw [runs_put hg hs] at h
  obtain ⟨z, hz, e1⟩ := List.mem_map.mp h
  obtain ⟨ce, hce, hz⟩ := List.mem_flatMap.mp hz
  obtain ⟨c1, e⟩ := ce
  cases e with
  | none =>
    replace hz : z ∈ [(c1, none)] := hz
    rw [List.mem_singleton.mp hz] at e1
    injection e1 with e1 e2
    subst e1
    exact .inl ⟨hce, e2.symm⟩
  | some vs =>
    replace hz : z ∈ (runL p.m p.bs q.rs (vs.2.set (p.bs.idxOf box) vs.1)).map fun x => (c1 ++ x.1, x.2) := hz
    obtain ⟨x, hx, rfl⟩ := List.mem_map.mp hz
    injection e1 with e1 e2
    exact .inr ⟨c1, x.1, vs.1, vs.2, x.2, e1.symm, hce, hx, e2.symm⟩
theorem eqW {a b : Way} : noDict a.d = true ∧ noDict b.d = true ∧ min a.d.depth b.d.depth ≤ 60 := ⟨pl_noDict pl_wayD, pl_noDict pl_wayD, Nat.le_trans (Nat.min_le_left _ _) (Nat.le_trans dep_way (by decide))⟩
theorem vc__law_run_right (as Q E) (h : sp__law_run_right as Q E) : t__law_run_right (defEnds 6 Q) (start0 9 as) := by
  obtain ⟨p, q, box, s0, c, w, rfl, ⟨hg, gq, qm, qb, hbox, hgb, hs, hm⟩, hQ⟩ := h
  have len1 : p.rs.length + q.rs.length ≤ 1000 := by
    have h1 := hgb.len
    rw [put_exact, spot_gi] at h1
    omega
  have last : ∀ (x7 : D), t__law_run_right_1 (defEnds 6 Q) [.sh p.d, .sh q.d, .sh (.str box), .sh (stD s0), .sh (putAfter p q box).d, .sh (.list (c.map dNat)), .sh w.d, .sh x7, .sh (.list [])] := by
    intro x7
    have e0 : isNone w.d = false := by cases w <;> rfl
    show if (!isNone w.d) = true then _ else _
    rw [e0]
    refine ⟨l0, eqL0 (ds := []) rfl, ?_⟩
    refine ⟨nd0, putAfter p q box, s0, c, w, rfl, ⟨hgb, hs, hm⟩, eqW, ?_⟩
    have e1 : PyData.eqv w.d w.d = true := (eqv_pl pl_wayD pl_wayD).mpr rfl
    have q : Q (.vl (.bool (PyData.eqv w.d w.d))) [] := by rw [e1]; exact hQ
    exact q
  rcases put_mem hgb hs hm with ⟨hn, rfl⟩ | ⟨c1, c2, v, s', e, rfl, h1, h2, rfl⟩
  · have hl := runL_clen (m := p.m) (bs := p.bs) _ _ _ (Nat.le_refl _) _ hn
    rw [List.drop_zero] at hl
    dsimp only at hl
    refine ⟨nd0, p, s0, c, [], none, by rw [List.append_nil], ⟨hg, hs, hn, by rw [List.length_nil]; omega⟩, fun here _ => ⟨trivial, trivial, trivial, ?_⟩⟩
    refine ⟨_, atI_nat (j := 0) rfl, eqS, ?_⟩
    exact last (stD here)
  · have hl := runL_clen (m := p.m) (bs := p.bs) _ _ _ (Nat.le_refl _) _ h1
    rw [List.drop_zero] at hl
    have hl2 := runL_clen (m := p.m) (bs := p.bs) _ _ _ (Nat.le_refl _) _ h2
    dsimp only at hl hl2
    obtain ⟨hs', hv⟩ := runL_st hg.bx _ _ _ (Nat.le_refl _) (fun r hr => hg.rows r (List.mem_of_mem_drop hr)) hs _ h1 v s' rfl
    have hs2 : StOk p.m p.bs (swith p s' box v) := st_swith hs' hv
    refine ⟨nd0, p, s0, c1, c2, some (v, s'), rfl, ⟨hg, hs, h1, by omega⟩, fun here hh => ⟨trivial, trivial, trivial, ?_⟩⟩
    obtain rfl := hh v s' rfl
    refine ⟨_, atI_nat (j := 0) rfl, eqS, ?_⟩
    refine ⟨_, atI_nat (j := 1) rfl, nd0, p, here, box, v, rfl, ⟨hbox, hg.bx, hs'.1⟩, ?_⟩
    have h2' : (c2, e) ∈ Lr q 0 (swith p here box v) := by
      unfold Lr
      rw [List.drop_zero, qm, qb]
      exact h2
    refine ⟨nd0, q, swith p here box v, c2, [], e, by rw [List.append_nil], ⟨gq, by rw [qm, qb]; exact hs2, h2', by rw [List.length_nil]; omega⟩, fun here2 _ => ⟨trivial, trivial, trivial, ?_⟩⟩
    exact last (stD here2)
structure Wd (m : Nat) (bs : List Str) (rs : List Row) (g : Nat) : Prop where
  ok : ∀ r ∈ rs, r.ok m bs
  gi : (rs.map Row.gi).sum = g
  le : g ≤ 3
theorem Wd.put {m : Nat} {bs : List Str} {rs : List Row} {g : Nat} (h : Wd m bs rs g) {r : Row} (hr : r.ok m bs) (hg : r.gi = 0) : Wd m bs (rs ++ [r]) g := by
  refine ⟨fun x hx => ?_, ?_, h.le⟩
  · rcases List.mem_append.mp hx with hx | hx
    · exact h.ok x hx
    · rw [List.mem_singleton.mp hx]; exact hr
  · rw [List.map_append, List.sum_append, h.gi, List.map_singleton, hg]; rfl
theorem Wd.give {m : Nat} {bs : List Str} {rs : List Row} {g : Nat} (h : Wd m bs rs g) {t : Th} (hr : t.fit m bs) (hl : g < 3) : Wd m bs (rs ++ [.give t]) (g + 1) := by
  refine ⟨fun x hx => ?_, ?_, hl⟩
  · rcases List.mem_append.mp hx with hx | hx
    · exact h.ok x hx
    · rw [List.mem_singleton.mp hx]; exact hr
  · rw [List.map_append, List.sum_append, h.gi]; rfl
def Ewd (m : Nat) (bs : List Str) (most : Nat) (ms : List Nat) (rs : List Row) (g : Int) (x6 x7 x8 x9 x10 : Sl) : Sv := [.io (nats ms), .sh (dNat m), .sh (bxD bs), .sh (dNat most), .ow (.lst (rs.map Row.d)), .sh (.int g), x6, x7, x8, x9, x10, .no]
section
variable {m : Nat} {bs : List Str} {most : Nat} {DD : DEn} {rs : List Row} {g : Nat} {k way : Int} {ts : List Th} {b : Str}
/-- the turn's end: a row is put -/
def WdNx (DD : DEn) (m : Nat) (bs : List Str) (most : Nat) (rs : List Row) : Prop := ∀ (r : Row) (g' : Nat) (ms : List Nat) (d6 d7 d8 d9 d10 : D), Wd m bs (rs ++ [r]) g' → DD.nx (Ewd m bs most ms (rs ++ [r]) (g' : Int) (.sh d6) (.sh d7) (.sh d8) (.sh d9) (.sh d10))
theorem wide3 (nx : WdNx DD m bs most rs) (hl : rs.length < 1000) (h : Wd m bs rs g) (hts : ∀ t ∈ ts, t.fit m bs) (hne : 2 ≤ ts.length) {r : Row} (hr : r.ok m bs) (hg : r.gi = 0) (ms : List Nat) :
    t__law_wide_3 DD (Ewd m bs most ms rs (g : Int) (.sh (.int k)) (.sh (.int way)) (.sh (.list (ts.map Th.d))) (.sh (.str b)) (.sh r.d)) := by
  have app : ∀ (g' : Nat) (r' : Row), Wd m bs (rs ++ [r']) g' → t__law_wide_2 DD (Ewd m bs most ms rs (g' : Int) (.sh (.int k)) (.sh (.int way)) (.sh (.list (ts.map Th.d))) (.sh (.str b)) (.sh r'.d)) := by
    intro g' r' h'
    refine ⟨⟨_, rfl⟩, _, rfl, by rw [List.length_map]; omega, ?_⟩
    have := nx r' g' ms (.int k) (.int way) (.list (ts.map Th.d)) (.str b) r'.d h'
    unfold Ewd at this
    rw [List.map_append] at this
    exact this
  have keep := app g r (h.put hr hg)
  refine ite_vc (fun z1 => ?_) (fun _ => ite_vc (fun z => nomatch z) fun _ => keep)
  refine ite_vc (fun z2 => ?_) (fun _ => ite_vc (fun z => nomatch z) fun _ => keep)
  refine ite_vc (fun z3 => ?_) (fun _ => keep)
  have z2 : (g : Int) < 3 := of_decide_eq_true z2
  obtain ⟨t, ht⟩ : ∃ t, ts[0]? = some t := ⟨ts[0], List.getElem?_eq_getElem (by omega)⟩
  have hix : atI (ts.map Th.d) (0 : Int) = some t.d := atI_nat (j := 0) (by rw [List.getElem?_map, ht]; rfl)
  refine ⟨_, hix, l2, trivial, trivial, ?_⟩
  have := app (g + 1) (.give t) (h.give (hts t (List.mem_of_getElem? ht)) (by omega))
  exact this
theorem wide7 (nx : WdNx DD m bs most rs) (hl : rs.length < 1000) (h : Wd m bs rs g) (hts : ∀ t ∈ ts, t.fit m bs) (hne : 2 ≤ ts.length) (hle : ts.length ≤ 5) (hb : b ∈ bs) (ms : List Nat) :
    t__law_wide_7 DD (Ewd m bs most ms rs (g : Int) (.sh (.int k)) (.sh (.int way)) (.ow (.lst (ts.map Th.d))) (.sh (.str b)) .no) := by
  obtain ⟨t, ht⟩ : ∃ t, ts[0]? = some t := ⟨ts[0], List.getElem?_eq_getElem (by omega)⟩
  have hix : atI (ts.map Th.d) (0 : Int) = some t.d := atI_nat (j := 0) (by rw [List.getElem?_map, ht]; rfl)
  have htf := hts t (List.mem_of_getElem? ht)
  have s4 : ∀ r : Row, r.ok m bs → r.gi = 0 → ∀ ms, t__law_wide_4 DD (Ewd m bs most ms rs (g : Int) (.sh (.int k)) (.sh (.int way)) (.sh (.list (ts.map Th.d))) (.sh (.str b)) (.sh r.d)) := by
    intro r hr hg ms
    refine ⟨eqI, ite_vc (fun _ => ?_) (fun _ => wide3 nx hl h hts hne hr hg ms)⟩
    exact ⟨_, hix, l2, trivial, wide3 nx hl h hts hne (r := .need t) htf rfl ms⟩
  have s5 : ∀ r : Row, r.ok m bs → r.gi = 0 → ∀ ms, t__law_wide_5 DD (Ewd m bs most ms rs (g : Int) (.sh (.int k)) (.sh (.int way)) (.sh (.list (ts.map Th.d))) (.sh (.str b)) (.sh r.d)) := by
    intro r hr hg ms
    refine ⟨eqI, ite_vc (fun _ => ?_) (fun _ => s4 r hr hg ms)⟩
    refine ⟨_, hix, nd1, ms, rfl, fun n ms2 => ⟨by omega, l3, trivial, ?_⟩⟩
    have := s4 (.skip t (1 + n % 12)) ⟨htf, by omega, by omega⟩ rfl ms2
    have e : (Row.skip t (1 + n % 12)).d = .tuple [.str "skip", t.d, .int (1 + (n : Int) % 12)] := by
      show PyData.tuple [.str "skip", t.d, .int ((1 + n % 12 : Nat) : Int)] = _
      rw [show ((1 + n % 12 : Nat) : Int) = 1 + (n : Int) % 12 by omega]
    rw [e] at this
    exact this
  have s6 : ∀ r : Row, r.ok m bs → r.gi = 0 → t__law_wide_6 DD (Ewd m bs most ms rs (g : Int) (.sh (.int k)) (.sh (.int way)) (.sh (.list (ts.map Th.d))) (.sh (.str b)) (.sh r.d)) := by
    intro r hr hg
    refine ⟨eqI, ite_vc (fun _ => ?_) (fun _ => s5 r hr hg ms)⟩
    exact ⟨_, hix, l3, trivial, s5 (.set b t) ⟨hb, htf⟩ rfl ms⟩
  exact ⟨l3, trivial, s6 (.pick b ts) ⟨hb, ⟨by omega, hle⟩, hts⟩ rfl⟩
theorem wide_body (hbx : BxOk m bs) (nx : WdNx DD m bs most rs) (hl : rs.length < 1000) (h : Wd m bs rs g) (ms : List Nat) :
    t__law_wide_10 DD (Ewd m bs most ms rs (g : Int) (.sh (.int k)) .no .no .no .no) := by
  have hm := hbx.m2
  refine ⟨nd1, ms, rfl, fun n1 ms1 => ⟨by omega, trivial, ?_⟩⟩
  show t__law_wide_9 DD (Ewd m bs most ms1 rs (g : Int) (.sh (.int k)) (.sh (.int ((n1 : Int) % 11))) .no .no .no)
  refine ⟨nd1, ms1, rfl, fun n2 ms2 => ⟨by omega, by (try dsimp only); omega, by (try dsimp only); omega, ?_⟩⟩
  refine lc_vc (J := fun ds acc e => ∃ (ts : List Th) (ms : List Nat), acc = ts.map Th.d ∧ (∀ t ∈ ts, t.fit m bs) ∧ ts.length + ds.length = 2 + n2 % 4 ∧ e = [.io (nats ms), .sh (dNat m), .sh (bxD bs), .sh (dNat most), .io (.lst (rs.map Row.d)), .sh (.int (g : Int)), .sh (.int k), .sh (.int ((n1 : Int) % 11)), .no, .no, .no, .no]) _ ⟨trivial, trivial⟩ rfl ⟨[], ms2, rfl, (fun _ z => nomatch z), ?_, rfl⟩ ?_ ?_
  · show 0 + (rngD 0 ((2 : Int) + (n2 : Int) % 4).toNat).length = _
    unfold rngD
    rw [List.length_map, List.length_range]
    omega
  · rintro acc e ⟨ts, ms3, rfl, hts, hlt, rfl⟩
    have hlt : ts.length = 2 + n2 % 4 := hlt
    refine ⟨[.io (nats ms3), .sh (dNat m), .sh (bxD bs), .sh (dNat most), .ow (.lst (rs.map Row.d)), .sh (.int (g : Int)), .sh (.int k), .sh (.int ((n1 : Int) % 11)), .no, .no, .no, .no], rfl, trivial, ?_⟩
    refine ⟨nd1, ms3, rfl, fun n3 ms4 => ?_⟩
    obtain ⟨b, hb, hbi⟩ := pickB (n := n3) hbx.ne
    have hl0 : 0 < bs.length := List.length_pos_iff.mpr hbx.ne
    refine ⟨by show (0 : Int) < ((bs.map PyData.str).length : Int); rw [List.length_map]; omega, _, hbi, trivial, ?_⟩
    exact wide7 nx hl h hts (by omega) (by omega) hb ms4
  · rintro d ds acc e kk hk ⟨ts, ms3, rfl, hts, hlt, rfl⟩
    have hlt : ts.length + (ds.length + 1) = 2 + n2 % 4 := hlt
    refine ⟨trivial, trivial, nd1, ms3, rfl, fun n3 ms4 => ⟨by omega, nd1, ms4, m, bs, 1 + n3 % 2, ?_, ⟨by omega, hbx.ne, by omega⟩, fun t ms5 ht hd => ?_⟩⟩
    · show [Sl.io (nats ms4), .sh (dNat m), .sh (bxD bs), .sh (.int (1 + (n3 : Int) % 2))] = [Sl.io (nats ms4), .sh (dNat m), .sh (bxD bs), .sh (dNat (1 + n3 % 2))]
      have e : dNat (1 + n3 % 2) = .int (1 + (n3 : Int) % 2) := by
        show PyData.int ((1 + n3 % 2 : Nat) : Int) = _
        rw [show ((1 + n3 % 2 : Nat) : Int) = 1 + (n3 : Int) % 2 by omega]
      rw [e]
    · refine ⟨by rw [List.length_map]; omega, hk _ _ ⟨ts ++ [t], ms5, by rw [List.map_append]; rfl, fun x hx => ?_, ?_, rfl⟩⟩
      · rcases List.mem_append.mp hx with hx | hx
        · exact hts x hx
        · rw [List.mem_singleton.mp hx]
          exact ⟨ht, by omega⟩
      · rw [List.length_append, List.length_singleton]; omega
end
theorem vc__law_wide (as Q E) (h : sp__law_wide as Q E) : t__law_wide (defEnds 4 Q) (start0 12 as) := by
  obtain ⟨ns, m, bs, most, rfl, ⟨hbx, h1, h100⟩, hQ⟩ := h
  have hm := hbx.m2
  refine ⟨l0, trivial, trivial, ?_⟩
  refine ⟨nd1, ns, rfl, fun n1 ms1 => ⟨by omega, ?_⟩⟩
  have hlt : n1 % most < most := Nat.mod_lt _ (by omega)
  have hr : (n1 : Int) % (most : Int) = ((n1 % most : Nat) : Int) := by simp
  refine ⟨by (try dsimp only); omega, by (try dsimp only); omega, ?_⟩
  refine rng_vc (J := fun i e => ∃ (rs : List Row) (ms : List Nat) (g : Nat), rs.length = i ∧ Wd m bs rs g ∧ e = Ewd m bs most ms rs (g : Int) .no .no .no .no .no) ⟨[], ms1, 0, rfl, ⟨(fun _ z => nomatch z), rfl, by decide⟩, rfl⟩ ?_ ?_
  · rintro e ⟨rs, ms, g, hl, hw, rfl⟩
    have hl : rs.length = ((n1 : Int) % (most : Int)).toNat := hl
    refine ⟨nd1, ms, m, bs, 2, rfl, ⟨by omega, hbx.ne, by decide⟩, fun t ms2 ht hd => ?_⟩
    have hf : t.fit m bs := ⟨ht, by have : max 2 1 = 2 := rfl; omega⟩
    refine ⟨l2, l1, by rw [List.length_map]; show rs.length + 1 ≤ 100000; omega, l3, ?_⟩
    have := hQ ⟨m, bs, rs ++ [.give t]⟩ ms2 ⟨rfl, rfl, fun x hx => ?_, ?_, ?_⟩
    · have e : (Pg.mk m bs (rs ++ [.give t])).d = .tuple [dNat m, bxD bs, .list (rs.map Row.d ++ [Row.d (.give t)])] := by
        show PyData.tuple [dNat m, bxD bs, .list ((rs ++ [Row.give t]).map Row.d)] = _
        rw [List.map_append]; rfl
      rw [e] at this
      exact this
    · rcases List.mem_append.mp hx with hx | hx
      · exact hw.ok x hx
      · rw [List.mem_singleton.mp hx]; exact hf
    · show (rs ++ [Row.give t]).length ≤ most
      rw [List.length_append, List.length_singleton]; omega
    · show ((rs ++ [Row.give t]).map Row.gi).sum ≤ 4
      rw [List.map_append, List.sum_append, hw.gi]
      have := hw.le
      show g + 1 ≤ 4
      omega
  · rintro i e kk hi hk ⟨rs, ms, g, hl, hw, rfl⟩
    have hi : i < ((n1 : Int) % (most : Int)).toNat := hi
    refine ⟨trivial, wide_body hbx (fun r g' ms' d6 d7 d8 d9 d10 h' => ?_) (by omega) hw ms⟩
    exact ⟨⟨trivial, trivial, trivial, trivial, trivial, trivial⟩, hk _ ⟨rs ++ [r], ms', g', by rw [List.length_append, List.length_singleton]; omega, h', rfl⟩⟩
end DL
/-! runs counted forward, by places. -/
namespace DL
open PySem PySem.Spec PyProof.Rows L2 PySem.W
/-! ### a dict that counts -/
structure IsM {α : Type} (f : α → Nat) (l : List (α × Nat)) : Prop where
  nd : (l.map (·.1)).Nodup
  at_ : ∀ e n, (e, n) ∈ l ↔ n = f e ∧ 0 < n
def mD {α : Type} (k : α → D) (l : List (α × Nat)) : List (D × D) := l.map fun x => (k x.1, dNat x.2)
section
variable {α : Type} [DecidableEq α] {f : α → Nat} {l : List (α × Nat)} {k : α → D}
theorem IsM.key (h : IsM f l) (e : α) : e ∈ l.map (·.1) ↔ 0 < f e := by
  constructor
  · intro z
    obtain ⟨x, hx, rfl⟩ := List.mem_map.mp z
    obtain ⟨h1, h2⟩ := (h.at_ x.1 x.2).mp hx
    omega
  · intro z
    exact List.mem_map.mpr ⟨_, (h.at_ e (f e)).mpr ⟨rfl, z⟩, rfl⟩
theorem IsM.look (hk : ∀ a b, PyData.eqv (k a) (k b) = decide (a = b)) (h : IsM f l) (e : α) : lookN (mD k l) (k e) = if 0 < f e then some (dNat (f e)) else none := by
  by_cases q : 0 < f e
  · rw [if_pos q]
    exact look_gen (k := k) (v := dNat) hk h.nd ((h.at_ e (f e)).mpr ⟨rfl, q⟩)
  · rw [if_neg q]
    exact look_none (k := k) (v := dNat) hk fun n hn => by
      obtain ⟨h1, h2⟩ := (h.at_ e n).mp hn
      omega
theorem IsM.getD (hk : ∀ a b, PyData.eqv (k a) (k b) = decide (a = b)) (h : IsM f l) (e : α) : (lookN (mD k l) (k e)).getD (.int 0) = dNat (f e) := by
  rw [h.look hk]
  split
  · rfl
  · have : f e = 0 := by omega
    rw [this]; rfl
def putM (l : List (α × Nat)) (e : α) (n : Nat) : List (α × Nat) := if e ∈ l.map (·.1) then l.map (fun x => if x.1 = e then (x.1, n) else x) else l ++ [(e, n)]
theorem IsM.store (hk : ∀ a b, PyData.eqv (k a) (k b) = decide (a = b)) (h : IsM f l) (e : α) (n : Nat) : storeN (mD k l) (k e) (dNat n) = mD k (putM l e n) := by
  unfold storeN putM
  rw [h.look hk]
  by_cases q : 0 < f e
  · rw [if_pos q, if_pos ((h.key e).mpr q)]
    rw [if_pos (by rfl)]
    unfold mD
    rw [List.map_map, List.map_map]
    refine List.map_congr_left fun x _ => ?_
    dsimp only [Function.comp]
    rw [hk]
    by_cases z : x.1 = e <;> simp [z]
  · rw [if_neg q, if_neg (fun z => q ((h.key e).mp z)), if_neg (by simp)]
    simp [mD]
theorem IsM.put (h : IsM f l) (e : α) {n : Nat} (hn : 0 < n) : IsM (fun x => if x = e then n else f x) (putM l e n) := by
  unfold putM
  by_cases q : e ∈ l.map (·.1)
  · rw [if_pos q]
    refine ⟨?_, fun x m => ?_⟩
    · rw [List.map_map]
      have : (l.map ((fun x => x.1) ∘ fun x => if x.1 = e then (x.1, n) else x)) = l.map (·.1) := List.map_congr_left fun x _ => by
        dsimp only [Function.comp]
        split <;> rfl
      rw [this]; exact h.nd
    · constructor
      · intro z
        obtain ⟨y, hy, ey⟩ := List.mem_map.mp z
        by_cases c : y.1 = e
        · rw [if_pos c] at ey
          injection ey with e1 e2
          subst e1; subst e2
          rw [if_pos c]
          exact ⟨rfl, hn⟩
        · rw [if_neg c] at ey
          subst ey
          rw [if_neg c]
          exact (h.at_ _ _).mp hy
      · rintro ⟨z1, z2⟩
        by_cases c : x = e
        · rw [if_pos c] at z1
          subst z1
          subst c
          obtain ⟨y, hy, rfl⟩ := List.mem_map.mp q
          exact List.mem_map.mpr ⟨y, hy, by rw [if_pos rfl]⟩
        · rw [if_neg c] at z1
          exact List.mem_map.mpr ⟨(x, m), (h.at_ x m).mpr ⟨z1, z2⟩, by rw [if_neg c]⟩
  · rw [if_neg q]
    have hf : f e = 0 := by
      have : ¬ 0 < f e := fun z => q ((h.key e).mpr z)
      omega
    refine ⟨?_, fun x m => ?_⟩
    · rw [List.map_append]
      refine List.nodup_append.mpr ⟨h.nd, List.nodup_cons.mpr ⟨(fun z => nomatch z), List.nodup_nil⟩, fun a ha b hb z => ?_⟩
      rw [List.mem_singleton.mp hb] at z
      rw [z] at ha
      exact q ha
    · rw [List.mem_append, List.mem_singleton, h.at_]
      by_cases c : x = e
      · subst c
        rw [if_pos rfl, hf]
        constructor
        · rintro (⟨z1, z2⟩ | z)
          · omega
          · injection z with _ z; exact ⟨z, by omega⟩
        · rintro ⟨z1, _⟩
          exact .inr (by rw [z1])
      · rw [if_neg c]
        constructor
        · rintro (z | z)
          · exact z
          · injection z with z _; exact absurd z c
        · exact fun z => .inl z
theorem IsM.congr {f' : α → Nat} (h : IsM f l) (e : ∀ x, f x = f' x) : IsM f' l := ⟨h.nd, fun x n => by rw [← e]; exact h.at_ x n⟩
/-- what a count weighs -/
def wgt (g : α → Nat) (l : List (α × Nat)) : Nat := (l.map fun x => x.2 * g x.1).sum
theorem wgt_map {g : α → Nat} {e : α} {n : Nat} : ∀ {l : List (α × Nat)} {v : Nat}, (l.map (·.1)).Nodup → (e, v) ∈ l → wgt g (l.map fun x => if x.1 = e then (x.1, n) else x) + v * g e = wgt g l + n * g e
  | [], _, _, h => by cases h
  | x :: l, v, nd, h => by
    obtain ⟨n1, n2⟩ := List.nodup_cons.mp (show (x.1 :: l.map (·.1)).Nodup from nd)
    unfold wgt
    rw [List.map_cons, List.map_cons, List.map_cons, List.sum_cons, List.sum_cons]
    rcases List.mem_cons.mp h with rfl | h
    · have same : l.map (fun x => if x.1 = e then (x.1, n) else x) = l := by
        conv => rhs; rw [← List.map_id l]
        refine List.map_congr_left fun y hy => ?_
        rw [if_neg (fun z => n1 (by show e ∈ _; rw [← z]; exact List.mem_map.mpr ⟨y, hy, rfl⟩))]
        rfl
      rw [same, if_pos rfl]
      show n * g e + _ + v * g e = v * g e + _ + n * g e
      omega
    · have ne : ¬ x.1 = e := fun z => n1 (by rw [z]; exact List.mem_map.mpr ⟨_, h, rfl⟩)
      rw [if_neg ne]
      have := wgt_map (g := g) (n := n) n2 h
      unfold wgt at this
      omega
theorem IsM.wgt_put (h : IsM f l) (g : α → Nat) (e : α) (v : Nat) : wgt g (putM l e (f e + v)) = wgt g l + v * g e := by
  unfold putM
  by_cases q : e ∈ l.map (·.1)
  · rw [if_pos q]
    have := wgt_map (g := g) (e := e) (n := f e + v) h.nd ((h.at_ e (f e)).mpr ⟨rfl, (h.key e).mp q⟩)
    rw [Nat.add_mul] at this
    omega
  · rw [if_neg q]
    have hf : f e = 0 := by
      have : ¬ 0 < f e := fun z => q ((h.key e).mpr z)
      omega
    unfold wgt
    rw [List.map_append, List.sum_append, hf]
    simp
end
theorem IsM.nil {α : Type} : IsM (fun _ : α => 0) [] := ⟨List.nodup_nil, fun e n => ⟨(fun z => nomatch z), fun ⟨z1, z2⟩ => by omega⟩⟩
/-! ### ends, with the store that is left -/
abbrev En := Option (Nat × List Nat)
def eD : En → D
  | none => .tuple [.str "nothing"]
  | some x => .tuple [.str "gives", dNat x.1, stD x.2]
def cE (p : Pg) (r : Nat) (s : List Nat) (e : En) : Nat := ((Lr p r s).map (·.2)).count e
def wE (p : Pg) (s : List Nat) (e : En) : Way → Nat
  | .at r2 s2 => cE p r2 s2 e
  | .gives v => if e = some (v, s) then 1 else 0
  | .nothing => if e = none then 1 else 0
/-- no more ends than this -/
def FewEnds (p : Pg) (s0 : List Nat) : Prop := ∀ ls : List En, ls.Nodup → (∀ e ∈ ls, 0 < cE p 0 s0 e) → ls.length ≤ 50000
def sp__law_ended : FS := fun as Q E => ∃ (p : Pg) (s0 : List Nat), as = [.sh p.d, .sh (stD s0)] ∧ (p.good ∧ StOk p.m p.bs s0 ∧ Few p s0 ∧ p.rs.length ≤ 35 ∧ FewEnds p s0) ∧ ∀ l, IsM (cE p 0 s0) l → Q (.tm (.dct (mD eD l))) []
def Nq (p q : Pg) (box : Str) (s : List Nat) : Prop := (putAfter p q box).good ∧ p.good ∧ q.good ∧ q.m = p.m ∧ q.bs = p.bs ∧ box ∈ p.bs ∧ StOk p.m p.bs s ∧ (∀ s, StOk p.m p.bs s → Few p s ∧ Few q s ∧ FewEnds p s ∧ FewEnds q s) ∧ p.rs.length ≤ 35 ∧ q.rs.length ≤ 35 ∧ (∀ s, StOk p.m p.bs s → (Lr p 0 s).length < 2 ^ 63)
def dueD (p q : Pg) (box : Str) (s : List Nat) : D := .tuple [.list ((ansL (putAfter p q box) s).map ansF), dNat (cntOf (ends (putAfter p q box) (poe (putAfter p q box) 0 s)) .nothing)]
def sp__law_due_by_places : FS := fun as Q E => ∃ (p q : Pg) (box : Str) (s : List Nat), as = [.sh p.d, .sh q.d, .sh (.str box), .sh (stD s)] ∧ Nq p q box s ∧ Q (.vl (dueD p q box s)) []
def sp__law_due : FS := fun as Q E => ∃ (p q : Pg) (box : Str) (s : List Nat), as = [.sh p.d, .sh q.d, .sh (.str box), .sh (stD s)] ∧ (Nq p q box s ∧ (runs p (poe p 0 s)).length ≤ 2000) ∧ Q (.vl (dueD p q box s)) []
/- N: 0=program 1=store 2=counts 3=ends 4=at 5=place 6=way 7=key 8=one -/
def t__law_ended_1 : DS := dIf (dTst (dOp (tInB false) (dOp tIx (dRef 6) (dC (.int 0))) (dTup [dC (.str "gives"), dC (.str "nothing")]))) (dPut 3 (dVal 7) (dOp tAdd (dDGet2 (dRef 3) (dVal 7) (dC (.int 0))) (dOp tDGet (dRef 2) (dVal 5)))) (dPut 2 (dVal 7) (dOp tAdd (dDGet2 (dRef 2) (dVal 7) (dC (.int 0))) (dOp tDGet (dRef 2) (dVal 5))))
def t__law_ended_2 : DS := dSeq (dIf (dTst (dOp tEq (dOp tIx (dRef 6) (dC (.int 0))) (dC (.str "gives")))) (dSet 7 (dTup [dC (.str "gives"), dOp tIx (dRef 6) (dC (.int 1)), dOp tIx (dRef 5) (dC (.int 1))])) (dNext)) t__law_ended_1
def t__law_ended_3 : DS := dSeq (dSet 7 (dVal 6)) t__law_ended_2
def t__law_ended_4 : DS := dFor (dSeqI (dCall sp__law_ways [dVal 0, dVal 5])) (.nm 6) (dWipe [6, 7] (t__law_ended_3))
def t__law_ended_5 : DS := dFor (dSeqI (dHide 2 (dLc (dKeysI (dVal 2)) (.nm 8) [] (dTst (dOp tEq (dOp tIx (dRef 8) (dC (.int 0))) (dRef 4))) (dVal 8)))) (.nm 5) (dWipe [5] (t__law_ended_4))
def t__law_ended_6 : DS := dRet (dMov 3)
def t__law_ended_7 : DS := dSeq (dFor (dRng1 [dCB tLenU [dOp tIx (dRef 0) (dC (.int 2))]]) (.nm 4) (dWipe [4] (t__law_ended_5))) t__law_ended_6
def t__law_ended_8 : DS := dSeq (dIf (dTst (dOp tEq (dOp tIx (dRef 0) (dC (.int 2))) (dLst []))) (dRet (dDisp1 .dct isKey (dTup [dC (.str "nothing")]) (dC (.int 1)))) (dNext)) t__law_ended_7
def t__law_ended_9 : DS := dSeq (dSet 3 (dDNew)) t__law_ended_8
def t__law_ended : DS := dSeq (dSet 2 (dDisp1 .dct isKey (dTup [dC (.int 0), dVal 1]) (dC (.int 1)))) t__law_ended_9

/- N: 0=one 1=other 2=box 3=store 4=counts 5=nothing 6=end 7=many 8=further 9=last 10=times 11=answer -/
def t__law_due_by_places_1 : DS := dIf (dTst (dOp tEq (dOp tIx (dRef 9) (dC (.int 0))) (dC (.str "nothing")))) (dSet 5 (dOp tAdd (dRef 5) (dOp tMulU (dRef 7) (dRef 10)))) (dKPut 4 (dOp tIx (dRef 9) (dC (.int 1))) (dOp tAdd (dKGet2 (dRef 4) (dOp tIx (dRef 9) (dC (.int 1))) (dC (.int 0))) (dOp tMulU (dRef 7) (dRef 10))))
def t__law_due_by_places_2 : DS := dFor (dItems (dVal 8)) (.tp [.nm 9, .nm 10]) (dWipe [9, 10] (t__law_due_by_places_1))
def t__law_due_by_places_3 : DS := dSeq (dIf (dTst (dOp tEq (dOp tIx (dRef 6) (dC (.int 0))) (dC (.str "gives")))) (dSet 8 (dCall sp__law_ended [dVal 1, dCall sp__law_set [dVal 0, dOp tIx (dRef 6) (dC (.int 2)), dVal 2, dOp tIx (dRef 6) (dC (.int 1))]])) (dNext)) t__law_due_by_places_2
def t__law_due_by_places_4 : DS := dSeq (dSet 8 (dDisp1 .dct isKey (dTup [dC (.str "nothing")]) (dC (.int 1)))) t__law_due_by_places_3
def t__law_due_by_places_5 : DS := dRet (dTup [dCB tSortedU [dLc (dKeysK (dVal 4)) (.nm 11) [] (dYes) (dTup [dVal 11, dOp tKGet (dRef 4) (dVal 11)])], dVal 5])
def t__law_due_by_places_6 : DS := dSeq (dFor (dItems (dCall sp__law_ended [dVal 0, dVal 3])) (.tp [.nm 6, .nm 7]) (dWipe [6, 7, 8] (t__law_due_by_places_4))) t__law_due_by_places_5
def t__law_due_by_places_7 : DS := dSeq (dSet 5 (dC (.int 0))) t__law_due_by_places_6
def t__law_due_by_places : DS := dSeq (dSet 4 (dKNew)) t__law_due_by_places_7

/- N: 0=one 1=other 2=box 3=store 4=counts 5=nothing 6=choices 7=end 8=behind 9=answer 10=many -/
def t__law_due_1 : DS := dKPut 4 (dVal 9) (dOp tAdd (dKGet2 (dRef 4) (dVal 9) (dC (.int 0))) (dRef 10))
def t__law_due_2 : DS := dSet 5 (dOp tAdd (dRef 5) (dCall sp_count_nothing [dVal 1, dVal 8]))
def t__law_due_3 : DS := dSeq (dFor (dSeqI (dCall sp_answer_counts [dVal 1, dVal 8])) (.tp [.nm 9, .nm 10]) (dWipe [10] (t__law_due_1))) t__law_due_2
def t__law_due_4 : DS := dIf (dTst (dOp tEq (dOp tIx (dRef 7) (dC (.int 0))) (dC (.str "gives")))) (dSeq (dSet 8 (dCall sp__law_set [dVal 0, dCall sp__law_left [dVal 0, dVal 3, dVal 6], dVal 2, dOp tIx (dRef 7) (dC (.int 1))])) t__law_due_3) (dNext)
def t__law_due_5 : DS := dRet (dTup [dCB tSortedU [dLc (dKeysK (dVal 4)) (.nm 9) [] (dYes) (dTup [dVal 9, dOp tKGet (dRef 4) (dVal 9)])], dVal 5])
def t__law_due_6 : DS := dSeq (dFor (dSeqI (dCall sp_all_runs [dVal 0, dVal 3])) (.tp [.nm 6, .nm 7]) (dWipe [6, 7, 8] (t__law_due_4))) t__law_due_5
def t__law_due_7 : DS := dSeq (dSet 5 (dCall sp_count_nothing [dVal 0, dVal 3])) t__law_due_6
def t__law_due : DS := dSeq (dSet 4 (dKNew)) t__law_due_7

theorem count_flatMap {α β : Type} [BEq β] {f : α → List β} {e : β} : ∀ {l : List α}, (l.flatMap f).count e = (l.map fun a => (f a).count e).sum
  | [] => rfl
  | a :: l => by rw [List.flatMap_cons, List.count_append, List.map_cons, List.sum_cons, count_flatMap]
theorem wE_poe {p : Pg} {s s2 : List Nat} {r2 : Nat} {e : En} : wE p s e (poe p r2 s2) = cE p r2 s2 e := by
  unfold poe
  split
  · rename_i h
    unfold cE Lr
    rw [List.drop_eq_nil_of_le h, runL]
    show (if e = none then 1 else 0) = [(none : En)].count e
    by_cases z : e = none
    · subst z; rfl
    · rw [if_neg z, List.count_eq_zero_of_not_mem]
      intro y
      exact z (List.mem_singleton.mp y)
  · rfl
theorem cE_step {p : Pg} {r : Nat} {s : List Nat} (hr : r < p.rs.length) (e : En) : cE p r s e = ((ways p r s).map (wE p s e)).sum := by
  have hrow : p.rs[r]? = some p.rs[r] := List.getElem?_eq_getElem hr
  have h0 : cE p r s e = ((runL p.m p.bs (p.rs[r] :: p.rs.drop (r + 1)) s).map (·.2)).count e := by
    unfold cE Lr
    rw [List.drop_eq_getElem_cons hr]
  rw [h0]
  generalize p.rs[r] = row at hrow
  have hw : ways p r s = rowWays p r s row := by unfold ways; rw [hrow]
  rw [hw]
  have one : ∀ r2 s2, ((runL p.m p.bs (p.rs.drop r2) s2).map (·.2)).count e = ([poe p r2 s2].map (wE p s e)).sum := by
    intro r2 s2
    rw [List.map_singleton, List.sum_singleton, wE_poe]
    rfl
  have none1 : ([(([] : List Nat), (none : En))].map (·.2)).count e = ([Way.nothing].map (wE p s e)).sum := by
    show [(none : En)].count e = (if e = none then 1 else 0) + 0
    by_cases z : e = none
    · subst z; rfl
    · rw [if_neg z, List.count_eq_zero_of_not_mem fun y => z (List.mem_singleton.mp y)]
  cases row with
  | set b t => rw [runL]; exact one _ _
  | pick b ts =>
    rw [runL, List.map_flatMap, count_flatMap]
    show _ = ((ts.map fun t => poe p (r + 1) (swith p s b (wo p s t))).map (wE p s e)).sum
    have : ∀ (k : Nat) (ts : List Th), ((ts.zipIdx k).map fun a => (((runL p.m p.bs (p.rs.drop (r + 1)) (s.set (p.bs.idxOf b) (a.1.worth p.m p.bs s))).map fun ce => ((a.2 :: ce.1, ce.2) : Rn)).map (·.2)).count e).sum = ((ts.map fun t => poe p (r + 1) (swith p s b (wo p s t))).map (wE p s e)).sum := by
      intro k ts
      induction ts generalizing k with
      | nil => rfl
      | cons t ts ih =>
        rw [List.zipIdx_cons, List.map_cons, List.sum_cons, ih, List.map_cons, List.map_cons, List.sum_cons, wE_poe, List.map_map]
        rfl
    exact this 0 ts
  | need t =>
    rw [runL]
    show _ = ((if wo p s t = 0 then [Way.nothing] else [poe p (r + 1) s]).map (wE p s e)).sum
    by_cases z : t.worth p.m p.bs s = 0
    · rw [if_pos z, if_pos (show wo p s t = 0 from z)]; exact none1
    · rw [if_neg z, if_neg (show ¬ wo p s t = 0 from z)]; exact one _ _
  | skip t n =>
    rw [runL]
    show _ = ([poe p (r + 1 + if wo p s t = 0 then 0 else n) s].map (wE p s e)).sum
    by_cases z : t.worth p.m p.bs s = 0
    · rw [if_pos z, if_pos (show wo p s t = 0 from z)]; exact one _ _
    · rw [if_neg z, if_neg (show ¬ wo p s t = 0 from z), List.drop_drop]; exact one _ _
  | give t =>
    rw [runL]
    show [some (wo p s t, s)].count e = (if e = some (wo p s t, s) then 1 else 0) + 0
    by_cases z : e = some (wo p s t, s)
    · rw [if_pos z, z]; simp
    · rw [if_neg z, List.count_eq_zero_of_not_mem fun y => z (List.mem_singleton.mp y)]
theorem len_split {α : Type} (P : α → Bool) : ∀ l : List α, l.length = (l.filter P).length + (l.filter fun x => !P x).length
  | [] => rfl
  | x :: l => by
    have ih := len_split P l
    rw [List.filter_cons, List.filter_cons, List.length_cons]
    cases h : P x with
    | true => simp only [if_true, Bool.not_true, Bool.false_eq_true, if_false, List.length_cons]; omega
    | false => simp only [Bool.false_eq_true, if_false, Bool.not_false, if_true, List.length_cons]; omega
theorem pairs_len {p : Pg} {s0 : List Nat} (few : Few p s0) : ∀ (n : Nat) (ls : List (Nat × List Nat)), ls.Nodup → (∀ x ∈ ls, Reach p s0 x.1 x.2 ∧ x.1 < n) → ls.length ≤ n * 2500
  | 0, ls, _, h => by
    cases ls with
    | nil => exact Nat.zero_le _
    | cons x l => exact absurd (h x List.mem_cons_self).2 (Nat.not_lt_zero _)
  | n + 1, ls, nd, h => by
    have e := len_split (fun x : Nat × List Nat => decide (x.1 < n)) ls
    have h1 := pairs_len few n (ls.filter fun x => decide (x.1 < n)) (List.Nodup.sublist List.filter_sublist nd) fun x hx => by
      obtain ⟨a, b⟩ := List.mem_filter.mp hx
      exact ⟨(h x a).1, of_decide_eq_true b⟩
    have h2 := few n ((ls.filter fun x => !decide (x.1 < n)).map (·.2)) ?_ ?_
    · rw [List.length_map] at h2
      rw [Nat.succ_mul]
      omega
    · refine List.pairwise_map.mpr (List.Pairwise.imp_of_mem ?_ (List.Nodup.sublist (List.filter_sublist (p := fun x : Nat × List Nat => !decide (x.1 < n))) nd))
      intro x y hx hy hne hxy
      obtain ⟨a1, b1⟩ := List.mem_filter.mp hx
      obtain ⟨a2, b2⟩ := List.mem_filter.mp hy
      have c1 := (h x a1).2
      have c2 := (h y a2).2
      simp at b1 b2
      exact hne (Prod.ext (by omega) hxy)
    · intro s hs
      obtain ⟨x, hx, rfl⟩ := List.mem_map.mp hs
      obtain ⟨a1, b1⟩ := List.mem_filter.mp hx
      have c1 := h x a1
      simp at b1
      have : x.1 = n := by omega
      rw [← this]
      exact c1.1
/-! ### counted forward -/
def plK (x : Nat × List Nat) : D := (Way.at x.1 x.2).d
theorem eqv_plK (a b : Nat × List Nat) : PyData.eqv (plK a) (plK b) = decide (a = b) := by
  have : PyData.eqv (plK a) (plK b) = decide (Way.at a.1 a.2 = Way.at b.1 b.2) := eqv_way
  rw [this]
  by_cases h : a = b
  · subst h; simp
  · have : ¬ Way.at a.1 a.2 = Way.at b.1 b.2 := fun z => h (by injection z with z1 z2; exact Prod.ext z1 z2)
    simp [h, this]
theorem map_inj {α β : Type} {f : α → β} (h : ∀ a b, f a = f b → a = b) : ∀ {xs ys : List α}, xs.map f = ys.map f → xs = ys
  | [], [], _ => rfl
  | [], _ :: _, z => by cases z
  | _ :: _, [], z => by cases z
  | x :: xs, y :: ys, z => by
    rw [List.map_cons, List.map_cons] at z
    injection z with z1 z2
    rw [h _ _ z1, map_inj h z2]
theorem dNat_inj {a b : Nat} (h : dNat a = dNat b) : a = b := by
  have : (a : Int) = (b : Int) := by injection h
  omega
theorem pl_eD {e : En} : pl (eD e) = true := by
  cases e with
  | none => rfl
  | some x =>
    show (pl (.str "gives") && (pl (dNat x.1) && (pl (stD x.2) && true))) = true
    rw [pl_stD]; rfl
theorem eqv_eD (a b : En) : PyData.eqv (eD a) (eD b) = decide (a = b) := by
  refine eqv_pl_dec pl_eD pl_eD ⟨fun h => ?_, fun h => by rw [h]⟩
  cases a with
  | none => cases b with
    | none => rfl
    | some y => cases h
  | some x => cases b with
    | none => cases h
    | some y =>
      have h' : PyData.tuple [.str "gives", dNat x.1, stD x.2] = .tuple [.str "gives", dNat y.1, stD y.2] := h
      injection h' with h'
      injection h' with _ h'
      injection h' with h1 h'
      injection h' with h2 _
      exact congrArg some (Prod.ext (dNat_inj h1) (stD_inj h2))
theorem key_eD {e : En} : isKey (eD e) := by
  cases e with
  | none => exact ⟨[.text "nothing"], rfl, by show max (0 : Nat) 0 + 1 ≤ 8; decide⟩
  | some x =>
    refine ⟨[.text "gives", .num (x.1 : Int), .tup (nums x.2)], ?_, ?_⟩
    · show PyData.tuple [.str "gives", dNat x.1, stD x.2] = PyData.tuple [.str "gives", .int x.1, .tuple (NestedKey.datas (nums x.2))]
      rw [nums_d] <;> rfl
    · show max (0 : Nat) (max 0 (max (NestedKey.depthAll (nums x.2) + 1) 0)) + 1 ≤ 8
      rw [nums_dep]; decide
theorem dct_plK {l : List ((Nat × List Nat) × Nat)} : dctD (mD plK l) := fun kv h => by
  obtain ⟨x, _, rfl⟩ := List.mem_map.mp h
  exact ⟨_, rfl⟩
theorem dct_eD {l : List (En × Nat)} : dctD (mD eD l) := fun kv h => by
  obtain ⟨x, _, rfl⟩ := List.mem_map.mp h
  obtain ⟨e, n⟩ := x
  cases e <;> exact ⟨_, rfl⟩
abbrev Pl := Nat × List Nat
def gtw (p : Pg) (i : Nat) (en : En) (a : Pl) : Nat := if i < a.1 then cE p a.1 a.2 en else 0
def gew (p : Pg) (i : Nat) (en : En) (a : Pl) : Nat := if i ≤ a.1 then cE p a.1 a.2 en else 0
structure Fl (p : Pg) (s0 : List Nat) (i : Nat) (left : List (Pl × Nat)) (ex : En → Nat) (fc : Pl → Nat) (fe : En → Nat) (lc : List (Pl × Nat)) (le : List (En × Nat)) : Prop where
  c : IsM fc lc
  e : IsM fe le
  reach : ∀ a, 0 < fc a → Reach p s0 a.1 a.2 ∧ a.1 < p.rs.length ∧ StOk p.m p.bs a.2
  lf : ∀ x ∈ left, x ∈ lc ∧ x.1.1 = i
  flow : ∀ en, fe en + wgt (gtw p i en) lc + ex en + wgt (fun a => cE p a.1 a.2 en) left = cE p 0 s0 en
theorem Fl.clen {p : Pg} {s0 : List Nat} {i : Nat} {left : List (Pl × Nat)} {ex : En → Nat} {fc : Pl → Nat} {fe : En → Nat} {lc : List (Pl × Nat)} {le : List (En × Nat)} (h : Fl p s0 i left ex fc fe lc le) (few : Few p s0) (h35 : p.rs.length ≤ 35) : lc.length < 100000 := by
  have := pairs_len few p.rs.length (lc.map (·.1)) h.c.nd fun x hx => by
    have := h.reach x ((h.c.key x).mp hx)
    exact ⟨this.1, this.2.1⟩
  rw [List.length_map] at this
  have : p.rs.length * 2500 ≤ 35 * 2500 := Nat.mul_le_mul_right _ h35
  omega
theorem Fl.elen {p : Pg} {s0 : List Nat} {i : Nat} {left : List (Pl × Nat)} {ex : En → Nat} {fc : Pl → Nat} {fe : En → Nat} {lc : List (Pl × Nat)} {le : List (En × Nat)} (h : Fl p s0 i left ex fc fe lc le) (few : FewEnds p s0) : le.length < 100000 := by
  have := few (le.map (·.1)) h.e.nd fun en hen => by
    have h1 := (h.e.key en).mp hen
    have := h.flow en
    omega
  rw [List.length_map] at this
  omega
theorem mem_put {α : Type} [DecidableEq α] {l : List (α × Nat)} {x : α × Nat} {e : α} {n : Nat} (h : x ∈ l) (hne : x.1 ≠ e) : x ∈ putM l e n := by
  unfold putM
  split
  · exact List.mem_map.mpr ⟨x, h, by rw [if_neg hne]⟩
  · exact List.mem_append_left _ h
/-- an end is counted -/
theorem Fl.putE {p : Pg} {s0 : List Nat} {i : Nat} {left : List (Pl × Nat)} {ex ex' : En → Nat} {fc : Pl → Nat} {fe : En → Nat} {lc : List (Pl × Nat)} {le : List (En × Nat)} (h : Fl p s0 i left ex fc fe lc le) (k : En) {n : Nat} (hn : 0 < n)
    (hx : ∀ en, ex en = n * (if en = k then 1 else 0) + ex' en) : ∃ fe', Fl p s0 i left ex' fc fe' lc (putM le k (fe k + n)) := by
  refine ⟨_, h.c, h.e.put k (n := fe k + n) (by omega), h.reach, h.lf, fun en => ?_⟩
  have := h.flow en
  rw [hx] at this
  by_cases z : en = k
  · subst z
    simp only [if_true] at this ⊢
    omega
  · simp only [z, if_false] at this ⊢
    omega
theorem Fl.putC {p : Pg} {s0 : List Nat} {i : Nat} {left : List (Pl × Nat)} {ex ex' : En → Nat} {fc : Pl → Nat} {fe : En → Nat} {lc : List (Pl × Nat)} {le : List (En × Nat)} (h : Fl p s0 i left ex fc fe lc le) (k : Pl) {n : Nat} (hn : 0 < n) (hk : i < k.1)
    (hr : Reach p s0 k.1 k.2 ∧ k.1 < p.rs.length ∧ StOk p.m p.bs k.2) (hx : ∀ en, ex en = n * cE p k.1 k.2 en + ex' en) : ∃ fc', Fl p s0 i left ex' fc' fe (putM lc k (fc k + n)) le := by
  refine ⟨_, h.c.put k (n := fc k + n) (by omega), h.e, fun a ha => ?_, fun x hx => ?_, fun en => ?_⟩
  · by_cases z : a = k
    · subst z; exact hr
    · rw [if_neg z] at ha; exact h.reach a ha
  · obtain ⟨h1, h2⟩ := h.lf x hx
    exact ⟨mem_put h1 (fun z => by rw [z] at h2; omega), h2⟩
  · have := h.flow en
    rw [hx] at this
    rw [h.c.wgt_put]
    have e1 : gtw p i en k = cE p k.1 k.2 en := by unfold gtw; rw [if_pos hk]
    rw [e1]
    omega
theorem add_vc {a n : Nat} {v : D} {K : Op → Prop} (e : v = dNat a) (h : K (.vl (dNat (a + n)))) : tAdd v (dNat n) K := by
  subst e
  exact h
def Eed (p : Pg) (s0 : List Nat) (lc : List (Pl × Nat)) (le : List (En × Nat)) (x4 x5 x6 x7 : Sl) : Sv := [.sh p.d, .sh (stD s0), .ow (.dct (mD plK lc)), .ow (.dct (mD eD le)), x4, x5, x6, x7, .no]
theorem mD_len {α : Type} {k : α → D} {l : List (α × Nat)} : (mD k l).length = l.length := List.length_map _
/-- one way of a place -/
theorem ended_way {p : Pg} (hg : p.good) {s0 : List Nat} (few : Few p s0) (h35 : p.rs.length ≤ 35) (fewE : FewEnds p s0) {i : Nat} {s : List Nat} (hi : i < p.rs.length) (hs : StOk p.m p.bs s) (hrc : Reach p s0 i s) {n : Nat} {left : List (Pl × Nat)} {w : Way} (hw : w ∈ ways p i s) {ex ex' : En → Nat}
    {fc : Pl → Nat} {fe : En → Nat} {lc : List (Pl × Nat)} {le : List (En × Nat)} (h : Fl p s0 i left ex fc fe lc le) (hin : ((i, s), n) ∈ lc) (hx : ∀ en, ex en = n * wE p s en w + ex' en) {DD : DEn} {x4 : Sl}
    (nx : ∀ fc' fe' lc' le' d7, Fl p s0 i left ex' fc' fe' lc' le' → ((i, s), n) ∈ lc' → DD.nx (Eed p s0 lc' le' x4 (.sh (plK (i, s))) (.sh w.d) (.sh d7))) : t__law_ended_3 DD (Eed p s0 lc le x4 (.sh (plK (i, s))) (.sh w.d) .no) := by
  have hn := (h.c.at_ _ _).mp hin
  have hlook : lookN (mD plK lc) (plK (i, s)) = some (dNat n) := by rw [h.c.look eqv_plK, if_pos (by omega), ← hn.1]
  cases w with
  | gives v =>
    refine ⟨trivial, _, atI_nat (j := 0) rfl, eqS, ?_⟩
    refine ⟨_, atI_nat (j := 1) rfl, _, atI_nat (j := 1) rfl, l3, trivial, ?_⟩
    show t__law_ended_1 DD (Eed p s0 lc le x4 (.sh (plK (i, s))) (.sh (Way.gives v).d) (.sh (eD (some (v, s)))))
    refine ⟨_, atI_nat (j := 0) rfl, l2, str_atoms, ?_⟩
    refine ⟨⟨_, rfl, dct_eD⟩, _, rfl, ⟨key_eD, dct_eD⟩, ⟨key_way (w := .at i s), dct_plK⟩, _, hlook, ?_⟩
    dsimp only [withO, pend]
    refine add_vc (h.e.getD eqv_eD (some (v, s))) ?_
    refine ⟨trivial, _, rfl, ⟨key_eD, by rw [mD_len]; exact h.elen fewE⟩, ?_⟩
    obtain ⟨fe', h'⟩ := h.putE (some (v, s)) hn.2 hx
    have := nx _ _ _ _ (eD (some (v, s))) h' hin
    unfold Eed at this
    rw [← h.e.store eqv_eD] at this
    exact this
  | nothing =>
    refine ⟨trivial, _, atI_nat (j := 0) rfl, eqS, ?_⟩
    show t__law_ended_1 DD (Eed p s0 lc le x4 (.sh (plK (i, s))) (.sh Way.nothing.d) (.sh (eD none)))
    refine ⟨_, atI_nat (j := 0) rfl, l2, str_atoms, ?_⟩
    refine ⟨⟨_, rfl, dct_eD⟩, _, rfl, ⟨key_eD, dct_eD⟩, ⟨key_way (w := .at i s), dct_plK⟩, _, hlook, ?_⟩
    dsimp only [withO, pend]
    refine add_vc (h.e.getD eqv_eD none) ?_
    refine ⟨trivial, _, rfl, ⟨key_eD, by rw [mD_len]; exact h.elen fewE⟩, ?_⟩
    obtain ⟨fe', h'⟩ := h.putE none hn.2 hx
    have := nx _ _ _ _ (eD none) h' hin
    unfold Eed at this
    rw [← h.e.store eqv_eD] at this
    exact this
  | «at» r2 s2 =>
    obtain ⟨b1, b2, b3⟩ := ways_behind hi hw
    have hok := ((ways_ok hg hi hs _ hw).1).2
    refine ⟨trivial, _, atI_nat (j := 0) rfl, eqS (a := "at"), ?_⟩
    show t__law_ended_1 DD (Eed p s0 lc le x4 (.sh (plK (i, s))) (.sh (Way.at r2 s2).d) (.sh (plK (r2, s2))))
    refine ⟨_, atI_nat (j := 0) rfl, l2, at_atoms, ?_⟩
    refine ⟨⟨_, rfl, dct_plK⟩, _, rfl, ⟨key_way (w := .at r2 s2), dct_plK⟩, ⟨key_way (w := .at i s), dct_plK⟩, _, hlook, ?_⟩
    dsimp only [withO, pend]
    refine add_vc (h.c.getD eqv_plK (r2, s2)) ?_
    refine ⟨trivial, _, rfl, ⟨key_way (w := .at r2 s2), by rw [mD_len]; exact h.clen few h35⟩, ?_⟩
    obtain ⟨fc', h'⟩ := h.putC (r2, s2) hn.2 b2 ⟨.step hrc hi b1, b3, hok⟩ hx
    have := nx _ _ _ _ (plK (r2, s2)) h' (mem_put hin fun z => by injection z with z _; omega)
    unfold Eed at this
    rw [← h.c.store eqv_plK] at this
    exact this
end DL
/-! runs counted forward: the walk. -/
namespace DL
open PySem PySem.Spec PyProof.Rows L2 PySem.W
theorem ended_ways {p : Pg} (hg : p.good) {s0 : List Nat} (few : Few p s0) (h35 : p.rs.length ≤ 35) (fewE : FewEnds p s0) {i : Nat} {s : List Nat} (hi : i < p.rs.length) (hs : StOk p.m p.bs s) (hrc : Reach p s0 i s) {n : Nat} {left : List (Pl × Nat)} {DD : DEn} {x4 : Sl} {ex' : En → Nat}
    (nx : ∀ fc' fe' lc' le', Fl p s0 i left ex' fc' fe' lc' le' → DD.nx (Eed p s0 lc' le' x4 (.sh (plK (i, s))) .no .no)) : ∀ (ws : List Way) (ex : En → Nat) (fc : Pl → Nat) (fe : En → Nat) (lc : List (Pl × Nat)) (le : List (En × Nat)), (∀ w ∈ ws, w ∈ ways p i s) → Fl p s0 i left ex fc fe lc le → ((i, s), n) ∈ lc →
      (∀ en, ex en = n * (ws.map fun w => wE p s en w).sum + ex' en) → dLoop (.nm 6) (dWipe [6, 7] (t__law_ended_3)) DD (ws.map Way.d) (Eed p s0 lc le x4 (.sh (plK (i, s))) .no .no)
  | [], ex, fc, fe, lc, le, _, h, _, hx => by
    have : ex = ex' := funext fun en => by rw [hx]; simp
    exact nx _ _ _ _ (this ▸ h)
  | w :: ws, ex, fc, fe, lc, le, hm, h, hin, hx => by
    refine ⟨trivial, ?_⟩
    refine ended_way hg few h35 fewE hi hs hrc (w := w) (ex := ex) (ex' := fun en => n * (ws.map fun w => wE p s en w).sum + ex' en) (hm w List.mem_cons_self) h hin (fun en => by rw [hx, List.map_cons, List.sum_cons, Nat.mul_add, Nat.add_assoc]) fun fc' fe' lc' le' d7 h' hin' => ?_
    exact ⟨⟨trivial, trivial, trivial⟩, ended_ways hg few h35 fewE hi hs hrc nx ws _ fc' fe' lc' le' (fun w hw => hm w (List.mem_cons_of_mem _ hw)) h' hin' fun en => rfl⟩
theorem wE_eta {p : Pg} {s : List Nat} {en : En} : (fun w => wE p s en w) = wE p s en := rfl
theorem ended_places {p : Pg} (hg : p.good) {s0 : List Nat} (few : Few p s0) (h35 : p.rs.length ≤ 35) (fewE : FewEnds p s0) {i : Nat} (hi : i < p.rs.length) {DD : DEn} {x4 : Sl}
    (nx : ∀ fc' fe' lc' le', Fl p s0 i [] (fun _ => 0) fc' fe' lc' le' → DD.nx (Eed p s0 lc' le' x4 .no .no .no)) : ∀ (left : List (Pl × Nat)) (fc : Pl → Nat) (fe : En → Nat) (lc : List (Pl × Nat)) (le : List (En × Nat)), Fl p s0 i left (fun _ => 0) fc fe lc le →
      dLoop (.nm 5) (dWipe [5] (t__law_ended_4)) DD (left.map fun x => plK x.1) (Eed p s0 lc le x4 .no .no .no)
  | [], fc, fe, lc, le, h => nx _ _ _ _ h
  | x :: left, fc, fe, lc, le, h => by
    obtain ⟨⟨r, s⟩, n⟩ := x
    obtain ⟨hin, hr⟩ := h.lf _ List.mem_cons_self
    have hr : r = i := hr
    subst hr
    have hn := (h.c.at_ _ _).mp hin
    obtain ⟨c1, c2, c3⟩ := h.reach (r, s) (by omega)
    refine ⟨trivial, ?_⟩
    refine ⟨nd0, p, r, s, rfl, ⟨hg, c3, hi⟩, ?_⟩
    refine ended_ways hg few h35 fewE (s := s) (n := n) (left := left) (ex' := fun _ => 0) hi c3 c1 (fun fc' fe' lc' le' h' => ?_) (ways p r s) (fun en => n * cE p r s en) fc fe lc le (fun _ h => h) ?_ hin (fun en => ?_)
    · exact ⟨⟨trivial, trivial⟩, ended_places hg few h35 fewE hi nx left fc' fe' lc' le' h'⟩
    · refine ⟨h.c, h.e, h.reach, fun x hx => h.lf x (List.mem_cons_of_mem _ hx), fun en => ?_⟩
      have := h.flow en
      unfold wgt at this
      rw [List.map_cons (l := left), List.sum_cons] at this
      unfold wgt
      have e : (((r, s), n) : Pl × Nat).2 * (fun a : Pl => cE p a.1 a.2 en) (((r, s), n) : Pl × Nat).1 = n * cE p r s en := rfl
      rw [e] at this
      omega
    · rw [wE_eta, ← cE_step hi]; rfl
theorem wgt_split {P : Pl → Prop} [DecidablePred P] {g g1 g2 : Pl → Nat} (h1 : ∀ a, P a → g a = g1 a + g2 a) (h2 : ∀ a, ¬ P a → g a = g1 a) : ∀ l : List (Pl × Nat), wgt g l = wgt g1 l + wgt g2 (l.filter fun x => decide (P x.1))
  | [] => rfl
  | x :: l => by
    have ih := wgt_split h1 h2 l
    rw [List.filter_cons]
    unfold wgt at ih ⊢
    by_cases z : P x.1
    · rw [if_pos (decide_eq_true z), List.map_cons, List.map_cons, List.map_cons, List.sum_cons, List.sum_cons, List.sum_cons, ih, h1 _ z, Nat.mul_add]
      omega
    · rw [if_neg (by simp [z]), List.map_cons, List.map_cons, List.sum_cons, List.sum_cons, ih, h2 _ z]
      omega
/-- what is so at the head of a row -/
structure Rh (p : Pg) (s0 : List Nat) (i : Nat) (fc : Pl → Nat) (fe : En → Nat) (lc : List (Pl × Nat)) (le : List (En × Nat)) : Prop where
  c : IsM fc lc
  e : IsM fe le
  reach : ∀ a, 0 < fc a → Reach p s0 a.1 a.2 ∧ a.1 < p.rs.length ∧ StOk p.m p.bs a.2
  flow : ∀ en, fe en + wgt (gew p i en) lc = cE p 0 s0 en
theorem Rh.fl {p : Pg} {s0 : List Nat} {i : Nat} {fc : Pl → Nat} {fe : En → Nat} {lc : List (Pl × Nat)} {le : List (En × Nat)} (h : Rh p s0 i fc fe lc le) : Fl p s0 i (lc.filter fun x => decide (x.1.1 = i)) (fun _ => 0) fc fe lc le := by
  refine ⟨h.c, h.e, h.reach, fun x hx => ?_, fun en => ?_⟩
  · obtain ⟨h1, h2⟩ := List.mem_filter.mp hx
    exact ⟨h1, of_decide_eq_true h2⟩
  · have := h.flow en
    rw [wgt_split (P := fun a : Pl => a.1 = i) (g := gew p i en) (g1 := gtw p i en) (g2 := fun a => cE p a.1 a.2 en) (fun a z => ?_) (fun a z => ?_) lc] at this
    · omega
    · unfold gew gtw
      rw [if_pos (by omega), if_neg (by omega), Nat.zero_add]
    · unfold gew gtw
      by_cases q : i < a.1
      · rw [if_pos q, if_pos (by omega)]
      · rw [if_neg q, if_neg (by omega)]
theorem Fl.rh {p : Pg} {s0 : List Nat} {i : Nat} {fc : Pl → Nat} {fe : En → Nat} {lc : List (Pl × Nat)} {le : List (En × Nat)} (h : Fl p s0 i [] (fun _ => 0) fc fe lc le) : Rh p s0 (i + 1) fc fe lc le := ⟨h.c, h.e, h.reach, fun en => h.flow en⟩
theorem flat_eD {le : List (En × Nat)} : flatKV (mD eD le) := fun kv h => by
  obtain ⟨x, _, rfl⟩ := List.mem_map.mp h
  exact ⟨pl_noDict pl_eD, rfl⟩
theorem ended_row {p : Pg} (hg : p.good) {s0 : List Nat} (few : Few p s0) (h35 : p.rs.length ≤ 35) (fewE : FewEnds p s0) {i : Nat} (hi : i < p.rs.length) {DD : DEn} {fc : Pl → Nat} {fe : En → Nat} {lc : List (Pl × Nat)} {le : List (En × Nat)} (h : Rh p s0 i fc fe lc le)
    (nx : ∀ fc' fe' lc' le', Rh p s0 (i + 1) fc' fe' lc' le' → DD.nx (Eed p s0 lc' le' (.sh (dNat i)) .no .no .no)) : t__law_ended_5 DD (Eed p s0 lc le (.sh (dNat i)) .no .no .no) := by
  have hl := h.fl.clen few h35
  refine ⟨mD plK lc, rfl, ?_, ?_⟩
  · intro j o hj ho
    match j with
    | 0 => cases ho
    | 1 => cases ho
    | 2 => exact absurd rfl hj
    | 3 => cases ho; exact flat_eD
    | 4 => cases ho
    | 5 => cases ho
    | 6 => cases ho
    | 7 => cases ho
    | 8 => cases ho
    | k + 9 => cases ho
  · refine ⟨dct_plK, ?_⟩
    refine lc_vc (J := fun ds acc e => ∃ done left : List (Pl × Nat), lc = done ++ left ∧ ds = (left.map fun x => plK x.1) ∧ acc = ((done.filter fun x => decide (x.1.1 = i)).map fun x => plK x.1) ∧ e = [.sh p.d, .sh (stD s0), .sh (.dict (mD plK lc)), .io (.dct (mD eD le)), .sh (dNat i), .no, .no, .no, .no]) _ ⟨trivial, trivial⟩ rfl ⟨[], lc, rfl, by unfold mD; rw [List.map_map]; rfl, rfl, rfl⟩ ?_ ?_
    · rintro acc e ⟨done, left, hd, hl', rfl, rfl⟩
      have : left = [] := List.map_eq_nil_iff.mp hl'.symm
      subst this
      rw [List.append_nil] at hd
      subst hd
      refine ⟨[.sh p.d, .sh (stD s0), .sh (.dict (mD plK lc)), .ow (.dct (mD eD le)), .sh (dNat i), .no, .no, .no, .no], rfl, _, rfl, pls_noDicts (pls_map fun _ _ => pl_wayD), rfl, ?_⟩
      exact ended_places hg few h35 fewE hi (fun _ _ _ _ h' => nx _ _ _ _ h'.rh) _ _ _ _ _ h.fl
    · rintro d ds acc e k hk ⟨done, left, hd, hl', rfl, rfl⟩
      cases left with
      | nil => cases hl'
      | cons x left =>
        have hl'' : d :: ds = plK x.1 :: left.map fun x => plK x.1 := hl'
        injection hl'' with h1 h2
        subst h1 h2
        refine ⟨trivial, trivial, _, atI_nat (j := 0) rfl, eqI, ?_⟩
        refine ite_vc (fun z => ?_) (fun z => ?_)
        · have z : PyData.eqv (dNat x.1.1) (dNat i) = true := z
          rw [eqv_int, decide_eq_true_eq] at z
          have z : x.1.1 = i := by omega
          refine ⟨?_, hk _ _ ⟨done ++ [x], left, by rw [hd, List.append_assoc]; rfl, rfl, ?_, rfl⟩⟩
          · rw [List.length_map]
            have := List.length_filter_le (fun x : Pl × Nat => decide (x.1.1 = i)) done
            have := congrArg List.length hd
            rw [List.length_append] at this
            omega
          · rw [List.filter_append, List.filter_cons, if_pos (decide_eq_true z), List.map_append]
            rfl
        · have z : PyData.eqv (dNat x.1.1) (dNat i) = false := z
          rw [eqv_int, decide_eq_false_iff_not] at z
          have z : ¬ x.1.1 = i := by omega
          refine hk _ _ ⟨done ++ [x], left, by rw [hd, List.append_assoc]; rfl, rfl, ?_, rfl⟩
          rw [List.filter_append, List.filter_cons, if_neg (by simp [z]), List.filter_nil, List.append_nil]
theorem sum_zero : ∀ {l : List Nat}, (∀ x ∈ l, x = 0) → l.sum = 0
  | [], _ => rfl
  | x :: l, h => by rw [List.sum_cons, h x List.mem_cons_self, sum_zero fun y hy => h y (List.mem_cons_of_mem _ hy)]
theorem IsM.one {α : Type} [DecidableEq α] {k : α} : IsM (fun x => if x = k then 1 else 0) [(k, 1)] := by
  have := (IsM.nil (α := α)).put k (n := 1) (by decide)
  exact this
theorem rows_nil {p : Pg} : PyData.eqv (.list (p.rs.map Row.d)) (.list []) = true ↔ p.rs = [] := by
  rw [eqv_nil]
  cases hp : p.rs with
  | nil => simp
  | cons a l => simp
theorem vc__law_ended (as Q E) (h : sp__law_ended as Q E) : t__law_ended (defEnds 2 Q) (start0 9 as) := by
  obtain ⟨p, s0, rfl, ⟨hg, hs, few, h35, fewE⟩, hQ⟩ := h
  refine ⟨l2, key_way (w := .at 0 s0), trivial, trivial, ?_⟩
  show t__law_ended_8 (defEnds 2 Q) (Eed p s0 [((0, s0), 1)] [] .no .no .no .no)
  refine ⟨_, atI_nat (j := 2) rfl, l0, eqL0 (pls_map (f := Row.d) fun _ _ => pl_row), ?_⟩
  refine ite_vc (fun z => ?_) (fun z => ?_)
  · have z := rows_nil.mp z
    refine ⟨l1, key_eD (e := none), ?_⟩
    refine hQ [(none, 1)] (IsM.one.congr fun en => ?_)
    unfold cE Lr
    rw [z, List.drop_nil, runL]
    show (if en = none then 1 else 0) = [(none : En)].count en
    by_cases q : en = none
    · subst q; rfl
    · rw [if_neg q, List.count_eq_zero_of_not_mem]
      intro y
      exact q (List.mem_singleton.mp y)
  · have hpos : 0 < p.rs.length := by
      have z : PyData.eqv (.list (p.rs.map Row.d)) (.list []) = false := z
      cases hp : p.rs with
      | nil => rw [rows_nil.mpr hp] at z; cases z
      | cons a l => exact Nat.succ_pos _
    have hN : ((p.rs.map Row.d).length : Int).toNat = p.rs.length := by rw [List.length_map]; omega
    refine ⟨_, atI_nat (j := 2) rfl, ?_⟩
    refine ⟨by (try dsimp only); rw [List.length_map]; omega, by (try dsimp only); omega, ?_⟩
    refine rng_vc (J := fun i e => ∃ fc fe lc le, Rh p s0 i fc fe lc le ∧ e = Eed p s0 lc le .no .no .no .no) ⟨_, _, _, _, ⟨IsM.one (k := (0, s0)), IsM.nil, fun a ha => ?_, fun en => ?_⟩, rfl⟩ ?_ ?_
    · by_cases q : a = (0, s0)
      · subst q; exact ⟨.here, hpos, hs⟩
      · rw [if_neg q] at ha; omega
    · show 0 + (1 * gew p 0 en (0, s0) + 0) = _
      unfold gew
      rw [if_pos (Nat.zero_le _)]
      show 0 + (1 * cE p 0 s0 en + 0) = cE p 0 s0 en
      omega
    · rintro e ⟨fc, fe, lc, le, h, rfl⟩
      rw [hN] at h
      refine hQ le (h.e.congr fun en => ?_)
      have := h.flow en
      have hz : wgt (gew p p.rs.length en) lc = 0 := by
        unfold wgt
        refine sum_zero fun x hx => ?_
        obtain ⟨y, hy, rfl⟩ := List.mem_map.mp hx
        have hn := (h.c.at_ y.1 y.2).mp hy
        have := h.reach y.1 (by omega)
        unfold gew
        rw [if_neg (by omega)]
        rfl
      rw [hz] at this
      exact this
    · rintro i e k hi hk ⟨fc, fe, lc, le, h, rfl⟩
      rw [hN] at hi
      refine ⟨trivial, ?_⟩
      show t__law_ended_5 _ (Eed p s0 lc le (.sh (.int ((0 : Int) + (i : Int)))) .no .no .no)
      rw [Int.zero_add]
      refine ended_row hg few h35 fewE hi h fun fc' fe' lc' le' h' => ?_
      exact ⟨⟨trivial, trivial⟩, hk _ ⟨_, _, _, _, h', rfl⟩⟩
end DL
/-! what is due: the plain part. -/
namespace DL
open PySem PySem.Spec PyProof.Rows L2 PySem.W
/-! ### a count weighs what the counted weigh -/
theorem filter_count {R : List En} {e x : En} : (R.filter fun y => decide (y ≠ e)).count x = if x = e then 0 else R.count x := by
  by_cases z : x = e
  · rw [if_pos z, List.count_eq_zero_of_not_mem]
    intro h
    have := (List.mem_filter.mp h).2
    simp [z] at this
  · rw [if_neg z, List.count_filter (by simp [z])]
theorem sum_split {g : En → Nat} {e : En} : ∀ R : List En, (R.map g).sum = R.count e * g e + ((R.filter fun y => decide (y ≠ e)).map g).sum
  | [] => by simp
  | x :: R => by
    have ih := sum_split (g := g) (e := e) R
    rw [List.map_cons, List.sum_cons, ih, List.filter_cons]
    by_cases z : x = e
    · subst z
      rw [List.count_cons_self, if_neg (by simp), Nat.add_mul]
      omega
    · rw [List.count_cons_of_ne z, if_pos (by simp [z]), List.map_cons, List.sum_cons]
      omega
theorem wgt_count {g : En → Nat} : ∀ (l : List (En × Nat)) (R : List En), IsM (fun e => R.count e) l → wgt g l = (R.map g).sum
  | [], R, h => by
    cases R with
    | nil => rfl
    | cons x R =>
      have := (h.at_ x _).mpr ⟨rfl, by show 0 < (x :: R).count x; rw [List.count_cons_self]; exact Nat.succ_pos _⟩
      cases this
  | (e, n) :: l, R, h => by
    obtain ⟨n1, n2⟩ := List.nodup_cons.mp (show (e :: l.map (·.1)).Nodup from h.nd)
    have hn := (h.at_ e n).mp List.mem_cons_self
    have hn1 : n = R.count e := hn.1
    rw [sum_split (e := e) R, ← hn1]
    have ih := wgt_count (g := g) l (R.filter fun y => decide (y ≠ e)) ⟨n2, fun x m => ?_⟩
    · unfold wgt at ih ⊢
      rw [List.map_cons, List.sum_cons, ih]
    · show (x, m) ∈ l ↔ m = (R.filter fun y => decide (y ≠ e)).count x ∧ 0 < m
      rw [filter_count]
      by_cases z : x = e
      · rw [if_pos z]
        constructor
        · intro q
          exact absurd (List.mem_map.mpr ⟨_, q, z⟩) n1
        · rintro ⟨q1, q2⟩; omega
      · rw [if_neg z]
        have := h.at_ x m
        rw [← this]
        constructor
        · exact fun q => List.mem_cons_of_mem _ q
        · intro q
          rcases List.mem_cons.mp q with q | q
          · injection q with q1 q2; exact absurd q1 z
          · exact q
theorem wgt_one {α : Type} [DecidableEq α] {f : α → Nat} {a : α} {l : List (α × Nat)} (h : IsM f l) : wgt (fun x => if x = a then 1 else 0) l = f a := by
  have go : ∀ l : List (α × Nat), (l.map (·.1)).Nodup → (∀ n, (a, n) ∈ l → wgt (fun x => if x = a then 1 else 0) l = n) ∧ ((∀ n, (a, n) ∉ l) → wgt (fun x => if x = a then 1 else 0) l = 0) := by
    intro l
    induction l with
    | nil => exact fun _ => ⟨fun n h => (nomatch h), fun _ => rfl⟩
    | cons x l ih =>
      intro nd
      obtain ⟨n1, n2⟩ := List.nodup_cons.mp (show (x.1 :: l.map (·.1)).Nodup from nd)
      obtain ⟨i1, i2⟩ := ih n2
      unfold wgt at i1 i2 ⊢
      rw [List.map_cons, List.sum_cons]
      dsimp only at i1 i2 ⊢
      by_cases z : x.1 = a
      · have : ∀ n, (a, n) ∉ l := fun n q => n1 (by rw [z]; exact List.mem_map.mpr ⟨_, q, rfl⟩)
        rw [i2 this, if_pos z]
        refine ⟨fun n q => ?_, fun q => absurd (List.mem_cons_self (a := x) (l := l)) (by have := q x.2; rwa [← z] at this)⟩
        rcases List.mem_cons.mp q with q | q
        · rw [← q]; simp
        · exact absurd q (this n)
      · rw [if_neg z]
        refine ⟨fun n q => ?_, fun q => ?_⟩
        · rcases List.mem_cons.mp q with q | q
          · rw [← q] at z; exact absurd rfl z
          · rw [i1 n q]; simp
        · rw [i2 fun n r => q n (List.mem_cons_of_mem _ r)]; simp
  obtain ⟨g1, g2⟩ := go l h.nd
  by_cases q : 0 < f a
  · exact g1 _ ((h.at_ _ _).mpr ⟨rfl, q⟩)
  · rw [g2 fun n r => q (by have := (h.at_ _ _).mp r; omega)]
    omega
/-! ### answers -/
def anO (e : En) : Option Nat := e.map (·.1)
/-- how many further runs give o, after an end -/
def inN (p q : Pg) (box : Str) (o : Option Nat) : En → Nat
  | none => if o = none then 1 else 0
  | some x => ((runL p.m p.bs q.rs (x.2.set (p.bs.idxOf box) x.1)).map fun ce => anO ce.2).count o
def oW : Option Nat → Way
  | none => .nothing
  | some v => .gives v
def tot (p q : Pg) (box : Str) (s : List Nat) (o : Option Nat) : Nat := cntOf (ends (putAfter p q box) (poe (putAfter p q box) 0 s)) (oW o)
theorem count_oW (o : Option Nat) : ∀ l : List Rn, ((l.map fgt).map (·.2)).count (oW o) = (l.map fun ce => anO ce.2).count o
  | [] => rfl
  | ce :: l => by
    have ih := count_oW o l
    rw [List.map_cons, List.map_cons, List.map_cons, List.count_cons, List.count_cons, ih]
    have : ((fgt ce).2 == oW o) = (anO ce.2 == o) := by
      obtain ⟨c, e⟩ := ce
      cases e with
      | none => cases o with
        | none => rfl
        | some v => rfl
      | some x => cases o with
        | none => rfl
        | some v =>
          show (Way.gives x.1 == Way.gives v) = (some x.1 == some v)
          by_cases z : x.1 = v
          · rw [z]; simp
          · have : ¬ Way.gives x.1 = Way.gives v := fun h => z (by injection h)
            have h2 : ¬ (some x.1 = some v) := fun h => z (by injection h)
            rw [beq_eq_false_iff_ne.mpr this, beq_eq_false_iff_ne.mpr h2]
    rw [this]
theorem tot_eq {p q : Pg} {box : Str} {s : List Nat} (hg : (putAfter p q box).good) (hs : StOk p.m p.bs s) (o : Option Nat) : tot p q box s o = ((Lr p 0 s).map fun ce => inN p q box o ce.2).sum := by
  unfold tot cntOf ends
  rw [runs_put hg hs, count_oW, List.map_flatMap, count_flatMap]
  show _ = ((runL p.m p.bs p.rs s).map fun ce => inN p q box o ce.2).sum
  refine congrArg List.sum (List.map_congr_left fun ce _ => ?_)
  obtain ⟨c, e⟩ := ce
  cases e with
  | none =>
    show [(none : Option Nat)].count o = if o = none then 1 else 0
    by_cases z : o = none
    · subst z; rfl
    · rw [if_neg z, List.count_eq_zero_of_not_mem fun y => z (List.mem_singleton.mp y)]
  | some x =>
    show (((runL p.m p.bs q.rs (x.2.set (p.bs.idxOf box) x.1)).map fun y => ((c ++ y.1, y.2) : Rn)).map fun ce => anO ce.2).count o = _
    rw [List.map_map]
    rfl
theorem tot_wgt {p q : Pg} {box : Str} {s : List Nat} (hg : (putAfter p q box).good) (hs : StOk p.m p.bs s) (o : Option Nat) {l : List (En × Nat)} (h : IsM (cE p 0 s) l) : wgt (inN p q box o) l = tot p q box s o := by
  rw [tot_eq hg hs, wgt_count l ((Lr p 0 s).map fun ce : Rn => ce.2) h, List.map_map]
  rfl
def isO (o : Option Nat) (e : En) : Nat := if anO e = o then 1 else 0
theorem count_isO (o : Option Nat) : ∀ l : List Rn, (l.map fun ce => anO ce.2).count o = ((l.map (·.2)).map (isO o)).sum
  | [] => rfl
  | ce :: l => by
    rw [List.map_cons, List.count_cons, count_isO o l, List.map_cons, List.map_cons, List.sum_cons]
    unfold isO
    by_cases z : anO ce.2 = o
    · rw [if_pos z, if_pos (by simp [z])]; omega
    · rw [if_neg z, if_neg (by simp [z])]; omega
theorem in_wgt {p q : Pg} {box : Str} {x : Nat × List Nat} (qm : q.m = p.m) (qb : q.bs = p.bs) (o : Option Nat) {l : List (En × Nat)} (h : IsM (cE q 0 (x.2.set (p.bs.idxOf box) x.1)) l) : wgt (isO o) l = inN p q box o (some x) := by
  rw [wgt_count l ((Lr q 0 (x.2.set (p.bs.idxOf box) x.1)).map fun ce : Rn => ce.2) h]
  show _ = ((runL p.m p.bs q.rs (x.2.set (p.bs.idxOf box) x.1)).map fun ce => anO ce.2).count o
  rw [count_isO, ← qm, ← qb]
  rfl
theorem none_wgt {p q : Pg} {box : Str} (o : Option Nat) : wgt (isO o) [((none : En), 1)] = inN p q box o none := by
  show 1 * isO o none + 0 = if o = none then 1 else 0
  unfold isO
  by_cases z : o = none
  · subst z; rfl
  · rw [if_neg z, if_neg (fun h => z h.symm)]
theorem tot_lt {p q : Pg} {box : Str} {s : List Nat} (hg : (putAfter p q box).good) (hs : StOk p.m p.bs s) {a : Nat} (h : 0 < tot p q box s (some a)) : a < p.m := by
  have := cnt_univ (ends_univ hg _ _ (Nat.le_refl _) (poe_ok (p := putAfter p q box) (r := 0) hs) fun k z => by
    unfold poe at z
    split at z <;> cases z) _ h
  rcases univ_cases this with z | ⟨n, hn, z⟩
  · cases z
  · have z : Way.gives a = Way.gives n := z
    injection z with z
    have hn : n < p.m := hn
    omega
/-! ### sorted pairs -/
theorem lt_ans {x y : Nat × Nat} : dataLt (ansF x) (ansF y) = if x.1 = y.1 then decide (x.2 < y.2) else decide (x.1 < y.1) := by
  show dataLt (.tuple [.int x.1, .int x.2]) (.tuple [.int y.1, .int y.2]) = _
  rw [dataLt_pair (by rfl) (by rfl), eqv_int, eqv_int, dataLt_int, dataLt_int]
  by_cases h : x.1 = y.1
  · have h' : (x.1 : Int) = (y.1 : Int) := by omega
    rw [if_pos h, if_pos (decide_eq_true h')]
    by_cases q : x.2 = y.2
    · have q' : (x.2 : Int) = (y.2 : Int) := by omega
      have q3 : ¬ x.2 < y.2 := by omega
      rw [if_pos (decide_eq_true q')]
      simp [q3]
    · have q' : ¬ (x.2 : Int) = (y.2 : Int) := by omega
      rw [if_neg (by simpa using q')]
      by_cases c : x.2 < y.2
      · have c' : (x.2 : Int) < (y.2 : Int) := by omega
        simp [c, c']
      · have c' : ¬ (x.2 : Int) < (y.2 : Int) := by omega
        simp [c, c']
  · have h' : ¬ (x.1 : Int) = (y.1 : Int) := by omega
    rw [if_neg h, if_neg (by simpa using h')]
    by_cases c : x.1 < y.1
    · have c' : (x.1 : Int) < (y.1 : Int) := by omega
      simp [c, c']
    · have c' : ¬ (x.1 : Int) < (y.1 : Int) := by omega
      simp [c, c']
def sortA (l : List (Nat × Nat)) : List (Nat × Nat) := l.mergeSort fun a b => decide (a.1 ≤ b.1)
theorem le_ans {f : Nat → Nat} {l : List (Nat × Nat)} (h : IsM f l) {a b : Nat × Nat} (ha : a ∈ l) (hb : b ∈ l) : decide (a.1 ≤ b.1) = dataLe false id (ansF a) (ansF b) := by
  rw [dataLe_eq]
  show _ = !dataLt (ansF b) (ansF a)
  rw [lt_ans]
  by_cases e : b.1 = a.1
  · have h1 := (h.at_ a.1 a.2).mp ha
    have h2 := (h.at_ b.1 b.2).mp hb
    have e2 : ¬ b.2 < a.2 := by rw [h2.1, h1.1, e]; exact Nat.lt_irrefl _
    have e3 : a.1 ≤ b.1 := by omega
    rw [if_pos e]
    simp [e2, e3]
  · rw [if_neg e]
    by_cases c : a.1 ≤ b.1
    · have c2 : ¬ b.1 < a.1 := by omega
      simp [c, c2]
    · have c2 : b.1 < a.1 := by omega
      simp [c, c2]
theorem sortD_ans {f : Nat → Nat} {l : List (Nat × Nat)} (h : IsM f l) : sortD (l.map ansF) = (sortA l).map ansF := by
  unfold sortD sortA
  rw [List.map_mergeSort]
  intro a ha b hb
  exact le_ans h ha hb
theorem dep_ans {x : Nat × Nat} : (ansF x).depth ≤ 60 := Nat.le_trans (depth_tuple (n := 0) (by rw [PyData.depthAll, PyData.depthAll, PyData.depthAll, PyData.depth, PyData.depth]; decide)) (by decide)
theorem sortOk_ans {l : List (Nat × Nat)} (hl : l.length ≤ 100000) : sortOk (l.map ansF) := by
  refine ⟨fun d hd d' hd' => ?_, .inl fun d hd => ?_, pls_noDicts (pls_map (f := ansF) fun _ _ => rfl), fun d hd => ?_, by rw [List.length_map]; exact hl⟩
  · obtain ⟨a, ha, rfl⟩ := List.mem_map.mp hd
    obtain ⟨b, hb, rfl⟩ := List.mem_map.mp hd'
    rfl
  · obtain ⟨a, ha, rfl⟩ := List.mem_map.mp hd
    exact ⟨_, _, rfl⟩
  · obtain ⟨a, ha, rfl⟩ := List.mem_map.mp hd
    exact dep_ans
theorem pairs_eq {f : Nat → Nat} : ∀ {xs ys : List (Nat × Nat)}, xs.map (·.1) = ys.map (·.1) → (∀ x ∈ xs, x.2 = f x.1) → (∀ y ∈ ys, y.2 = f y.1) → xs = ys
  | [], [], _, _, _ => rfl
  | [], _ :: _, h, _, _ => by cases h
  | _ :: _, [], h, _, _ => by cases h
  | x :: xs, y :: ys, h, h1, h2 => by
    rw [List.map_cons, List.map_cons] at h
    injection h with a b
    have e1 := h1 x List.mem_cons_self
    have e2 := h2 y List.mem_cons_self
    rw [pairs_eq b (fun z hz => h1 z (List.mem_cons_of_mem _ hz)) fun z hz => h2 z (List.mem_cons_of_mem _ hz)]
    rw [Prod.ext a (by rw [e1, e2, a])]
theorem sorted_ans {f : Nat → Nat} {m : Nat} {l : List (Nat × Nat)} (h : IsM f l) (hm : ∀ a, 0 < f a → a < m) : sortA l = ((List.range m).map fun n => (n, f n)).filter fun x => decide (0 < x.2) := by
  have perm : (sortA l).Perm l := List.mergeSort_perm _ _
  refine pairs_eq (f := f) (strict_ext ?_ ?_ fun n => ?_) (fun x hx => ((h.at_ x.1 x.2).mp (perm.mem_iff.mp hx)).1) fun y hy => ?_
  · have srt : (sortA l).Pairwise fun a b => decide (a.1 ≤ b.1) = true := List.pairwise_mergeSort (fun a b c h1 h2 => by
      have h1 := of_decide_eq_true h1
      have h2 := of_decide_eq_true h2
      exact decide_eq_true (Nat.le_trans h1 h2)) (fun a b => by
      by_cases z : a.1 ≤ b.1
      · simp [z]
      · have : b.1 ≤ a.1 := by omega
        simp [this]) l
    have nd : ((sortA l).map (·.1)).Nodup := (perm.map _).nodup_iff.mpr h.nd
    have srt2 : ((sortA l).map (·.1)).Pairwise (· ≤ ·) := List.pairwise_map.mpr (srt.imp fun h => of_decide_eq_true h)
    exact (srt2.and nd).imp fun h => Nat.lt_of_le_of_ne h.1 h.2
  · refine List.pairwise_map.mpr (List.Pairwise.filter _ ?_)
    refine List.pairwise_map.mpr ?_
    exact List.pairwise_lt_range
  · rw [(perm.map _).mem_iff, h.key]
    constructor
    · intro z
      exact List.mem_map.mpr ⟨(n, f n), List.mem_filter.mpr ⟨List.mem_map.mpr ⟨n, List.mem_range.mpr (hm n z), rfl⟩, decide_eq_true z⟩, rfl⟩
    · intro z
      obtain ⟨x, hx, rfl⟩ := List.mem_map.mp z
      obtain ⟨h1, h2⟩ := List.mem_filter.mp hx
      obtain ⟨k, hk, rfl⟩ := List.mem_map.mp h1
      exact of_decide_eq_true h2
  · obtain ⟨h1, h2⟩ := List.mem_filter.mp hy
    obtain ⟨k, hk, rfl⟩ := List.mem_map.mp h1
    rfl
end DL
/-! what is due: the walk. -/
namespace DL
open PySem PySem.Spec PyProof.Rows L2 PySem.W
structure Du (T rest : Option Nat → Nat) (nn : Nat) (fa : Nat → Nat) (la : List (Nat × Nat)) : Prop where
  c : IsM fa la
  n : nn + rest none = T none
  a : ∀ a, fa a + rest (some a) = T (some a)
theorem Du.noth {T rest rest' : Option Nat → Nat} {nn : Nat} {fa : Nat → Nat} {la : List (Nat × Nat)} (h : Du T rest nn fa la) {v : Nat} (hx : ∀ o, rest o = v * (if o = none then 1 else 0) + rest' o) : Du T rest' (nn + v) fa la := by
  refine ⟨h.c, ?_, fun a => ?_⟩
  · have h1 := h.n
    have h2 := hx none
    rw [if_pos rfl] at h2
    omega
  · have h1 := h.a a
    have h2 := hx (some a)
    rw [if_neg (fun z => nomatch z)] at h2
    omega
theorem Du.ans {T rest rest' : Option Nat → Nat} {nn : Nat} {fa : Nat → Nat} {la : List (Nat × Nat)} (h : Du T rest nn fa la) {v b : Nat} (hv : 0 < v) (hx : ∀ o, rest o = v * (if o = some b then 1 else 0) + rest' o) : ∃ fa', Du T rest' nn fa' (putM la b (fa b + v)) := by
  refine ⟨_, h.c.put b (n := fa b + v) (by omega), ?_, fun a => ?_⟩
  · have h1 := h.n
    have h2 := hx none
    rw [if_neg (fun z => nomatch z)] at h2
    omega
  · have h1 := h.a a
    have h2 := hx (some a)
    by_cases z : a = b
    · subst z
      simp only [if_true] at h2 ⊢
      omega
    · have z2 : ¬ some a = some b := fun y => z (by injection y)
      rw [if_neg z2] at h2
      simp only [z, if_false]
      omega
theorem eqv_dNat (a b : Nat) : PyData.eqv (dNat a) (dNat b) = decide (a = b) := by
  rw [eqv_int]
  by_cases h : a = b
  · subst h; simp
  · have : ¬ (a : Int) = (b : Int) := by omega
    simp [h, this]
theorem Du.len {T rest : Option Nat → Nat} {nn m : Nat} {fa : Nat → Nat} {la : List (Nat × Nat)} (h : Du T rest nn fa la) (hT : ∀ a, 0 < T (some a) → a < m) (hm : m ≤ 16) : la.length ≤ 16 := by
  have := nodup_le (ys := List.range m) h.c.nd fun a ha => by
    have h1 := (h.c.key a).mp ha
    have h2 := h.a a
    exact List.mem_range.mpr (hT a (by omega))
  rw [List.length_map, List.length_range] at this
  omega
def Edp (p q : Pg) (box : Str) (s : List Nat) (la : List (Nat × Nat)) (nn : Nat) (x6 x7 x8 x9 x10 : Sl) : Sv := [.sh p.d, .sh q.d, .sh (.str box), .sh (stD s), .ow (.dck (mD dNat la)), .sh (dNat nn), x6, x7, x8, x9, x10, .no]
theorem nat_mac {a b c : Nat} : (a : Int) + (b : Int) * (c : Int) = ((a + b * c : Nat) : Int) := by rw [Int.natCast_add, Int.natCast_mul]
theorem due_turn {p q : Pg} {box : Str} {s : List Nat} {T rest rest' : Option Nat → Nat} {m : Nat} (hT : ∀ a, 0 < T (some a) → a < m) (hm : m ≤ 16) {nn : Nat} {fa : Nat → Nat} {la : List (Nat × Nat)} (h : Du T rest nn fa la) {n t : Nat} (h1 : 0 < n) (h2 : n < 2 ^ 63) (h3 : 0 < t) {last : En}
    (hx : ∀ o, rest o = n * t * (if o = anO last then 1 else 0) + rest' o) {DD : DEn} {x6 x8 : Sl} (nx : ∀ nn' fa' la', Du T rest' nn' fa' la' → DD.nx (Edp p q box s la' nn' x6 (.sh (dNat n)) x8 (.sh (eD last)) (.sh (dNat t)))) :
    t__law_due_by_places_1 DD (Edp p q box s la nn x6 (.sh (dNat n)) x8 (.sh (eD last)) (.sh (dNat t))) := by
  have hc : CMul (n : Int) (t : Int) := .inl ⟨by omega, by omega⟩
  have hv : 0 < n * t := Nat.mul_pos h1 h3
  cases last with
  | none =>
    refine ⟨_, atI_nat (j := 0) rfl, eqS, ?_⟩
    refine ⟨hc, trivial, ?_⟩
    have := nx _ _ _ (h.noth hx)
    unfold Edp at this
    rw [show dNat (nn + n * t) = .int ((nn : Int) + (n : Int) * (t : Int)) by rw [nat_mac]] at this
    exact this
  | some x =>
    refine ⟨_, atI_nat (j := 0) rfl, eqS, ?_⟩
    have hl := h.len hT hm
    refine ⟨⟨_, rfl⟩, _, atI_nat (j := 1) rfl, _, rfl, ⟨.inl x.1, rfl⟩, hc, ?_⟩
    dsimp only [withO, pend]
    rw [h.c.getD eqv_dNat x.1]
    refine ⟨trivial, _, atI_nat (j := 1) rfl, _, rfl, ⟨⟨.inl x.1, rfl⟩, by rw [mD_len]; omega⟩, ?_⟩
    obtain ⟨fa', h'⟩ := h.ans (b := x.1) hv hx
    have := nx _ _ _ h'
    unfold Edp at this
    rw [← h.c.store eqv_dNat] at this
    rw [show dNat (fa x.1 + n * t) = .int ((fa x.1 : Int) + (n : Int) * (t : Int)) by rw [nat_mac]] at this
    exact this
def itE (x : En × Nat) : D := .tuple [eD x.1, dNat x.2]
theorem items_mD {l : List (En × Nat)} : (mD eD l).map (fun kv => PyData.tuple [kv.1, kv.2]) = l.map itE := by unfold mD; rw [List.map_map]; rfl
theorem due_turns {p q : Pg} {box : Str} {s : List Nat} {T rest : Option Nat → Nat} {m : Nat} (hT : ∀ a, 0 < T (some a) → a < m) (hm : m ≤ 16) {n : Nat} (h1 : 0 < n) (h2 : n < 2 ^ 63) {DD : DEn} {x6 x8 : Sl}
    (nx : ∀ nn' fa' la', Du T rest nn' fa' la' → DD.nx (Edp p q box s la' nn' x6 (.sh (dNat n)) x8 .no .no)) : ∀ (l : List (En × Nat)) (nn : Nat) (fa : Nat → Nat) (la : List (Nat × Nat)) (rest0 : Option Nat → Nat), (∀ x ∈ l, 0 < x.2) → Du T rest0 nn fa la → (∀ o, rest0 o = n * wgt (isO o) l + rest o) →
      dLoop (.tp [.nm 9, .nm 10]) (dWipe [9, 10] (t__law_due_by_places_1)) DD (l.map itE) (Edp p q box s la nn x6 (.sh (dNat n)) x8 .no .no)
  | [], nn, fa, la, rest0, _, h, hx => by
    have : rest0 = rest := funext fun o => by rw [hx]; simp [wgt]
    exact nx _ _ _ (this ▸ h)
  | x :: l, nn, fa, la, rest0, hp, h, hx => by
    refine ⟨trivial, trivial, ?_⟩
    refine due_turn hT hm (rest' := fun o => n * wgt (isO o) l + rest o) h h1 h2 (hp x List.mem_cons_self) (last := x.1) (t := x.2) (fun o => ?_) fun nn' fa' la' h' => ?_
    · rw [hx]
      unfold wgt
      rw [List.map_cons, List.sum_cons]
      have e : isO o x.1 = if o = anO x.1 then 1 else 0 := by
        unfold isO
        by_cases z : anO x.1 = o
        · rw [if_pos z, if_pos z.symm]
        · rw [if_neg z, if_neg (fun y => z y.symm)]
      rw [e, Nat.mul_add, ← Nat.mul_assoc, Nat.add_assoc]
    · exact ⟨⟨trivial, trivial, trivial⟩, due_turns hT hm h1 h2 nx l nn' fa' la' _ (fun y hy => hp y (List.mem_cons_of_mem _ hy)) h' fun o => rfl⟩
theorem due_two {p q : Pg} {box : Str} {s : List Nat} {T rest0 rest : Option Nat → Nat} {m : Nat} (hT : ∀ a, 0 < T (some a) → a < m) (hm : m ≤ 16) {n : Nat} (h1 : 0 < n) (h2 : n < 2 ^ 63) {DD : DEn} {x6 : Sl} {nn : Nat} {fa : Nat → Nat} {la : List (Nat × Nat)} (h : Du T rest0 nn fa la)
    {e : En} {l2 : List (En × Nat)} (hl2 : ∀ o, wgt (isO o) l2 = inN p q box o e) (hp : ∀ x ∈ l2, 0 < x.2) (hx : ∀ o, rest0 o = n * inN p q box o e + rest o)
    (nx : ∀ nn' fa' la', Du T rest nn' fa' la' → DD.nx (Edp p q box s la' nn' x6 (.sh (dNat n)) (.sh (.dict (mD eD l2))) .no .no)) : t__law_due_by_places_2 DD (Edp p q box s la nn x6 (.sh (dNat n)) (.ow (.dct (mD eD l2))) .no .no) := by
  refine ⟨dct_eD, ?_⟩
  show dLoop _ _ DD ((mD eD l2).map fun kv => PyData.tuple [kv.1, kv.2]) (Edp p q box s la nn x6 (.sh (dNat n)) (.sh (.dict (mD eD l2))) .no .no)
  rw [items_mD]
  exact due_turns hT hm h1 h2 nx l2 nn fa la rest0 hp h fun o => by rw [hx, hl2]
theorem cE_mem {p : Pg} {s : List Nat} {e : En} (h : 0 < cE p 0 s e) : ∃ c, (c, e) ∈ Lr p 0 s := by
  obtain ⟨x, hx, rfl⟩ := List.mem_map.mp (List.count_pos_iff.mp h)
  exact ⟨x.1, hx⟩
theorem cE_st {p : Pg} (hg : p.good) {s : List Nat} (hs : StOk p.m p.bs s) {x : Nat × List Nat} (h : 0 < cE p 0 s (some x)) : StOk p.m p.bs x.2 ∧ x.1 < p.m := by
  obtain ⟨c, hc⟩ := cE_mem h
  exact runL_st hg.bx _ _ _ (Nat.le_refl _) (fun r hr => hg.rows r (List.mem_of_mem_drop hr)) hs _ hc x.1 x.2 rfl
theorem cE_le {p : Pg} {s : List Nat} {e : En} : cE p 0 s e ≤ (Lr p 0 s).length := by
  unfold cE
  have := List.count_le_length (a := e) (l := (Lr p 0 s).map (·.2))
  rw [List.length_map] at this
  exact this
theorem due_row {p q : Pg} {box : Str} {s : List Nat} (hq : Nq p q box s) {T rest0 rest : Option Nat → Nat} {m : Nat} (hT : ∀ a, 0 < T (some a) → a < m) (hm : m ≤ 16) {e : En} {n : Nat} (hn : n = cE p 0 s e) (h1 : 0 < n) {DD : DEn} {nn : Nat} {fa : Nat → Nat} {la : List (Nat × Nat)} (h : Du T rest0 nn fa la)
    (hx : ∀ o, rest0 o = n * inN p q box o e + rest o)
    (nx : ∀ nn' fa' la' x6 x7 x8, nio x6 → nio x7 → nio x8 → Du T rest nn' fa' la' → DD.nx (Edp p q box s la' nn' x6 x7 x8 .no .no)) : t__law_due_by_places_4 DD (Edp p q box s la nn (.sh (eD e)) (.sh (dNat n)) .no .no .no) := by
  obtain ⟨hgb, hg, gq, qm, qb, hbox, hs, fw, h35, q35, hL⟩ := hq
  have h2 : n < 2 ^ 63 := by
    have := cE_le (p := p) (s := s) (e := e)
    have := hL s hs
    omega
  refine ⟨l1, key_eD (e := none), trivial, ?_⟩
  show t__law_due_by_places_3 DD (Edp p q box s la nn (.sh (eD e)) (.sh (dNat n)) (.ow (.dct (mD eD [((none : En), 1)]))) .no .no)
  cases e with
  | none =>
    refine ⟨_, atI_nat (j := 0) rfl, eqS, ?_⟩
    refine due_two hT hm h1 h2 h (e := none) (l2 := [((none : En), 1)]) (fun o => none_wgt o) (fun x hx => by rw [List.mem_singleton.mp hx]; decide) hx fun nn' fa' la' h' => ?_
    exact nx _ _ _ _ _ _ trivial trivial trivial h'
  | some x =>
    obtain ⟨st, vm⟩ := cE_st hg hs (x := x) (by omega)
    have st2 : StOk p.m p.bs (swith p x.2 box x.1) := st_swith st vm
    refine ⟨_, atI_nat (j := 0) rfl, eqS, ?_⟩
    refine ⟨_, atI_nat (j := 2) rfl, _, atI_nat (j := 1) rfl, nd0, p, x.2, box, x.1, rfl, ⟨hbox, hg.bx, st.1⟩, ?_⟩
    refine ⟨nd0, q, swith p x.2 box x.1, rfl, ⟨gq, by rw [qm, qb]; exact st2, (fw _ st2).2.1, q35, (fw _ st2).2.2.2⟩, fun l hl => ⟨trivial, ?_⟩⟩
    refine due_two hT hm h1 h2 h (e := some x) (l2 := l) (fun o => in_wgt qm qb o hl) (fun y hy => ((hl.at_ y.1 y.2).mp hy).2) hx fun nn' fa' la' h' => ?_
    exact nx _ _ _ _ _ _ trivial trivial trivial h'
theorem due_rows {p q : Pg} {box : Str} {s : List Nat} (hq : Nq p q box s) {T : Option Nat → Nat} {m : Nat} (hT : ∀ a, 0 < T (some a) → a < m) (hm : m ≤ 16) {DD : DEn}
    (nx : ∀ nn' fa' la', Du T (fun _ => 0) nn' fa' la' → DD.nx (Edp p q box s la' nn' .no .no .no .no .no)) : ∀ (l : List (En × Nat)) (nn : Nat) (fa : Nat → Nat) (la : List (Nat × Nat)), (∀ x ∈ l, x.2 = cE p 0 s x.1 ∧ 0 < x.2) → Du T (fun o => wgt (inN p q box o) l) nn fa la →
      dLoop (.tp [.nm 6, .nm 7]) (dWipe [6, 7, 8] (t__law_due_by_places_4)) DD (l.map itE) (Edp p q box s la nn .no .no .no .no .no)
  | [], nn, fa, la, _, h => nx _ _ _ h
  | x :: l, nn, fa, la, hp, h => by
    obtain ⟨e1, e2⟩ := hp x List.mem_cons_self
    refine ⟨trivial, trivial, ?_⟩
    refine due_row hq hT hm (rest := fun o => wgt (inN p q box o) l) e1 e2 h (fun o => ?_) fun nn' fa' la' x6 x7 x8 n6 n7 n8 h' => ?_
    · unfold wgt
      rw [List.map_cons, List.sum_cons]
    · exact ⟨⟨ni rfl n6, ni rfl n7, ni rfl n8, trivial⟩, due_rows hq hT hm nx l nn' fa' la' (fun y hy => hp y (List.mem_cons_of_mem _ hy)) h'⟩
theorem Du.fin {p q : Pg} {box : Str} {s : List Nat} (hgb : (putAfter p q box).good) (hs : StOk p.m p.bs s) {nn : Nat} {fa : Nat → Nat} {la : List (Nat × Nat)} (h : Du (tot p q box s) (fun _ => 0) nn fa la) : PyData.tuple [.list ((sortA la).map ansF), dNat nn] = dueD p q box s := by
  have hn : nn = tot p q box s none := h.n
  have hf : fa = fun a => tot p q box s (some a) := funext fun a => h.a a
  have := sorted_ans (m := p.m) h.c (fun a ha => tot_lt hgb hs (a := a) (by rw [hf] at ha; exact ha))
  rw [this, hn, hf]
  rfl
theorem due_end {p q : Pg} {box : Str} {s : List Nat} (hgb : (putAfter p q box).good) (hs : StOk p.m p.bs s) {Q : Op → List OD → Prop} (hQ : Q (.vl (dueD p q box s)) []) {nn : Nat} {fa : Nat → Nat} {la : List (Nat × Nat)} (h : Du (tot p q box s) (fun _ => 0) nn fa la) :
    t__law_due_by_places_5 (defEnds 4 Q) (Edp p q box s la nn .no .no .no .no .no) := by
  have hl := h.len (fun a ha => tot_lt hgb hs ha) hgb.bx.m16
  refine ⟨mD dNat la, rfl, ?_⟩
  refine lc_vc (J := fun ds acc e => ∃ done left : List (Nat × Nat), la = done ++ left ∧ ds = (left.map fun x => dNat x.1) ∧ acc = done.map ansF ∧ e = [.sh p.d, .sh q.d, .sh (.str box), .sh (stD s), .sh (kD (mD dNat la)), .sh (dNat nn), .no, .no, .no, .no, .no, .no]) _ ⟨trivial, trivial⟩ rfl ⟨[], la, rfl, by unfold mD; rw [List.map_map]; rfl, rfl, rfl⟩ ?_ ?_
  · rintro acc e ⟨done, left, hd, hl', rfl, rfl⟩
    have : left = [] := List.map_eq_nil_iff.mp hl'.symm
    subst this
    rw [List.append_nil] at hd
    subst hd
    refine ⟨[.sh p.d, .sh q.d, .sh (.str box), .sh (stD s), .sh (kD (mD dNat la)), .sh (dNat nn), .no, .no, .no, .no, .no, .no], rfl, ?_⟩
    show tSortedU [.list (la.map ansF)] _
    unfold tSortedU
    refine ⟨sortOk_ans (by omega), ?_⟩
    rw [sortD_ans h.c]
    refine ⟨l2, ?_⟩
    have := h.fin hgb hs
    show Q (.vl (.tuple [.list ((sortA la).map ansF), dNat nn])) []
    rw [this]
    exact hQ
  · rintro d ds acc e k hk ⟨done, left, hd, hl', rfl, rfl⟩
    cases left with
    | nil => cases hl'
    | cons x left =>
      have hl'' : d :: ds = dNat x.1 :: left.map fun x => dNat x.1 := hl'
      injection hl'' with h1 h2
      subst h1 h2
      have hx := (h.c.at_ x.1 x.2).mp (by rw [hd]; simp)
      have hlk : lookN (mD dNat la) (dNat x.1) = some (dNat x.2) := by rw [h.c.look eqv_dNat, if_pos (by omega), hx.1]
      have hlen := congrArg List.length hd
      rw [List.length_append] at hlen
      refine ⟨trivial, trivial, ⟨.inl x.1, rfl⟩, _, rfl, _, hlk, l2, by rw [List.length_map]; omega, hk _ _ ⟨done ++ [x], left, by rw [hd, List.append_assoc]; rfl, rfl, ?_, rfl⟩⟩
      rw [List.map_append]
      rfl
theorem vc__law_due_by_places (as Q E) (h : sp__law_due_by_places as Q E) : t__law_due_by_places (defEnds 4 Q) (start0 12 as) := by
  obtain ⟨p, q, box, s, rfl, hq, hQ⟩ := h
  obtain ⟨hgb, hg, gq, qm, qb, hbox, hs, fw, h35, q35, hL⟩ := hq
  refine ⟨trivial, trivial, ?_⟩
  refine ⟨nd0, p, s, rfl, ⟨hg, hs, (fw s hs).1, h35, (fw s hs).2.2.1⟩, fun l hl => ⟨dct_eD, ?_⟩⟩
  show dLoop _ _ _ ((mD eD l).map fun kv => PyData.tuple [kv.1, kv.2]) (Edp p q box s [] 0 .no .no .no .no .no)
  rw [items_mD]
  refine due_rows ⟨hgb, hg, gq, qm, qb, hbox, hs, fw, h35, q35, hL⟩ (T := tot p q box s) (fun a ha => tot_lt hgb hs ha) hg.bx.m16 (fun nn' fa' la' h' => due_end hgb hs hQ h') l 0 (fun _ => 0) [] (fun x hx => (hl.at_ x.1 x.2).mp hx) ⟨IsM.nil, ?_, fun a => ?_⟩
  · show 0 + wgt (inN p q box none) l = _
    rw [tot_wgt hgb hs none hl, Nat.zero_add]
  · show 0 + wgt (inN p q box (some a)) l = _
    rw [tot_wgt hgb hs _ hl, Nat.zero_add]
end DL
/-! what is due, by every run. -/
namespace DL
open PySem PySem.Spec PyProof.Rows L2 PySem.W
def Edd (p q : Pg) (box : Str) (s : List Nat) (la : List (Nat × Nat)) (nn : Nat) (x6 x7 x8 x9 x10 : Sl) : Sv := [.sh p.d, .sh q.d, .sh (.str box), .sh (stD s), .ow (.dck (mD dNat la)), .sh (dNat nn), x6, x7, x8, x9, x10]
/-- a run's further runs, but for those that end at once -/
def in2 (p q : Pg) (box : Str) (o : Option Nat) : En → Nat
  | none => 0
  | some x => inN p q box o (some x)
theorem cnt_inN {p q : Pg} (gq : q.good) (qm : q.m = p.m) (qb : q.bs = p.bs) {box : Str} {x : Nat × List Nat} (hs : StOk p.m p.bs (x.2.set (p.bs.idxOf box) x.1)) (o : Option Nat) : cntOf (ends q (poe q 0 (x.2.set (p.bs.idxOf box) x.1))) (oW o) = inN p q box o (some x) := by
  unfold cntOf ends
  rw [runs_L0 gq (by rw [qm, qb]; exact hs), count_oW, qm, qb]
  rfl
theorem cnt_own {p : Pg} (hg : p.good) {s : List Nat} (hs : StOk p.m p.bs s) (o : Option Nat) : cntOf (ends p (poe p 0 s)) (oW o) = ((Lr p 0 s).map fun ce => anO ce.2).count o := by
  unfold cntOf ends
  rw [runs_L0 hg hs, count_oW]
  rfl
theorem tot_two {p q : Pg} {box : Str} : ∀ l : List Rn, (l.map fun ce => inN p q box none ce.2).sum = (l.map fun ce => anO ce.2).count none + (l.map fun ce => in2 p q box none ce.2).sum
  | [] => rfl
  | ce :: l => by
    rw [List.map_cons, List.map_cons, List.map_cons, List.sum_cons, List.sum_cons, List.count_cons, tot_two l]
    obtain ⟨c, e⟩ := ce
    cases e with
    | none =>
      show 1 + _ = _ + 1 + (0 + _)
      omega
    | some x =>
      show inN p q box none (some x) + _ = _ + 0 + (inN p q box none (some x) + _)
      omega
theorem tot_two' {p q : Pg} {box : Str} {a : Nat} : ∀ l : List Rn, (l.map fun ce => inN p q box (some a) ce.2).sum = (l.map fun ce => in2 p q box (some a) ce.2).sum
  | [] => rfl
  | ce :: l => by
    rw [List.map_cons, List.map_cons, List.sum_cons, List.sum_cons, tot_two' l]
    obtain ⟨c, e⟩ := ce
    cases e with
    | none => rfl
    | some x => rfl
theorem ansL_isM {p q : Pg} (gq : q.good) (qm : q.m = p.m) (qb : q.bs = p.bs) {box : Str} {x : Nat × List Nat} (hs : StOk p.m p.bs (x.2.set (p.bs.idxOf box) x.1)) : IsM (fun a => inN p q box (some a) (some x)) (ansL q (x.2.set (p.bs.idxOf box) x.1)) := by
  have hc := fun a => cnt_inN gq qm qb hs (some a)
  have hu := cnt_univ (ends_univ gq _ _ (Nat.le_refl _) (poe_ok (p := q) (r := 0) (by rw [qm, qb]; exact hs)) fun k z => by
    unfold poe at z
    split at z <;> cases z)
  refine ⟨?_, fun a n => ?_⟩
  · unfold ansL
    refine List.pairwise_map.mpr (List.Pairwise.filter _ ?_)
    refine List.pairwise_map.mpr ?_
    exact List.pairwise_lt_range.imp fun h z => by
      have z : (_ : Nat) = _ := z
      omega
  · unfold ansL
    constructor
    · intro z
      obtain ⟨h1, h2⟩ := List.mem_filter.mp z
      obtain ⟨k, hk, e⟩ := List.mem_map.mp h1
      injection e with e1 e2
      subst e1
      exact ⟨by rw [← e2]; exact hc k, of_decide_eq_true h2⟩
    · rintro ⟨z1, z2⟩
      have z1 : n = inN p q box (some a) (some x) := z1
      have h3 := hc a
      have h4 : 0 < cntOf (ends q (poe q 0 (x.2.set (p.bs.idxOf box) x.1))) (.gives a) := by
        have h3 : cntOf (ends q (poe q 0 (x.2.set (p.bs.idxOf box) x.1))) (.gives a) = _ := h3
        omega
      have ham : a < q.m := by
        rcases univ_cases (hu _ h4) with z | ⟨k, hk, z⟩
        · cases z
        · injection z with z; omega
      exact List.mem_filter.mpr ⟨List.mem_map.mpr ⟨a, List.mem_range.mpr ham, by rw [z1, ← h3]; rfl⟩, decide_eq_true z2⟩
theorem nat_ac {a b : Nat} : (a : Int) + (b : Int) = ((a + b : Nat) : Int) := by rw [Int.natCast_add]
/-- one answer of the further runs -/
theorem dd_turn {p q : Pg} {box : Str} {s : List Nat} {T rest rest' : Option Nat → Nat} {m : Nat} (hT : ∀ a, 0 < T (some a) → a < m) (hm : m ≤ 16) {nn : Nat} {fa : Nat → Nat} {la : List (Nat × Nat)} (h : Du T rest nn fa la) {x : Nat × Nat} (h1 : 0 < x.2)
    (hx : ∀ o, rest o = x.2 * (if o = some x.1 then 1 else 0) + rest' o) {DD : DEn} {x6 x7 x8 : Sl} (nx : ∀ fa' la', Du T rest' nn fa' la' → DD.nx (Edd p q box s la' nn x6 x7 x8 (.sh (dNat x.1)) (.sh (dNat x.2)))) :
    t__law_due_1 DD (Edd p q box s la nn x6 x7 x8 (.sh (dNat x.1)) (.sh (dNat x.2))) := by
  have hl := h.len hT hm
  refine ⟨⟨_, rfl⟩, _, rfl, ⟨.inl x.1, rfl⟩, ?_⟩
  dsimp only [withO, pend]
  rw [h.c.getD eqv_dNat x.1]
  refine ⟨trivial, _, rfl, ⟨⟨.inl x.1, rfl⟩, by rw [mD_len]; omega⟩, ?_⟩
  obtain ⟨fa', h'⟩ := h.ans (b := x.1) h1 hx
  have := nx _ _ h'
  unfold Edd at this
  rw [← h.c.store eqv_dNat] at this
  exact this
theorem dd_turns {p q : Pg} {box : Str} {s : List Nat} {T rest : Option Nat → Nat} {m : Nat} (hT : ∀ a, 0 < T (some a) → a < m) (hm : m ≤ 16) {nn : Nat} {DD : DEn} {x6 x7 x8 : Sl}
    (nx : ∀ fa' la' x9, (x9 = .no ∨ ∃ d, x9 = .sh d) → Du T rest nn fa' la' → DD.nx (Edd p q box s la' nn x6 x7 x8 x9 .no)) : ∀ (l : List (Nat × Nat)) (fa : Nat → Nat) (la : List (Nat × Nat)) (rest0 : Option Nat → Nat) (x9 : Sl), (x9 = .no ∨ ∃ d, x9 = .sh d) → (∀ x ∈ l, 0 < x.2) → Du T rest0 nn fa la →
      (∀ o, rest0 o = (match o with | some a => wgt (fun x => if x = a then 1 else 0) l | none => 0) + rest o) →
      dLoop (.tp [.nm 9, .nm 10]) (dWipe [10] (t__law_due_1)) DD (l.map fun x => .tuple [dNat x.1, dNat x.2]) (Edd p q box s la nn x6 x7 x8 x9 .no)
  | [], fa, la, rest0, x9, h9, _, h, hx => by
    have : rest0 = rest := funext fun o => by
      rw [hx]
      cases o with
      | none => exact Nat.zero_add _
      | some a => exact Nat.zero_add _
    exact nx _ _ _ h9 (this ▸ h)
  | x :: l, fa, la, rest0, x9, h9, hp, h, hx => by
    have n9 : nio x9 := by rcases h9 with rfl | ⟨d, rfl⟩ <;> trivial
    refine ⟨ni rfl n9, trivial, ?_⟩
    refine dd_turn hT hm (rest' := fun o => (match o with | some a => wgt (fun x => if x = a then 1 else 0) l | none => 0) + rest o) h (hp x List.mem_cons_self) (fun o => ?_) fun fa' la' h' => ?_
    · rw [hx]
      cases o with
      | none =>
        show 0 + rest none = x.2 * (if none = some x.1 then 1 else 0) + (0 + rest none)
        rw [if_neg (fun z => nomatch z)]
        omega
      | some a =>
        show wgt _ (x :: l) + _ = x.2 * (if some a = some x.1 then 1 else 0) + (wgt _ l + _)
        unfold wgt
        rw [List.map_cons, List.sum_cons]
        have e : (if x.1 = a then 1 else 0) = if some a = some x.1 then 1 else 0 := by
          by_cases z : x.1 = a
          · rw [if_pos z, if_pos (by rw [z])]
          · rw [if_neg z, if_neg (fun y => z (by injection y with y; exact y.symm))]
        rw [← e]
        dsimp only
        omega
    · exact ⟨⟨trivial, trivial⟩, dd_turns hT hm nx l fa' la' _ _ (.inr ⟨_, rfl⟩) (fun y hy => hp y (List.mem_cons_of_mem _ hy)) h' fun o => rfl⟩
/-- one run -/
theorem dd_row {p q : Pg} {box : Str} {s : List Nat} (hq : Nq p q box s) {T rest0 rest : Option Nat → Nat} {m : Nat} (hT : ∀ a, 0 < T (some a) → a < m) (hm : m ≤ 16) {ce : Rn} (hce : ce ∈ Lr p 0 s) {DD : DEn} {nn : Nat} {fa : Nat → Nat} {la : List (Nat × Nat)} (h : Du T rest0 nn fa la)
    (hx : ∀ o, rest0 o = in2 p q box o ce.2 + rest o) {x9 : Sl} (h9 : x9 = .no ∨ ∃ d, x9 = .sh d)
    (nx : ∀ nn' fa' la' x8 x9, nio x8 → (x9 = .no ∨ ∃ d, x9 = .sh d) → Du T rest nn' fa' la' → DD.nx (Edd p q box s la' nn' (.sh (.list (ce.1.map dNat))) (.sh (fgt ce).2.d) x8 x9 .no)) : t__law_due_4 DD (Edd p q box s la nn (.sh (.list (ce.1.map dNat))) (.sh (fgt ce).2.d) .no x9 .no) := by
  obtain ⟨hgb, hg, gq, qm, qb, hbox, hs, fw, h35, q35, hL⟩ := hq
  obtain ⟨c, e⟩ := ce
  cases e with
  | none =>
    refine ⟨_, atI_nat (j := 0) rfl, eqS, ?_⟩
    refine nx nn fa la _ _ trivial h9 ?_
    have : rest0 = rest := funext fun o => by rw [hx]; exact Nat.zero_add _
    exact this ▸ h
  | some x =>
    obtain ⟨v, s'⟩ := x
    obtain ⟨st, vm⟩ := runL_st hg.bx _ _ _ (Nat.le_refl _) (fun r hr => hg.rows r (List.mem_of_mem_drop hr)) hs _ hce v s' rfl
    have st2 : StOk p.m p.bs (swith p s' box v) := st_swith st vm
    have st3 : StOk q.m q.bs (swith p s' box v) := by rw [qm, qb]; exact st2
    have hcl : c.length ≤ 1000 := by
      have := runL_clen _ _ _ (Nat.le_refl _) _ hce
      rw [List.length_drop] at this
      have this : c.length ≤ p.rs.length - 0 := this
      omega
    refine ⟨_, atI_nat (j := 0) rfl, eqS, ?_⟩
    refine ⟨nd0, p, s, c, v, s', rfl, ⟨hg, hs, hce, hcl⟩, _, atI_nat (j := 1) rfl, nd0, p, s', box, v, rfl, ⟨hbox, hg.bx, st.1⟩, trivial, ?_⟩
    refine ⟨nd0, q, swith p s' box v, rfl, ⟨gq, st3, (fw _ st2).2.1, q35⟩, ?_⟩
    have hM := ansL_isM (p := p) gq qm qb (box := box) (x := (v, s')) st2
    refine dd_turns hT hm (p := p) (q := q) (box := box) (s := s) (rest := fun o => (match o with | some a => 0 | none => inN p q box none (some (v, s'))) + rest o) (fun fa' la' x9' h9' h' => ?_) (ansL q (swith p s' box v)) fa la rest0 x9 h9 (fun y hy => ((hM.at_ y.1 y.2).mp hy).2) h fun o => ?_
    · refine ⟨nd0, q, swith p s' box v, rfl, ⟨gq, st3, (fw _ st2).2.1, q35⟩, trivial, ?_⟩
      have h2 := h'.noth (v := inN p q box none (some (v, s'))) (rest' := rest) fun o => by
        cases o with
        | none => rw [if_pos rfl]; show inN p q box none (some (v, s')) + _ = _; omega
        | some a => rw [if_neg (fun z => nomatch z)]; show 0 + _ = _ * 0 + _; omega
      have := nx _ _ _ (.sh (stD (swith p s' box v))) x9' trivial h9' h2
      rw [← cnt_inN gq qm qb (x := (v, s')) st2 none] at this
      unfold Edd at this
      rw [show dNat (nn + cntOf (ends q (poe q 0 (s'.set (p.bs.idxOf box) v))) (oW none)) = .int ((nn : Int) + (cntOf (ends q (poe q 0 (s'.set (p.bs.idxOf box) v))) (oW none) : Int)) by rw [nat_ac]] at this
      exact this
    · rw [hx]
      cases o with
      | none => show inN p q box none (some (v, s')) + _ = 0 + (inN p q box none (some (v, s')) + _); omega
      | some a =>
        have := wgt_one (a := a) hM
        show inN p q box (some a) (some (v, s')) + rest (some a) = wgt (fun x => if x = a then 1 else 0) (ansL q (s'.set (p.bs.idxOf box) v)) + (0 + rest (some a))
        rw [this]
        omega
theorem dd_rows {p q : Pg} {box : Str} {s : List Nat} (hq : Nq p q box s) {T : Option Nat → Nat} {m : Nat} (hT : ∀ a, 0 < T (some a) → a < m) (hm : m ≤ 16) {DD : DEn}
    (nx : ∀ nn' fa' la' x9, (x9 = .no ∨ ∃ d, x9 = .sh d) → Du T (fun _ => 0) nn' fa' la' → DD.nx (Edd p q box s la' nn' .no .no .no x9 .no)) : ∀ (l : List Rn) (nn : Nat) (fa : Nat → Nat) (la : List (Nat × Nat)) (x9 : Sl), (x9 = .no ∨ ∃ d, x9 = .sh d) → (∀ x ∈ l, x ∈ Lr p 0 s) → Du T (fun o => (l.map fun ce => in2 p q box o ce.2).sum) nn fa la →
      dLoop (.tp [.nm 6, .nm 7]) (dWipe [6, 7, 8] (t__law_due_4)) DD (l.map fun ce => runD (fgt ce)) (Edd p q box s la nn .no .no .no x9 .no)
  | [], nn, fa, la, x9, h9, _, h => nx _ _ _ _ h9 h
  | ce :: l, nn, fa, la, x9, h9, hp, h => by
    refine ⟨trivial, trivial, ?_⟩
    refine dd_row hq hT hm (rest := fun o => (l.map fun ce => in2 p q box o ce.2).sum) (hp ce List.mem_cons_self) h (fun o => by rw [List.map_cons, List.sum_cons]) h9 fun nn' fa' la' x8 x9' n8 h9' h' => ?_
    exact ⟨⟨trivial, trivial, ni rfl n8, trivial⟩, dd_rows hq hT hm nx l nn' fa' la' x9' h9' (fun y hy => hp y (List.mem_cons_of_mem _ hy)) h'⟩
theorem dd_end {p q : Pg} {box : Str} {s : List Nat} (hgb : (putAfter p q box).good) (hs : StOk p.m p.bs s) {Q : Op → List OD → Prop} (hQ : Q (.vl (dueD p q box s)) []) {nn : Nat} {fa : Nat → Nat} {la : List (Nat × Nat)} (h : Du (tot p q box s) (fun _ => 0) nn fa la) {x9 : Sl} (h9 : x9 = .no ∨ ∃ d, x9 = .sh d) :
    t__law_due_5 (defEnds 4 Q) (Edd p q box s la nn .no .no .no x9 .no) := by
  have hl := h.len (fun a ha => tot_lt hgb hs ha) hgb.bx.m16
  have n9 : nio x9 := by rcases h9 with rfl | ⟨d, rfl⟩ <;> trivial
  refine ⟨mD dNat la, rfl, ?_⟩
  refine lc_vc (J := fun ds acc e => ∃ done left : List (Nat × Nat), la = done ++ left ∧ ds = (left.map fun x => dNat x.1) ∧ acc = done.map ansF ∧ e = [.sh p.d, .sh q.d, .sh (.str box), .sh (stD s), .sh (kD (mD dNat la)), .sh (dNat nn), .no, .no, .no, .no, .no]) _ ⟨ni rfl n9, trivial⟩ rfl ⟨[], la, rfl, by unfold mD; rw [List.map_map]; rfl, rfl, rfl⟩ ?_ ?_
  · rintro acc e ⟨done, left, hd, hl', rfl, rfl⟩
    have : left = [] := List.map_eq_nil_iff.mp hl'.symm
    subst this
    rw [List.append_nil] at hd
    subst hd
    refine ⟨[.sh p.d, .sh q.d, .sh (.str box), .sh (stD s), .sh (kD (mD dNat la)), .sh (dNat nn), .no, .no, .no, x9, .no], by rcases h9 with rfl | ⟨d, rfl⟩ <;> rfl, ?_⟩
    show tSortedU [.list (la.map ansF)] _
    unfold tSortedU
    refine ⟨sortOk_ans (by omega), ?_⟩
    rw [sortD_ans h.c]
    refine ⟨l2, ?_⟩
    have := h.fin hgb hs
    show Q (.vl (.tuple [.list ((sortA la).map ansF), dNat nn])) []
    rw [this]
    exact hQ
  · rintro d ds acc e k hk ⟨done, left, hd, hl', rfl, rfl⟩
    cases left with
    | nil => cases hl'
    | cons x left =>
      have hl'' : d :: ds = dNat x.1 :: left.map fun x => dNat x.1 := hl'
      injection hl'' with h1 h2
      subst h1 h2
      have hx := (h.c.at_ x.1 x.2).mp (by rw [hd]; simp)
      have hlk : lookN (mD dNat la) (dNat x.1) = some (dNat x.2) := by rw [h.c.look eqv_dNat, if_pos (by omega), hx.1]
      have hlen := congrArg List.length hd
      rw [List.length_append] at hlen
      refine ⟨trivial, trivial, ⟨.inl x.1, rfl⟩, _, rfl, _, hlk, l2, by rw [List.length_map]; omega, hk _ _ ⟨done ++ [x], left, by rw [hd, List.append_assoc]; rfl, rfl, ?_, rfl⟩⟩
      rw [List.map_append]
      rfl
theorem vc__law_due (as Q E) (h : sp__law_due as Q E) : t__law_due (defEnds 4 Q) (start0 11 as) := by
  obtain ⟨p, q, box, s, rfl, ⟨hq, hr⟩, hQ⟩ := h
  obtain ⟨hgb, hg, gq, qm, qb, hbox, hs, fw, h35, q35, hL⟩ := hq
  refine ⟨trivial, nd0, p, s, rfl, ⟨hg, hs, (fw s hs).1, h35⟩, trivial, ?_⟩
  refine ⟨nd0, p, s, rfl, ⟨hg, hs, hr⟩, ?_⟩
  show dLoop _ _ _ ((runs p (poe p 0 s)).map runD) (Edd p q box s [] (cntOf (ends p (poe p 0 s)) .nothing) .no .no .no .no .no)
  have er : (runs p (poe p 0 s)).map runD = (Lr p 0 s).map fun ce => runD (fgt ce) := by
    rw [runs_L0 hg hs, List.map_map]
    rfl
  rw [er]
  refine dd_rows ⟨hgb, hg, gq, qm, qb, hbox, hs, fw, h35, q35, hL⟩ (T := tot p q box s) (fun a ha => tot_lt hgb hs ha) hg.bx.m16 (fun nn' fa' la' x9 h9 h' => dd_end hgb hs hQ h' h9) (Lr p 0 s) _ (fun _ => 0) [] .no (.inl rfl) (fun _ h => h) ⟨IsM.nil, ?_, fun a => ?_⟩
  · have := cnt_own hg hs none
    rw [tot_eq hgb hs, tot_two, ← this]
    rfl
  · rw [tot_eq hgb hs, tot_two', Nat.zero_add]
end DL
/-! the two programs as they are drawn. -/
namespace DL
open PySem PySem.Spec PyProof.Rows L2 PySem.W
def allS (m : Nat) : Nat → List (List Nat)
  | 0 => [[]]
  | k + 1 => (List.range m).flatMap fun v => (allS m k).map fun s => v :: s
theorem len_flat {α β : Type} {f : α → List β} {c : Nat} : ∀ {l : List α}, (∀ a, (f a).length = c) → (l.flatMap f).length = l.length * c
  | [], _ => by simp
  | a :: l, h => by rw [List.flatMap_cons, List.length_append, h, len_flat h, List.length_cons, Nat.succ_mul]; omega
theorem allS_len {m : Nat} : ∀ k, (allS m k).length = m ^ k
  | 0 => rfl
  | k + 1 => by
    show ((List.range m).flatMap _).length = _
    rw [len_flat (c := m ^ k) fun v => by rw [List.length_map, allS_len], List.length_range, Nat.pow_succ, Nat.mul_comm]
theorem allS_mem {m : Nat} : ∀ {k : Nat} {s : List Nat}, s.length = k → (∀ n ∈ s, n < m) → s ∈ allS m k
  | 0, [], _, _ => List.mem_singleton.mpr rfl
  | 0, _ :: _, h, _ => nomatch h
  | k + 1, [], h, _ => nomatch h
  | k + 1, v :: s, h, hm => List.mem_flatMap.mpr ⟨v, List.mem_range.mpr (hm v List.mem_cons_self), List.mem_map.mpr ⟨s, allS_mem (Nat.succ.inj h) fun n hn => hm n (List.mem_cons_of_mem _ hn), rfl⟩⟩
theorem pow_small {m k : Nat} (hm : m ≤ 5) (hk : k ≤ 2) : m ^ k ≤ 25 :=
  Nat.le_trans (Nat.pow_le_pow_left hm k) (Nat.le_trans (Nat.pow_le_pow_right (by decide) hk) (by decide))
theorem few_small {p : Pg} (hg : p.good) (hm : p.m ≤ 5) (hb : p.bs.length ≤ 2) {s0 : List Nat} (hs : StOk p.m p.bs s0) : Few p s0 := fun r ss nd hr => by
  have := nodup_len (b := allS p.m p.bs.length) nd fun s h => by
    have := reach_ok hg hs (hr s h)
    exact allS_mem this.1 this.2
  rw [allS_len] at this
  exact Nat.le_trans this (Nat.le_trans (pow_small hm hb) (by decide))
theorem fewE_small {p : Pg} (hg : p.good) (hm : p.m ≤ 5) (hb : p.bs.length ≤ 2) {s0 : List Nat} (hs : StOk p.m p.bs s0) : FewEnds p s0 := fun ls nd hr => by
  have := nodup_len (b := none :: ((List.range p.m).flatMap fun v => (allS p.m p.bs.length).map fun s => some (v, s))) nd fun e h => by
    cases e with
    | none => exact List.mem_cons_self
    | some x =>
      obtain ⟨h1, h2⟩ := cE_st hg hs (hr _ h)
      exact List.mem_cons_of_mem _ (List.mem_flatMap.mpr ⟨x.1, List.mem_range.mpr h2, List.mem_map.mpr ⟨x.2, allS_mem h1.1 h1.2, rfl⟩⟩)
  rw [List.length_cons, len_flat (c := p.m ^ p.bs.length) (fun v => by rw [List.length_map, allS_len]), List.length_range] at this
  have h1 := pow_small hm hb
  have h2 : p.m * p.m ^ p.bs.length ≤ 5 * 25 := Nat.mul_le_mul hm h1
  omega
theorem Lr_wide {p : Pg} (hg : p.good) {s : List Nat} : (Lr p 0 s).length ≤ wides p.rs := runL_wide _ _ _ (Nat.le_refl _) hg.rows
theorem fewE_of {p : Pg} (hg : p.good) (hw : wides p.rs ≤ 2500) {s0 : List Nat} : FewEnds p s0 := fun ls nd hr => by
  have := nodup_len (b := (Lr p 0 s0).map fun ce : Rn => ce.2) nd fun e h => by
    obtain ⟨c, hc⟩ := cE_mem (hr _ h)
    exact List.mem_map.mpr ⟨_, hc, rfl⟩
  rw [List.length_map] at this
  have h2 := Lr_wide hg (s := s0)
  omega
theorem wides_pow {m : Nat} {bs : List Str} : ∀ {rs : List Row}, (∀ r ∈ rs, r.ok m bs) → wides rs ≤ 5 ^ rs.length
  | [], _ => Nat.le_refl _
  | r :: rs, h => by
    have h1 := wides_pow fun x hx => h x (List.mem_cons_of_mem _ hx)
    have h2 : r.wide ≤ 5 := by
      have hr := h r List.mem_cons_self
      cases r with
      | pick b ts => exact hr.2.1.2
      | set b t => show 1 ≤ 5; decide
      | need t => show 1 ≤ 5; decide
      | skip t n => show 1 ≤ 5; decide
      | give t => show 1 ≤ 5; decide
    show r.wide * wides rs ≤ 5 ^ (rs.length + 1)
    rw [Nat.pow_succ, Nat.mul_comm]
    exact Nat.mul_le_mul h1 h2
theorem gi_len : ∀ rs : List Row, (rs.map Row.gi).sum ≤ rs.length
  | [] => Nat.le_refl _
  | r :: rs => by
    have := gi_len rs
    rw [List.map_cons, List.sum_cons, List.length_cons]
    have h2 : r.gi ≤ 1 := by cases r <;> first | exact Nat.le_refl _ | exact Nat.zero_le _
    omega
structure W72 (m : Nat) (bs : List Str) (p q : Pg) (wd : Bool) : Prop where
  bx : BxOk m bs
  pm : p.m = m
  pb : p.bs = bs
  qm : q.m = m
  qb : q.bs = bs
  pg : p.good
  qg : q.good
  hl : spot p.rs p.rs.length + 1 + q.rs.length ≤ 30
  p35 : p.rs.length ≤ 35
  q35 : q.rs.length ≤ 35
  fp : ∀ s, StOk m bs s → Few p s
  fq : ∀ s, StOk m bs s → Few q s
  ep : ∀ s, StOk m bs s → FewEnds p s
  eq : ∀ s, StOk m bs s → FewEnds q s
  fb : ∀ box ∈ bs, ∀ s, StOk m bs s → Few (putAfter p q box) s
  L : ∀ s, StOk m bs s → (Lr p 0 s).length < 2 ^ 63
  rn : wd = false → ∀ s, StOk m bs s → (runs p (poe p 0 s)).length ≤ 2000
theorem W72.bg {m : Nat} {bs : List Str} {p q : Pg} {wd : Bool} (h : W72 m bs p q wd) {box : Str} (hb : box ∈ bs) : (putAfter p q box).good :=
  put_good2 h.pg (by rw [h.pm, h.pb, ← h.qm, ← h.qb]; exact h.qg.rows) (by rw [h.pb]; exact hb) h.hl
theorem w72_small {m : Nat} {bs : List Str} {p q : Pg} (h1 : p.m = m) (h2 : p.bs = bs) (h3 : q.m = m) (h4 : q.bs = bs) (hp : p.ok 10 10) (hq : q.ok 6 6) : W72 m bs p q false := by
  have lp := hp.len
  have lq := hq.len
  have wp := hp.wid
  have wq := hq.wid
  have pg : p.good := ⟨hp.bx, hp.rows, by omega⟩
  have qg : q.good := ⟨hq.bx, hq.rows, by omega⟩
  have hl : spot p.rs p.rs.length + 1 + q.rs.length ≤ 30 := by
    have := gi_len p.rs
    rw [spot_gi]; omega
  have bg : ∀ box ∈ bs, (putAfter p q box).good := fun box hb => put_good2 pg (by rw [h1, h2, ← h3, ← h4]; exact qg.rows) (by rw [h2]; exact hb) hl
  refine ⟨by rw [← h1, ← h2]; exact hp.bx, h1, h2, h3, h4, pg, qg, hl, by omega, by omega, fun s _ => few_of pg (by omega), fun s _ => few_of qg (by omega), fun s _ => fewE_of pg (by omega), fun s _ => fewE_of qg (by omega), fun box hb s _ => few_of (bg box hb) ?_, fun s _ => ?_, fun _ s hs => ?_⟩
  · rw [put_wides]
    exact Nat.le_trans (Nat.mul_le_mul wp wq) (by decide)
  · have := Lr_wide pg (s := s)
    omega
  · have := runs_le pg (s := s) (by rw [h1, h2]; exact hs)
    omega
theorem w72_wide {m : Nat} {bs : List Str} {p q : Pg} (hbx : BxOk m bs) (hm : m ≤ 5) (hb : bs.length ≤ 2) (hp : Wide m bs 16 p) (hq : Wide m bs 9 q) : W72 m bs p q true := by
  have lp := hp.len
  have lq := hq.len
  have gp := hp.gives
  have h1 := hp.m_
  have h2 := hp.bs_
  have h3 := hq.m_
  have h4 := hq.bs_
  have pg : p.good := ⟨by rw [h1, h2]; exact hbx, by rw [h1, h2]; exact hp.rows, by omega⟩
  have qg : q.good := ⟨by rw [h3, h4]; exact hbx, by rw [h3, h4]; exact hq.rows, by omega⟩
  have hl : spot p.rs p.rs.length + 1 + q.rs.length ≤ 30 := by rw [spot_gi]; omega
  have bg : ∀ box ∈ bs, (putAfter p q box).good := fun box hb => put_good2 pg (by rw [h1, h2, ← h3, ← h4]; exact qg.rows) (by rw [h2]; exact hb) hl
  have m1 : p.m ≤ 5 := by omega
  have m2 : q.m ≤ 5 := by omega
  have b1 : p.bs.length ≤ 2 := by rw [h2]; exact hb
  have b2 : q.bs.length ≤ 2 := by rw [h4]; exact hb
  refine ⟨hbx, h1, h2, h3, h4, pg, qg, hl, by omega, by omega, fun s hs => few_small pg m1 b1 (by rw [h1, h2]; exact hs), fun s hs => few_small qg m2 b2 (by rw [h3, h4]; exact hs), fun s hs => fewE_small pg m1 b1 (by rw [h1, h2]; exact hs), fun s hs => fewE_small qg m2 b2 (by rw [h3, h4]; exact hs), fun box hbm s hs => few_small (bg box hbm) m1 b1 (by show StOk p.m p.bs s; rw [h1, h2]; exact hs), fun s _ => ?_, fun z => nomatch z⟩
  have h5 := Lr_wide pg (s := s)
  have h6 := wides_pow pg.rows
  have h7 : 5 ^ p.rs.length ≤ 5 ^ 16 := Nat.pow_le_pow_right (by decide) lp
  have h8 : 5 ^ 16 < 2 ^ 63 := by decide
  omega
theorem W72.nq {m : Nat} {bs : List Str} {p q : Pg} {wd : Bool} (h : W72 m bs p q wd) {box : Str} (hb : box ∈ bs) {s : List Nat} (hs : StOk m bs s) : Nq p q box s := by
  obtain ⟨bx, pm, pb, qm, qb, pg, qg, hl, p35, q35, fp, fq, ep, eq, fb, L, rn⟩ := h
  subst pm pb
  exact ⟨put_good2 pg (by rw [← qm, ← qb]; exact qg.rows) hb hl, pg, qg, qm, qb, hb, hs, fun s hs => ⟨fp s hs, fq s hs, ep s hs, eq s hs⟩, p35, q35, L⟩
/-! ### all runs are told -/
theorem sum_one {m k : Nat} (h : k < m) {f : Nat → Nat} : ((List.range m).map fun n => f n + if n = k then 1 else 0).sum = ((List.range m).map f).sum + 1 := by
  have go : ∀ l : List Nat, l.Nodup → ((l.map fun n => f n + if n = k then 1 else 0).sum = (l.map f).sum + if k ∈ l then 1 else 0) := by
    intro l
    induction l with
    | nil => intro _; rfl
    | cons x l ih =>
      intro nd
      obtain ⟨n1, n2⟩ := List.nodup_cons.mp nd
      rw [List.map_cons, List.map_cons, List.sum_cons, List.sum_cons, ih n2]
      by_cases z : x = k
      · subst z
        rw [if_pos rfl, if_neg n1, if_pos List.mem_cons_self]; omega
      · rw [if_neg z]
        by_cases y : k ∈ l
        · rw [if_pos y, if_pos (List.mem_cons_of_mem _ y)]; omega
        · rw [if_neg y, if_neg (fun w => by rcases List.mem_cons.mp w with w | w; exact z w.symm; exact y w)]; omega
  rw [go _ List.nodup_range, if_pos (List.mem_range.mpr h)]
theorem univ_sum {p : Pg} : ∀ l : List Way, (∀ w ∈ l, w ∈ univ p) → l.length = l.count .nothing + ((List.range p.m).map fun n => l.count (.gives n)).sum
  | [], _ => by
    have : ((List.range p.m).map fun n => ([] : List Way).count (.gives n)).sum = 0 := sum_zero fun x hx => by
      obtain ⟨n, _, rfl⟩ := List.mem_map.mp hx
      rfl
    rw [this]; rfl
  | w :: l, h => by
    have ih := univ_sum l fun x hx => h x (List.mem_cons_of_mem _ hx)
    rw [List.length_cons, ih]
    rcases univ_cases (h w List.mem_cons_self) with rfl | ⟨k, hk, rfl⟩
    · rw [List.count_cons_self]
      have : (fun n => (Way.nothing :: l).count (.gives n)) = fun n => l.count (.gives n) := funext fun n => List.count_cons_of_ne (fun z : Way.nothing = Way.gives n => nomatch z)
      rw [this]; omega
    · rw [List.count_cons_of_ne (a := Way.nothing) (fun z : Way.gives k = Way.nothing => nomatch z)]
      have : (fun n => (Way.gives k :: l).count (.gives n)) = fun n => l.count (.gives n) + if n = k then 1 else 0 := funext fun n => by
        rw [List.count_cons]
        by_cases z : n = k
        · subst z; simp
        · have z2 : ¬ Way.gives k = Way.gives n := fun y => by injection y with y; exact z y.symm
          simp [z, z2]
      rw [this, sum_one hk]
      omega
theorem sum_filter {f : Nat → Nat} : ∀ l : List Nat, ((((l.map fun n => (n, f n)).filter fun x => decide (0 < x.2)).map fun x => x.2)).sum = (l.map f).sum
  | [] => rfl
  | x :: l => by
    rw [List.map_cons, List.filter_cons, List.map_cons, List.sum_cons]
    by_cases z : 0 < f x
    · rw [if_pos (decide_eq_true z), List.map_cons, List.sum_cons, sum_filter l]
    · rw [if_neg (by simpa using z), sum_filter l]; omega
theorem runs_told {p : Pg} (hg : p.good) {s : List Nat} (hs : StOk p.m p.bs s) : (runs p (poe p 0 s)).length = cntOf (ends p (poe p 0 s)) .nothing + ((ansL p s).map fun x => x.2).sum := by
  have := univ_sum (p := p) (ends p (poe p 0 s)) (ends_univ hg _ _ (Nat.le_refl _) (poe_ok (p := p) (r := 0) hs) fun k z => by
    unfold poe at z
    split at z <;> cases z)
  unfold ansL
  rw [sum_filter]
  have e : (ends p (poe p 0 s)).length = (runs p (poe p 0 s)).length := by unfold ends; rw [List.length_map]
  rw [← e, this]
  rfl
end DL
/-! the law's walk. -/
namespace DL
open PySem PySem.Spec PyProof.Rows L2 PySem.W
def sp_law : FS := fun as Q E => ∃ ns : List Int, as = [.sh (scrD (ns.map .int))] ∧ Q (.vl (.bool true)) []
/- N: 0=script 1=k 2=deck 3=m 4=boxes 5=one 6=other 7=wide 8=box 9=both 10=j 11=store 12=counts 13=nothing 14=many 15=number 16=answer 17=times -/
def t_law_1 : DS := dSet 6 (dCall sp__law_wide [dRef 2, dVal 3, dVal 4, dC (.int 9)])
def t_law_2 : DS := dSeq (dSet 5 (dCall sp__law_wide [dRef 2, dVal 3, dVal 4, dC (.int 16)])) t_law_1
def t_law_3 : DS := dIf (dNot (dTst (dCall sp__law_run_right [dVal 5, dVal 6, dVal 8, dVal 11, dVal 9, dCall sp_run_by_number [dVal 9, dVal 11, dVal 15]]))) (dRet (dC (.bool false))) (dNext)
def t_law_4 : DS := dSeq (dSet 15 (dOp (tI (fun _ j => 0 < j) (· % ·)) (dOp tAdd (dOp tMulU (dCall sp__law_next [dRef 2]) (dC (.int 720720))) (dCall sp__law_next [dRef 2])) (dRef 14))) t_law_3
def t_law_5 : DS := dSeq (dIf (dTst (dOp tNe (dRef 14) (dOp tAdd (dRef 13) (dCB tSumL [dLc (dSeqI (dVal 12)) (.tp [.nm 16, .nm 17]) [] (dYes) (dVal 17)])))) (dRet (dC (.bool false))) (dNext)) t_law_4
def t_law_6 : DS := dSeq (dSet 14 (dCall sp_run_count [dVal 9, dVal 11])) t_law_5
def t_law_7 : DS := dSeq (dIf (dOr (dTst (dOp tNe (dCall sp_answer_counts [dVal 9, dVal 11]) (dRef 12))) (dTst (dOp tNe (dCall sp_count_nothing [dVal 9, dVal 11]) (dRef 13)))) (dRet (dC (.bool false))) (dNext)) t_law_6
def t_law_8 : DS := dSeq (dIf (dAnd (dNot (dTst (dVal 7))) (dTst (dOp tNe (dCall sp__law_due [dVal 5, dVal 6, dVal 8, dVal 11]) (dTup [dVal 12, dVal 13])))) (dRet (dC (.bool false))) (dNext)) t_law_7
def t_law_9 : DS := dSeq (dAsg (.tp [.nm 12, .nm 13]) (dCall sp__law_due_by_places [dVal 5, dVal 6, dVal 8, dVal 11])) t_law_8
def t_law_10 : DS := dSeq (dSet 11 (dCall sp__law_store [dRef 2, dVal 5])) t_law_9
def t_law_11 : DS := dFor (dRng1 [dC (.int 3)]) (.nm 10) (dWipe [10, 11, 12, 13, 14, 15] (t_law_10))
def t_law_12 : DS := dSeq (dSet 9 (dCall sp_put_after [dVal 5, dVal 6, dVal 8])) t_law_11
def t_law_13 : DS := dSeq (dSet 8 (dOp tIx (dRef 4) (dOp (tI (fun _ j => 0 < j) (· % ·)) (dCall sp__law_next [dRef 2]) (dCB tLenU [dRef 4])))) t_law_12
def t_law_14 : DS := dSeq (dIf (dTst (dVal 7)) (dSeq (dPar 3 4 [dOp tAdd (dC (.int 2)) (dOp (tI (fun _ j => 0 < j) (· % ·)) (dRef 3) (dC (.int 4))), dSl (dRef 4) none (some (dC (.int 2)))]) t_law_2) (dNext)) t_law_13
def t_law_15 : DS := dSeq (dSet 7 (dOp tEq (dOp (tI (fun _ j => 0 < j) (· % ·)) (dCall sp__law_next [dRef 2]) (dC (.int 2))) (dC (.int 1)))) t_law_14
def t_law_16 : DS := dSeq (dSet 6 (dCall sp__law_program [dRef 2, dVal 3, dVal 4, dC (.int 6), dC (.int 6)])) t_law_15
def t_law_17 : DS := dSeq (dSet 5 (dCall sp__law_program [dRef 2, dVal 3, dVal 4, dC (.int 10), dC (.int 10)])) t_law_16
def t_law_18 : DS := dSeq (dAsg (.tp [.nm 3, .nm 4]) (dCall sp__law_boxes [dRef 2])) t_law_17
def t_law_19 : DS := dSeq (dSet 2 (dCall sp__law_deck [dCall sp__law_cell_at [dVal 0, dVal 1], dC (.int 960)])) t_law_18
def t_law_20 : DS := dRet (dC (.bool true))
def t_law : DS := dSeq (dFor (dRng1 [dCB (tMM mx2) [dC (.int 1), dCB (tMM mn2) [dCB tLenU [dRef 0], dC (.int 2)]]]) (.nm 1) (dWipe [1, 2, 3, 4, 5, 6, 7, 8, 9] (t_law_19))) t_law_20

def E72 (ns : List Int) : Sv := [.sh (scrD (ns.map .int)), .no, .no, .no, .no, .no, .no, .no, .no, .no, .no, .no, .no, .no, .no, .no, .no, .no]
/-- in the row of stores: one store -/
def S72 (sc d1 : D) (ms : List Nat) (m : Nat) (bs : List Str) (p q : Pg) (wd : Bool) (box : Str) (x10 x11 x12 x13 x14 x15 : Sl) : Sv :=
  [.sh sc, .sh d1, .ow (nats ms), .sh (dNat m), .sh (bxD bs), .sh p.d, .sh q.d, .sh (.bool wd), .sh (.str box), .sh (putAfter p q box).d, x10, x11, x12, x13, x14, x15, .no, .no]
theorem depth_due {p q : Pg} {box : Str} {s : List Nat} : (dueD p q box s).depth ≤ 60 :=
  Nat.le_trans (depth_tuple (n := 2) (by
    rw [PyData.depthAll, PyData.depthAll, PyData.depthAll]
    have e0 : (dNat (cntOf (ends (putAfter p q box) (poe (putAfter p q box) 0 s)) .nothing)).depth = 0 := by rw [PyData.depth]
    rw [e0]
    have : (PyData.list ((ansL (putAfter p q box) s).map ansF)).depth ≤ 2 := depth_list (n := 1) (depthAll_map (f := ansF) fun x _ => depth_tuple (n := 0) (by rw [PyData.depthAll, PyData.depthAll, PyData.depthAll, PyData.depth, PyData.depth]; decide))
    omega)) (by decide)
theorem pl_due {p q : Pg} {box : Str} {s : List Nat} : pl (dueD p q box s) = true := by
  show (pls ((ansL (putAfter p q box) s).map ansF) && (pl (dNat _) && true)) = true
  rw [pls_map (f := ansF) fun _ _ => rfl]
  rfl
theorem eq_due {p q : Pg} {box : Str} {s : List Nat} : noDict (dueD p q box s) = true ∧ noDict (dueD p q box s) = true ∧ min (dueD p q box s).depth (dueD p q box s).depth ≤ 60 := ⟨pl_noDict pl_due, pl_noDict pl_due, Nat.le_trans (Nat.min_le_left _ _) depth_due⟩
theorem eqv_due {p q : Pg} {box : Str} {s : List Nat} : PyData.eqv (dueD p q box s) (dueD p q box s) = true := (eqv_pl pl_due pl_due).mpr rfl
theorem nat_mod {a b c k : Nat} : ((a : Int) * (k : Int) + (b : Int)) % (c : Int) = (((a * k + b) % c : Nat) : Int) := by
  rw [Int.natCast_emod, Int.natCast_add, Int.natCast_mul]
abbrev ansOf (p q : Pg) (box : Str) (s : List Nat) : D := .list ((ansL (putAfter p q box) s).map ansF)
abbrev notOf (p q : Pg) (box : Str) (s : List Nat) : Nat := cntOf (ends (putAfter p q box) (poe (putAfter p q box) 0 s)) .nothing
/-- a run by a number -/
theorem sum_cast : ∀ l : List (Nat × Nat), (l.map fun x => (x.2 : Int)).sum = ((l.map fun x => x.2).sum : Nat)
  | [] => rfl
  | x :: l => by rw [List.map_cons, List.map_cons, List.sum_cons, List.sum_cons, sum_cast l, Int.natCast_add]
theorem num72 {DD : DEn} {sc d1 : D} {ms : List Nat} {m : Nat} {bs : List Str} {p q : Pg} {wd : Bool} {box : Str} {s : List Nat} {y10 : D} {x12 x13 : Sl} (h : W72 m bs p q wd) (hb : box ∈ bs) (hs : StOk m bs s)
    (nx : ∀ (ms : List Nat) (x15 : Sl), nio x15 → DD.nx (S72 sc d1 ms m bs p q wd box (.sh y10) (.sh (stD s)) x12 x13 (.sh (dNat (runs (putAfter p q box) (poe (putAfter p q box) 0 s)).length)) x15)) :
    t_law_4 DD (S72 sc d1 ms m bs p q wd box (.sh y10) (.sh (stD s)) x12 x13 (.sh (dNat (runs (putAfter p q box) (poe (putAfter p q box) 0 s)).length)) .no) := by
  have hs' : StOk p.m p.bs s := by rw [h.pm, h.pb]; exact hs
  have gb := h.bg hb
  have pos := runs_pos gb _ (poe (putAfter p q box) 0 s) (Nat.le_refl _) (poe_ok (p := putAfter p q box) (r := 0) hs')
  generalize hN : (runs (putAfter p q box) (poe (putAfter p q box) 0 s)).length = N at *
  refine ⟨nd1, ms, rfl, fun n1 ms1 => ⟨.inr ⟨by decide, by decide⟩, nd1, ms1, rfl, fun n2 ms2 => ⟨by omega, ?_⟩⟩⟩
  refine ⟨trivial, ?_⟩
  show t_law_3 DD (S72 sc d1 ms2 m bs p q wd box (.sh y10) (.sh (stD s)) x12 x13 (.sh (dNat N)) (.sh (.int (((n1 : Int) * ((720720 : Nat) : Int) + (n2 : Int)) % (N : Int)))))
  rw [nat_mod]
  have hlt : (n1 * 720720 + n2) % N < N := Nat.mod_lt _ (by omega)
  generalize (n1 * 720720 + n2) % N = n at hlt
  have hget : (runs (putAfter p q box) (poe (putAfter p q box) 0 s))[n]? = some ((runs (putAfter p q box) (poe (putAfter p q box) 0 s))[n]'(by omega)) := List.getElem?_eq_getElem _
  generalize (runs (putAfter p q box) (poe (putAfter p q box) 0 s))[n]'(by omega) = cw at hget
  obtain ⟨c, w⟩ := cw
  refine ⟨nd0, putAfter p q box, s, n, rfl, ⟨gb, hs', h.fb box hb s hs, by rw [put_exact]; have := h.hl; omega⟩, c, w, hget, ?_⟩
  refine ⟨nd0, p, q, box, s, c, w, rfl, ⟨h.pg, h.qg, h.qm.trans h.pm.symm, h.qb.trans h.pb.symm, by rw [h.pb]; exact hb, gb, hs', List.mem_of_getElem? hget⟩, ?_⟩
  exact nx ms2 _ trivial
theorem told72 {DD : DEn} {sc d1 : D} {ms : List Nat} {m : Nat} {bs : List Str} {p q : Pg} {wd : Bool} {box : Str} {s : List Nat} {y10 : D} (h : W72 m bs p q wd) (hb : box ∈ bs) (hs : StOk m bs s)
    (nx : ∀ (ms : List Nat) (x14 x15 : Sl), nio x14 → nio x15 → DD.nx (S72 sc d1 ms m bs p q wd box (.sh y10) (.sh (stD s)) (.sh (ansOf p q box s)) (.sh (dNat (notOf p q box s))) x14 x15)) :
    t_law_6 DD (S72 sc d1 ms m bs p q wd box (.sh y10) (.sh (stD s)) (.sh (ansOf p q box s)) (.sh (dNat (notOf p q box s))) .no .no) := by
  have hs' : StOk p.m p.bs s := by rw [h.pm, h.pb]; exact hs
  have gb := h.bg hb
  have b35 : (putAfter p q box).rs.length ≤ 35 := by rw [put_exact]; have := h.hl; omega
  refine ⟨nd0, putAfter p q box, s, rfl, ⟨gb, hs', h.fb box hb s hs, b35⟩, trivial, ?_⟩
  have tl := runs_told gb hs'
  generalize hN : (runs (putAfter p q box) (poe (putAfter p q box) 0 s)).length = N at *
  have fin : t_law_4 DD (S72 sc d1 ms m bs p q wd box (.sh y10) (.sh (stD s)) (.sh (ansOf p q box s)) (.sh (dNat (notOf p q box s))) (.sh (dNat N)) .no) := by
    rw [← hN]
    exact num72 h hb hs fun ms x15 n15 => nx ms _ x15 trivial n15
  have hl : (ansL (putAfter p q box) s).length ≤ 16 := by
    have h1 := List.length_filter_le (fun x : Nat × Nat => decide (0 < x.2)) ((List.range p.m).map fun n => (n, cntOf (ends (putAfter p q box) (poe (putAfter p q box) 0 s)) (.gives n)))
    rw [List.length_map, List.length_range] at h1
    have h2 := h.pg.bx.m16
    exact Nat.le_trans h1 h2
  refine lc_vc (J := fun ds acc e => ∃ done left : List (Nat × Nat), ansL (putAfter p q box) s = done ++ left ∧ ds = left.map ansF ∧ acc = (done.map fun x => dNat x.2) ∧ e = [.sh sc, .sh d1, .io (nats ms), .sh (dNat m), .sh (bxD bs), .sh p.d, .sh q.d, .sh (.bool wd), .sh (.str box), .sh (putAfter p q box).d, .sh y10, .sh (stD s), .sh (ansOf p q box s), .sh (dNat (notOf p q box s)), .sh (dNat N), .no, .no, .no]) _ ⟨trivial, trivial, trivial⟩ rfl ⟨[], ansL (putAfter p q box) s, rfl, rfl, rfl, rfl⟩ ?_ ?_
  · rintro acc e ⟨done, left, hd, hl', rfl, rfl⟩
    have : left = [] := List.map_eq_nil_iff.mp hl'.symm
    subst this
    rw [List.append_nil] at hd
    subst hd
    refine ⟨S72 sc d1 ms m bs p q wd box (.sh y10) (.sh (stD s)) (.sh (ansOf p q box s)) (.sh (dNat (notOf p q box s))) (.sh (dNat N)) .no, rfl, (ansL (putAfter p q box) s).map (fun x => (x.2 : Int)), by rw [List.map_map]; rfl, ?_⟩
    have es : ((ansL (putAfter p q box) s).map fun x => (x.2 : Int)).sum = (((ansL (putAfter p q box) s).map fun x => x.2).sum : Nat) := sum_cast _
    rw [es]
    refine ⟨eqI, ite_vc (fun z => ?_) fun _ => fin⟩
    have z : (!PyData.eqv (dNat N) (.int ((notOf p q box s : Int) + ((((ansL (putAfter p q box) s).map fun x => x.2).sum : Nat) : Int)))) = true := z
    rw [nat_ac, ← tl] at z
    exact ne_self (by rw [eqv_int]; exact decide_eq_true rfl) z
  · rintro d ds acc e k hk ⟨done, left, hd, hl', rfl, rfl⟩
    cases left with
    | nil => cases hl'
    | cons x left =>
      have hl'' : d :: ds = ansF x :: left.map ansF := hl'
      injection hl'' with h1 h2
      subst h1 h2
      have hlen := congrArg List.length hd
      rw [List.length_append] at hlen
      refine ⟨trivial, trivial, trivial, by rw [List.length_map]; omega, hk _ _ ⟨done ++ [x], left, by rw [hd, List.append_assoc]; rfl, rfl, ?_, rfl⟩⟩
      rw [List.map_append]
      rfl
theorem store72 {DD : DEn} {sc d1 : D} {ms : List Nat} {m : Nat} {bs : List Str} {p q : Pg} {wd : Bool} {box : Str} {x10 : D} (h : W72 m bs p q wd) (hb : box ∈ bs)
    (nx : ∀ (ms : List Nat) (x11 x12 x13 x14 x15 : Sl), nio x11 → nio x12 → nio x13 → nio x14 → nio x15 → DD.nx (S72 sc d1 ms m bs p q wd box (.sh x10) x11 x12 x13 x14 x15)) :
    t_law_10 DD (S72 sc d1 ms m bs p q wd box (.sh x10) .no .no .no .no .no) := by
  have gb := h.bg hb
  refine ⟨nd1, ms, p, rfl, ⟨by have := h.pg.bx.m2; omega, by have := h.pg.bx.len; omega⟩, fun s ms2 hs' => ⟨trivial, ?_⟩⟩
  have hs : StOk m bs s := by rw [← h.pm, ← h.pb]; exact hs'
  have few := h.fb box hb s hs
  have b35 : (putAfter p q box).rs.length ≤ 35 := by rw [put_exact]; have := h.hl; omega
  refine ⟨nd0, p, q, box, s, rfl, h.nq hb hs, trivial, trivial, ?_⟩
  show t_law_8 DD (S72 sc d1 ms2 m bs p q wd box (.sh x10) (.sh (stD s)) (.sh (ansOf p q box s)) (.sh (dNat (notOf p q box s))) .no .no)
  have fin : t_law_7 DD (S72 sc d1 ms2 m bs p q wd box (.sh x10) (.sh (stD s)) (.sh (ansOf p q box s)) (.sh (dNat (notOf p q box s))) .no .no) := by
    refine ⟨nd0, putAfter p q box, s, rfl, ⟨gb, hs', few, b35⟩, eq_ans, ite_vc (fun z => ne_self eqv_ans z) fun _ => ?_⟩
    refine ⟨nd0, putAfter p q box, s, rfl, ⟨gb, hs', few, b35⟩, eqI, ite_vc (fun z => ne_self (by rw [eqv_int]; exact decide_eq_true rfl) z) fun _ => ?_⟩
    exact told72 h hb hs fun ms x14 x15 n14 n15 => nx ms _ _ _ x14 x15 trivial trivial trivial n14 n15
  cases wd with
  | true => exact fin
  | false =>
    refine ⟨nd0, p, q, box, s, rfl, ⟨h.nq hb hs, h.rn rfl s hs⟩, l2, eq_due, ite_vc (fun z => ne_self eqv_due z) fun _ => fin⟩
abbrev V72 : List Nat := [1, 2, 3, 4, 5, 6, 7, 8, 9]
theorem stores72 {DD : DEn} {ns : List Int} {d1 : D} {ms : List Nat} {m : Nat} {bs : List Str} {p q : Pg} {wd : Bool} {box : Str} (h : W72 m bs p q wd) (hb : box ∈ bs) (hn : ∀ e2, noIoS e2 V72 → wipeS e2 V72 = E72 ns → DD.nx e2) :
    t_law_11 DD (S72 (scrD (ns.map .int)) d1 ms m bs p q wd box .no .no .no .no .no .no) := by
  refine ⟨by decide, by decide, ?_⟩
  refine rng_vc (J := fun i e => ∃ ms, e = S72 (scrD (ns.map .int)) d1 ms m bs p q wd box .no .no .no .no .no .no) ⟨ms, rfl⟩ ?_ ?_
  · rintro e ⟨ms, rfl⟩
    exact hn _ ⟨trivial, trivial, trivial, trivial, trivial, trivial, trivial, trivial, trivial, trivial⟩ rfl
  · rintro i e kk hi hk ⟨ms, rfl⟩
    refine ⟨trivial, ?_⟩
    refine store72 h hb fun ms x11 x12 x13 x14 x15 n11 n12 n13 n14 n15 => ?_
    exact ⟨⟨trivial, ni rfl n11, ni rfl n12, ni rfl n13, ni rfl n14, ni rfl n15, trivial⟩, hk _ ⟨ms, rfl⟩⟩
theorem box72 {DD : DEn} {ns : List Int} {d1 : D} {ms : List Nat} {m : Nat} {bs : List Str} {p q : Pg} {wd : Bool} (h : W72 m bs p q wd) (hn : ∀ e2, noIoS e2 V72 → wipeS e2 V72 = E72 ns → DD.nx e2) :
    t_law_13 DD [.sh (scrD (ns.map .int)), .sh d1, .ow (nats ms), .sh (dNat m), .sh (bxD bs), .sh p.d, .sh q.d, .sh (.bool wd), .no, .no, .no, .no, .no, .no, .no, .no, .no, .no] := by
  have hbl : 0 < bs.length := List.length_pos_iff.mpr h.bx.ne
  have hp0 : (0 : Int) < ((bs.map PyData.str).length : Int) := by rw [List.length_map]; omega
  refine ⟨nd1, ms, rfl, fun n1 ms2 => ⟨hp0, ?_⟩⟩
  obtain ⟨x, hx, h1⟩ := pick_box hbl n1
  refine ⟨_, h1, trivial, ?_⟩
  refine ⟨nd0, p, q, x, rfl, ⟨h.pm.trans h.qm.symm, h.pb.trans h.qb.symm, by rw [h.pb]; exact hx, h.pg.bx, h.hl⟩, trivial, ?_⟩
  exact stores72 h hx hn
theorem cut2 {α : Type} {xs : List α} : cutD xs none (some 2) = xs.take 2 := by
  unfold cutD
  rw [HT.sIx_none, show (2 : Int) = ((2 : Nat) : Int) from rfl, HT.sIx_nat, List.drop_zero, Nat.sub_zero]
  by_cases h : 2 ≤ xs.length
  · rw [Nat.min_eq_left h]
  · rw [Nat.min_eq_right (by omega), List.take_of_length_le (Nat.le_refl _), List.take_of_length_le (by omega)]
theorem bx_wide {m : Nat} {bs : List Str} (h : BxOk m bs) : BxOk (2 + m % 4) (bs.take 2) :=
  ⟨by omega, by omega, h.nd.sublist (List.take_sublist _ _), fun z => by
    have := congrArg List.length z
    rw [List.length_take, List.length_nil] at this
    have := List.length_pos_iff.mpr h.ne
    omega, by rw [List.length_take]; omega, fun b hb => h.ok b (List.mem_of_mem_take hb)⟩
theorem body72 {DD : DEn} {ns : List Int} {i : Nat} (hn : ∀ e2, noIoS e2 V72 → wipeS e2 V72 = E72 ns → DD.nx e2) :
    t_law_19 DD [.sh (scrD (ns.map .int)), .sh (.int (0 + (i : Int))), .no, .no, .no, .no, .no, .no, .no, .no, .no, .no, .no, .no, .no, .no, .no, .no] := by
  refine ⟨nd0, ns, i, by rw [Int.zero_add], fun c => ?_⟩
  refine ⟨nd0, c, 960, rfl, by decide, fun ms => ⟨trivial, ?_⟩⟩
  refine ⟨nd1, ms, rfl, fun m bs ms2 hbx => ⟨trivial, trivial, ?_⟩⟩
  refine ⟨nd1, ms2, m, bs, 10, 10, rfl, ⟨hbx, by decide, by decide⟩, fun p ms3 e1 e2 hp => ⟨trivial, ?_⟩⟩
  refine ⟨nd1, ms3, m, bs, 6, 6, rfl, ⟨hbx, by decide, by decide⟩, fun q ms4 e3 e4 hq => ⟨trivial, ?_⟩⟩
  refine ⟨nd1, ms4, rfl, fun n ms5 => ⟨by show (0 : Int) < 2; decide, eqI, trivial, ?_⟩⟩
  show t_law_14 DD [.sh (scrD (ns.map .int)), .sh (.int (0 + (i : Int))), .ow (nats ms5), .sh (dNat m), .sh (bxD bs), .sh p.d, .sh q.d, .sh (.bool (PyData.eqv (.int ((n : Int) % 2)) (.int 1))), .no, .no, .no, .no, .no, .no, .no, .no, .no, .no]
  generalize PyData.eqv (.int ((n : Int) % 2)) (.int 1) = wd
  cases wd with
  | false => exact box72 (w72_small e1 e2 e3 e4 hp hq) hn
  | true =>
    refine ⟨by show (0 : Int) < 4; decide, trivial, trivial, ?_⟩
    have em : (2 : Int) + (m : Int) % 4 = ((2 + m % 4 : Nat) : Int) := by omega
    have eb : PyData.list (cutD (bs.map PyData.str) none (some 2)) = bxD (bs.take 2) := by rw [cut2]; unfold bxD; rw [List.map_take]
    show t_law_2 _ [.sh (scrD (ns.map .int)), .sh (.int (0 + (i : Int))), .ow (nats ms5), .sh (.int ((2 : Int) + (m : Int) % 4)), .sh (PyData.list (cutD (bs.map PyData.str) none (some 2))), .sh p.d, .sh q.d, .sh (.bool true), .no, .no, .no, .no, .no, .no, .no, .no, .no, .no]
    rw [em, eb]
    have hbx2 := bx_wide hbx
    refine ⟨nd1, ms5, 2 + m % 4, bs.take 2, 16, rfl, ⟨hbx2, by decide, by decide⟩, fun p2 ms6 hp2 => ⟨trivial, ?_⟩⟩
    refine ⟨nd1, ms6, 2 + m % 4, bs.take 2, 9, rfl, ⟨hbx2, by decide, by decide⟩, fun q2 ms7 hq2 => ⟨trivial, ?_⟩⟩
    exact box72 (w72_wide hbx2 (by omega) (by rw [List.length_take]; omega) hp2 hq2) hn
theorem vc_law (as Q E) (h : sp_law as Q E) : t_law (defEnds 1 Q) (start0 18 as) := by
  obtain ⟨ns, rfl, hQ⟩ := h
  have hb : mx2 1 (mn2 ((ns.map PyData.int).length : Int) 2) ≤ 2 ∧ 1 ≤ mx2 1 (mn2 ((ns.map PyData.int).length : Int) 2) := by
    unfold mx2 mn2
    constructor <;> (split <;> split <;> omega)
  refine ⟨by have := hb.1; omega, by have := hb.2; omega, ?_⟩
  refine rng_vc (J := fun i e => e = E72 ns) rfl ?_ ?_
  · rintro e rfl
    exact hQ
  · rintro i e kk hi hk rfl
    exact ⟨trivial, body72 fun e2 h1 h2 => ⟨h1, hk _ h2⟩⟩
end DL
namespace DL
open PySem PySem.Spec PyProof.Rows L2
def top (i : Nat) : Stmt := PySem.Challenge.pw_pickruns_k72_whole_counts_behind.main.body.getD i (.Pass ⟨0, 0, 0, 0⟩)
abbrev s__law_stir : Stmt := top 46
abbrev s__law_deck : Stmt := top 47
abbrev s__law_next : Stmt := top 48
abbrev s__law_boxes : Stmt := top 51
abbrev s__law_thing : Stmt := top 49
abbrev s__law_row : Stmt := top 50
abbrev s__law_program : Stmt := top 52
abbrev s_need_alike : Stmt := top 10
abbrev s_spots_behind : Stmt := top 11
abbrev s_copied_row : Stmt := top 14
abbrev s_skip_by : Stmt := top 12
abbrev s_row_anew : Stmt := top 13
abbrev s_put_after : Stmt := top 15
abbrev s__law_cell_at : Stmt := top 45
abbrev s__law_wide : Stmt := top 53
abbrev s__law_store : Stmt := top 54
abbrev s__law_worth : Stmt := top 55
abbrev s__law_set : Stmt := top 56
abbrev s__law_ways : Stmt := top 57
abbrev s__law_ended : Stmt := top 59
abbrev s__law_due_by_places : Stmt := top 60
abbrev s_is_whole : Stmt := top 18
abbrev s_need_store : Stmt := top 19
abbrev s_place_or_end : Stmt := top 22
abbrev s_begin_of : Stmt := top 23
abbrev s_is_place : Stmt := top 21
abbrev s_worth_in : Stmt := top 20
abbrev s_store_with : Stmt := top 24
abbrev s_stores_behind : Stmt := top 33
abbrev s_stores_by_rows : Stmt := top 34
abbrev s_ways_from : Stmt := top 25
abbrev s_counts_on : Stmt := top 35
abbrev s_ends_counted : Stmt := top 36
abbrev s_run_count : Stmt := top 41
abbrev s__law_gone : Stmt := top 61
abbrev s_is_pick : Stmt := top 26
abbrev s_walked : Stmt := top 27
abbrev s_end_of : Stmt := top 28
abbrev s__law_run_right : Stmt := top 62
abbrev s_count_nothing : Stmt := top 38
abbrev s_all_runs : Stmt := top 31
abbrev s_answer_counts : Stmt := top 37
abbrev s__law_left : Stmt := top 58
abbrev s__law_due : Stmt := top 63
abbrev s_runs_by : Stmt := top 40
abbrev s_run_led : Stmt := top 42
abbrev s_run_by_number : Stmt := top 43
abbrev s_law : Stmt := top 64
structure Top (P : Program) (w : World) (K : PySem.W.Frag) (mg : Str → Option Value) : Prop where
  b_bool : mg "bool" = none
  b_int : mg "int" = none
  b_isinstance : mg "isinstance" = none
  b_len : mg "len" = none
  b_list : mg "list" = none
  b_max : mg "max" = none
  b_min : mg "min" = none
  b_range : mg "range" = none
  b_sorted : mg "sorted" = none
  b_str : mg "str" = none
  b_sum : mg "sum" = none
  b_tuple : mg "tuple" = none
  i_MOST_ROWS : ∃ t, mg "MOST_ROWS" = some (.int 30 t)
  i_MOST_RUNS : ∃ t, mg "MOST_RUNS" = some (.int 2000 t)
  t_NOTHING : ∃ a, mg "NOTHING" = some (.ref a) ∧ ∀ F : Hp, Rp ⟨P, w, K⟩ F (.ref a) (.tuple d_NOTHING)
  s__law_stir : Stands K mg "_law_stir" s__law_stir
  s__law_deck : Stands K mg "_law_deck" s__law_deck
  s__law_next : Stands K mg "_law_next" s__law_next
  s__law_boxes : Stands K mg "_law_boxes" s__law_boxes
  s__law_thing : Stands K mg "_law_thing" s__law_thing
  s__law_row : Stands K mg "_law_row" s__law_row
  s__law_program : Stands K mg "_law_program" s__law_program
  s_need_alike : Stands K mg "need_alike" s_need_alike
  s_spots_behind : Stands K mg "spots_behind" s_spots_behind
  s_copied_row : Stands K mg "copied_row" s_copied_row
  s_skip_by : Stands K mg "skip_by" s_skip_by
  s_row_anew : Stands K mg "row_anew" s_row_anew
  s_put_after : Stands K mg "put_after" s_put_after
  s__law_cell_at : Stands K mg "_law_cell_at" s__law_cell_at
  s__law_wide : Stands K mg "_law_wide" s__law_wide
  s__law_store : Stands K mg "_law_store" s__law_store
  s__law_worth : Stands K mg "_law_worth" s__law_worth
  s__law_set : Stands K mg "_law_set" s__law_set
  s__law_ways : Stands K mg "_law_ways" s__law_ways
  s__law_ended : Stands K mg "_law_ended" s__law_ended
  s__law_due_by_places : Stands K mg "_law_due_by_places" s__law_due_by_places
  s_is_whole : Stands K mg "is_whole" s_is_whole
  s_need_store : Stands K mg "need_store" s_need_store
  s_place_or_end : Stands K mg "place_or_end" s_place_or_end
  s_begin_of : Stands K mg "begin_of" s_begin_of
  s_is_place : Stands K mg "is_place" s_is_place
  s_worth_in : Stands K mg "worth_in" s_worth_in
  s_store_with : Stands K mg "store_with" s_store_with
  s_stores_behind : Stands K mg "stores_behind" s_stores_behind
  s_stores_by_rows : Stands K mg "stores_by_rows" s_stores_by_rows
  s_ways_from : Stands K mg "ways_from" s_ways_from
  s_counts_on : Stands K mg "counts_on" s_counts_on
  s_ends_counted : Stands K mg "ends_counted" s_ends_counted
  s_run_count : Stands K mg "run_count" s_run_count
  s__law_gone : Stands K mg "_law_gone" s__law_gone
  s_is_pick : Stands K mg "is_pick" s_is_pick
  s_walked : Stands K mg "walked" s_walked
  s_end_of : Stands K mg "end_of" s_end_of
  s__law_run_right : Stands K mg "_law_run_right" s__law_run_right
  s_count_nothing : Stands K mg "count_nothing" s_count_nothing
  s_all_runs : Stands K mg "all_runs" s_all_runs
  s_answer_counts : Stands K mg "answer_counts" s_answer_counts
  s__law_left : Stands K mg "_law_left" s__law_left
  s__law_due : Stands K mg "_law_due" s__law_due
  s_runs_by : Stands K mg "runs_by" s_runs_by
  s_run_led : Stands K mg "run_led" s_run_led
  s_run_by_number : Stands K mg "run_by_number" s_run_by_number
  s_law : Stands K mg "law" s_law
section
variable {P : Program} {w : World} {K : PySem.W.Frag} {mg : Str → Option Value} {base : Heap}
theorem sc__law_stir : FnScope ["cell", "k", "one"] ["cell", "k"] (defScope s__law_stir) := ⟨rfl, rfl, rfl, by decide +kernel, rfl, by decide +kernel, by decide +kernel⟩
theorem c__law_stir (T : Top P w K mg) : Can P w K mg base 2 "_law_stir" ["cell", "k"] sp__law_stir :=
  can_of T.s__law_stir (fun f fd F => okD (k := 1) F sc__law_stir (by decide) (fun as Q E h => by obtain ⟨_, _, rfl, _⟩ := h; rfl) t__law_stir (fun cdv A outer s H E G hr => pdb_cons (pds_set (i := 2) sc__law_stir.nd rfl (by first | exact Or.inl rfl | exact Or.inr rfl) (pd_op op_mod od_I (pd_op op_mulU od_mul (pd_op op_addU od_add (pd_op op_addU od_add (pd_op op_mod od_I (pd_ref (pv 0)) (pd_int)) (pd_op op_mulU od_mul (pd_int) (pd_ref (pv 1)))) (pd_int)) (pd_int)) (pd_int))) (pdb_cons (pds_set (i := 2) sc__law_stir.nd rfl (by first | exact Or.inl rfl | exact Or.inr rfl) (pd_op op_mod od_I (pd_op op_mulU od_mul (pd_ref (pv 2)) (pd_ref (pv 2))) (pd_int))) (pdb_one (pds_ret (pd_op op_fdiv od_I (pd_op op_mod od_I (pd_op op_mulU od_mul (pd_op op_addU od_add (pd_ref (pv 2)) (pd_op op_mulU od_mul (pd_int) (pd_ref (pv 1)))) (pd_int)) (pd_int)) (pd_int)))))) vc__law_stir) (fun _ _ _ _ _ _ us hl => match us, hl with | [_, _], _ => rfl)
theorem sc__law_deck : FnScope ["cell", "many", "found", "digits", "k", "number"] ["cell", "many"] (defScope s__law_deck) := ⟨rfl, rfl, rfl, by decide +kernel, rfl, by decide +kernel, by decide +kernel⟩
theorem c__law_deck (T : Top P w K mg) (C__law_stir : Can P w K mg base 2 "_law_stir" ["cell", "k"] sp__law_stir) : Can P w K mg base 4 "_law_deck" ["cell", "many"] sp__law_deck :=
  can_of T.s__law_deck (fun f fd F => okD (k := 3) F sc__law_deck (by decide) (fun as Q E h => by obtain ⟨_, _, rfl, _⟩ := h; rfl) t__law_deck (fun cdv A outer s H E G hr => pdb_cons (pds_set (i := 2) sc__law_deck.nd rfl (by first | exact Or.inl rfl | exact Or.inr rfl) (pd_lst (pda_nil))) (pdb_cons (pds_set (i := 3) sc__law_deck.nd rfl (by first | exact Or.inl rfl | exact Or.inr rfl) (pd_val (pv 0))) (pdb_cons (pds_for PassesOwn.never rfl (pdi_range1 rfl T.b_range (pda_cons (pd_val (pv 1)) (pda_nil))) (pdg_name sc__law_deck.nd rfl (by first | exact Or.inl rfl | exact Or.inr rfl)) (pdb_cons (pds_set (i := 5) sc__law_deck.nd rfl (by first | exact Or.inl rfl | exact Or.inr rfl) (pd_can C__law_stir (hr.mono (by decide)) (pda_cons (pd_val (pv 0)) (pda_cons (pd_val (pv 4)) (pda_nil))))) (pdb_cons (pds_if (pdt_cmp (op_ge) od_B0 (pd_ref (pv 0)) (pd_op op_pow od_I (pd_int) (pd_int)) (nomark _)) (pdb_one (pds_set (i := 5) sc__law_deck.nd rfl (by first | exact Or.inl rfl | exact Or.inr rfl) (pd_op op_mod od_I (pd_ref (pv 3)) (pd_int)))) (pdb_nil)) (pdb_cons (pds_set (i := 3) sc__law_deck.nd rfl (by first | exact Or.inl rfl | exact Or.inr rfl) (pd_op op_fdiv od_I (pd_ref (pv 3)) (pd_int))) (pdb_one (pds_expr (pd_append (pv 2) (pd_val (pv 5))))))))) (pdb_one (pds_ret (pd_revL (pd_ref (pv 2)))))))) vc__law_deck) (fun _ _ _ _ _ _ us hl => match us, hl with | [_, _], _ => rfl)
theorem sc__law_next : FnScope ["deck"] ["deck"] (defScope s__law_next) := ⟨rfl, rfl, rfl, by decide +kernel, rfl, by decide +kernel, by decide +kernel⟩
theorem c__law_next (T : Top P w K mg) : Can P w K mg base 2 "_law_next" ["deck"] sp__law_next :=
  can_of T.s__law_next (fun f fd F => okD (k := 1) F sc__law_next (by decide) (fun as Q E h => by obtain ⟨_, rfl, _⟩ := h; rfl) t__law_next (fun cdv A outer s H E G hr => pdb_cons (pds_if (pdt_cmp (op_eqP hr.units) od_eq (pd_ref (pv 0)) (pd_lst (pda_nil)) (nomark _)) (pdb_one (pds_ret (pd_int))) (pdb_nil)) (pdb_one (pds_ret (pd_pop (pv 0))))) vc__law_next) (fun _ _ _ _ _ _ us hl => match us, hl with | [_], _ => rfl)
theorem sc__law_boxes : FnScope ["deck", "spare", "boxes", "k"] ["deck"] (defScope s__law_boxes) := ⟨rfl, rfl, rfl, by decide +kernel, rfl, by decide +kernel, by decide +kernel⟩
theorem c__law_boxes (T : Top P w K mg) (C__law_next : Can P w K mg base 2 "_law_next" ["deck"] sp__law_next) : Can P w K mg base 4 "_law_boxes" ["deck"] sp__law_boxes :=
  can_of T.s__law_boxes (fun f fd F => okD (k := 3) F sc__law_boxes (by decide) (fun as Q E h => by obtain ⟨_, rfl, _⟩ := h; rfl) t__law_boxes (fun cdv A outer s H E G hr => pdb_cons (pds_set (i := 1) sc__law_boxes.nd rfl (by first | exact Or.inl rfl | exact Or.inr rfl) (pd_lst (pda_cons (pd_str (by decide +kernel)) (pda_cons (pd_str (by decide +kernel)) (pda_cons (pd_str (by decide +kernel)) (pda_cons (pd_str (by decide +kernel)) (pda_cons (pd_str (by decide +kernel)) (pda_cons (pd_str (by decide +kernel)) (pda_cons (pd_str (by decide +kernel)) (pda_nil)))))))))) (pdb_cons (pds_setLc (i := 2) (own := [("k", 3)]) [] (by rfl) rfl sc__law_boxes.nd rfl rfl (sw_true rfl rfl rfl (by decide +kernel)) (pdi_range1 rfl T.b_range (pda_cons (pd_ix ix_seq od_ix (pd_lst (pda_cons (pd_int) (pda_cons (pd_int) (pda_cons (pd_int) (pda_cons (pd_int) (pda_cons (pd_int) (pda_nil))))))) (pd_op op_mod od_I (pd_can C__law_next (hr.mono (by decide)) (pda_cons (pd_ref (pv 0)) (pda_nil))) (pd_int)) (fun _ _ => rfl)) (pda_nil))) (blkOk_by (N := ["deck", "spare", "boxes", "k"]) (sc := defScope s__law_boxes) (by decide +kernel)) (fun _ _ _ _ _ _ => pdg_name sc__law_boxes.nd rfl (by first | exact Or.inl rfl | exact Or.inr rfl)) (fun _ _ _ _ _ _ => pdts_nil) (fun _ _ _ _ _ _ => pd_popAt (pv 1) (pd_op op_mod od_I (pd_can C__law_next (hr.mono (by decide)) (pda_cons (pd_ref (pv 0)) (pda_nil))) (pd_callB call_lenU cd_lenU rfl T.b_len boot_len (pda_cons (pd_ref (pv 1)) (pda_nil)))))) (pdb_one (pds_ret (pd_tup (pda_cons (pd_op op_addU od_add (pd_int) (pd_op op_mod od_I (pd_can C__law_next (hr.mono (by decide)) (pda_cons (pd_ref (pv 0)) (pda_nil))) (pd_int))) (pda_cons (pd_val (pv 2)) (pda_nil)))))))) vc__law_boxes) (fun _ _ _ _ _ _ us hl => match us, hl with | [_], _ => rfl)
theorem sc__law_thing : FnScope ["deck", "m", "boxes", "deep", "way", "word"] ["deck", "m", "boxes", "deep"] (defScope s__law_thing) := ⟨rfl, rfl, rfl, by decide +kernel, rfl, by decide +kernel, by decide +kernel⟩
theorem c__law_thing_step (T : Top P w K mg) (dm : Nat) (C__law_next : Can P w K mg base 2 "_law_next" ["deck"] sp__law_next) (C__law_thing : Can P w K mg base (3 + dm) "_law_thing" ["deck", "m", "boxes", "deep"] (sp__law_thing dm)) : Can P w K mg base (3 + dm + 1) "_law_thing" ["deck", "m", "boxes", "deep"] (sp__law_thing (dm + 1)) :=
  can_of T.s__law_thing (fun f fd F => okD (k := 3 + dm) F sc__law_thing (by decide) (fun as Q E h => by obtain ⟨_, _, _, _, rfl, _⟩ := h; rfl) (t__law_thing dm) (fun cdv A outer s H E G hr => pdb_cons (pds_set (i := 4) sc__law_thing.nd rfl (by first | exact Or.inl rfl | exact Or.inr rfl) (pd_op op_mod od_I (pd_can C__law_next (hr.mono (by omega)) (pda_cons (pd_ref (pv 0)) (pda_nil))) (pd_int))) (pdb_cons (pds_if (pdw_pt (pdw_or (pdt_cmp (op_lt) od_B0 (pd_ref (pv 3)) (pd_int) (nomark _)) (pdw_or1 (pdt_cmp (op_lt) od_B0 (pd_ref (pv 4)) (pd_int) (nomark _))))) (pdb_cons (pds_if (pdt_cmp (op_eqP hr.units) od_eq (pd_op op_mod od_I (pd_can C__law_next (hr.mono (by omega)) (pda_cons (pd_ref (pv 0)) (pda_nil))) (pd_int)) (pd_int) (nomark _)) (pdb_one (pds_ret (pd_tup (pda_cons (pd_str (by decide +kernel)) (pda_cons (pd_op op_mod od_I (pd_can C__law_next (hr.mono (by omega)) (pda_cons (pd_ref (pv 0)) (pda_nil))) (pd_ref (pv 1))) (pda_nil)))))) (pdb_nil)) (pdb_one (pds_ret (pd_tup (pda_cons (pd_str (by decide +kernel)) (pda_cons (pd_ix ix_seq od_ix (pd_ref (pv 2)) (pd_op op_mod od_I (pd_can C__law_next (hr.mono (by omega)) (pda_cons (pd_ref (pv 0)) (pda_nil))) (pd_callB call_lenU cd_lenU rfl T.b_len boot_len (pda_cons (pd_ref (pv 2)) (pda_nil)))) (fun _ _ => rfl)) (pda_nil))))))) (pdb_nil)) (pdb_cons (pds_set (i := 5) sc__law_thing.nd rfl (by first | exact Or.inl rfl | exact Or.inr rfl) (pd_ix ix_seq od_ix (pd_lst (pda_cons (pd_str (by decide +kernel)) (pda_cons (pd_str (by decide +kernel)) (pda_cons (pd_str (by decide +kernel)) (pda_cons (pd_str (by decide +kernel)) (pda_cons (pd_str (by decide +kernel)) (pda_cons (pd_str (by decide +kernel)) (pda_nil)))))))) (pd_op op_sub od_I0 (pd_ref (pv 4)) (pd_int)) (fun _ _ => rfl))) (pdb_one (pds_ret (pd_tup (pda_cons (pd_val (pv 5)) (pda_cons (pd_can C__law_thing hr (pda_cons (pd_ref (pv 0)) (pda_cons (pd_val (pv 1)) (pda_cons (pd_val (pv 2)) (pda_cons (pd_op op_sub od_I0 (pd_ref (pv 3)) (pd_int)) (pda_nil)))))) (pda_cons (pd_can C__law_thing hr (pda_cons (pd_ref (pv 0)) (pda_cons (pd_val (pv 1)) (pda_cons (pd_val (pv 2)) (pda_cons (pd_op op_sub od_I0 (pd_ref (pv 3)) (pd_int)) (pda_nil)))))) (pda_nil)))))))))) (vc__law_thing dm)) (fun _ _ _ _ _ _ us hl => match us, hl with | [_, _, _, _], _ => rfl)
theorem c__law_thing_all (T : Top P w K mg) (C__law_next : Can P w K mg base 2 "_law_next" ["deck"] sp__law_next) : ∀ dm : Nat, Can P w K mg base (3 + dm) "_law_thing" ["deck", "m", "boxes", "deep"] (sp__law_thing dm)
  | 0 => can_never (k := 2) T.s__law_thing sc__law_thing (no__law_thing) (fun _ _ _ _ _ _ us hl => match us, hl with | [_, _, _, _], _ => rfl)
  | dm + 1 => c__law_thing_step T dm C__law_next (c__law_thing_all T C__law_next dm)
theorem c__law_thing (T : Top P w K mg) (C__law_next : Can P w K mg base 2 "_law_next" ["deck"] sp__law_next) : Can P w K mg base 8 "_law_thing" ["deck", "m", "boxes", "deep"] (sp__law_thing 5) := c__law_thing_all T C__law_next 5
theorem sc__law_row : FnScope ["deck", "m", "boxes", "wide", "way", "thing", "many", "things", "k"] ["deck", "m", "boxes", "wide"] (defScope s__law_row) := ⟨rfl, rfl, rfl, by decide +kernel, rfl, by decide +kernel, by decide +kernel⟩
theorem c__law_row (T : Top P w K mg) (C__law_next : Can P w K mg base 2 "_law_next" ["deck"] sp__law_next) (C__law_thing : Can P w K mg base 8 "_law_thing" ["deck", "m", "boxes", "deep"] (sp__law_thing 5)) : Can P w K mg base 10 "_law_row" ["deck", "m", "boxes", "wide"] sp__law_row :=
  can_of T.s__law_row (fun f fd F => okD (k := 9) F sc__law_row (by decide) (fun as Q E h => by obtain ⟨_, _, _, _, rfl, _⟩ := h; rfl) t__law_row (fun cdv A outer s H E G hr => pdb_cons (pds_set (i := 4) sc__law_row.nd rfl (by first | exact Or.inl rfl | exact Or.inr rfl) (pd_op op_mod od_I (pd_can C__law_next (hr.mono (by decide)) (pda_cons (pd_ref (pv 0)) (pda_nil))) (pd_int))) (pdb_cons (pds_set (i := 5) sc__law_row.nd rfl (by first | exact Or.inl rfl | exact Or.inr rfl) (pd_can C__law_thing (hr.mono (by decide)) (pda_cons (pd_ref (pv 0)) (pda_cons (pd_val (pv 1)) (pda_cons (pd_val (pv 2)) (pda_cons (pd_ix ix_seq od_ix (pd_lst (pda_cons (pd_int) (pda_cons (pd_int) (pda_cons (pd_int) (pda_cons (pd_int) (pda_nil)))))) (pd_op op_mod od_I (pd_can C__law_next (hr.mono (by decide)) (pda_cons (pd_ref (pv 0)) (pda_nil))) (pd_int)) (fun _ _ => rfl)) (pda_nil))))))) (pdb_cons (pds_if (pdt_cmp (op_lt) od_B0 (pd_ref (pv 4)) (pd_int) (nomark _)) (pdb_one (pds_ret (pd_tup (pda_cons (pd_str (by decide +kernel)) (pda_cons (pd_ix ix_seq od_ix (pd_ref (pv 2)) (pd_op op_mod od_I (pd_can C__law_next (hr.mono (by decide)) (pda_cons (pd_ref (pv 0)) (pda_nil))) (pd_callB call_lenU cd_lenU rfl T.b_len boot_len (pda_cons (pd_ref (pv 2)) (pda_nil)))) (fun _ _ => rfl)) (pda_cons (pd_val (pv 5)) (pda_nil))))))) (pdb_nil)) (pdb_cons (pds_if (pdt_cmp (op_lt) od_B0 (pd_ref (pv 4)) (pd_int) (nomark _)) (pdb_cons (pds_set (i := 6) sc__law_row.nd rfl (by first | exact Or.inl rfl | exact Or.inr rfl) (pd_callB (call_min2 rfl) cd_MM rfl T.b_min (by decide +kernel) (pda_cons (pd_op op_addU od_add (pd_int) (pd_op op_mod od_I (pd_can C__law_next (hr.mono (by decide)) (pda_cons (pd_ref (pv 0)) (pda_nil))) (pd_int))) (pda_cons (pd_callB (call_max2 rfl) cd_MM rfl T.b_max (by decide +kernel) (pda_cons (pd_int) (pda_cons (pd_ref (pv 3)) (pda_nil)))) (pda_nil))))) (pdb_cons (pds_set (i := 7) sc__law_row.nd rfl (by first | exact Or.inl rfl | exact Or.inr rfl) (pd_op op_addU od_add (pd_lst (pda_cons (pd_val (pv 5)) (pda_nil))) (pd_lc (own := [("k", 8)]) [1, 2] (by rfl) rfl sc__law_row.nd (pdi_range1 rfl T.b_range (pda_cons (pd_op op_sub od_I0 (pd_ref (pv 6)) (pd_int)) (pda_nil))) (blkOk_by (N := ["deck", "m", "boxes", "wide", "way", "thing", "many", "things", "k"]) (sc := defScope s__law_row) (by decide +kernel)) (fun _ _ _ _ _ _ => pdg_name sc__law_row.nd rfl (by first | exact Or.inl rfl | exact Or.inr rfl)) (fun _ _ _ _ _ _ => pdts_nil) (fun _ _ _ _ _ _ => pd_can C__law_thing (hr.mono (by decide)) (pda_cons (pd_ref (pv 0)) (pda_cons (pd_val (pv 1)) (pda_cons (pd_val (pv 2)) (pda_cons (pd_op op_addU od_add (pd_int) (pd_op op_mod od_I (pd_can C__law_next (hr.mono (by decide)) (pda_cons (pd_ref (pv 0)) (pda_nil))) (pd_int))) (pda_nil))))))))) (pdb_one (pds_ret (pd_tup (pda_cons (pd_str (by decide +kernel)) (pda_cons (pd_ix ix_seq od_ix (pd_ref (pv 2)) (pd_op op_mod od_I (pd_can C__law_next (hr.mono (by decide)) (pda_cons (pd_ref (pv 0)) (pda_nil))) (pd_callB call_lenU cd_lenU rfl T.b_len boot_len (pda_cons (pd_ref (pv 2)) (pda_nil)))) (fun _ _ => rfl)) (pda_cons (pd_val (pv 7)) (pda_nil))))))))) (pdb_nil)) (pdb_cons (pds_if (pdt_cmp (op_eqP hr.units) od_eq (pd_ref (pv 4)) (pd_int) (nomark _)) (pdb_one (pds_ret (pd_tup (pda_cons (pd_str (by decide +kernel)) (pda_cons (pd_val (pv 5)) (pda_nil)))))) (pdb_nil)) (pdb_cons (pds_if (pdt_cmp (op_eqP hr.units) od_eq (pd_ref (pv 4)) (pd_int) (nomark _)) (pdb_one (pds_ret (pd_tup (pda_cons (pd_str (by decide +kernel)) (pda_cons (pd_val (pv 5)) (pda_cons (pd_op op_addU od_add (pd_int) (pd_op op_mod od_I (pd_can C__law_next (hr.mono (by decide)) (pda_cons (pd_ref (pv 0)) (pda_nil))) (pd_ix ix_seq od_ix (pd_lst (pda_cons (pd_int) (pda_cons (pd_int) (pda_cons (pd_int) (pda_nil))))) (pd_op op_mod od_I (pd_can C__law_next (hr.mono (by decide)) (pda_cons (pd_ref (pv 0)) (pda_nil))) (pd_int)) (fun _ _ => rfl)))) (pda_nil))))))) (pdb_nil)) (pdb_one (pds_ret (pd_tup (pda_cons (pd_str (by decide +kernel)) (pda_cons (pd_val (pv 5)) (pda_nil)))))))))))) vc__law_row) (fun _ _ _ _ _ _ us hl => match us, hl with | [_, _, _, _], _ => rfl)
theorem sc__law_program : FnScope ["deck", "m", "boxes", "most", "wide", "rows", "k", "row"] ["deck", "m", "boxes", "most", "wide"] (defScope s__law_program) := ⟨rfl, rfl, rfl, by decide +kernel, rfl, by decide +kernel, by decide +kernel⟩
theorem c__law_program (T : Top P w K mg) (C__law_next : Can P w K mg base 2 "_law_next" ["deck"] sp__law_next) (C__law_row : Can P w K mg base 10 "_law_row" ["deck", "m", "boxes", "wide"] sp__law_row) : Can P w K mg base 12 "_law_program" ["deck", "m", "boxes", "most", "wide"] sp__law_program :=
  can_of T.s__law_program (fun f fd F => okD (k := 11) F sc__law_program (by decide) (fun as Q E h => by obtain ⟨_, _, _, _, _, rfl, _⟩ := h; rfl) t__law_program (fun cdv A outer s H E G hr => pdb_cons (pds_set (i := 5) sc__law_program.nd rfl (by first | exact Or.inl rfl | exact Or.inr rfl) (pd_lst (pda_nil))) (pdb_cons (pds_for PassesOwn.never rfl (pdi_range1 rfl T.b_range (pda_cons (pd_op op_mod od_I (pd_can C__law_next (hr.mono (by decide)) (pda_cons (pd_ref (pv 0)) (pda_nil))) (pd_op op_addU od_add (pd_ref (pv 3)) (pd_int))) (pda_nil))) (pdg_name sc__law_program.nd rfl (by first | exact Or.inl rfl | exact Or.inr rfl)) (pdb_cons (pds_set (i := 7) sc__law_program.nd rfl (by first | exact Or.inl rfl | exact Or.inr rfl) (pd_can C__law_row (hr.mono (by decide)) (pda_cons (pd_ref (pv 0)) (pda_cons (pd_val (pv 1)) (pda_cons (pd_val (pv 2)) (pda_cons (pd_val (pv 4)) (pda_nil))))))) (pdb_cons (pds_if (pdt_cmp (op_eqP hr.units) od_eq (pd_ix ix_seq od_ix (pd_ref (pv 7)) (pd_int) (fun _ _ => rfl)) (pd_str (by decide +kernel)) (nomark _)) (pdb_one (pds_set (i := 4) sc__law_program.nd rfl (by first | exact Or.inl rfl | exact Or.inr rfl) (pd_op op_fdiv od_I (pd_ref (pv 4)) (pd_callB call_lenU cd_lenU rfl T.b_len boot_len (pda_cons (pd_ix ix_seq od_ix (pd_ref (pv 7)) (pd_int) (fun _ _ => rfl)) (pda_nil)))))) (pdb_nil)) (pdb_cons (pds_if (pdw_pt (pdw_and (pdt_cmp (op_eqP hr.units) od_eq (pd_ix ix_seq od_ix (pd_ref (pv 7)) (pd_int) (fun _ _ => rfl)) (pd_str (by decide +kernel)) (nomark _)) (pdw_and (pdt_cmp (op_lt) od_B0 (pd_ref (pv 6)) (pd_int) (nomark _)) (pdw_and1 (pdt_cmp (op_gt) od_B0 (pd_op op_mod od_I (pd_can C__law_next (hr.mono (by decide)) (pda_cons (pd_ref (pv 0)) (pda_nil))) (pd_int)) (pd_int) (nomark _)))))) (pdb_one (pds_set (i := 7) sc__law_program.nd rfl (by first | exact Or.inl rfl | exact Or.inr rfl) (pd_tup (pda_cons (pd_str (by decide +kernel)) (pda_cons (pd_ix ix_seq od_ix (pd_ref (pv 2)) (pd_int) (fun _ _ => rfl)) (pda_cons (pd_ix ix_seq od_ix (pd_ref (pv 7)) (pd_int) (fun _ _ => rfl)) (pda_nil))))))) (pdb_nil)) (pdb_one (pds_expr (pd_append (pv 5) (pd_val (pv 7))))))))) (pdb_one (pds_ret (pd_tup (pda_cons (pd_val (pv 1)) (pda_cons (pd_callTy (call_listU rfl) cd_listU rfl T.b_list (by decide +kernel) (pda_cons (pd_ref (pv 2)) (pda_nil))) (pda_cons (pd_val (pv 5)) (pda_nil))))))))) vc__law_program) (fun _ _ _ _ _ _ us hl => match us, hl with | [_, _, _, _, _], _ => rfl)
theorem sc_need_alike : FnScope ["one", "other"] ["one", "other"] (defScope s_need_alike) := ⟨rfl, rfl, rfl, by decide +kernel, rfl, by decide +kernel, by decide +kernel⟩
theorem c_need_alike (T : Top P w K mg) : Can P w K mg base 2 "need_alike" ["one", "other"] sp_need_alike :=
  can_of T.s_need_alike (fun f fd F => okD (k := 1) F sc_need_alike (by decide) (fun as Q E h => by obtain ⟨_, _, rfl, _⟩ := h; rfl) t_need_alike (fun cdv A outer s H E G hr => pdb_one (pds_if (pdw_pt (pdw_or (pdt_cmp (op_neP hr.units) od_ne (pd_ix ix_seq od_ix (pd_ref (pv 0)) (pd_int) (fun _ _ => rfl)) (pd_ix ix_seq od_ix (pd_ref (pv 1)) (pd_int) (fun _ _ => rfl)) (nomark _)) (pdw_or1 (pdt_cmp (op_neP hr.units) od_ne (pd_ix ix_seq od_ix (pd_ref (pv 0)) (pd_int) (fun _ _ => rfl)) (pd_ix ix_seq od_ix (pd_ref (pv 1)) (pd_int) (fun _ _ => rfl)) (nomark _))))) (pdb_one (pds_never)) (pdb_nil))) vc_need_alike) (fun _ _ _ _ _ _ us hl => match us, hl with | [_, _], _ => rfl)
theorem sc_spots_behind : FnScope ["rows", "found", "row"] ["rows"] (defScope s_spots_behind) := ⟨rfl, rfl, rfl, by decide +kernel, rfl, by decide +kernel, by decide +kernel⟩
theorem c_spots_behind (T : Top P w K mg) : Can P w K mg base 2 "spots_behind" ["rows"] sp_spots_behind :=
  can_of T.s_spots_behind (fun f fd F => okD (k := 1) F sc_spots_behind (by decide) (fun as Q E h => by obtain ⟨_, rfl, _⟩ := h; rfl) t_spots_behind (fun cdv A outer s H E G hr => pdb_cons (pds_set (i := 1) sc_spots_behind.nd rfl (by first | exact Or.inl rfl | exact Or.inr rfl) (pd_lst (pda_cons (pd_int) (pda_nil)))) (pdb_cons (pds_for PassesOwn.never rfl (pdi_seq (pd_val (pv 0))) (pdg_name sc_spots_behind.nd rfl (by first | exact Or.inl rfl | exact Or.inr rfl)) (pdb_one (pds_expr (pd_append (pv 1) (pd_op op_addU od_add (pd_op op_addU od_add (pd_ix ix_seq od_ix (pd_ref (pv 1)) (pd_neg (pd_int)) (fun _ _ => rfl)) (pd_int)) (pd_callTy call_int1 cd_int1 rfl T.b_int (by decide +kernel) (pda_cons (pd_cmp (op_eqP hr.units) od_eq (pd_ix ix_seq od_ix (pd_ref (pv 2)) (pd_int) (fun _ _ => rfl)) (pd_str (by decide +kernel)) (nomark _)) (pda_nil)))))))) (pdb_one (pds_ret (pd_mov (pv 1)))))) vc_spots_behind) (fun _ _ _ _ _ _ us hl => match us, hl with | [_], _ => rfl)
theorem sc_copied_row : FnScope ["row"] ["row"] (defScope s_copied_row) := ⟨rfl, rfl, rfl, by decide +kernel, rfl, by decide +kernel, by decide +kernel⟩
theorem c_copied_row (T : Top P w K mg) : Can P w K mg base 2 "copied_row" ["row"] sp_copied_row :=
  can_of T.s_copied_row (fun f fd F => okD (k := 1) F sc_copied_row (by decide) (fun as Q E h => by obtain ⟨_, rfl, _⟩ := h; rfl) t_copied_row (fun cdv A outer s H E G hr => pdb_cons (pds_if (pdt_cmp (op_eqP hr.units) od_eq (pd_ix ix_seq od_ix (pd_ref (pv 0)) (pd_int) (fun _ _ => rfl)) (pd_str (by decide +kernel)) (nomark _)) (pdb_one (pds_ret (pd_tup (pda_cons (pd_str (by decide +kernel)) (pda_cons (pd_ix ix_seq od_ix (pd_ref (pv 0)) (pd_int) (fun _ _ => rfl)) (pda_cons (pd_callTy (call_listU rfl) cd_listU rfl T.b_list (by decide +kernel) (pda_cons (pd_ix ix_seq od_ix (pd_ref (pv 0)) (pd_int) (fun _ _ => rfl)) (pda_nil))) (pda_nil))))))) (pdb_nil)) (pdb_one (pds_ret (pd_mov (pv 0))))) vc_copied_row) (fun _ _ _ _ _ _ us hl => match us, hl with | [_], _ => rfl)
theorem sc_skip_by : FnScope ["thing", "many", "boxes"] ["thing", "many", "boxes"] (defScope s_skip_by) := ⟨rfl, rfl, rfl, by decide +kernel, rfl, by decide +kernel, by decide +kernel⟩
theorem c_skip_by (T : Top P w K mg) : Can P w K mg base 2 "skip_by" ["thing", "many", "boxes"] sp_skip_by :=
  can_of T.s_skip_by (fun f fd F => okD (k := 1) F sc_skip_by (by decide) (fun as Q E h => by obtain ⟨_, _, _, rfl, _⟩ := h; rfl) t_skip_by (fun cdv A outer s H E G hr => pdb_cons (pds_if (pdt_cmp (op_eqP hr.units) od_eq (pd_ref (pv 1)) (pd_int) (nomark _)) (pdb_one (pds_ret (pd_tup (pda_cons (pd_str (by decide +kernel)) (pda_cons (pd_ix ix_seq od_ix (pd_ref (pv 2)) (pd_int) (fun _ _ => rfl)) (pda_cons (pd_tup (pda_cons (pd_str (by decide +kernel)) (pda_cons (pd_ix ix_seq od_ix (pd_ref (pv 2)) (pd_int) (fun _ _ => rfl)) (pda_nil)))) (pda_nil))))))) (pdb_nil)) (pdb_one (pds_ret (pd_tup (pda_cons (pd_str (by decide +kernel)) (pda_cons (pd_val (pv 0)) (pda_cons (pd_val (pv 1)) (pda_nil)))))))) vc_skip_by) (fun _ _ _ _ _ _ us hl => match us, hl with | [_, _, _], _ => rfl)
theorem sc_row_anew : FnScope ["rows", "at", "spots", "box", "boxes", "row", "last"] ["rows", "at", "spots", "box", "boxes"] (defScope s_row_anew) := ⟨rfl, rfl, rfl, by decide +kernel, rfl, by decide +kernel, by decide +kernel⟩
theorem c_row_anew (T : Top P w K mg) (C_skip_by : Can P w K mg base 2 "skip_by" ["thing", "many", "boxes"] sp_skip_by) (C_copied_row : Can P w K mg base 2 "copied_row" ["row"] sp_copied_row) : Can P w K mg base 4 "row_anew" ["rows", "at", "spots", "box", "boxes"] sp_row_anew :=
  can_of T.s_row_anew (fun f fd F => okD (k := 3) F sc_row_anew (by decide) (fun as Q E h => by obtain ⟨_, _, _, _, rfl, _⟩ := h; rfl) t_row_anew (fun cdv A outer s H E G hr => pdb_cons (pds_set (i := 5) sc_row_anew.nd rfl (by first | exact Or.inl rfl | exact Or.inr rfl) (pd_ix ix_seq od_ix (pd_ref (pv 0)) (pd_val (pv 1)) (fun _ _ => rfl))) (pdb_cons (pds_set (i := 6) sc_row_anew.nd rfl (by first | exact Or.inl rfl | exact Or.inr rfl) (pd_ix ix_seq od_ix (pd_ref (pv 2)) (pd_neg (pd_int)) (fun _ _ => rfl))) (pdb_cons (pds_if (pdt_cmp (op_eqP hr.units) od_eq (pd_ix ix_seq od_ix (pd_ref (pv 5)) (pd_int) (fun _ _ => rfl)) (pd_str (by decide +kernel)) (nomark _)) (pdb_one (pds_ret (pd_lst (pda_cons (pd_tup (pda_cons (pd_str (by decide +kernel)) (pda_cons (pd_val (pv 3)) (pda_cons (pd_ix ix_seq od_ix (pd_ref (pv 5)) (pd_int) (fun _ _ => rfl)) (pda_nil))))) (pda_cons (pd_tup (pda_cons (pd_str (by decide +kernel)) (pda_cons (pd_tup (pda_cons (pd_str (by decide +kernel)) (pda_cons (pd_int) (pda_nil)))) (pda_cons (pd_op op_sub od_I0 (pd_op op_sub od_I0 (pd_ref (pv 6)) (pd_ix ix_seq od_ix (pd_ref (pv 2)) (pd_val (pv 1)) (fun _ _ => rfl))) (pd_int)) (pda_nil))))) (pda_nil)))))) (pdb_nil)) (pdb_cons (pds_if (pdt_cmp (op_eqP hr.units) od_eq (pd_ix ix_seq od_ix (pd_ref (pv 5)) (pd_int) (fun _ _ => rfl)) (pd_str (by decide +kernel)) (nomark _)) (pdb_one (pds_ret (pd_lst (pda_cons (pd_can C_skip_by (hr.mono (by decide)) (pda_cons (pd_ix ix_seq od_ix (pd_ref (pv 5)) (pd_int) (fun _ _ => rfl)) (pda_cons (pd_op op_sub od_I0 (pd_op op_sub od_I0 (pd_ix ix_seq od_ix (pd_ref (pv 2)) (pd_callB (call_min2 rfl) cd_MM rfl T.b_min (by decide +kernel) (pda_cons (pd_op op_addU od_add (pd_op op_addU od_add (pd_ref (pv 1)) (pd_int)) (pd_ix ix_seq od_ix (pd_ref (pv 5)) (pd_int) (fun _ _ => rfl))) (pda_cons (pd_callB call_lenU cd_lenU rfl T.b_len boot_len (pda_cons (pd_ref (pv 0)) (pda_nil))) (pda_nil)))) (fun _ _ => rfl)) (pd_ix ix_seq od_ix (pd_ref (pv 2)) (pd_val (pv 1)) (fun _ _ => rfl))) (pd_int)) (pda_cons (pd_val (pv 4)) (pda_nil))))) (pda_nil))))) (pdb_nil)) (pdb_one (pds_ret (pd_lst (pda_cons (pd_can C_copied_row (hr.mono (by decide)) (pda_cons (pd_val (pv 5)) (pda_nil))) (pda_nil))))))))) vc_row_anew) (fun _ _ _ _ _ _ us hl => match us, hl with | [_, _, _, _, _], _ => rfl)
theorem sc_put_after : FnScope ["one", "other", "box", "spots", "rows", "at", "row"] ["one", "other", "box"] (defScope s_put_after) := ⟨rfl, rfl, rfl, by decide +kernel, rfl, by decide +kernel, by decide +kernel⟩
theorem c_put_after (T : Top P w K mg) (C_need_alike : Can P w K mg base 2 "need_alike" ["one", "other"] sp_need_alike) (C_spots_behind : Can P w K mg base 2 "spots_behind" ["rows"] sp_spots_behind) (C_row_anew : Can P w K mg base 4 "row_anew" ["rows", "at", "spots", "box", "boxes"] sp_row_anew) (C_copied_row : Can P w K mg base 2 "copied_row" ["row"] sp_copied_row) : Can P w K mg base 6 "put_after" ["one", "other", "box"] sp_put_after :=
  can_of T.s_put_after (fun f fd F => okD (k := 5) F sc_put_after (by decide) (fun as Q E h => by obtain ⟨_, _, _, rfl, _⟩ := h; rfl) t_put_after (fun cdv A outer s H E G hr => pdb_cons (pds_expr (pd_can C_need_alike (hr.mono (by decide)) (pda_cons (pd_val (pv 0)) (pda_cons (pd_val (pv 1)) (pda_nil))))) (pdb_cons (pds_if (pdw_pt (pdw_or (pdt_not (pdt_val (pd_isi rfl T.b_isinstance (pd_ref (pv 2)) (pe_bltn rfl T.b_str (by decide +kernel) (v := .ty "str") rfl)))) (pdw_or1 (pdt_cmp (op_notInU) od_in (pd_ref (pv 2)) (pd_ix ix_seq od_ix (pd_ref (pv 0)) (pd_int) (fun _ _ => rfl)) (by rfl))))) (pdb_one (pds_never)) (pdb_nil)) (pdb_cons (pds_set (i := 3) sc_put_after.nd rfl (by first | exact Or.inl rfl | exact Or.inr rfl) (pd_can C_spots_behind (hr.mono (by decide)) (pda_cons (pd_ix ix_seq od_ix (pd_ref (pv 0)) (pd_int) (fun _ _ => rfl)) (pda_nil)))) (pdb_cons (pds_if (pdt_cmp (op_gt) od_B0 (pd_op op_addU od_add (pd_op op_addU od_add (pd_ix ix_seq od_ix (pd_ref (pv 3)) (pd_neg (pd_int)) (fun _ _ => rfl)) (pd_int)) (pd_callB call_lenU cd_lenU rfl T.b_len boot_len (pda_cons (pd_ix ix_seq od_ix (pd_ref (pv 1)) (pd_int) (fun _ _ => rfl)) (pda_nil)))) (pd_gi T.i_MOST_ROWS) (nomark _)) (pdb_one (pds_never)) (pdb_nil)) (pdb_cons (pds_set (i := 4) sc_put_after.nd rfl (by first | exact Or.inl rfl | exact Or.inr rfl) (pd_lst (pda_nil))) (pdb_cons (pds_for PassesOwn.never rfl (pdi_range1 rfl T.b_range (pda_cons (pd_callB call_lenU cd_lenU rfl T.b_len boot_len (pda_cons (pd_ix ix_seq od_ix (pd_ref (pv 0)) (pd_int) (fun _ _ => rfl)) (pda_nil))) (pda_nil))) (pdg_name sc_put_after.nd rfl (by first | exact Or.inl rfl | exact Or.inr rfl)) (pdb_one (pds_expr (pd_extend (pv 4) (pd_can C_row_anew (hr.mono (by decide)) (pda_cons (pd_ix ix_seq od_ix (pd_ref (pv 0)) (pd_int) (fun _ _ => rfl)) (pda_cons (pd_val (pv 5)) (pda_cons (pd_val (pv 3)) (pda_cons (pd_val (pv 2)) (pda_cons (pd_ix ix_seq od_ix (pd_ref (pv 0)) (pd_int) (fun _ _ => rfl)) (pda_nil))))))))))) (pdb_cons (pds_expr (pd_append (pv 4) (pd_tup (pda_cons (pd_str (by decide +kernel)) (pda_cons (pd_tup (pda_cons (pd_str (by decide +kernel)) (pda_cons (pd_int) (pda_nil)))) (pda_nil)))))) (pdb_one (pds_ret (pd_tup (pda_cons (pd_ix ix_seq od_ix (pd_ref (pv 0)) (pd_int) (fun _ _ => rfl)) (pda_cons (pd_callTy (call_listU rfl) cd_listU rfl T.b_list (by decide +kernel) (pda_cons (pd_ix ix_seq od_ix (pd_ref (pv 0)) (pd_int) (fun _ _ => rfl)) (pda_nil))) (pda_cons (pd_op op_addU od_add (pd_ref (pv 4)) (pd_lc (own := [("row", 6)]) [] (by rfl) rfl sc_put_after.nd (pdi_seq (pd_ix ix_seq od_ix (pd_ref (pv 1)) (pd_int) (fun _ _ => rfl))) (blkOk_by (N := ["one", "other", "box", "spots", "rows", "at", "row"]) (sc := defScope s_put_after) (by decide +kernel)) (fun _ _ _ _ _ _ => pdg_name sc_put_after.nd rfl (by first | exact Or.inl rfl | exact Or.inr rfl)) (fun _ _ _ _ _ _ => pdts_nil) (fun _ _ _ _ _ _ => pd_can C_copied_row (hr.mono (by decide)) (pda_cons (pd_val (pv 6)) (pda_nil))))) (pda_nil)))))))))))))) vc_put_after) (fun _ _ _ _ _ _ us hl => match us, hl with | [_, _, _], _ => rfl)
theorem sc__law_cell_at : FnScope ["script", "k"] ["script", "k"] (defScope s__law_cell_at) := ⟨rfl, rfl, rfl, by decide +kernel, rfl, by decide +kernel, by decide +kernel⟩
theorem c__law_cell_at (T : Top P w K mg) : Can P w K mg base 2 "_law_cell_at" ["script", "k"] sp__law_cell_at :=
  can_of T.s__law_cell_at (fun f fd F => okD (k := 1) F sc__law_cell_at (by decide) (fun as Q E h => by obtain ⟨_, _, rfl, _⟩ := h; rfl) t__law_cell_at (fun cdv A outer s H E G hr => pdb_cons (pds_if (pdt_cmp (op_lt) od_B0 (pd_ref (pv 1)) (pd_callB call_lenU cd_lenU rfl T.b_len boot_len (pda_cons (pd_ref (pv 0)) (pda_nil))) (nomark _)) (pdb_one (pds_ret (pd_ix ix_seq od_ix (pd_ref (pv 0)) (pd_val (pv 1)) (fun _ _ => rfl)))) (pdb_nil)) (pdb_one (pds_ret (pd_int)))) vc__law_cell_at) (fun _ _ _ _ _ _ us hl => match us, hl with | [_, _], _ => rfl)
theorem sc__law_wide : FnScope ["deck", "m", "boxes", "most", "rows", "gives", "k", "way", "things", "box", "row", "j"] ["deck", "m", "boxes", "most"] (defScope s__law_wide) := ⟨rfl, rfl, rfl, by decide +kernel, rfl, by decide +kernel, by decide +kernel⟩
theorem c__law_wide (T : Top P w K mg) (C__law_next : Can P w K mg base 2 "_law_next" ["deck"] sp__law_next) (C__law_thing : Can P w K mg base 8 "_law_thing" ["deck", "m", "boxes", "deep"] (sp__law_thing 5)) : Can P w K mg base 10 "_law_wide" ["deck", "m", "boxes", "most"] sp__law_wide :=
  can_of T.s__law_wide (fun f fd F => okD (k := 9) F sc__law_wide (by decide) (fun as Q E h => by obtain ⟨_, _, _, _, rfl, _⟩ := h; rfl) t__law_wide (fun cdv A outer s H E G hr => pdb_cons (pds_set (i := 4) sc__law_wide.nd rfl (by first | exact Or.inl rfl | exact Or.inr rfl) (pd_lst (pda_nil))) (pdb_cons (pds_set (i := 5) sc__law_wide.nd rfl (by first | exact Or.inl rfl | exact Or.inr rfl) (pd_int)) (pdb_cons (pds_for PassesOwn.never rfl (pdi_range1 rfl T.b_range (pda_cons (pd_op op_mod od_I (pd_can C__law_next (hr.mono (by decide)) (pda_cons (pd_ref (pv 0)) (pda_nil))) (pd_ref (pv 3))) (pda_nil))) (pdg_name sc__law_wide.nd rfl (by first | exact Or.inl rfl | exact Or.inr rfl)) (pdb_wipe [6, 7, 8, 9, 10] (pdb_cons (pds_set (i := 7) sc__law_wide.nd rfl (by first | exact Or.inl rfl | exact Or.inr rfl) (pd_op op_mod od_I (pd_can C__law_next (hr.mono (by decide)) (pda_cons (pd_ref (pv 0)) (pda_nil))) (pd_int))) (pdb_cons (pds_setLc (i := 8) (own := [("j", 11)]) [1, 2] (by rfl) rfl sc__law_wide.nd rfl rfl (sw_true rfl rfl rfl (by decide +kernel)) (pdi_range1 rfl T.b_range (pda_cons (pd_op op_addU od_add (pd_int) (pd_op op_mod od_I (pd_can C__law_next (hr.mono (by decide)) (pda_cons (pd_ref (pv 0)) (pda_nil))) (pd_int))) (pda_nil))) (blkOk_by (N := ["deck", "m", "boxes", "most", "rows", "gives", "k", "way", "things", "box", "row", "j"]) (sc := defScope s__law_wide) (by decide +kernel)) (fun _ _ _ _ _ _ => pdg_name sc__law_wide.nd rfl (by first | exact Or.inl rfl | exact Or.inr rfl)) (fun _ _ _ _ _ _ => pdts_nil) (fun _ _ _ _ _ _ => pd_can C__law_thing (hr.mono (by decide)) (pda_cons (pd_ref (pv 0)) (pda_cons (pd_val (pv 1)) (pda_cons (pd_val (pv 2)) (pda_cons (pd_op op_addU od_add (pd_int) (pd_op op_mod od_I (pd_can C__law_next (hr.mono (by decide)) (pda_cons (pd_ref (pv 0)) (pda_nil))) (pd_int))) (pda_nil))))))) (pdb_cons (pds_set (i := 9) sc__law_wide.nd rfl (by first | exact Or.inl rfl | exact Or.inr rfl) (pd_ix ix_seq od_ix (pd_ref (pv 2)) (pd_op op_mod od_I (pd_can C__law_next (hr.mono (by decide)) (pda_cons (pd_ref (pv 0)) (pda_nil))) (pd_callB call_lenU cd_lenU rfl T.b_len boot_len (pda_cons (pd_ref (pv 2)) (pda_nil)))) (fun _ _ => rfl))) (pdb_cons (pds_set (i := 10) sc__law_wide.nd rfl (by first | exact Or.inl rfl | exact Or.inr rfl) (pd_tup (pda_cons (pd_str (by decide +kernel)) (pda_cons (pd_val (pv 9)) (pda_cons (pd_val (pv 8)) (pda_nil)))))) (pdb_cons (pds_if (pdt_cmp (op_eqP hr.units) od_eq (pd_ref (pv 7)) (pd_int) (nomark _)) (pdb_one (pds_set (i := 10) sc__law_wide.nd rfl (by first | exact Or.inl rfl | exact Or.inr rfl) (pd_tup (pda_cons (pd_str (by decide +kernel)) (pda_cons (pd_val (pv 9)) (pda_cons (pd_ix ix_seq od_ix (pd_ref (pv 8)) (pd_int) (fun _ _ => rfl)) (pda_nil))))))) (pdb_nil)) (pdb_cons (pds_if (pdt_cmp (op_eqP hr.units) od_eq (pd_ref (pv 7)) (pd_int) (nomark _)) (pdb_one (pds_set (i := 10) sc__law_wide.nd rfl (by first | exact Or.inl rfl | exact Or.inr rfl) (pd_tup (pda_cons (pd_str (by decide +kernel)) (pda_cons (pd_ix ix_seq od_ix (pd_ref (pv 8)) (pd_int) (fun _ _ => rfl)) (pda_cons (pd_op op_addU od_add (pd_int) (pd_op op_mod od_I (pd_can C__law_next (hr.mono (by decide)) (pda_cons (pd_ref (pv 0)) (pda_nil))) (pd_int))) (pda_nil))))))) (pdb_nil)) (pdb_cons (pds_if (pdt_cmp (op_eqP hr.units) od_eq (pd_ref (pv 7)) (pd_int) (nomark _)) (pdb_one (pds_set (i := 10) sc__law_wide.nd rfl (by first | exact Or.inl rfl | exact Or.inr rfl) (pd_tup (pda_cons (pd_str (by decide +kernel)) (pda_cons (pd_ix ix_seq od_ix (pd_ref (pv 8)) (pd_int) (fun _ _ => rfl)) (pda_nil)))))) (pdb_nil)) (pdb_cons (pds_if (pdw_pt (pdw_and (pdt_cmp (op_gt) od_B0 (pd_ref (pv 7)) (pd_int) (nomark _)) (pdw_and (pdt_cmp (op_lt) od_B0 (pd_ref (pv 5)) (pd_int) (nomark _)) (pdw_and1 (pdt_cmp (op_gt) od_B0 (pd_ref (pv 6)) (pd_int) (nomark _)))))) (pdb_cons (pds_set (i := 10) sc__law_wide.nd rfl (by first | exact Or.inl rfl | exact Or.inr rfl) (pd_tup (pda_cons (pd_str (by decide +kernel)) (pda_cons (pd_ix ix_seq od_ix (pd_ref (pv 8)) (pd_int) (fun _ _ => rfl)) (pda_nil))))) (pdb_one (pds_set (i := 5) sc__law_wide.nd rfl (by first | exact Or.inl rfl | exact Or.inr rfl) (pd_op op_addU od_add (pd_ref (pv 5)) (pd_int))))) (pdb_nil)) (pdb_one (pds_expr (pd_append (pv 4) (pd_val (pv 10))))))))))))))) (pdb_one (pds_ret (pd_tup (pda_cons (pd_val (pv 1)) (pda_cons (pd_callTy (call_listU rfl) cd_listU rfl T.b_list (by decide +kernel) (pda_cons (pd_ref (pv 2)) (pda_nil))) (pda_cons (pd_op op_addU od_add (pd_ref (pv 4)) (pd_lst (pda_cons (pd_tup (pda_cons (pd_str (by decide +kernel)) (pda_cons (pd_can C__law_thing (hr.mono (by decide)) (pda_cons (pd_ref (pv 0)) (pda_cons (pd_val (pv 1)) (pda_cons (pd_val (pv 2)) (pda_cons (pd_int) (pda_nil)))))) (pda_nil)))) (pda_nil)))) (pda_nil)))))))))) vc__law_wide) (fun _ _ _ _ _ _ us hl => match us, hl with | [_, _, _, _], _ => rfl)
theorem sc__law_store : FnScope ["deck", "program", "box"] ["deck", "program"] (defScope s__law_store) := ⟨rfl, rfl, rfl, by decide +kernel, rfl, by decide +kernel, by decide +kernel⟩
theorem c__law_store (T : Top P w K mg) (C__law_next : Can P w K mg base 2 "_law_next" ["deck"] sp__law_next) : Can P w K mg base 4 "_law_store" ["deck", "program"] sp__law_store :=
  can_of T.s__law_store (fun f fd F => okD (k := 3) F sc__law_store (by decide) (fun as Q E h => by obtain ⟨_, _, rfl, _⟩ := h; rfl) t__law_store (fun cdv A outer s H E G hr => pdb_one (pds_ret (pd_callTy call_tuple_of cd_tup1 rfl T.b_tuple (by decide +kernel) (pda_cons (pd_lc (own := [("box", 2)]) [] (by rfl) rfl sc__law_store.nd (pdi_seq (pd_ix ix_seq od_ix (pd_ref (pv 1)) (pd_int) (fun _ _ => rfl))) (blkOk_by (N := ["deck", "program", "box"]) (sc := defScope s__law_store) (by decide +kernel)) (fun _ _ _ _ _ _ => pdg_name sc__law_store.nd rfl (by first | exact Or.inl rfl | exact Or.inr rfl)) (fun _ _ _ _ _ _ => pdts_nil) (fun _ _ _ _ _ _ => pd_op op_mod od_I (pd_can C__law_next (hr.mono (by decide)) (pda_cons (pd_ref (pv 0)) (pda_nil))) (pd_ix ix_seq od_ix (pd_ref (pv 1)) (pd_int) (fun _ _ => rfl)))) (pda_nil))))) vc__law_store) (fun _ _ _ _ _ _ us hl => match us, hl with | [_, _], _ => rfl)
theorem sc__law_worth : FnScope ["program", "thing", "store", "one", "other"] ["program", "thing", "store"] (defScope s__law_worth) := ⟨rfl, rfl, rfl, by decide +kernel, rfl, by decide +kernel, by decide +kernel⟩
theorem c__law_worth_step (T : Top P w K mg) (dm : Nat) (C__law_worth : Can P w K mg base (1 + dm) "_law_worth" ["program", "thing", "store"] (sp__law_worth dm)) : Can P w K mg base (1 + dm + 1) "_law_worth" ["program", "thing", "store"] (sp__law_worth (dm + 1)) :=
  can_of T.s__law_worth (fun f fd F => okD (k := 1 + dm) F sc__law_worth (by decide) (fun as Q E h => by obtain ⟨_, _, _, rfl, _⟩ := h; rfl) (t__law_worth dm) (fun cdv A outer s H E G hr => pdb_cons (pds_if (pdt_cmp (op_eqP hr.units) od_eq (pd_ix ix_seq od_ix (pd_ref (pv 1)) (pd_int) (fun _ _ => rfl)) (pd_str (by decide +kernel)) (nomark _)) (pdb_one (pds_ret (pd_ix ix_seq od_ix (pd_ref (pv 1)) (pd_int) (fun _ _ => rfl)))) (pdb_nil)) (pdb_cons (pds_if (pdt_cmp (op_eqP hr.units) od_eq (pd_ix ix_seq od_ix (pd_ref (pv 1)) (pd_int) (fun _ _ => rfl)) (pd_str (by decide +kernel)) (nomark _)) (pdb_one (pds_ret (pd_ix ix_seq od_ix (pd_ref (pv 2)) (pd_index (pd_ix ix_seq od_ix (pd_ref (pv 0)) (pd_int) (fun _ _ => rfl)) (pda_cons (pd_ix ix_seq od_ix (pd_ref (pv 1)) (pd_int) (fun _ _ => rfl)) (pda_nil))) (fun _ _ => rfl)))) (pdb_nil)) (pdb_cons (pds_set (i := 3) sc__law_worth.nd rfl (by first | exact Or.inl rfl | exact Or.inr rfl) (pd_can C__law_worth hr (pda_cons (pd_val (pv 0)) (pda_cons (pd_ix ix_seq od_ix (pd_ref (pv 1)) (pd_int) (fun _ _ => rfl)) (pda_cons (pd_val (pv 2)) (pda_nil)))))) (pdb_cons (pds_set (i := 4) sc__law_worth.nd rfl (by first | exact Or.inl rfl | exact Or.inr rfl) (pd_can C__law_worth hr (pda_cons (pd_val (pv 0)) (pda_cons (pd_ix ix_seq od_ix (pd_ref (pv 1)) (pd_int) (fun _ _ => rfl)) (pda_cons (pd_val (pv 2)) (pda_nil)))))) (pdb_cons (pds_if (pdt_cmp (op_eqP hr.units) od_eq (pd_ix ix_seq od_ix (pd_ref (pv 1)) (pd_int) (fun _ _ => rfl)) (pd_str (by decide +kernel)) (nomark _)) (pdb_one (pds_ret (pd_callTy call_int1 cd_int1 rfl T.b_int (by decide +kernel) (pda_cons (pd_cmp (op_lt) od_B0 (pd_ref (pv 3)) (pd_ref (pv 4)) (nomark _)) (pda_nil))))) (pdb_nil)) (pdb_cons (pds_if (pdt_cmp (op_eqP hr.units) od_eq (pd_ix ix_seq od_ix (pd_ref (pv 1)) (pd_int) (fun _ _ => rfl)) (pd_str (by decide +kernel)) (nomark _)) (pdb_one (pds_ret (pd_callTy call_int1 cd_int1 rfl T.b_int (by decide +kernel) (pda_cons (pd_cmp (op_eqP hr.units) od_eq (pd_ref (pv 3)) (pd_ref (pv 4)) (nomark _)) (pda_nil))))) (pdb_nil)) (pdb_one (pds_ret (pd_op op_mod od_I (pd_ix ix_seq od_ix (pd_lst (pda_cons (pd_op op_addU od_add (pd_ref (pv 3)) (pd_ref (pv 4))) (pda_cons (pd_op op_mulU od_mul (pd_ref (pv 3)) (pd_ref (pv 4))) (pda_nil)))) (pd_callTy call_int1 cd_int1 rfl T.b_int (by decide +kernel) (pda_cons (pd_cmp (op_eqP hr.units) od_eq (pd_ix ix_seq od_ix (pd_ref (pv 1)) (pd_int) (fun _ _ => rfl)) (pd_str (by decide +kernel)) (nomark _)) (pda_nil))) (fun _ _ => rfl)) (pd_ix ix_seq od_ix (pd_ref (pv 0)) (pd_int) (fun _ _ => rfl))))))))))) (vc__law_worth dm)) (fun _ _ _ _ _ _ us hl => match us, hl with | [_, _, _], _ => rfl)
theorem c__law_worth_all (T : Top P w K mg) : ∀ dm : Nat, Can P w K mg base (1 + dm) "_law_worth" ["program", "thing", "store"] (sp__law_worth dm)
  | 0 => can_never (k := 0) T.s__law_worth sc__law_worth (no__law_worth) (fun _ _ _ _ _ _ us hl => match us, hl with | [_, _, _], _ => rfl)
  | dm + 1 => c__law_worth_step T dm (c__law_worth_all T  dm)
theorem c__law_worth (T : Top P w K mg) : Can P w K mg base 6 "_law_worth" ["program", "thing", "store"] (sp__law_worth 5) := c__law_worth_all T  5
theorem sc__law_set : FnScope ["program", "store", "box", "worth", "at"] ["program", "store", "box", "worth"] (defScope s__law_set) := ⟨rfl, rfl, rfl, by decide +kernel, rfl, by decide +kernel, by decide +kernel⟩
theorem c__law_set (T : Top P w K mg) : Can P w K mg base 2 "_law_set" ["program", "store", "box", "worth"] sp__law_set :=
  can_of T.s__law_set (fun f fd F => okD (k := 1) F sc__law_set (by decide) (fun as Q E h => by obtain ⟨_, _, _, _, rfl, _⟩ := h; rfl) t__law_set (fun cdv A outer s H E G hr => pdb_cons (pds_set (i := 4) sc__law_set.nd rfl (by first | exact Or.inl rfl | exact Or.inr rfl) (pd_index (pd_ix ix_seq od_ix (pd_ref (pv 0)) (pd_int) (fun _ _ => rfl)) (pda_cons (pd_ref (pv 2)) (pda_nil)))) (pdb_one (pds_ret (pd_op op_addU od_add (pd_op op_addU od_add (pd_sl (pd_ref (pv 1)) pdo_none (pdo_some (pd_val (pv 4)))) (pd_tup (pda_cons (pd_val (pv 3)) (pda_nil)))) (pd_sl (pd_ref (pv 1)) (pdo_some (pd_op op_addU od_add (pd_ref (pv 4)) (pd_int))) pdo_none))))) vc__law_set) (fun _ _ _ _ _ _ us hl => match us, hl with | [_, _, _, _], _ => rfl)
theorem sc__law_ways : FnScope ["program", "place", "at", "store", "row", "stores", "to", "thing", "one"] ["program", "place"] (defScope s__law_ways) := ⟨rfl, rfl, rfl, by decide +kernel, rfl, by decide +kernel, by decide +kernel⟩
theorem c__law_ways (T : Top P w K mg) (C__law_worth : Can P w K mg base 6 "_law_worth" ["program", "thing", "store"] (sp__law_worth 5)) (C__law_set : Can P w K mg base 2 "_law_set" ["program", "store", "box", "worth"] sp__law_set) : Can P w K mg base 8 "_law_ways" ["program", "place"] sp__law_ways :=
  can_of T.s__law_ways (fun f fd F => okD (k := 7) F sc__law_ways (by decide) (fun as Q E h => by obtain ⟨_, _, _, rfl, _⟩ := h; rfl) t__law_ways (fun cdv A outer s H E G hr => pdb_cons (pds_asg (pd_val (pv 1)) (pdg_tup rfl (pdgs_cons (pdg_name sc__law_ways.nd rfl (by first | exact Or.inl rfl | exact Or.inr rfl)) (pdgs_cons (pdg_name sc__law_ways.nd rfl (by first | exact Or.inl rfl | exact Or.inr rfl)) (pdgs_nil))) rfl)) (pdb_cons (pds_set (i := 4) sc__law_ways.nd rfl (by first | exact Or.inl rfl | exact Or.inr rfl) (pd_ix ix_seq od_ix (pd_ix ix_seq od_ix (pd_ref (pv 0)) (pd_int) (fun _ _ => rfl)) (pd_val (pv 2)) (fun _ _ => rfl))) (pdb_cons (pds_if (pdt_cmp (op_eqP hr.units) od_eq (pd_ix ix_seq od_ix (pd_ref (pv 4)) (pd_int) (fun _ _ => rfl)) (pd_str (by decide +kernel)) (nomark _)) (pdb_one (pds_ret (pd_lst (pda_cons (pd_tup (pda_cons (pd_str (by decide +kernel)) (pda_cons (pd_can C__law_worth (hr.mono (by decide)) (pda_cons (pd_val (pv 0)) (pda_cons (pd_ix ix_seq od_ix (pd_ref (pv 4)) (pd_int) (fun _ _ => rfl)) (pda_cons (pd_val (pv 3)) (pda_nil))))) (pda_nil)))) (pda_nil))))) (pdb_nil)) (pdb_cons (pds_set (i := 5) sc__law_ways.nd rfl (by first | exact Or.inl rfl | exact Or.inr rfl) (pd_lst (pda_cons (pd_val (pv 3)) (pda_nil)))) (pdb_cons (pds_set (i := 6) sc__law_ways.nd rfl (by first | exact Or.inl rfl | exact Or.inr rfl) (pd_op op_addU od_add (pd_ref (pv 2)) (pd_int))) (pdb_cons (pds_if (pdw_pt (pdw_and (pdt_cmp (op_eqP hr.units) od_eq (pd_ix ix_seq od_ix (pd_ref (pv 4)) (pd_int) (fun _ _ => rfl)) (pd_str (by decide +kernel)) (nomark _)) (pdw_and1 (pdt_cmp (op_eqP hr.units) od_eq (pd_can C__law_worth (hr.mono (by decide)) (pda_cons (pd_val (pv 0)) (pda_cons (pd_ix ix_seq od_ix (pd_ref (pv 4)) (pd_int) (fun _ _ => rfl)) (pda_cons (pd_val (pv 3)) (pda_nil))))) (pd_int) (nomark _))))) (pdb_one (pds_ret (pd_lst (pda_cons (pd_tup (pda_cons (pd_str (by decide +kernel)) (pda_nil))) (pda_nil))))) (pdb_nil)) (pdb_cons (pds_if (pdw_pt (pdw_and (pdt_cmp (op_eqP hr.units) od_eq (pd_ix ix_seq od_ix (pd_ref (pv 4)) (pd_int) (fun _ _ => rfl)) (pd_str (by decide +kernel)) (nomark _)) (pdw_and1 (pdt_cmp (op_neP hr.units) od_ne (pd_can C__law_worth (hr.mono (by decide)) (pda_cons (pd_val (pv 0)) (pda_cons (pd_ix ix_seq od_ix (pd_ref (pv 4)) (pd_int) (fun _ _ => rfl)) (pda_cons (pd_val (pv 3)) (pda_nil))))) (pd_int) (nomark _))))) (pdb_one (pds_set (i := 6) sc__law_ways.nd rfl (by first | exact Or.inl rfl | exact Or.inr rfl) (pd_op op_addU od_add (pd_ref (pv 6)) (pd_ix ix_seq od_ix (pd_ref (pv 4)) (pd_int) (fun _ _ => rfl))))) (pdb_nil)) (pdb_cons (pds_if (pdt_cmp (op_eqP hr.units) od_eq (pd_ix ix_seq od_ix (pd_ref (pv 4)) (pd_int) (fun _ _ => rfl)) (pd_str (by decide +kernel)) (nomark _)) (pdb_one (pds_set (i := 5) sc__law_ways.nd rfl (by first | exact Or.inl rfl | exact Or.inr rfl) (pd_lst (pda_cons (pd_can C__law_set (hr.mono (by decide)) (pda_cons (pd_val (pv 0)) (pda_cons (pd_val (pv 3)) (pda_cons (pd_ix ix_seq od_ix (pd_ref (pv 4)) (pd_int) (fun _ _ => rfl)) (pda_cons (pd_can C__law_worth (hr.mono (by decide)) (pda_cons (pd_val (pv 0)) (pda_cons (pd_ix ix_seq od_ix (pd_ref (pv 4)) (pd_int) (fun _ _ => rfl)) (pda_cons (pd_val (pv 3)) (pda_nil))))) (pda_nil)))))) (pda_nil))))) (pdb_nil)) (pdb_cons (pds_if (pdt_cmp (op_eqP hr.units) od_eq (pd_ix ix_seq od_ix (pd_ref (pv 4)) (pd_int) (fun _ _ => rfl)) (pd_str (by decide +kernel)) (nomark _)) (pdb_one (pds_setLc (i := 5) (own := [("thing", 7)]) [0, 3] (by rfl) rfl sc__law_ways.nd rfl rfl (sw_true rfl rfl rfl (by decide +kernel)) (pdi_seq (pd_ix ix_seq od_ix (pd_ref (pv 4)) (pd_int) (fun _ _ => rfl))) (blkOk_by (N := ["program", "place", "at", "store", "row", "stores", "to", "thing", "one"]) (sc := defScope s__law_ways) (by decide +kernel)) (fun _ _ _ _ _ _ => pdg_name sc__law_ways.nd rfl (by first | exact Or.inl rfl | exact Or.inr rfl)) (fun _ _ _ _ _ _ => pdts_nil) (fun _ _ _ _ _ _ => pd_can C__law_set (hr.mono (by decide)) (pda_cons (pd_val (pv 0)) (pda_cons (pd_val (pv 3)) (pda_cons (pd_ix ix_seq od_ix (pd_ref (pv 4)) (pd_int) (fun _ _ => rfl)) (pda_cons (pd_can C__law_worth (hr.mono (by decide)) (pda_cons (pd_val (pv 0)) (pda_cons (pd_val (pv 7)) (pda_cons (pd_val (pv 3)) (pda_nil))))) (pda_nil)))))))) (pdb_nil)) (pdb_cons (pds_if (pdt_cmp (op_ge) od_B0 (pd_ref (pv 6)) (pd_callB call_lenU cd_lenU rfl T.b_len boot_len (pda_cons (pd_ix ix_seq od_ix (pd_ref (pv 0)) (pd_int) (fun _ _ => rfl)) (pda_nil))) (nomark _)) (pdb_one (pds_ret (pd_op op_mulU od_mul (pd_lst (pda_cons (pd_tup (pda_cons (pd_str (by decide +kernel)) (pda_nil))) (pda_nil))) (pd_callB call_lenU cd_lenU rfl T.b_len boot_len (pda_cons (pd_ref (pv 5)) (pda_nil)))))) (pdb_nil)) (pdb_one (pds_ret (pd_lc (own := [("one", 8)]) [6] (by rfl) rfl sc__law_ways.nd (pdi_seq (pd_val (pv 5))) (blkOk_by (N := ["program", "place", "at", "store", "row", "stores", "to", "thing", "one"]) (sc := defScope s__law_ways) (by decide +kernel)) (fun _ _ _ _ _ _ => pdg_name sc__law_ways.nd rfl (by first | exact Or.inl rfl | exact Or.inr rfl)) (fun _ _ _ _ _ _ => pdts_nil) (fun _ _ _ _ _ _ => pd_tup (pda_cons (pd_val (pv 6)) (pda_cons (pd_val (pv 8)) (pda_nil))))))))))))))))) vc__law_ways) (fun _ _ _ _ _ _ us hl => match us, hl with | [_, _], _ => rfl)
theorem sc__law_ended : FnScope ["program", "store", "counts", "ends", "at", "place", "way", "key", "one"] ["program", "store"] (defScope s__law_ended) := ⟨rfl, rfl, rfl, by decide +kernel, rfl, by decide +kernel, by decide +kernel⟩
theorem c__law_ended (T : Top P w K mg) (C__law_ways : Can P w K mg base 8 "_law_ways" ["program", "place"] sp__law_ways) : Can P w K mg base 10 "_law_ended" ["program", "store"] sp__law_ended :=
  can_of T.s__law_ended (fun f fd F => okD (k := 9) F sc__law_ended (by decide) (fun as Q E h => by obtain ⟨_, _, rfl, _⟩ := h; rfl) t__law_ended (fun cdv A outer s H E G hr => pdb_cons (pds_set (i := 2) sc__law_ended.nd rfl (by first | exact Or.inl rfl | exact Or.inr rfl) (pd_disp1N hr.units (fun _ => pd_tup (pda_cons (pd_int) (pda_cons (pd_val (pv 1)) (pda_nil)))) (fun _ => pd_int))) (pdb_cons (pds_set (i := 3) sc__law_ended.nd rfl (by first | exact Or.inl rfl | exact Or.inr rfl) (pd_dnew)) (pdb_cons (pds_if (pdt_cmp (op_eqP hr.units) od_eq (pd_ix ix_seq od_ix (pd_ref (pv 0)) (pd_int) (fun _ _ => rfl)) (pd_lst (pda_nil)) (nomark _)) (pdb_one (pds_ret (pd_disp1N hr.units (fun _ => pd_tup (pda_cons (pd_str (by decide +kernel)) (pda_nil))) (fun _ => pd_int)))) (pdb_nil)) (pdb_cons (pds_for PassesOwn.never rfl (pdi_range1 rfl T.b_range (pda_cons (pd_callB call_lenU cd_lenU rfl T.b_len boot_len (pda_cons (pd_ix ix_seq od_ix (pd_ref (pv 0)) (pd_int) (fun _ _ => rfl)) (pda_nil))) (pda_nil))) (pdg_name sc__law_ended.nd rfl (by first | exact Or.inl rfl | exact Or.inr rfl)) (pdb_wipe [4] (pdb_one (pds_for PassesOwn.never rfl (pdi_seq (pd_hide (i := 2) (pd_lc (own := [("one", 8)]) [] (by rfl) rfl sc__law_ended.nd (pdi_keys (pd_val (pv 2))) (blkOk_by (N := ["program", "store", "counts", "ends", "at", "place", "way", "key", "one"]) (sc := defScope s__law_ended) (by decide +kernel)) (fun _ _ _ _ _ _ => pdg_name sc__law_ended.nd rfl (by first | exact Or.inl rfl | exact Or.inr rfl)) (fun _ _ _ _ _ _ => pdts_one (pdt_cmp (op_eqP hr.units) od_eq (pd_ix ix_seq od_ix (pd_ref (pv 8)) (pd_int) (fun _ _ => rfl)) (pd_ref (pv 4)) (nomark _))) (fun _ _ _ _ _ _ => pd_val (pv 8))))) (pdg_name sc__law_ended.nd rfl (by first | exact Or.inl rfl | exact Or.inr rfl)) (pdb_wipe [5] (pdb_one (pds_for PassesOwn.never rfl (pdi_seq (pd_can C__law_ways (hr.mono (by decide)) (pda_cons (pd_val (pv 0)) (pda_cons (pd_val (pv 5)) (pda_nil))))) (pdg_name sc__law_ended.nd rfl (by first | exact Or.inl rfl | exact Or.inr rfl)) (pdb_wipe [6, 7] (pdb_cons (pds_set (i := 7) sc__law_ended.nd rfl (by first | exact Or.inl rfl | exact Or.inr rfl) (pd_val (pv 6))) (pdb_cons (pds_if (pdt_cmp (op_eqP hr.units) od_eq (pd_ix ix_seq od_ix (pd_ref (pv 6)) (pd_int) (fun _ _ => rfl)) (pd_str (by decide +kernel)) (nomark _)) (pdb_one (pds_set (i := 7) sc__law_ended.nd rfl (by first | exact Or.inl rfl | exact Or.inr rfl) (pd_tup (pda_cons (pd_str (by decide +kernel)) (pda_cons (pd_ix ix_seq od_ix (pd_ref (pv 6)) (pd_int) (fun _ _ => rfl)) (pda_cons (pd_ix ix_seq od_ix (pd_ref (pv 5)) (pd_int) (fun _ _ => rfl)) (pda_nil))))))) (pdb_nil)) (pdb_one (pds_if (pdt_cmp (op_inU) od_in (pd_ix ix_seq od_ix (pd_ref (pv 6)) (pd_int) (fun _ _ => rfl)) (pd_tup (pda_cons (pd_str (by decide +kernel)) (pda_cons (pd_str (by decide +kernel)) (pda_nil)))) (by rfl)) (pdb_one (pds_dput hr.units (pv 3) (pd_val (pv 7)) (pd_op op_addU od_add (pd_dget2 hr.units (pd_ref (pv 3)) (pd_val (pv 7)) (pd_int)) (pd_ix (ix_N hr.units) od_dget (pd_ref (pv 2)) (pd_val (pv 5)) (fun _ _ => rfl))))) (pdb_one (pds_dput hr.units (pv 2) (pd_val (pv 7)) (pd_op op_addU od_add (pd_dget2 hr.units (pd_ref (pv 2)) (pd_val (pv 7)) (pd_int)) (pd_ix (ix_N hr.units) od_dget (pd_ref (pv 2)) (pd_val (pv 5)) (fun _ _ => rfl))))))))))))))))) (pdb_one (pds_ret (pd_mov (pv 3)))))))) vc__law_ended) (fun _ _ _ _ _ _ us hl => match us, hl with | [_, _], _ => rfl)
theorem sc__law_due_by_places : FnScope ["one", "other", "box", "store", "counts", "nothing", "end", "many", "further", "last", "times", "answer"] ["one", "other", "box", "store"] (defScope s__law_due_by_places) := ⟨rfl, rfl, rfl, by decide +kernel, rfl, by decide +kernel, by decide +kernel⟩
theorem c__law_due_by_places (T : Top P w K mg) (C__law_ended : Can P w K mg base 10 "_law_ended" ["program", "store"] sp__law_ended) (C__law_set : Can P w K mg base 2 "_law_set" ["program", "store", "box", "worth"] sp__law_set) : Can P w K mg base 12 "_law_due_by_places" ["one", "other", "box", "store"] sp__law_due_by_places :=
  can_of T.s__law_due_by_places (fun f fd F => okD (k := 11) F sc__law_due_by_places (by decide) (fun as Q E h => by obtain ⟨_, _, _, _, rfl, _⟩ := h; rfl) t__law_due_by_places (fun cdv A outer s H E G hr => pdb_cons (pds_set (i := 4) sc__law_due_by_places.nd rfl (by first | exact Or.inl rfl | exact Or.inr rfl) (pd_knew)) (pdb_cons (pds_set (i := 5) sc__law_due_by_places.nd rfl (by first | exact Or.inl rfl | exact Or.inr rfl) (pd_int)) (pdb_cons (pds_for PassesOwn.never rfl (pdi_items (pd_can C__law_ended (hr.mono (by decide)) (pda_cons (pd_val (pv 0)) (pda_cons (pd_val (pv 3)) (pda_nil))))) (pdg_tup rfl (pdgs_cons (pdg_name sc__law_due_by_places.nd rfl (by first | exact Or.inl rfl | exact Or.inr rfl)) (pdgs_cons (pdg_name sc__law_due_by_places.nd rfl (by first | exact Or.inl rfl | exact Or.inr rfl)) (pdgs_nil))) rfl) (pdb_wipe [6, 7, 8] (pdb_cons (pds_set (i := 8) sc__law_due_by_places.nd rfl (by first | exact Or.inl rfl | exact Or.inr rfl) (pd_disp1N hr.units (fun _ => pd_tup (pda_cons (pd_str (by decide +kernel)) (pda_nil))) (fun _ => pd_int))) (pdb_cons (pds_if (pdt_cmp (op_eqP hr.units) od_eq (pd_ix ix_seq od_ix (pd_ref (pv 6)) (pd_int) (fun _ _ => rfl)) (pd_str (by decide +kernel)) (nomark _)) (pdb_one (pds_set (i := 8) sc__law_due_by_places.nd rfl (by first | exact Or.inl rfl | exact Or.inr rfl) (pd_can C__law_ended (hr.mono (by decide)) (pda_cons (pd_val (pv 1)) (pda_cons (pd_can C__law_set (hr.mono (by decide)) (pda_cons (pd_val (pv 0)) (pda_cons (pd_ix ix_seq od_ix (pd_ref (pv 6)) (pd_int) (fun _ _ => rfl)) (pda_cons (pd_val (pv 2)) (pda_cons (pd_ix ix_seq od_ix (pd_ref (pv 6)) (pd_int) (fun _ _ => rfl)) (pda_nil)))))) (pda_nil)))))) (pdb_nil)) (pdb_one (pds_for PassesOwn.never rfl (pdi_items (pd_val (pv 8))) (pdg_tup rfl (pdgs_cons (pdg_name sc__law_due_by_places.nd rfl (by first | exact Or.inl rfl | exact Or.inr rfl)) (pdgs_cons (pdg_name sc__law_due_by_places.nd rfl (by first | exact Or.inl rfl | exact Or.inr rfl)) (pdgs_nil))) rfl) (pdb_wipe [9, 10] (pdb_one (pds_if (pdt_cmp (op_eqP hr.units) od_eq (pd_ix ix_seq od_ix (pd_ref (pv 9)) (pd_int) (fun _ _ => rfl)) (pd_str (by decide +kernel)) (nomark _)) (pdb_one (pds_set (i := 5) sc__law_due_by_places.nd rfl (by first | exact Or.inl rfl | exact Or.inr rfl) (pd_op op_addU od_add (pd_ref (pv 5)) (pd_op op_mulU od_mul (pd_ref (pv 7)) (pd_ref (pv 10)))))) (pdb_one (pds_kput (pv 4) (pd_ix ix_seq od_ix (pd_ref (pv 9)) (pd_int) (fun _ _ => rfl)) (pd_op op_addU od_add (pd_kget2 (pd_ref (pv 4)) (pd_ix ix_seq od_ix (pd_ref (pv 9)) (pd_int) (fun _ _ => rfl)) (pd_int)) (pd_op op_mulU od_mul (pd_ref (pv 7)) (pd_ref (pv 10))))))))))))))) (pdb_one (pds_ret (pd_tup (pda_cons (pd_callB (call_sortedU rfl hr.units) cd_sortedU rfl T.b_sorted (by decide +kernel) (pda_cons (pd_lc (own := [("answer", 11)]) [] (by rfl) rfl sc__law_due_by_places.nd (pdi_keysK (pd_val (pv 4))) (blkOk_by (N := ["one", "other", "box", "store", "counts", "nothing", "end", "many", "further", "last", "times", "answer"]) (sc := defScope s__law_due_by_places) (by decide +kernel)) (fun _ _ _ _ _ _ => pdg_name sc__law_due_by_places.nd rfl (by first | exact Or.inl rfl | exact Or.inr rfl)) (fun _ _ _ _ _ _ => pdts_nil) (fun _ _ _ _ _ _ => pd_tup (pda_cons (pd_val (pv 11)) (pda_cons (pd_ix ix_K od_kget (pd_ref (pv 4)) (pd_val (pv 11)) (fun _ _ => rfl)) (pda_nil))))) (pda_nil))) (pda_cons (pd_val (pv 5)) (pda_nil))))))))) vc__law_due_by_places) (fun _ _ _ _ _ _ us hl => match us, hl with | [_, _, _, _], _ => rfl)
theorem sc_is_whole : FnScope ["thing", "low", "high"] ["thing", "low", "high"] (defScope s_is_whole) := ⟨rfl, rfl, rfl, by decide +kernel, rfl, by decide +kernel, by decide +kernel⟩
theorem c_is_whole (T : Top P w K mg) : Can P w K mg base 2 "is_whole" ["thing", "low", "high"] sp_is_whole :=
  can_of T.s_is_whole (fun f fd F => okD (k := 1) F sc_is_whole (by decide) (fun as Q E h => by obtain ⟨_, _, _, rfl, _⟩ := h; rfl) t_is_whole (fun cdv A outer s H E G hr => pdb_one (pds_ret (pd_and (pd_isi rfl T.b_isinstance (pd_ref (pv 0)) (pe_bltn rfl T.b_int (by decide +kernel) (v := .ty "int") rfl)) (pd_and (pd_not (pd_isi rfl T.b_isinstance (pd_ref (pv 0)) (pe_bltn rfl T.b_bool (by decide +kernel) (v := .ty "bool") rfl))) (pd_one (pd_chain (op_le) (op_le) od_B0 od_B0 (pd_ref (pv 1)) (pd_ref (pv 0)) (pd_ref (pv 2)) (by rfl))))))) vc_is_whole) (fun _ _ _ _ _ _ us hl => match us, hl with | [_, _, _], _ => rfl)
theorem sc_need_store : FnScope ["program", "store", "number"] ["program", "store"] (defScope s_need_store) := ⟨rfl, rfl, rfl, by decide +kernel, rfl, by decide +kernel, by decide +kernel⟩
theorem c_need_store (T : Top P w K mg) (C_is_whole : Can P w K mg base 2 "is_whole" ["thing", "low", "high"] sp_is_whole) : Can P w K mg base 4 "need_store" ["program", "store"] sp_need_store :=
  can_of T.s_need_store (fun f fd F => okD (k := 3) F sc_need_store (by decide) (fun as Q E h => by obtain ⟨_, _, rfl, _⟩ := h; rfl) t_need_store (fun cdv A outer s H E G hr => pdb_cons (pds_if (pdw_pt (pdw_or (pdt_not (pdt_val (pd_isi rfl T.b_isinstance (pd_ref (pv 1)) (pe_bltn rfl T.b_tuple (by decide +kernel) (v := .ty "tuple") rfl)))) (pdw_or1 (pdt_cmp (op_neP hr.units) od_ne (pd_callB call_lenU cd_lenU rfl T.b_len boot_len (pda_cons (pd_ref (pv 1)) (pda_nil))) (pd_callB call_lenU cd_lenU rfl T.b_len boot_len (pda_cons (pd_ix ix_seq od_ix (pd_ref (pv 0)) (pd_int) (fun _ _ => rfl)) (pda_nil))) (nomark _))))) (pdb_one (pds_never)) (pdb_nil)) (pdb_one (pds_if (pdt_cmp (op_neP hr.units) od_ne (pd_lc (own := [("number", 2)]) [] (by rfl) rfl sc_need_store.nd (pdi_seq (pd_val (pv 1))) (blkOk_by (N := ["program", "store", "number"]) (sc := defScope s_need_store) (by decide +kernel)) (fun _ _ _ _ _ _ => pdg_name sc_need_store.nd rfl (by first | exact Or.inl rfl | exact Or.inr rfl)) (fun _ _ _ _ _ _ => pdts_one (pdt_not (pdt_val (pd_can C_is_whole (hr.mono (by decide)) (pda_cons (pd_val (pv 2)) (pda_cons (pd_int) (pda_cons (pd_op op_sub od_I0 (pd_ix ix_seq od_ix (pd_ref (pv 0)) (pd_int) (fun _ _ => rfl)) (pd_int)) (pda_nil)))))))) (fun _ _ _ _ _ _ => pd_val (pv 2))) (pd_lst (pda_nil)) (nomark _)) (pdb_one (pds_never)) (pdb_nil)))) vc_need_store) (fun _ _ _ _ _ _ us hl => match us, hl with | [_, _], _ => rfl)
theorem sc_place_or_end : FnScope ["program", "row", "store"] ["program", "row", "store"] (defScope s_place_or_end) := ⟨rfl, rfl, rfl, by decide +kernel, rfl, by decide +kernel, by decide +kernel⟩
theorem c_place_or_end (T : Top P w K mg) : Can P w K mg base 2 "place_or_end" ["program", "row", "store"] sp_place_or_end :=
  can_of T.s_place_or_end (fun f fd F => okD (k := 1) F sc_place_or_end (by decide) (fun as Q E h => by obtain ⟨_, _, _, rfl, _⟩ := h; rfl) t_place_or_end (fun cdv A outer s H E G hr => pdb_cons (pds_if (pdt_cmp (op_ge) od_B0 (pd_ref (pv 1)) (pd_callB call_lenU cd_lenU rfl T.b_len boot_len (pda_cons (pd_ix ix_seq od_ix (pd_ref (pv 0)) (pd_int) (fun _ _ => rfl)) (pda_nil))) (nomark _)) (pdb_one (pds_ret (pd_gt T.t_NOTHING))) (pdb_nil)) (pdb_one (pds_ret (pd_tup (pda_cons (pd_val (pv 1)) (pda_cons (pd_val (pv 2)) (pda_nil))))))) vc_place_or_end) (fun _ _ _ _ _ _ us hl => match us, hl with | [_, _, _], _ => rfl)
theorem sc_begin_of : FnScope ["program", "store"] ["program", "store"] (defScope s_begin_of) := ⟨rfl, rfl, rfl, by decide +kernel, rfl, by decide +kernel, by decide +kernel⟩
theorem c_begin_of (T : Top P w K mg) (C_place_or_end : Can P w K mg base 2 "place_or_end" ["program", "row", "store"] sp_place_or_end) : Can P w K mg base 4 "begin_of" ["program", "store"] sp_begin_of :=
  can_of T.s_begin_of (fun f fd F => okD (k := 3) F sc_begin_of (by decide) (fun as Q E h => by obtain ⟨_, _, rfl, _⟩ := h; rfl) t_begin_of (fun cdv A outer s H E G hr => pdb_one (pds_ret (pd_can C_place_or_end (hr.mono (by decide)) (pda_cons (pd_val (pv 0)) (pda_cons (pd_int) (pda_cons (pd_val (pv 1)) (pda_nil))))))) vc_begin_of) (fun _ _ _ _ _ _ us hl => match us, hl with | [_, _], _ => rfl)
theorem sc_is_place : FnScope ["way"] ["way"] (defScope s_is_place) := ⟨rfl, rfl, rfl, by decide +kernel, rfl, by decide +kernel, by decide +kernel⟩
theorem c_is_place (T : Top P w K mg) : Can P w K mg base 2 "is_place" ["way"] sp_is_place :=
  can_of T.s_is_place (fun f fd F => okD (k := 1) F sc_is_place (by decide) (fun as Q E h => by obtain ⟨_, rfl, _⟩ := h; rfl) t_is_place (fun cdv A outer s H E G hr => pdb_one (pds_ret (pd_isi rfl T.b_isinstance (pd_ix ix_seq od_ix (pd_ref (pv 0)) (pd_int) (fun _ _ => rfl)) (pe_bltn rfl T.b_int (by decide +kernel) (v := .ty "int") rfl)))) vc_is_place) (fun _ _ _ _ _ _ us hl => match us, hl with | [_], _ => rfl)
theorem sc_worth_in : FnScope ["program", "thing", "store", "word", "one", "other"] ["program", "thing", "store"] (defScope s_worth_in) := ⟨rfl, rfl, rfl, by decide +kernel, rfl, by decide +kernel, by decide +kernel⟩
theorem c_worth_in_step (T : Top P w K mg) (dm : Nat) (C_worth_in : Can P w K mg base (1 + dm) "worth_in" ["program", "thing", "store"] (sp_worth_in dm)) : Can P w K mg base (1 + dm + 1) "worth_in" ["program", "thing", "store"] (sp_worth_in (dm + 1)) :=
  can_of T.s_worth_in (fun f fd F => okD (k := 1 + dm) F sc_worth_in (by decide) (fun as Q E h => by obtain ⟨_, _, _, rfl, _⟩ := h; rfl) (t_worth_in dm) (fun cdv A outer s H E G hr => pdb_cons (pds_set (i := 3) sc_worth_in.nd rfl (by first | exact Or.inl rfl | exact Or.inr rfl) (pd_ix ix_seq od_ix (pd_ref (pv 1)) (pd_int) (fun _ _ => rfl))) (pdb_cons (pds_if (pdt_cmp (op_eqP hr.units) od_eq (pd_ref (pv 3)) (pd_str (by decide +kernel)) (nomark _)) (pdb_one (pds_ret (pd_ix ix_seq od_ix (pd_ref (pv 1)) (pd_int) (fun _ _ => rfl)))) (pdb_nil)) (pdb_cons (pds_if (pdt_cmp (op_eqP hr.units) od_eq (pd_ref (pv 3)) (pd_str (by decide +kernel)) (nomark _)) (pdb_one (pds_ret (pd_ix ix_seq od_ix (pd_ref (pv 2)) (pd_index (pd_ix ix_seq od_ix (pd_ref (pv 0)) (pd_int) (fun _ _ => rfl)) (pda_cons (pd_ix ix_seq od_ix (pd_ref (pv 1)) (pd_int) (fun _ _ => rfl)) (pda_nil))) (fun _ _ => rfl)))) (pdb_nil)) (pdb_cons (pds_set (i := 4) sc_worth_in.nd rfl (by first | exact Or.inl rfl | exact Or.inr rfl) (pd_can C_worth_in hr (pda_cons (pd_val (pv 0)) (pda_cons (pd_ix ix_seq od_ix (pd_ref (pv 1)) (pd_int) (fun _ _ => rfl)) (pda_cons (pd_val (pv 2)) (pda_nil)))))) (pdb_cons (pds_set (i := 5) sc_worth_in.nd rfl (by first | exact Or.inl rfl | exact Or.inr rfl) (pd_can C_worth_in hr (pda_cons (pd_val (pv 0)) (pda_cons (pd_ix ix_seq od_ix (pd_ref (pv 1)) (pd_int) (fun _ _ => rfl)) (pda_cons (pd_val (pv 2)) (pda_nil)))))) (pdb_cons (pds_if (pdt_cmp (op_eqP hr.units) od_eq (pd_ref (pv 3)) (pd_str (by decide +kernel)) (nomark _)) (pdb_one (pds_ret (pd_op op_mod od_I (pd_op op_addU od_add (pd_ref (pv 4)) (pd_ref (pv 5))) (pd_ix ix_seq od_ix (pd_ref (pv 0)) (pd_int) (fun _ _ => rfl))))) (pdb_nil)) (pdb_cons (pds_if (pdt_cmp (op_eqP hr.units) od_eq (pd_ref (pv 3)) (pd_str (by decide +kernel)) (nomark _)) (pdb_one (pds_ret (pd_op op_mod od_I (pd_op op_mulU od_mul (pd_ref (pv 4)) (pd_ref (pv 5))) (pd_ix ix_seq od_ix (pd_ref (pv 0)) (pd_int) (fun _ _ => rfl))))) (pdb_nil)) (pdb_cons (pds_if (pdt_cmp (op_eqP hr.units) od_eq (pd_ref (pv 3)) (pd_str (by decide +kernel)) (nomark _)) (pdb_one (pds_ret (pd_callTy call_int1 cd_int1 rfl T.b_int (by decide +kernel) (pda_cons (pd_cmp (op_lt) od_B0 (pd_ref (pv 4)) (pd_ref (pv 5)) (nomark _)) (pda_nil))))) (pdb_nil)) (pdb_one (pds_ret (pd_callTy call_int1 cd_int1 rfl T.b_int (by decide +kernel) (pda_cons (pd_cmp (op_eqP hr.units) od_eq (pd_ref (pv 4)) (pd_ref (pv 5)) (nomark _)) (pda_nil))))))))))))) (vc_worth_in dm)) (fun _ _ _ _ _ _ us hl => match us, hl with | [_, _, _], _ => rfl)
theorem c_worth_in_all (T : Top P w K mg) : ∀ dm : Nat, Can P w K mg base (1 + dm) "worth_in" ["program", "thing", "store"] (sp_worth_in dm)
  | 0 => can_never (k := 0) T.s_worth_in sc_worth_in (no_worth_in) (fun _ _ _ _ _ _ us hl => match us, hl with | [_, _, _], _ => rfl)
  | dm + 1 => c_worth_in_step T dm (c_worth_in_all T  dm)
theorem c_worth_in (T : Top P w K mg) : Can P w K mg base 6 "worth_in" ["program", "thing", "store"] (sp_worth_in 5) := c_worth_in_all T  5
theorem sc_store_with : FnScope ["program", "store", "box", "worth", "at"] ["program", "store", "box", "worth"] (defScope s_store_with) := ⟨rfl, rfl, rfl, by decide +kernel, rfl, by decide +kernel, by decide +kernel⟩
theorem c_store_with (T : Top P w K mg) : Can P w K mg base 2 "store_with" ["program", "store", "box", "worth"] sp_store_with :=
  can_of T.s_store_with (fun f fd F => okD (k := 1) F sc_store_with (by decide) (fun as Q E h => by obtain ⟨_, _, _, _, rfl, _⟩ := h; rfl) t_store_with (fun cdv A outer s H E G hr => pdb_cons (pds_set (i := 4) sc_store_with.nd rfl (by first | exact Or.inl rfl | exact Or.inr rfl) (pd_index (pd_ix ix_seq od_ix (pd_ref (pv 0)) (pd_int) (fun _ _ => rfl)) (pda_cons (pd_ref (pv 2)) (pda_nil)))) (pdb_one (pds_ret (pd_op op_addU od_add (pd_op op_addU od_add (pd_sl (pd_ref (pv 1)) pdo_none (pdo_some (pd_val (pv 4)))) (pd_tup (pda_cons (pd_val (pv 3)) (pda_nil)))) (pd_sl (pd_ref (pv 1)) (pdo_some (pd_op op_addU od_add (pd_ref (pv 4)) (pd_int))) pdo_none))))) vc_store_with) (fun _ _ _ _ _ _ us hl => match us, hl with | [_, _, _, _], _ => rfl)
theorem sc_stores_behind : FnScope ["program", "row", "store", "asked", "worth", "over", "thing"] ["program", "row", "store"] (defScope s_stores_behind) := ⟨rfl, rfl, rfl, by decide +kernel, rfl, by decide +kernel, by decide +kernel⟩
theorem c_stores_behind (T : Top P w K mg) (C_store_with : Can P w K mg base 2 "store_with" ["program", "store", "box", "worth"] sp_store_with) (C_worth_in : Can P w K mg base 6 "worth_in" ["program", "thing", "store"] (sp_worth_in 5)) : Can P w K mg base 8 "stores_behind" ["program", "row", "store"] sp_stores_behind :=
  can_of T.s_stores_behind (fun f fd F => okD (k := 7) F sc_stores_behind (by decide) (fun as Q E h => by obtain ⟨_, _, _, rfl, _⟩ := h; rfl) t_stores_behind (fun cdv A outer s H E G hr => pdb_cons (pds_set (i := 3) sc_stores_behind.nd rfl (by first | exact Or.inl rfl | exact Or.inr rfl) (pd_ix ix_seq od_ix (pd_ix ix_seq od_ix (pd_ref (pv 0)) (pd_int) (fun _ _ => rfl)) (pd_val (pv 1)) (fun _ _ => rfl))) (pdb_cons (pds_if (pdt_cmp (op_eqP hr.units) od_eq (pd_ix ix_seq od_ix (pd_ref (pv 3)) (pd_int) (fun _ _ => rfl)) (pd_str (by decide +kernel)) (nomark _)) (pdb_one (pds_ret (pd_lc (own := [("thing", 6)]) [0, 2] (by rfl) rfl sc_stores_behind.nd (pdi_seq (pd_ix ix_seq od_ix (pd_ref (pv 3)) (pd_int) (fun _ _ => rfl))) (blkOk_by (N := ["program", "row", "store", "asked", "worth", "over", "thing"]) (sc := defScope s_stores_behind) (by decide +kernel)) (fun _ _ _ _ _ _ => pdg_name sc_stores_behind.nd rfl (by first | exact Or.inl rfl | exact Or.inr rfl)) (fun _ _ _ _ _ _ => pdts_nil) (fun _ _ _ _ _ _ => pd_tup (pda_cons (pd_op op_addU od_add (pd_ref (pv 1)) (pd_int)) (pda_cons (pd_can C_store_with (hr.mono (by decide)) (pda_cons (pd_val (pv 0)) (pda_cons (pd_val (pv 2)) (pda_cons (pd_ix ix_seq od_ix (pd_ref (pv 3)) (pd_int) (fun _ _ => rfl)) (pda_cons (pd_can C_worth_in (hr.mono (by decide)) (pda_cons (pd_val (pv 0)) (pda_cons (pd_val (pv 6)) (pda_cons (pd_val (pv 2)) (pda_nil))))) (pda_nil)))))) (pda_nil))))))) (pdb_nil)) (pdb_cons (pds_if (pdt_cmp (op_eqP hr.units) od_eq (pd_ix ix_seq od_ix (pd_ref (pv 3)) (pd_int) (fun _ _ => rfl)) (pd_str (by decide +kernel)) (nomark _)) (pdb_one (pds_ret (pd_lst (pda_cons (pd_tup (pda_cons (pd_op op_addU od_add (pd_ref (pv 1)) (pd_int)) (pda_cons (pd_can C_store_with (hr.mono (by decide)) (pda_cons (pd_val (pv 0)) (pda_cons (pd_val (pv 2)) (pda_cons (pd_ix ix_seq od_ix (pd_ref (pv 3)) (pd_int) (fun _ _ => rfl)) (pda_cons (pd_can C_worth_in (hr.mono (by decide)) (pda_cons (pd_val (pv 0)) (pda_cons (pd_ix ix_seq od_ix (pd_ref (pv 3)) (pd_int) (fun _ _ => rfl)) (pda_cons (pd_val (pv 2)) (pda_nil))))) (pda_nil)))))) (pda_nil)))) (pda_nil))))) (pdb_nil)) (pdb_cons (pds_set (i := 4) sc_stores_behind.nd rfl (by first | exact Or.inl rfl | exact Or.inr rfl) (pd_can C_worth_in (hr.mono (by decide)) (pda_cons (pd_val (pv 0)) (pda_cons (pd_ix ix_seq od_ix (pd_ref (pv 3)) (pd_int) (fun _ _ => rfl)) (pda_cons (pd_val (pv 2)) (pda_nil)))))) (pdb_cons (pds_if (pdw_pt (pdw_or (pdt_cmp (op_eqP hr.units) od_eq (pd_ix ix_seq od_ix (pd_ref (pv 3)) (pd_int) (fun _ _ => rfl)) (pd_str (by decide +kernel)) (nomark _)) (pdw_or1 (pdw_pt (pdw_and (pdt_cmp (op_eqP hr.units) od_eq (pd_ix ix_seq od_ix (pd_ref (pv 3)) (pd_int) (fun _ _ => rfl)) (pd_str (by decide +kernel)) (nomark _)) (pdw_and1 (pdt_cmp (op_eqP hr.units) od_eq (pd_ref (pv 4)) (pd_int) (nomark _)))))))) (pdb_one (pds_ret (pd_lst (pda_nil)))) (pdb_nil)) (pdb_cons (pds_set (i := 5) sc_stores_behind.nd rfl (by first | exact Or.inl rfl | exact Or.inr rfl) (pd_int)) (pdb_cons (pds_if (pdw_pt (pdw_and (pdt_cmp (op_eqP hr.units) od_eq (pd_ix ix_seq od_ix (pd_ref (pv 3)) (pd_int) (fun _ _ => rfl)) (pd_str (by decide +kernel)) (nomark _)) (pdw_and1 (pdt_cmp (op_neP hr.units) od_ne (pd_ref (pv 4)) (pd_int) (nomark _))))) (pdb_one (pds_set (i := 5) sc_stores_behind.nd rfl (by first | exact Or.inl rfl | exact Or.inr rfl) (pd_ix ix_seq od_ix (pd_ref (pv 3)) (pd_int) (fun _ _ => rfl)))) (pdb_nil)) (pdb_one (pds_ret (pd_lst (pda_cons (pd_tup (pda_cons (pd_callB (call_min2 rfl) cd_MM rfl T.b_min (by decide +kernel) (pda_cons (pd_op op_addU od_add (pd_op op_addU od_add (pd_ref (pv 1)) (pd_int)) (pd_ref (pv 5))) (pda_cons (pd_callB call_lenU cd_lenU rfl T.b_len boot_len (pda_cons (pd_ix ix_seq od_ix (pd_ref (pv 0)) (pd_int) (fun _ _ => rfl)) (pda_nil))) (pda_nil)))) (pda_cons (pd_val (pv 2)) (pda_nil)))) (pda_nil)))))))))))) vc_stores_behind) (fun _ _ _ _ _ _ us hl => match us, hl with | [_, _, _], _ => rfl)
theorem sc_stores_by_rows : FnScope ["program", "store", "found", "row", "here", "behind", "other"] ["program", "store"] (defScope s_stores_by_rows) := ⟨rfl, rfl, rfl, by decide +kernel, rfl, by decide +kernel, by decide +kernel⟩
/- c_stores_by_rows: by hand, level 9 -/
theorem sc_ways_from : FnScope ["program", "place", "row", "store", "asked", "word", "things", "stores", "worth", "over", "thing", "one"] ["program", "place"] (defScope s_ways_from) := ⟨rfl, rfl, rfl, by decide +kernel, rfl, by decide +kernel, by decide +kernel⟩
theorem c_ways_from (T : Top P w K mg) (C_store_with : Can P w K mg base 2 "store_with" ["program", "store", "box", "worth"] sp_store_with) (C_worth_in : Can P w K mg base 6 "worth_in" ["program", "thing", "store"] (sp_worth_in 5)) (C_place_or_end : Can P w K mg base 2 "place_or_end" ["program", "row", "store"] sp_place_or_end) : Can P w K mg base 8 "ways_from" ["program", "place"] sp_ways_from :=
  can_of T.s_ways_from (fun f fd F => okD (k := 7) F sc_ways_from (by decide) (fun as Q E h => by obtain ⟨_, _, _, rfl, _⟩ := h; rfl) t_ways_from (fun cdv A outer s H E G hr => pdb_cons (pds_asg (pd_val (pv 1)) (pdg_tup rfl (pdgs_cons (pdg_name sc_ways_from.nd rfl (by first | exact Or.inl rfl | exact Or.inr rfl)) (pdgs_cons (pdg_name sc_ways_from.nd rfl (by first | exact Or.inl rfl | exact Or.inr rfl)) (pdgs_nil))) rfl)) (pdb_cons (pds_set (i := 4) sc_ways_from.nd rfl (by first | exact Or.inl rfl | exact Or.inr rfl) (pd_ix ix_seq od_ix (pd_ix ix_seq od_ix (pd_ref (pv 0)) (pd_int) (fun _ _ => rfl)) (pd_val (pv 2)) (fun _ _ => rfl))) (pdb_cons (pds_set (i := 5) sc_ways_from.nd rfl (by first | exact Or.inl rfl | exact Or.inr rfl) (pd_ix ix_seq od_ix (pd_ref (pv 4)) (pd_int) (fun _ _ => rfl))) (pdb_cons (pds_if (pdt_cmp (op_inU) od_in (pd_ref (pv 5)) (pd_tup (pda_cons (pd_str (by decide +kernel)) (pda_cons (pd_str (by decide +kernel)) (pda_nil)))) (by rfl)) (pdb_cons (pds_set (i := 6) sc_ways_from.nd rfl (by first | exact Or.inl rfl | exact Or.inr rfl) (pd_ix ix_seq od_ix (pd_ref (pv 4)) (pd_int) (fun _ _ => rfl))) (pdb_cons (pds_if (pdt_cmp (op_eqP hr.units) od_eq (pd_ref (pv 5)) (pd_str (by decide +kernel)) (nomark _)) (pdb_one (pds_set (i := 6) sc_ways_from.nd rfl (by first | exact Or.inl rfl | exact Or.inr rfl) (pd_lst (pda_cons (pd_ix ix_seq od_ix (pd_ref (pv 4)) (pd_int) (fun _ _ => rfl)) (pda_nil))))) (pdb_nil)) (pdb_cons (pds_setLc (i := 7) (own := [("thing", 10)]) [0, 3] (by rfl) rfl sc_ways_from.nd rfl rfl (sw_true rfl rfl rfl (by decide +kernel)) (pdi_seq (pd_val (pv 6))) (blkOk_by (N := ["program", "place", "row", "store", "asked", "word", "things", "stores", "worth", "over", "thing", "one"]) (sc := defScope s_ways_from) (by decide +kernel)) (fun _ _ _ _ _ _ => pdg_name sc_ways_from.nd rfl (by first | exact Or.inl rfl | exact Or.inr rfl)) (fun _ _ _ _ _ _ => pdts_nil) (fun _ _ _ _ _ _ => pd_can C_store_with (hr.mono (by decide)) (pda_cons (pd_val (pv 0)) (pda_cons (pd_val (pv 3)) (pda_cons (pd_ix ix_seq od_ix (pd_ref (pv 4)) (pd_int) (fun _ _ => rfl)) (pda_cons (pd_can C_worth_in (hr.mono (by decide)) (pda_cons (pd_val (pv 0)) (pda_cons (pd_val (pv 10)) (pda_cons (pd_val (pv 3)) (pda_nil))))) (pda_nil))))))) (pdb_one (pds_ret (pd_lc (own := [("one", 11)]) [0] (by rfl) rfl sc_ways_from.nd (pdi_seq (pd_val (pv 7))) (blkOk_by (N := ["program", "place", "row", "store", "asked", "word", "things", "stores", "worth", "over", "thing", "one"]) (sc := defScope s_ways_from) (by decide +kernel)) (fun _ _ _ _ _ _ => pdg_name sc_ways_from.nd rfl (by first | exact Or.inl rfl | exact Or.inr rfl)) (fun _ _ _ _ _ _ => pdts_nil) (fun _ _ _ _ _ _ => pd_can C_place_or_end (hr.mono (by decide)) (pda_cons (pd_val (pv 0)) (pda_cons (pd_op op_addU od_add (pd_ref (pv 2)) (pd_int)) (pda_cons (pd_val (pv 11)) (pda_nil))))))))))) (pdb_nil)) (pdb_cons (pds_set (i := 8) sc_ways_from.nd rfl (by first | exact Or.inl rfl | exact Or.inr rfl) (pd_can C_worth_in (hr.mono (by decide)) (pda_cons (pd_val (pv 0)) (pda_cons (pd_ix ix_seq od_ix (pd_ref (pv 4)) (pd_int) (fun _ _ => rfl)) (pda_cons (pd_val (pv 3)) (pda_nil)))))) (pdb_cons (pds_if (pdt_cmp (op_eqP hr.units) od_eq (pd_ref (pv 5)) (pd_str (by decide +kernel)) (nomark _)) (pdb_one (pds_ret (pd_lst (pda_cons (pd_tup (pda_cons (pd_str (by decide +kernel)) (pda_cons (pd_val (pv 8)) (pda_nil)))) (pda_nil))))) (pdb_nil)) (pdb_cons (pds_if (pdw_pt (pdw_and (pdt_cmp (op_eqP hr.units) od_eq (pd_ref (pv 5)) (pd_str (by decide +kernel)) (nomark _)) (pdw_and1 (pdt_cmp (op_eqP hr.units) od_eq (pd_ref (pv 8)) (pd_int) (nomark _))))) (pdb_one (pds_ret (pd_lst (pda_cons (pd_gt T.t_NOTHING) (pda_nil))))) (pdb_nil)) (pdb_cons (pds_set (i := 9) sc_ways_from.nd rfl (by first | exact Or.inl rfl | exact Or.inr rfl) (pd_int)) (pdb_cons (pds_if (pdw_pt (pdw_and (pdt_cmp (op_eqP hr.units) od_eq (pd_ref (pv 5)) (pd_str (by decide +kernel)) (nomark _)) (pdw_and1 (pdt_cmp (op_neP hr.units) od_ne (pd_ref (pv 8)) (pd_int) (nomark _))))) (pdb_one (pds_set (i := 9) sc_ways_from.nd rfl (by first | exact Or.inl rfl | exact Or.inr rfl) (pd_ix ix_seq od_ix (pd_ref (pv 4)) (pd_int) (fun _ _ => rfl)))) (pdb_nil)) (pdb_one (pds_ret (pd_lst (pda_cons (pd_can C_place_or_end (hr.mono (by decide)) (pda_cons (pd_val (pv 0)) (pda_cons (pd_op op_addU od_add (pd_op op_addU od_add (pd_ref (pv 2)) (pd_int)) (pd_ref (pv 9))) (pda_cons (pd_val (pv 3)) (pda_nil))))) (pda_nil)))))))))))))) vc_ways_from) (fun _ _ _ _ _ _ us hl => match us, hl with | [_, _], _ => rfl)
theorem sc_counts_on : FnScope ["program", "store", "found", "stores", "row", "here", "counts", "way", "behind", "end", "many"] ["program", "store"] (defScope s_counts_on) := ⟨rfl, rfl, rfl, by decide +kernel, rfl, by decide +kernel, by decide +kernel⟩
theorem c_counts_on (T : Top P w K mg) (C_stores_by_rows : Can P w K mg base 10 "stores_by_rows" ["program", "store"] sp_stores_by_rows) (C_ways_from : Can P w K mg base 8 "ways_from" ["program", "place"] sp_ways_from) (C_is_place : Can P w K mg base 2 "is_place" ["way"] sp_is_place) : Can P w K mg base 12 "counts_on" ["program", "store"] sp_counts_on :=
  can_of T.s_counts_on (fun f fd F => okD (k := 11) F sc_counts_on (by decide) (fun as Q E h => by obtain ⟨_, _, rfl, _⟩ := h; rfl) t_counts_on (fun cdv A outer s H E G hr => pdb_cons (pds_set (i := 2) sc_counts_on.nd rfl (by first | exact Or.inl rfl | exact Or.inr rfl) (pd_dnew)) (pdb_cons (pds_set (i := 3) sc_counts_on.nd rfl (by first | exact Or.inl rfl | exact Or.inr rfl) (pd_can C_stores_by_rows (hr.mono (by decide)) (pda_cons (pd_val (pv 0)) (pda_cons (pd_val (pv 1)) (pda_nil))))) (pdb_cons (pds_for PassesOwn.never rfl (pdi_range3 rfl T.b_range (pda_cons (pd_op op_sub od_I0 (pd_callB call_lenU cd_lenU rfl T.b_len boot_len (pda_cons (pd_ix ix_seq od_ix (pd_ref (pv 0)) (pd_int) (fun _ _ => rfl)) (pda_nil))) (pd_int)) (pda_cons (pd_neg (pd_int)) (pda_cons (pd_neg (pd_int)) (pda_nil))))) (pdg_name sc_counts_on.nd rfl (by first | exact Or.inl rfl | exact Or.inr rfl)) (pdb_one (pds_for PassesOwn.never rfl (pdi_keys (pd_ix ix_seq od_ix (pd_ref (pv 3)) (pd_val (pv 4)) (fun _ _ => rfl))) (pdg_name sc_counts_on.nd rfl (by first | exact Or.inl rfl | exact Or.inr rfl)) (pdb_cons (pds_set (i := 6) sc_counts_on.nd rfl (by first | exact Or.inl rfl | exact Or.inr rfl) (pd_dnew)) (pdb_cons (pds_for PassesOwn.never rfl (pdi_seq (pd_can C_ways_from (hr.mono (by decide)) (pda_cons (pd_val (pv 0)) (pda_cons (pd_tup (pda_cons (pd_val (pv 4)) (pda_cons (pd_val (pv 5)) (pda_nil)))) (pda_nil))))) (pdg_name sc_counts_on.nd rfl (by first | exact Or.inl rfl | exact Or.inr rfl)) (pdb_cons (pds_set (i := 8) sc_counts_on.nd rfl (by first | exact Or.inl rfl | exact Or.inr rfl) (pd_d1 hr.units (pv 7) pe_int)) (pdb_cons (pds_if (pdt_val (pd_can C_is_place (hr.mono (by decide)) (pda_cons (pd_val (pv 7)) (pda_nil)))) (pdb_one (pds_set (i := 8) sc_counts_on.nd rfl (by first | exact Or.inl rfl | exact Or.inr rfl) (pd_ix (ix_N hr.units) od_dget (pd_ref (pv 2)) (pd_val (pv 7)) (fun _ _ => rfl)))) (pdb_nil)) (pdb_one (pds_for PassesOwn.never rfl (pdi_items (pd_val (pv 8))) (pdg_tup rfl (pdgs_cons (pdg_name sc_counts_on.nd rfl (by first | exact Or.inl rfl | exact Or.inr rfl)) (pdgs_cons (pdg_name sc_counts_on.nd rfl (by first | exact Or.inl rfl | exact Or.inr rfl)) (pdgs_nil))) rfl) (pdb_one (pds_dput hr.units (pv 6) (pd_val (pv 9)) (pd_op op_addU od_add (pd_dget2 hr.units (pd_ref (pv 6)) (pd_val (pv 9)) (pd_int)) (pd_ref (pv 10)))))))))) (pdb_one (pds_dput hr.units (pv 2) (pd_tup (pda_cons (pd_val (pv 4)) (pda_cons (pd_val (pv 5)) (pda_nil)))) (pd_val (pv 6))))))))) (pdb_one (pds_ret (pd_mov (pv 2))))))) vc_counts_on) (fun _ _ _ _ _ _ us hl => match us, hl with | [_, _], _ => rfl)
theorem sc_ends_counted : FnScope ["program", "store", "begin"] ["program", "store"] (defScope s_ends_counted) := ⟨rfl, rfl, rfl, by decide +kernel, rfl, by decide +kernel, by decide +kernel⟩
theorem c_ends_counted (T : Top P w K mg) (C_need_store : Can P w K mg base 4 "need_store" ["program", "store"] sp_need_store) (C_begin_of : Can P w K mg base 4 "begin_of" ["program", "store"] sp_begin_of) (C_is_place : Can P w K mg base 2 "is_place" ["way"] sp_is_place) (C_counts_on : Can P w K mg base 12 "counts_on" ["program", "store"] sp_counts_on) : Can P w K mg base 14 "ends_counted" ["program", "store"] sp_ends_counted :=
  can_of T.s_ends_counted (fun f fd F => okD (k := 13) F sc_ends_counted (by decide) (fun as Q E h => by obtain ⟨_, _, rfl, _⟩ := h; rfl) t_ends_counted (fun cdv A outer s H E G hr => pdb_cons (pds_expr (pd_can C_need_store (hr.mono (by decide)) (pda_cons (pd_val (pv 0)) (pda_cons (pd_val (pv 1)) (pda_nil))))) (pdb_cons (pds_set (i := 2) sc_ends_counted.nd rfl (by first | exact Or.inl rfl | exact Or.inr rfl) (pd_can C_begin_of (hr.mono (by decide)) (pda_cons (pd_val (pv 0)) (pda_cons (pd_val (pv 1)) (pda_nil))))) (pdb_cons (pds_if (pdt_not (pdt_val (pd_can C_is_place (hr.mono (by decide)) (pda_cons (pd_val (pv 2)) (pda_nil))))) (pdb_one (pds_ret (pd_d1 hr.units (pv 2) pe_int))) (pdb_nil)) (pdb_one (pds_ret (pd_ix (ix_N hr.units) od_dget (pd_can C_counts_on (hr.mono (by decide)) (pda_cons (pd_val (pv 0)) (pda_cons (pd_val (pv 1)) (pda_nil)))) (pd_val (pv 2)) (fun _ _ => rfl))))))) vc_ends_counted) (fun _ _ _ _ _ _ us hl => match us, hl with | [_, _], _ => rfl)
theorem sc_run_count : FnScope ["program", "store"] ["program", "store"] (defScope s_run_count) := ⟨rfl, rfl, rfl, by decide +kernel, rfl, by decide +kernel, by decide +kernel⟩
theorem c_run_count (T : Top P w K mg) (C_ends_counted : Can P w K mg base 14 "ends_counted" ["program", "store"] sp_ends_counted) : Can P w K mg base 16 "run_count" ["program", "store"] sp_run_count :=
  can_of T.s_run_count (fun f fd F => okD (k := 15) F sc_run_count (by decide) (fun as Q E h => by obtain ⟨_, _, rfl, _⟩ := h; rfl) t_run_count (fun cdv A outer s H E G hr => pdb_one (pds_ret (pd_sumV rfl rfl T.b_sum (pd_can C_ends_counted (hr.mono (by decide)) (pda_cons (pd_val (pv 0)) (pda_cons (pd_val (pv 1)) (pda_nil))))))) vc_run_count) (fun _ _ _ _ _ _ us hl => match us, hl with | [_, _], _ => rfl)
theorem sc__law_gone : FnScope ["program", "store", "choices", "way", "place", "left", "ways", "choice"] ["program", "store", "choices"] (defScope s__law_gone) := ⟨rfl, rfl, rfl, by decide +kernel, rfl, by decide +kernel, by decide +kernel⟩
theorem c__law_gone (T : Top P w K mg) (C__law_ways : Can P w K mg base 8 "_law_ways" ["program", "place"] sp__law_ways) : Can P w K mg base 10 "_law_gone" ["program", "store", "choices"] sp__law_gone :=
  can_of T.s__law_gone (fun f fd F => okD (k := 9) F sc__law_gone (by decide) (fun as Q E h => by obtain ⟨_, _, _, _, _, rfl, _⟩ := h; rfl) t__law_gone (fun cdv A outer s H E G hr => pdb_cons (pds_set (i := 3) sc__law_gone.nd rfl (by first | exact Or.inl rfl | exact Or.inr rfl) (pd_tup (pda_cons (pd_int) (pda_cons (pd_val (pv 1)) (pda_nil))))) (pdb_cons (pds_set (i := 4) sc__law_gone.nd rfl (by first | exact Or.inl rfl | exact Or.inr rfl) (pd_val (pv 3))) (pdb_cons (pds_set (i := 5) sc__law_gone.nd rfl (by first | exact Or.inl rfl | exact Or.inr rfl) (pd_callTy (call_listU rfl) cd_listU rfl T.b_list (by decide +kernel) (pda_cons (pd_ref (pv 2)) (pda_nil)))) (pdb_cons (pds_if (pdt_cmp (op_eqP hr.units) od_eq (pd_ix ix_seq od_ix (pd_ref (pv 0)) (pd_int) (fun _ _ => rfl)) (pd_lst (pda_nil)) (nomark _)) (pdb_one (pds_set (i := 3) sc__law_gone.nd rfl (by first | exact Or.inl rfl | exact Or.inr rfl) (pd_tup (pda_cons (pd_str (by decide +kernel)) (pda_nil))))) (pdb_nil)) (pdb_cons (pds_while PassesOwn.never (pdt_cmp (op_notInU) od_in (pd_ix ix_seq od_ix (pd_ref (pv 3)) (pd_int) (fun _ _ => rfl)) (pd_tup (pda_cons (pd_str (by decide +kernel)) (pda_cons (pd_str (by decide +kernel)) (pda_nil)))) (by rfl)) (pdb_wipe [6, 7] (pdb_cons (pds_set (i := 4) sc__law_gone.nd rfl (by first | exact Or.inl rfl | exact Or.inr rfl) (pd_val (pv 3))) (pdb_cons (pds_set (i := 6) sc__law_gone.nd rfl (by first | exact Or.inl rfl | exact Or.inr rfl) (pd_can C__law_ways (hr.mono (by decide)) (pda_cons (pd_val (pv 0)) (pda_cons (pd_val (pv 4)) (pda_nil))))) (pdb_cons (pds_set (i := 7) sc__law_gone.nd rfl (by first | exact Or.inl rfl | exact Or.inr rfl) (pd_int)) (pdb_cons (pds_if (pdt_cmp (op_eqP hr.units) od_eq (pd_ix ix_seq od_ix (pd_ix ix_seq od_ix (pd_ix ix_seq od_ix (pd_ref (pv 0)) (pd_int) (fun _ _ => rfl)) (pd_ix ix_seq od_ix (pd_ref (pv 4)) (pd_int) (fun _ _ => rfl)) (fun _ _ => rfl)) (pd_int) (fun _ _ => rfl)) (pd_str (by decide +kernel)) (nomark _)) (pdb_cons (pds_set (i := 7) sc__law_gone.nd rfl (by first | exact Or.inl rfl | exact Or.inr rfl) (pd_popT (pd_op op_addU od_add (pd_ref (pv 5)) (pd_lst (pda_cons (pd_neg (pd_int)) (pda_nil)))) pe_int)) (pdb_one (pds_set (i := 5) sc__law_gone.nd rfl (by first | exact Or.inl rfl | exact Or.inr rfl) (pd_sl (pd_ref (pv 5)) (pdo_some (pd_int)) pdo_none)))) (pdb_nil)) (pdb_cons (pds_if (pdt_notInRng rfl T.b_range (pd_ref (pv 7)) (pd_callB call_lenU cd_lenU rfl T.b_len boot_len (pda_cons (pd_ref (pv 6)) (pda_nil)))) (pdb_one (pds_ret (pd_tup (pda_cons (pd_non) (pda_cons (pd_val (pv 1)) (pda_cons (pd_lst (pda_nil)) (pda_nil))))))) (pdb_nil)) (pdb_one (pds_set (i := 3) sc__law_gone.nd rfl (by first | exact Or.inl rfl | exact Or.inr rfl) (pd_ix ix_seq od_ix (pd_ref (pv 6)) (pd_val (pv 7)) (fun _ _ => rfl))))))))))) (pdb_one (pds_ret (pd_tup (pda_cons (pd_val (pv 3)) (pda_cons (pd_ix ix_seq od_ix (pd_ref (pv 4)) (pd_int) (fun _ _ => rfl)) (pda_cons (pd_val (pv 5)) (pda_nil)))))))))))) vc__law_gone) (fun _ _ _ _ _ _ us hl => match us, hl with | [_, _, _], _ => rfl)
theorem sc_is_pick : FnScope ["program", "place"] ["program", "place"] (defScope s_is_pick) := ⟨rfl, rfl, rfl, by decide +kernel, rfl, by decide +kernel, by decide +kernel⟩
theorem c_is_pick (T : Top P w K mg) : Can P w K mg base 2 "is_pick" ["program", "place"] sp_is_pick :=
  can_of T.s_is_pick (fun f fd F => okD (k := 1) F sc_is_pick (by decide) (fun as Q E h => by obtain ⟨_, _, _, rfl, _⟩ := h; rfl) t_is_pick (fun cdv A outer s H E G hr => pdb_one (pds_ret (pd_cmp (op_eqP hr.units) od_eq (pd_ix ix_seq od_ix (pd_ix ix_seq od_ix (pd_ix ix_seq od_ix (pd_ref (pv 0)) (pd_int) (fun _ _ => rfl)) (pd_ix ix_seq od_ix (pd_ref (pv 1)) (pd_int) (fun _ _ => rfl)) (fun _ _ => rfl)) (pd_int) (fun _ _ => rfl)) (pd_str (by decide +kernel)) (nomark _)))) vc_is_pick) (fun _ _ _ _ _ _ us hl => match us, hl with | [_, _], _ => rfl)
theorem sc_walked : FnScope ["program", "store", "choices", "found", "met", "ways", "choice"] ["program", "store", "choices"] (defScope s_walked) := ⟨rfl, rfl, rfl, by decide +kernel, rfl, by decide +kernel, by decide +kernel⟩
theorem c_walked (T : Top P w K mg) (C_need_store : Can P w K mg base 4 "need_store" ["program", "store"] sp_need_store) (C_begin_of : Can P w K mg base 4 "begin_of" ["program", "store"] sp_begin_of) (C_is_place : Can P w K mg base 2 "is_place" ["way"] sp_is_place) (C_ways_from : Can P w K mg base 8 "ways_from" ["program", "place"] sp_ways_from) (C_is_pick : Can P w K mg base 2 "is_pick" ["program", "place"] sp_is_pick) (C_is_whole : Can P w K mg base 2 "is_whole" ["thing", "low", "high"] sp_is_whole) : Can P w K mg base 10 "walked" ["program", "store", "choices"] sp_walked :=
  can_of T.s_walked (fun f fd F => okD (k := 9) F sc_walked (by decide) (fun as Q E h => by obtain ⟨_, _, _, _, rfl, _⟩ := h; rfl) t_walked (fun cdv A outer s H E G hr => pdb_cons (pds_expr (pd_can C_need_store (hr.mono (by decide)) (pda_cons (pd_val (pv 0)) (pda_cons (pd_val (pv 1)) (pda_nil))))) (pdb_cons (pds_if (pdt_not (pdt_val (pd_isi rfl T.b_isinstance (pd_ref (pv 2)) (pe_bltn rfl T.b_list (by decide +kernel) (v := .ty "list") rfl)))) (pdb_one (pds_never)) (pdb_nil)) (pdb_cons (pds_set (i := 3) sc_walked.nd rfl (by first | exact Or.inl rfl | exact Or.inr rfl) (pd_lst (pda_cons (pd_can C_begin_of (hr.mono (by decide)) (pda_cons (pd_val (pv 0)) (pda_cons (pd_val (pv 1)) (pda_nil)))) (pda_nil)))) (pdb_cons (pds_set (i := 4) sc_walked.nd rfl (by first | exact Or.inl rfl | exact Or.inr rfl) (pd_int)) (pdb_cons (pds_while PassesOwn.never (pdt_val (pd_can C_is_place (hr.mono (by decide)) (pda_cons (pd_ix ix_seq od_ix (pd_ref (pv 3)) (pd_neg (pd_int)) (fun _ _ => rfl)) (pda_nil)))) (pdb_wipe [5, 6] (pdb_cons (pds_set (i := 5) sc_walked.nd rfl (by first | exact Or.inl rfl | exact Or.inr rfl) (pd_can C_ways_from (hr.mono (by decide)) (pda_cons (pd_val (pv 0)) (pda_cons (pd_ix ix_seq od_ix (pd_ref (pv 3)) (pd_neg (pd_int)) (fun _ _ => rfl)) (pda_nil))))) (pdb_cons (pds_set (i := 6) sc_walked.nd rfl (by first | exact Or.inl rfl | exact Or.inr rfl) (pd_int)) (pdb_cons (pds_if (pdt_val (pd_can C_is_pick (hr.mono (by decide)) (pda_cons (pd_val (pv 0)) (pda_cons (pd_ix ix_seq od_ix (pd_ref (pv 3)) (pd_neg (pd_int)) (fun _ _ => rfl)) (pda_nil))))) (pdb_cons (pds_if (pdw_pt (pdw_or (pdt_cmp (op_eqP hr.units) od_eq (pd_ref (pv 4)) (pd_callB call_lenU cd_lenU rfl T.b_len boot_len (pda_cons (pd_ref (pv 2)) (pda_nil))) (nomark _)) (pdw_or1 (pdt_not (pdt_val (pd_can C_is_whole (hr.mono (by decide)) (pda_cons (pd_ix ix_seq od_ix (pd_ref (pv 2)) (pd_val (pv 4)) (fun _ _ => rfl)) (pda_cons (pd_int) (pda_cons (pd_op op_sub od_I0 (pd_callB call_lenU cd_lenU rfl T.b_len boot_len (pda_cons (pd_ref (pv 5)) (pda_nil))) (pd_int)) (pda_nil)))))))))) (pdb_one (pds_never)) (pdb_nil)) (pdb_cons (pds_set (i := 6) sc_walked.nd rfl (by first | exact Or.inl rfl | exact Or.inr rfl) (pd_ix ix_seq od_ix (pd_ref (pv 2)) (pd_val (pv 4)) (fun _ _ => rfl))) (pdb_one (pds_aug (i := 4) sc_walked.nd rfl (by first | exact Or.inl rfl | exact Or.inr rfl) (pd_int) ip_add)))) (pdb_nil)) (pdb_one (pds_expr (pd_append (pv 3) (pd_ix ix_seq od_ix (pd_ref (pv 5)) (pd_val (pv 6)) (fun _ _ => rfl)))))))))) (pdb_cons (pds_if (pdt_cmp (op_lt) od_B0 (pd_ref (pv 4)) (pd_callB call_lenU cd_lenU rfl T.b_len boot_len (pda_cons (pd_ref (pv 2)) (pda_nil))) (nomark _)) (pdb_one (pds_never)) (pdb_nil)) (pdb_one (pds_ret (pd_mov (pv 3)))))))))) vc_walked) (fun _ _ _ _ _ _ us hl => match us, hl with | [_, _, _], _ => rfl)
theorem sc_end_of : FnScope ["program", "store", "choices"] ["program", "store", "choices"] (defScope s_end_of) := ⟨rfl, rfl, rfl, by decide +kernel, rfl, by decide +kernel, by decide +kernel⟩
theorem c_end_of (T : Top P w K mg) (C_walked : Can P w K mg base 10 "walked" ["program", "store", "choices"] sp_walked) : Can P w K mg base 12 "end_of" ["program", "store", "choices"] sp_end_of :=
  can_of T.s_end_of (fun f fd F => okD (k := 11) F sc_end_of (by decide) (fun as Q E h => by obtain ⟨_, _, _, _, rfl, _⟩ := h; rfl) t_end_of (fun cdv A outer s H E G hr => pdb_one (pds_ret (pd_ix ix_seq od_ix (pd_can C_walked (hr.mono (by decide)) (pda_cons (pd_val (pv 0)) (pda_cons (pd_val (pv 1)) (pda_cons (pd_val (pv 2)) (pda_nil))))) (pd_neg (pd_int)) (fun _ _ => rfl)))) vc_end_of) (fun _ _ _ _ _ _ us hl => match us, hl with | [_, _, _], _ => rfl)
theorem sc__law_run_right : FnScope ["one", "other", "box", "store", "both", "choices", "end", "here", "left"] ["one", "other", "box", "store", "both", "choices"] (defScope s__law_run_right) := ⟨rfl, rfl, rfl, by decide +kernel, rfl, by decide +kernel, by decide +kernel⟩
theorem c__law_run_right (T : Top P w K mg) (C__law_gone : Can P w K mg base 10 "_law_gone" ["program", "store", "choices"] sp__law_gone) (C__law_set : Can P w K mg base 2 "_law_set" ["program", "store", "box", "worth"] sp__law_set) (C_end_of : Can P w K mg base 12 "end_of" ["program", "store", "choices"] sp_end_of) : Can P w K mg base 14 "_law_run_right" ["one", "other", "box", "store", "both", "choices"] sp__law_run_right :=
  can_of T.s__law_run_right (fun f fd F => okD (k := 13) F sc__law_run_right (by decide) (fun as Q E h => by obtain ⟨_, _, _, _, _, _, rfl, _⟩ := h; rfl) t__law_run_right (fun cdv A outer s H E G hr => pdb_cons (pds_asg (pd_can C__law_gone (hr.mono (by decide)) (pda_cons (pd_val (pv 0)) (pda_cons (pd_val (pv 3)) (pda_cons (pd_val (pv 5)) (pda_nil))))) (pdg_tup rfl (pdgs_cons (pdg_name sc__law_run_right.nd rfl (by first | exact Or.inl rfl | exact Or.inr rfl)) (pdgs_cons (pdg_name sc__law_run_right.nd rfl (by first | exact Or.inl rfl | exact Or.inr rfl)) (pdgs_cons (pdg_name sc__law_run_right.nd rfl (by first | exact Or.inl rfl | exact Or.inr rfl)) (pdgs_nil)))) rfl)) (pdb_cons (pds_if (pdw_pt (pdw_and (pdt_notN (pd_ref (pv 6))) (pdw_and1 (pdt_cmp (op_eqP hr.units) od_eq (pd_ix ix_seq od_ix (pd_ref (pv 6)) (pd_int) (fun _ _ => rfl)) (pd_str (by decide +kernel)) (nomark _))))) (pdb_one (pds_asg (pd_can C__law_gone (hr.mono (by decide)) (pda_cons (pd_val (pv 1)) (pda_cons (pd_can C__law_set (hr.mono (by decide)) (pda_cons (pd_val (pv 0)) (pda_cons (pd_val (pv 7)) (pda_cons (pd_val (pv 2)) (pda_cons (pd_ix ix_seq od_ix (pd_ref (pv 6)) (pd_int) (fun _ _ => rfl)) (pda_nil)))))) (pda_cons (pd_val (pv 8)) (pda_nil))))) (pdg_tup rfl (pdgs_cons (pdg_name sc__law_run_right.nd rfl (by first | exact Or.inl rfl | exact Or.inr rfl)) (pdgs_cons (pdg_name sc__law_run_right.nd rfl (by first | exact Or.inl rfl | exact Or.inr rfl)) (pdgs_cons (pdg_name sc__law_run_right.nd rfl (by first | exact Or.inl rfl | exact Or.inr rfl)) (pdgs_nil)))) rfl))) (pdb_nil)) (pdb_one (pds_ret (pd_and (pd_notN (pd_ref (pv 6))) (pd_and (pd_cmp (op_eqP hr.units) od_eq (pd_ref (pv 8)) (pd_lst (pda_nil)) (nomark _)) (pd_one (pd_cmp (op_eqP hr.units) od_eq (pd_can C_end_of (hr.mono (by decide)) (pda_cons (pd_val (pv 4)) (pda_cons (pd_val (pv 3)) (pda_cons (pd_val (pv 5)) (pda_nil))))) (pd_ref (pv 6)) (nomark _))))))))) vc__law_run_right) (fun _ _ _ _ _ _ us hl => match us, hl with | [_, _, _, _, _, _], _ => rfl)
theorem sc_count_nothing : FnScope ["program", "store"] ["program", "store"] (defScope s_count_nothing) := ⟨rfl, rfl, rfl, by decide +kernel, rfl, by decide +kernel, by decide +kernel⟩
theorem c_count_nothing (T : Top P w K mg) (C_ends_counted : Can P w K mg base 14 "ends_counted" ["program", "store"] sp_ends_counted) : Can P w K mg base 16 "count_nothing" ["program", "store"] sp_count_nothing :=
  can_of T.s_count_nothing (fun f fd F => okD (k := 15) F sc_count_nothing (by decide) (fun as Q E h => by obtain ⟨_, _, rfl, _⟩ := h; rfl) t_count_nothing (fun cdv A outer s H E G hr => pdb_one (pds_ret (pd_dget2 hr.units (pd_can C_ends_counted (hr.mono (by decide)) (pda_cons (pd_val (pv 0)) (pda_cons (pd_val (pv 1)) (pda_nil)))) (pd_gt T.t_NOTHING) (pd_int)))) vc_count_nothing) (fun _ _ _ _ _ _ us hl => match us, hl with | [_, _], _ => rfl)
theorem sc_all_runs : FnScope ["program", "store", "found", "waiting", "choices", "way", "ways", "k"] ["program", "store"] (defScope s_all_runs) := ⟨rfl, rfl, rfl, by decide +kernel, rfl, by decide +kernel, by decide +kernel⟩
theorem c_all_runs (T : Top P w K mg) (C_need_store : Can P w K mg base 4 "need_store" ["program", "store"] sp_need_store) (C_begin_of : Can P w K mg base 4 "begin_of" ["program", "store"] sp_begin_of) (C_is_place : Can P w K mg base 2 "is_place" ["way"] sp_is_place) (C_is_pick : Can P w K mg base 2 "is_pick" ["program", "place"] sp_is_pick) (C_ways_from : Can P w K mg base 8 "ways_from" ["program", "place"] sp_ways_from) : Can P w K mg base 10 "all_runs" ["program", "store"] sp_all_runs :=
  can_of T.s_all_runs (fun f fd F => okD (k := 9) F sc_all_runs (by decide) (fun as Q E h => by obtain ⟨_, _, rfl, _⟩ := h; rfl) t_all_runs (fun cdv A outer s H E G hr => pdb_cons (pds_expr (pd_can C_need_store (hr.mono (by decide)) (pda_cons (pd_val (pv 0)) (pda_cons (pd_val (pv 1)) (pda_nil))))) (pdb_cons (pds_set (i := 2) sc_all_runs.nd rfl (by first | exact Or.inl rfl | exact Or.inr rfl) (pd_lst (pda_nil))) (pdb_cons (pds_set (i := 3) sc_all_runs.nd rfl (by first | exact Or.inl rfl | exact Or.inr rfl) (pd_lst (pda_cons (pd_tup (pda_cons (pd_lst (pda_nil)) (pda_cons (pd_can C_begin_of (hr.mono (by decide)) (pda_cons (pd_val (pv 0)) (pda_cons (pd_val (pv 1)) (pda_nil)))) (pda_nil)))) (pda_nil)))) (pdb_cons (pds_while PassesOwn.never (pdt_cmp (op_neP hr.units) od_ne (pd_ref (pv 3)) (pd_lst (pda_nil)) (nomark _)) (pdb_cons (pds_asg (pd_pop (pv 3)) (pdg_tup rfl (pdgs_cons (pdg_name sc_all_runs.nd rfl (by first | exact Or.inl rfl | exact Or.inr rfl)) (pdgs_cons (pdg_name sc_all_runs.nd rfl (by first | exact Or.inl rfl | exact Or.inr rfl)) (pdgs_nil))) rfl)) (pdb_one (pds_if (pdt_not (pdt_val (pd_can C_is_place (hr.mono (by decide)) (pda_cons (pd_val (pv 5)) (pda_nil))))) (pdb_cons (pds_expr (pd_append (pv 2) (pd_tup (pda_cons (pd_val (pv 4)) (pda_cons (pd_val (pv 5)) (pda_nil)))))) (pdb_one (pds_if (pdt_cmp (op_gt) od_B0 (pd_callB call_lenU cd_lenU rfl T.b_len boot_len (pda_cons (pd_ref (pv 2)) (pda_nil))) (pd_gi T.i_MOST_RUNS) (nomark _)) (pdb_one (pds_never)) (pdb_nil)))) (pdb_one (pds_if (pdt_val (pd_can C_is_pick (hr.mono (by decide)) (pda_cons (pd_val (pv 0)) (pda_cons (pd_val (pv 5)) (pda_nil))))) (pdb_cons (pds_set (i := 6) sc_all_runs.nd rfl (by first | exact Or.inl rfl | exact Or.inr rfl) (pd_can C_ways_from (hr.mono (by decide)) (pda_cons (pd_val (pv 0)) (pda_cons (pd_val (pv 5)) (pda_nil))))) (pdb_one (pds_for PassesOwn.never rfl (pdi_range3 rfl T.b_range (pda_cons (pd_op op_sub od_I0 (pd_callB call_lenU cd_lenU rfl T.b_len boot_len (pda_cons (pd_ref (pv 6)) (pda_nil))) (pd_int)) (pda_cons (pd_neg (pd_int)) (pda_cons (pd_neg (pd_int)) (pda_nil))))) (pdg_name sc_all_runs.nd rfl (by first | exact Or.inl rfl | exact Or.inr rfl)) (pdb_one (pds_expr (pd_append (pv 3) (pd_tup (pda_cons (pd_op op_addU od_add (pd_ref (pv 4)) (pd_lst (pda_cons (pd_val (pv 7)) (pda_nil)))) (pda_cons (pd_ix ix_seq od_ix (pd_ref (pv 6)) (pd_val (pv 7)) (fun _ _ => rfl)) (pda_nil)))))))))) (pdb_one (pds_expr (pd_append (pv 3) (pd_tup (pda_cons (pd_val (pv 4)) (pda_cons (pd_ix ix_seq od_ix (pd_can C_ways_from (hr.mono (by decide)) (pda_cons (pd_val (pv 0)) (pda_cons (pd_val (pv 5)) (pda_nil)))) (pd_int) (fun _ _ => rfl)) (pda_nil))))))))))))) (pdb_one (pds_ret (pd_mov (pv 2)))))))) vc_all_runs) (fun _ _ _ _ _ _ us hl => match us, hl with | [_, _], _ => rfl)
theorem sc_answer_counts : FnScope ["program", "store", "counts", "end"] ["program", "store"] (defScope s_answer_counts) := ⟨rfl, rfl, rfl, by decide +kernel, rfl, by decide +kernel, by decide +kernel⟩
theorem c_answer_counts (T : Top P w K mg) (C_ends_counted : Can P w K mg base 14 "ends_counted" ["program", "store"] sp_ends_counted) : Can P w K mg base 16 "answer_counts" ["program", "store"] sp_answer_counts :=
  can_of T.s_answer_counts (fun f fd F => okD (k := 15) F sc_answer_counts (by decide) (fun as Q E h => by obtain ⟨_, _, rfl, _⟩ := h; rfl) t_answer_counts (fun cdv A outer s H E G hr => pdb_cons (pds_set (i := 2) sc_answer_counts.nd rfl (by first | exact Or.inl rfl | exact Or.inr rfl) (pd_can C_ends_counted (hr.mono (by decide)) (pda_cons (pd_val (pv 0)) (pda_cons (pd_val (pv 1)) (pda_nil))))) (pdb_one (pds_ret (pd_lc (own := [("end", 3)]) [] (by rfl) rfl sc_answer_counts.nd (pdi_seq (pd_callB (call_sortedU rfl hr.units) cd_sortedU rfl T.b_sorted (by decide +kernel) (pda_cons (pd_ref (pv 2)) (pda_nil)))) (blkOk_by (N := ["program", "store", "counts", "end"]) (sc := defScope s_answer_counts) (by decide +kernel)) (fun _ _ _ _ _ _ => pdg_name sc_answer_counts.nd rfl (by first | exact Or.inl rfl | exact Or.inr rfl)) (fun _ _ _ _ _ _ => pdts_one (pdt_cmp (op_neP hr.units) od_ne (pd_ref (pv 3)) (pd_gt T.t_NOTHING) (nomark _))) (fun _ _ _ _ _ _ => pd_tup (pda_cons (pd_ix ix_seq od_ix (pd_ref (pv 3)) (pd_int) (fun _ _ => rfl)) (pda_cons (pd_ix (ix_N hr.units) od_dget (pd_ref (pv 2)) (pd_val (pv 3)) (fun _ _ => rfl)) (pda_nil)))))))) vc_answer_counts) (fun _ _ _ _ _ _ us hl => match us, hl with | [_, _], _ => rfl)
theorem sc__law_left : FnScope ["program", "store", "choices", "way", "place", "left", "choice"] ["program", "store", "choices"] (defScope s__law_left) := ⟨rfl, rfl, rfl, by decide +kernel, rfl, by decide +kernel, by decide +kernel⟩
theorem c__law_left (T : Top P w K mg) (C__law_ways : Can P w K mg base 8 "_law_ways" ["program", "place"] sp__law_ways) : Can P w K mg base 10 "_law_left" ["program", "store", "choices"] sp__law_left :=
  can_of T.s__law_left (fun f fd F => okD (k := 9) F sc__law_left (by decide) (fun as Q E h => by obtain ⟨_, _, _, _, _, rfl, _⟩ := h; rfl) t__law_left (fun cdv A outer s H E G hr => pdb_cons (pds_set (i := 3) sc__law_left.nd rfl (by first | exact Or.inl rfl | exact Or.inr rfl) (pd_tup (pda_cons (pd_int) (pda_cons (pd_val (pv 1)) (pda_nil))))) (pdb_cons (pds_set (i := 4) sc__law_left.nd rfl (by first | exact Or.inl rfl | exact Or.inr rfl) (pd_val (pv 3))) (pdb_cons (pds_set (i := 5) sc__law_left.nd rfl (by first | exact Or.inl rfl | exact Or.inr rfl) (pd_callTy (call_listU rfl) cd_listU rfl T.b_list (by decide +kernel) (pda_cons (pd_ref (pv 2)) (pda_nil)))) (pdb_cons (pds_while PassesOwn.never (pdt_cmp (op_notInU) od_in (pd_ix ix_seq od_ix (pd_ref (pv 3)) (pd_int) (fun _ _ => rfl)) (pd_tup (pda_cons (pd_str (by decide +kernel)) (pda_cons (pd_str (by decide +kernel)) (pda_nil)))) (by rfl)) (pdb_wipe [6] (pdb_cons (pds_set (i := 4) sc__law_left.nd rfl (by first | exact Or.inl rfl | exact Or.inr rfl) (pd_val (pv 3))) (pdb_cons (pds_set (i := 6) sc__law_left.nd rfl (by first | exact Or.inl rfl | exact Or.inr rfl) (pd_int)) (pdb_cons (pds_if (pdt_cmp (op_eqP hr.units) od_eq (pd_ix ix_seq od_ix (pd_ix ix_seq od_ix (pd_ix ix_seq od_ix (pd_ref (pv 0)) (pd_int) (fun _ _ => rfl)) (pd_ix ix_seq od_ix (pd_ref (pv 4)) (pd_int) (fun _ _ => rfl)) (fun _ _ => rfl)) (pd_int) (fun _ _ => rfl)) (pd_str (by decide +kernel)) (nomark _)) (pdb_one (pds_set (i := 6) sc__law_left.nd rfl (by first | exact Or.inl rfl | exact Or.inr rfl) (pd_popAt (pv 5) (pd_int)))) (pdb_nil)) (pdb_one (pds_set (i := 3) sc__law_left.nd rfl (by first | exact Or.inl rfl | exact Or.inr rfl) (pd_ix ix_seq od_ix (pd_can C__law_ways (hr.mono (by decide)) (pda_cons (pd_val (pv 0)) (pda_cons (pd_val (pv 4)) (pda_nil)))) (pd_val (pv 6)) (fun _ _ => rfl))))))))) (pdb_one (pds_ret (pd_ix ix_seq od_ix (pd_ref (pv 4)) (pd_int) (fun _ _ => rfl)))))))) vc__law_left) (fun _ _ _ _ _ _ us hl => match us, hl with | [_, _, _], _ => rfl)
theorem sc__law_due : FnScope ["one", "other", "box", "store", "counts", "nothing", "choices", "end", "behind", "answer", "many"] ["one", "other", "box", "store"] (defScope s__law_due) := ⟨rfl, rfl, rfl, by decide +kernel, rfl, by decide +kernel, by decide +kernel⟩
theorem c__law_due (T : Top P w K mg) (C_count_nothing : Can P w K mg base 16 "count_nothing" ["program", "store"] sp_count_nothing) (C_all_runs : Can P w K mg base 10 "all_runs" ["program", "store"] sp_all_runs) (C__law_set : Can P w K mg base 2 "_law_set" ["program", "store", "box", "worth"] sp__law_set) (C__law_left : Can P w K mg base 10 "_law_left" ["program", "store", "choices"] sp__law_left) (C_answer_counts : Can P w K mg base 16 "answer_counts" ["program", "store"] sp_answer_counts) : Can P w K mg base 18 "_law_due" ["one", "other", "box", "store"] sp__law_due :=
  can_of T.s__law_due (fun f fd F => okD (k := 17) F sc__law_due (by decide) (fun as Q E h => by obtain ⟨_, _, _, _, rfl, _⟩ := h; rfl) t__law_due (fun cdv A outer s H E G hr => pdb_cons (pds_set (i := 4) sc__law_due.nd rfl (by first | exact Or.inl rfl | exact Or.inr rfl) (pd_knew)) (pdb_cons (pds_set (i := 5) sc__law_due.nd rfl (by first | exact Or.inl rfl | exact Or.inr rfl) (pd_can C_count_nothing (hr.mono (by decide)) (pda_cons (pd_val (pv 0)) (pda_cons (pd_val (pv 3)) (pda_nil))))) (pdb_cons (pds_for PassesOwn.never rfl (pdi_seq (pd_can C_all_runs (hr.mono (by decide)) (pda_cons (pd_val (pv 0)) (pda_cons (pd_val (pv 3)) (pda_nil))))) (pdg_tup rfl (pdgs_cons (pdg_name sc__law_due.nd rfl (by first | exact Or.inl rfl | exact Or.inr rfl)) (pdgs_cons (pdg_name sc__law_due.nd rfl (by first | exact Or.inl rfl | exact Or.inr rfl)) (pdgs_nil))) rfl) (pdb_wipe [6, 7, 8] (pdb_one (pds_if (pdt_cmp (op_eqP hr.units) od_eq (pd_ix ix_seq od_ix (pd_ref (pv 7)) (pd_int) (fun _ _ => rfl)) (pd_str (by decide +kernel)) (nomark _)) (pdb_cons (pds_set (i := 8) sc__law_due.nd rfl (by first | exact Or.inl rfl | exact Or.inr rfl) (pd_can C__law_set (hr.mono (by decide)) (pda_cons (pd_val (pv 0)) (pda_cons (pd_can C__law_left (hr.mono (by decide)) (pda_cons (pd_val (pv 0)) (pda_cons (pd_val (pv 3)) (pda_cons (pd_val (pv 6)) (pda_nil))))) (pda_cons (pd_val (pv 2)) (pda_cons (pd_ix ix_seq od_ix (pd_ref (pv 7)) (pd_int) (fun _ _ => rfl)) (pda_nil))))))) (pdb_cons (pds_for PassesOwn.never rfl (pdi_seq (pd_can C_answer_counts (hr.mono (by decide)) (pda_cons (pd_val (pv 1)) (pda_cons (pd_val (pv 8)) (pda_nil))))) (pdg_tup rfl (pdgs_cons (pdg_name sc__law_due.nd rfl (by first | exact Or.inl rfl | exact Or.inr rfl)) (pdgs_cons (pdg_name sc__law_due.nd rfl (by first | exact Or.inl rfl | exact Or.inr rfl)) (pdgs_nil))) rfl) (pdb_wipe [10] (pdb_one (pds_kput (pv 4) (pd_val (pv 9)) (pd_op op_addU od_add (pd_kget2 (pd_ref (pv 4)) (pd_val (pv 9)) (pd_int)) (pd_ref (pv 10))))))) (pdb_one (pds_set (i := 5) sc__law_due.nd rfl (by first | exact Or.inl rfl | exact Or.inr rfl) (pd_op op_addU od_add (pd_ref (pv 5)) (pd_can C_count_nothing (hr.mono (by decide)) (pda_cons (pd_val (pv 1)) (pda_cons (pd_val (pv 8)) (pda_nil))))))))) (pdb_nil))))) (pdb_one (pds_ret (pd_tup (pda_cons (pd_callB (call_sortedU rfl hr.units) cd_sortedU rfl T.b_sorted (by decide +kernel) (pda_cons (pd_lc (own := [("answer", 9)]) [] (by rfl) rfl sc__law_due.nd (pdi_keysK (pd_val (pv 4))) (blkOk_by (N := ["one", "other", "box", "store", "counts", "nothing", "choices", "end", "behind", "answer", "many"]) (sc := defScope s__law_due) (by decide +kernel)) (fun _ _ _ _ _ _ => pdg_name sc__law_due.nd rfl (by first | exact Or.inl rfl | exact Or.inr rfl)) (fun _ _ _ _ _ _ => pdts_nil) (fun _ _ _ _ _ _ => pd_tup (pda_cons (pd_val (pv 9)) (pda_cons (pd_ix ix_K od_kget (pd_ref (pv 4)) (pd_val (pv 9)) (fun _ _ => rfl)) (pda_nil))))) (pda_nil))) (pda_cons (pd_val (pv 5)) (pda_nil))))))))) vc__law_due) (fun _ _ _ _ _ _ us hl => match us, hl with | [_, _, _, _], _ => rfl)
theorem sc_runs_by : FnScope ["counts", "way", "wanted"] ["counts", "way", "wanted"] (defScope s_runs_by) := ⟨rfl, rfl, rfl, by decide +kernel, rfl, by decide +kernel, by decide +kernel⟩
theorem c_runs_by (T : Top P w K mg) (C_is_place : Can P w K mg base 2 "is_place" ["way"] sp_is_place) : Can P w K mg base 4 "runs_by" ["counts", "way", "wanted"] sp_runs_by :=
  can_of T.s_runs_by (fun f fd F => okD (k := 3) F sc_runs_by (by decide) (fun as Q E h => by obtain ⟨_, _, _, _, rfl, _⟩ := h; rfl) t_runs_by (fun cdv A outer s H E G hr => pdb_cons (pds_if (pdt_not (pdt_val (pd_can C_is_place (hr.mono (by decide)) (pda_cons (pd_val (pv 1)) (pda_nil))))) (pdb_one (pds_ret (pd_callTy call_int1 cd_int1 rfl T.b_int (by decide +kernel) (pda_cons (pd_or (pd_isN (pd_ref (pv 2))) (pd_one (pd_cmp (op_eqP hr.units) od_eq (pd_ref (pv 1)) (pd_ref (pv 2)) (nomark _)))) (pda_nil))))) (pdb_nil)) (pdb_cons (pds_if (pdt_isN (pd_ref (pv 2))) (pdb_one (pds_ret (pd_sumV rfl rfl T.b_sum (pd_ix (ix_N hr.units) od_dget (pd_ref (pv 0)) (pd_val (pv 1)) (fun _ _ => rfl))))) (pdb_nil)) (pdb_one (pds_ret (pd_dget2 hr.units (pd_ix (ix_N hr.units) od_dget (pd_ref (pv 0)) (pd_val (pv 1)) (fun _ _ => rfl)) (pd_val (pv 2)) (pd_int)))))) vc_runs_by) (fun _ _ _ _ _ _ us hl => match us, hl with | [_, _, _], _ => rfl)
theorem sc_run_led : FnScope ["program", "store", "number", "wanted", "counts", "way", "choices", "ways", "choice"] ["program", "store", "number", "wanted"] (defScope s_run_led) := ⟨rfl, rfl, rfl, by decide +kernel, rfl, by decide +kernel, by decide +kernel⟩
theorem c_run_led (T : Top P w K mg) (C_counts_on : Can P w K mg base 12 "counts_on" ["program", "store"] sp_counts_on) (C_begin_of : Can P w K mg base 4 "begin_of" ["program", "store"] sp_begin_of) (C_runs_by : Can P w K mg base 4 "runs_by" ["counts", "way", "wanted"] sp_runs_by) (C_is_place : Can P w K mg base 2 "is_place" ["way"] sp_is_place) (C_ways_from : Can P w K mg base 8 "ways_from" ["program", "place"] sp_ways_from) (C_is_pick : Can P w K mg base 2 "is_pick" ["program", "place"] sp_is_pick) : Can P w K mg base 14 "run_led" ["program", "store", "number", "wanted"] sp_run_led :=
  can_of T.s_run_led (fun f fd F => okD (k := 13) F sc_run_led (by decide) (fun as Q E h => by obtain ⟨_, _, _, rfl, _⟩ := h; rfl) t_run_led (fun cdv A outer s H E G hr => pdb_cons (pds_set (i := 4) sc_run_led.nd rfl (by first | exact Or.inl rfl | exact Or.inr rfl) (pd_can C_counts_on (hr.mono (by decide)) (pda_cons (pd_val (pv 0)) (pda_cons (pd_val (pv 1)) (pda_nil))))) (pdb_cons (pds_set (i := 5) sc_run_led.nd rfl (by first | exact Or.inl rfl | exact Or.inr rfl) (pd_can C_begin_of (hr.mono (by decide)) (pda_cons (pd_val (pv 0)) (pda_cons (pd_val (pv 1)) (pda_nil))))) (pdb_cons (pds_if (pdw_pt (pdw_or (pdt_not (pdt_val (pd_isi rfl T.b_isinstance (pd_ref (pv 2)) (pe_bltn rfl T.b_int (by decide +kernel) (v := .ty "int") rfl)))) (pdw_or1 (pdt_val (pd_isi rfl T.b_isinstance (pd_ref (pv 2)) (pe_bltn rfl T.b_bool (by decide +kernel) (v := .ty "bool") rfl)))))) (pdb_one (pds_never)) (pdb_nil)) (pdb_cons (pds_if (pdt_not (pdt_chain (op_le) (op_lt) od_B0 od_B0 (pd_int) (pd_ref (pv 2)) (pd_can C_runs_by (hr.mono (by decide)) (pda_cons (pd_val (pv 4)) (pda_cons (pd_val (pv 5)) (pda_cons (pd_val (pv 3)) (pda_nil))))) (by rfl))) (pdb_one (pds_never)) (pdb_nil)) (pdb_cons (pds_set (i := 6) sc_run_led.nd rfl (by first | exact Or.inl rfl | exact Or.inr rfl) (pd_lst (pda_nil))) (pdb_cons (pds_while PassesOwn.never (pdt_val (pd_can C_is_place (hr.mono (by decide)) (pda_cons (pd_val (pv 5)) (pda_nil)))) (pdb_wipe [7, 8] (pdb_cons (pds_set (i := 7) sc_run_led.nd rfl (by first | exact Or.inl rfl | exact Or.inr rfl) (pd_can C_ways_from (hr.mono (by decide)) (pda_cons (pd_val (pv 0)) (pda_cons (pd_val (pv 5)) (pda_nil))))) (pdb_cons (pds_set (i := 8) sc_run_led.nd rfl (by first | exact Or.inl rfl | exact Or.inr rfl) (pd_int)) (pdb_cons (pds_while PassesOwn.never (pdt_cmp (op_ge) od_B0 (pd_ref (pv 2)) (pd_can C_runs_by (hr.mono (by decide)) (pda_cons (pd_val (pv 4)) (pda_cons (pd_ix ix_seq od_ix (pd_ref (pv 7)) (pd_val (pv 8)) (fun _ _ => rfl)) (pda_cons (pd_val (pv 3)) (pda_nil))))) (nomark _)) (pdb_cons (pds_aug (i := 2) sc_run_led.nd rfl (by first | exact Or.inl rfl | exact Or.inr rfl) (pd_can C_runs_by (hr.mono (by decide)) (pda_cons (pd_val (pv 4)) (pda_cons (pd_ix ix_seq od_ix (pd_ref (pv 7)) (pd_val (pv 8)) (fun _ _ => rfl)) (pda_cons (pd_val (pv 3)) (pda_nil))))) ip_sub) (pdb_one (pds_aug (i := 8) sc_run_led.nd rfl (by first | exact Or.inl rfl | exact Or.inr rfl) (pd_int) ip_add)))) (pdb_cons (pds_if (pdt_val (pd_can C_is_pick (hr.mono (by decide)) (pda_cons (pd_val (pv 0)) (pda_cons (pd_val (pv 5)) (pda_nil))))) (pdb_one (pds_expr (pd_append (pv 6) (pd_val (pv 8))))) (pdb_nil)) (pdb_one (pds_set (i := 5) sc_run_led.nd rfl (by first | exact Or.inl rfl | exact Or.inr rfl) (pd_ix ix_seq od_ix (pd_ref (pv 7)) (pd_val (pv 8)) (fun _ _ => rfl)))))))))) (pdb_one (pds_ret (pd_mov (pv 6)))))))))) vc_run_led) (fun _ _ _ _ _ _ us hl => match us, hl with | [_, _, _, _], _ => rfl)
theorem sc_run_by_number : FnScope ["program", "store", "number"] ["program", "store", "number"] (defScope s_run_by_number) := ⟨rfl, rfl, rfl, by decide +kernel, rfl, by decide +kernel, by decide +kernel⟩
theorem c_run_by_number (T : Top P w K mg) (C_need_store : Can P w K mg base 4 "need_store" ["program", "store"] sp_need_store) (C_run_led : Can P w K mg base 14 "run_led" ["program", "store", "number", "wanted"] sp_run_led) : Can P w K mg base 16 "run_by_number" ["program", "store", "number"] sp_run_by_number :=
  can_of T.s_run_by_number (fun f fd F => okD (k := 15) F sc_run_by_number (by decide) (fun as Q E h => by obtain ⟨_, _, _, rfl, _⟩ := h; rfl) t_run_by_number (fun cdv A outer s H E G hr => pdb_cons (pds_expr (pd_can C_need_store (hr.mono (by decide)) (pda_cons (pd_val (pv 0)) (pda_cons (pd_val (pv 1)) (pda_nil))))) (pdb_one (pds_ret (pd_can C_run_led (hr.mono (by decide)) (pda_cons (pd_val (pv 0)) (pda_cons (pd_val (pv 1)) (pda_cons (pd_val (pv 2)) (pda_cons (pd_non) (pda_nil))))))))) vc_run_by_number) (fun _ _ _ _ _ _ us hl => match us, hl with | [_, _, _], _ => rfl)
theorem sc_law : FnScope ["script", "k", "deck", "m", "boxes", "one", "other", "wide", "box", "both", "j", "store", "counts", "nothing", "many", "number", "answer", "times"] ["script"] (defScope s_law) := ⟨rfl, rfl, rfl, by decide +kernel, rfl, by decide +kernel, by decide +kernel⟩
theorem ok_law (T : Top P w K mg) (C__law_deck : Can P w K mg base 4 "_law_deck" ["cell", "many"] sp__law_deck) (C__law_cell_at : Can P w K mg base 2 "_law_cell_at" ["script", "k"] sp__law_cell_at) (C__law_boxes : Can P w K mg base 4 "_law_boxes" ["deck"] sp__law_boxes) (C__law_program : Can P w K mg base 12 "_law_program" ["deck", "m", "boxes", "most", "wide"] sp__law_program) (C__law_next : Can P w K mg base 2 "_law_next" ["deck"] sp__law_next) (C__law_wide : Can P w K mg base 10 "_law_wide" ["deck", "m", "boxes", "most"] sp__law_wide) (C_put_after : Can P w K mg base 6 "put_after" ["one", "other", "box"] sp_put_after) (C__law_store : Can P w K mg base 4 "_law_store" ["deck", "program"] sp__law_store) (C__law_due_by_places : Can P w K mg base 12 "_law_due_by_places" ["one", "other", "box", "store"] sp__law_due_by_places) (C__law_due : Can P w K mg base 18 "_law_due" ["one", "other", "box", "store"] sp__law_due) (C_answer_counts : Can P w K mg base 16 "answer_counts" ["program", "store"] sp_answer_counts) (C_count_nothing : Can P w K mg base 16 "count_nothing" ["program", "store"] sp_count_nothing) (C_run_count : Can P w K mg base 16 "run_count" ["program", "store"] sp_run_count) (C__law_run_right : Can P w K mg base 14 "_law_run_right" ["one", "other", "box", "store", "both", "choices"] sp__law_run_right) (C_run_by_number : Can P w K mg base 16 "run_by_number" ["program", "store", "number"] sp_run_by_number) (f : Addr) (fd : FuncData) (F : FnP K "law" s_law f fd) : FnOk P w K mg base CX0 20 f fd ["script"] (spOf ⟨P, w, K⟩ sp_law) :=
  okD (k := 19) F sc_law (by decide) (fun as Q E h => by obtain ⟨_, rfl, _⟩ := h; rfl) t_law (fun cdv A outer s H E G hr => pdb_cons (pds_for PassesOwn.never rfl (pdi_range1 rfl T.b_range (pda_cons (pd_callB (call_max2 rfl) cd_MM rfl T.b_max (by decide +kernel) (pda_cons (pd_int) (pda_cons (pd_callB (call_min2 rfl) cd_MM rfl T.b_min (by decide +kernel) (pda_cons (pd_callB call_lenU cd_lenU rfl T.b_len boot_len (pda_cons (pd_ref (pv 0)) (pda_nil))) (pda_cons (pd_int) (pda_nil)))) (pda_nil)))) (pda_nil))) (pdg_name sc_law.nd rfl (by first | exact Or.inl rfl | exact Or.inr rfl)) (pdb_wipe [1, 2, 3, 4, 5, 6, 7, 8, 9] (pdb_cons (pds_set (i := 2) sc_law.nd rfl (by first | exact Or.inl rfl | exact Or.inr rfl) (pd_can C__law_deck (hr.mono (by decide)) (pda_cons (pd_can C__law_cell_at (hr.mono (by decide)) (pda_cons (pd_val (pv 0)) (pda_cons (pd_val (pv 1)) (pda_nil)))) (pda_cons (pd_int) (pda_nil))))) (pdb_cons (pds_asg (pd_can C__law_boxes (hr.mono (by decide)) (pda_cons (pd_ref (pv 2)) (pda_nil))) (pdg_tup rfl (pdgs_cons (pdg_name sc_law.nd rfl (by first | exact Or.inl rfl | exact Or.inr rfl)) (pdgs_cons (pdg_name sc_law.nd rfl (by first | exact Or.inl rfl | exact Or.inr rfl)) (pdgs_nil))) rfl)) (pdb_cons (pds_set (i := 5) sc_law.nd rfl (by first | exact Or.inl rfl | exact Or.inr rfl) (pd_can C__law_program (hr.mono (by decide)) (pda_cons (pd_ref (pv 2)) (pda_cons (pd_val (pv 3)) (pda_cons (pd_val (pv 4)) (pda_cons (pd_int) (pda_cons (pd_int) (pda_nil)))))))) (pdb_cons (pds_set (i := 6) sc_law.nd rfl (by first | exact Or.inl rfl | exact Or.inr rfl) (pd_can C__law_program (hr.mono (by decide)) (pda_cons (pd_ref (pv 2)) (pda_cons (pd_val (pv 3)) (pda_cons (pd_val (pv 4)) (pda_cons (pd_int) (pda_cons (pd_int) (pda_nil)))))))) (pdb_cons (pds_set (i := 7) sc_law.nd rfl (by first | exact Or.inl rfl | exact Or.inr rfl) (pd_cmp (op_eqP hr.units) od_eq (pd_op op_mod od_I (pd_can C__law_next (hr.mono (by decide)) (pda_cons (pd_ref (pv 2)) (pda_nil))) (pd_int)) (pd_int) (nomark _))) (pdb_cons (pds_if (pdt_val (pd_val (pv 7))) (pdb_cons (pds_par (i := 3) (j := 4) rfl sc_law.nd rfl rfl (by decide) rfl rfl (pda_cons (pd_op op_addU od_add (pd_int) (pd_op op_mod od_I (pd_ref (pv 3)) (pd_int))) (pda_cons (pd_sl (pd_ref (pv 4)) pdo_none (pdo_some (pd_int))) (pda_nil)))) (pdb_cons (pds_set (i := 5) sc_law.nd rfl (by first | exact Or.inl rfl | exact Or.inr rfl) (pd_can C__law_wide (hr.mono (by decide)) (pda_cons (pd_ref (pv 2)) (pda_cons (pd_val (pv 3)) (pda_cons (pd_val (pv 4)) (pda_cons (pd_int) (pda_nil))))))) (pdb_one (pds_set (i := 6) sc_law.nd rfl (by first | exact Or.inl rfl | exact Or.inr rfl) (pd_can C__law_wide (hr.mono (by decide)) (pda_cons (pd_ref (pv 2)) (pda_cons (pd_val (pv 3)) (pda_cons (pd_val (pv 4)) (pda_cons (pd_int) (pda_nil)))))))))) (pdb_nil)) (pdb_cons (pds_set (i := 8) sc_law.nd rfl (by first | exact Or.inl rfl | exact Or.inr rfl) (pd_ix ix_seq od_ix (pd_ref (pv 4)) (pd_op op_mod od_I (pd_can C__law_next (hr.mono (by decide)) (pda_cons (pd_ref (pv 2)) (pda_nil))) (pd_callB call_lenU cd_lenU rfl T.b_len boot_len (pda_cons (pd_ref (pv 4)) (pda_nil)))) (fun _ _ => rfl))) (pdb_cons (pds_set (i := 9) sc_law.nd rfl (by first | exact Or.inl rfl | exact Or.inr rfl) (pd_can C_put_after (hr.mono (by decide)) (pda_cons (pd_val (pv 5)) (pda_cons (pd_val (pv 6)) (pda_cons (pd_val (pv 8)) (pda_nil)))))) (pdb_one (pds_for PassesOwn.never rfl (pdi_range1 rfl T.b_range (pda_cons (pd_int) (pda_nil))) (pdg_name sc_law.nd rfl (by first | exact Or.inl rfl | exact Or.inr rfl)) (pdb_wipe [10, 11, 12, 13, 14, 15] (pdb_cons (pds_set (i := 11) sc_law.nd rfl (by first | exact Or.inl rfl | exact Or.inr rfl) (pd_can C__law_store (hr.mono (by decide)) (pda_cons (pd_ref (pv 2)) (pda_cons (pd_val (pv 5)) (pda_nil))))) (pdb_cons (pds_asg (pd_can C__law_due_by_places (hr.mono (by decide)) (pda_cons (pd_val (pv 5)) (pda_cons (pd_val (pv 6)) (pda_cons (pd_val (pv 8)) (pda_cons (pd_val (pv 11)) (pda_nil)))))) (pdg_tup rfl (pdgs_cons (pdg_name sc_law.nd rfl (by first | exact Or.inl rfl | exact Or.inr rfl)) (pdgs_cons (pdg_name sc_law.nd rfl (by first | exact Or.inl rfl | exact Or.inr rfl)) (pdgs_nil))) rfl)) (pdb_cons (pds_if (pdw_pt (pdw_and (pdt_not (pdt_val (pd_val (pv 7)))) (pdw_and1 (pdt_cmp (op_neP hr.units) od_ne (pd_can C__law_due (hr.mono (by decide)) (pda_cons (pd_val (pv 5)) (pda_cons (pd_val (pv 6)) (pda_cons (pd_val (pv 8)) (pda_cons (pd_val (pv 11)) (pda_nil)))))) (pd_tup (pda_cons (pd_val (pv 12)) (pda_cons (pd_val (pv 13)) (pda_nil)))) (nomark _))))) (pdb_one (pds_ret (pd_bl))) (pdb_nil)) (pdb_cons (pds_if (pdw_pt (pdw_or (pdt_cmp (op_neP hr.units) od_ne (pd_can C_answer_counts (hr.mono (by decide)) (pda_cons (pd_val (pv 9)) (pda_cons (pd_val (pv 11)) (pda_nil)))) (pd_ref (pv 12)) (nomark _)) (pdw_or1 (pdt_cmp (op_neP hr.units) od_ne (pd_can C_count_nothing (hr.mono (by decide)) (pda_cons (pd_val (pv 9)) (pda_cons (pd_val (pv 11)) (pda_nil)))) (pd_ref (pv 13)) (nomark _))))) (pdb_one (pds_ret (pd_bl))) (pdb_nil)) (pdb_cons (pds_set (i := 14) sc_law.nd rfl (by first | exact Or.inl rfl | exact Or.inr rfl) (pd_can C_run_count (hr.mono (by decide)) (pda_cons (pd_val (pv 9)) (pda_cons (pd_val (pv 11)) (pda_nil))))) (pdb_cons (pds_if (pdt_cmp (op_neP hr.units) od_ne (pd_ref (pv 14)) (pd_op op_addU od_add (pd_ref (pv 13)) (pd_callB (cr_sum rfl) cd_sum rfl T.b_sum (by decide +kernel) (pda_cons (pd_lc (own := [("answer", 16), ("times", 17)]) [] (by rfl) rfl sc_law.nd (pdi_seq (pd_val (pv 12))) (blkOk_by (N := ["script", "k", "deck", "m", "boxes", "one", "other", "wide", "box", "both", "j", "store", "counts", "nothing", "many", "number", "answer", "times"]) (sc := defScope s_law) (by decide +kernel)) (fun _ _ _ _ _ _ => pdg_tup rfl (pdgs_cons (pdg_name sc_law.nd rfl (by first | exact Or.inl rfl | exact Or.inr rfl)) (pdgs_cons (pdg_name sc_law.nd rfl (by first | exact Or.inl rfl | exact Or.inr rfl)) (pdgs_nil))) rfl) (fun _ _ _ _ _ _ => pdts_nil) (fun _ _ _ _ _ _ => pd_val (pv 17))) (pda_nil)))) (nomark _)) (pdb_one (pds_ret (pd_bl))) (pdb_nil)) (pdb_cons (pds_set (i := 15) sc_law.nd rfl (by first | exact Or.inl rfl | exact Or.inr rfl) (pd_op op_mod od_I (pd_op op_addU od_add (pd_op op_mulU od_mul (pd_can C__law_next (hr.mono (by decide)) (pda_cons (pd_ref (pv 2)) (pda_nil))) (pd_int)) (pd_can C__law_next (hr.mono (by decide)) (pda_cons (pd_ref (pv 2)) (pda_nil)))) (pd_ref (pv 14)))) (pdb_one (pds_if (pdt_not (pdt_val (pd_can C__law_run_right (hr.mono (by decide)) (pda_cons (pd_val (pv 5)) (pda_cons (pd_val (pv 6)) (pda_cons (pd_val (pv 8)) (pda_cons (pd_val (pv 11)) (pda_cons (pd_val (pv 9)) (pda_cons (pd_can C_run_by_number (hr.mono (by decide)) (pda_cons (pd_val (pv 9)) (pda_cons (pd_val (pv 11)) (pda_cons (pd_val (pv 15)) (pda_nil))))) (pda_nil)))))))))) (pdb_one (pds_ret (pd_bl))) (pdb_nil))))))))))))))))))))))) (pdb_one (pds_ret (pd_bl)))) vc_law
end
end DL
namespace DL
open PySem PySem.Spec PyProof.Rows L2
section
variable {P : Program} {w : World} {K : PySem.W.Frag} {mg : Str → Option Value} {base : Heap}
theorem c_stores_by_rows (T : Top P w K mg) (C_stores_behind : Can P w K mg base 8 "stores_behind" ["program", "row", "store"] sp_stores_behind) : Can P w K mg base 10 "stores_by_rows" ["program", "store"] sp_stores_by_rows :=
  can_of T.s_stores_by_rows (fun f fd F => by
    refine FunD.ok F sc_stores_by_rows (fun vs H Q E h => ?_) (fun cdv A outer s H vs Q E hr h => ⟨t_sbr ⟨P, w, K⟩, ?_, vc_sbr h⟩)
    · obtain ⟨F, as, Qd, Ed, _, ha, ⟨p, s0, rfl, _⟩, _⟩ := h
      rw [ha.length]
      rfl
    · have nd := sc_stores_by_rows.nd
      have hu : A.deeper (envOfC "stores_by_rows" (defScope s_stores_by_rows) s.heap.objs.size f cdv) = A.deeper (envOfC "stores_by_rows" (defScope s_stores_by_rows) s.heap.objs.size f cdv) := rfl
      refine PSs.nox (pss_cons (ps_setLc (own := [("row", 3)]) (by rfl) nd rfl rfl (by rfl) (pi_ex fun G => ?_) (blkOk_by (N := ["program", "store", "found", "row", "here", "behind", "other"]) (sc := defScope s_stores_by_rows) (by decide +kernel)) (fun _ _ _ _ _ => pg_name nd rfl (by first | exact Or.inl rfl | exact Or.inr rfl)) (fun _ _ _ _ _ => pts_nil) (fun _ _ _ _ _ => pe_newN))
        (pss_cons ?_ (pss_cons ?_ (pss_one (ps_ret (pv 2))))))
      · exact pdi_range1 rfl T.b_range (pda_cons (pd_op op_addU od_add (pd_callB call_lenU cd_lenU rfl T.b_len boot_len (pda_cons (pd_ix ix_seq od_ix (pd_ref (pv 0)) (pd_int) (fun _ _ => rfl)) (pda_nil))) (pd_int)) (pda_nil))
      · exact ps_putN hr.units (pe_ix ix_list (pv 2) pe_int (fun _ _ => rfl)) (pv 1) pe_bl (by rfl)
      · refine ps_for PassesOwn.never (by rfl) (pi_ex fun G => pdi_range1 rfl T.b_range (pda_cons (pd_callB call_lenU cd_lenU rfl T.b_len boot_len (pda_cons (pd_ix ix_seq od_ix (pd_ref (pv 0)) (pd_int) (fun _ _ => rfl)) (pda_nil))) (pda_nil))) (pg_name nd rfl (by first | exact Or.inl rfl | exact Or.inr rfl)) (pss_one ?_)
        refine ps_for PassesOwn.never (by rfl) (pi_seq (pe_callTy (call_listN (by rfl)) rfl T.b_list (by decide +kernel) (pa_cons (pe_ix ix_list (pv 2) (pv 3) (fun _ _ => rfl)) pa_nil))) (pg_name nd rfl (by first | exact Or.inl rfl | exact Or.inr rfl)) (pss_one ?_)
        exact ps_for PassesOwn.never (by rfl) (pi_ex fun G => pdi_seq (pd_can C_stores_behind (hr.mono (by decide)) (pda_cons (pd_val (pv 0)) (pda_cons (pd_val (pv 3)) (pda_cons (pd_val (pv 4)) (pda_nil)))))) (pg_ex fun G => pdg_tup rfl (pdgs_cons (pdg_name nd rfl (by first | exact Or.inl rfl | exact Or.inr rfl)) (pdgs_cons (pdg_name nd rfl (by first | exact Or.inl rfl | exact Or.inr rfl)) (pdgs_nil))) rfl) (pss_one (ps_putN hr.units (pe_ix ix_list (pv 2) (pv 5) (fun _ _ => rfl)) (pv 6) pe_bl (by rfl)))
) (fun _ _ _ _ _ _ us hl => match us, hl with | [_, _], _ => rfl)
end
end DL
set_option maxHeartbeats 0
namespace Hd
open PySem PySem.Spec PyProof.Rows L2
def df (x : PySem.Str) (i : Nat) : He.DefD := ⟨(x, none), x, x, defArgs (DL.top i), defBody (DL.top i), defScope (DL.top i), [], []⟩
def fn : List He.DefD := [df "_law_stir" 46, df "_law_deck" 47, df "_law_next" 48, df "_law_boxes" 51, df "_law_thing" 49, df "_law_row" 50, df "_law_program" 52, df "need_alike" 10, df "spots_behind" 11, df "copied_row" 14, df "skip_by" 12, df "row_anew" 13, df "put_after" 15, df "_law_cell_at" 45, df "_law_wide" 53, df "_law_store" 54, df "_law_worth" 55, df "_law_set" 56, df "_law_ways" 57, df "_law_ended" 59, df "_law_due_by_places" 60, df "is_whole" 18, df "need_store" 19, df "place_or_end" 22, df "begin_of" 23, df "is_place" 21, df "worth_in" 20, df "store_with" 24, df "stores_behind" 33, df "stores_by_rows" 34, df "ways_from" 25, df "counts_on" 35, df "ends_counted" 36, df "run_count" 41, df "_law_gone" 61, df "is_pick" 26, df "walked" 27, df "end_of" 28, df "_law_run_right" 62, df "count_nothing" 38, df "all_runs" 31, df "answer_counts" 37, df "_law_left" 58, df "_law_due" 63, df "runs_by" 40, df "run_led" 42, df "run_by_number" 43, df "law" 64]
def fa : List He.Fa := [.glo "_law_stir", .glo "_law_deck", .glo "_law_next", .glo "_law_boxes", .glo "_law_thing", .glo "_law_row", .glo "_law_program", .glo "need_alike", .glo "spots_behind", .glo "copied_row", .glo "skip_by", .glo "row_anew", .glo "put_after", .glo "_law_cell_at", .glo "_law_wide", .glo "_law_store", .glo "_law_worth", .glo "_law_set", .glo "_law_ways", .glo "_law_ended", .glo "_law_due_by_places", .glo "is_whole", .glo "need_store", .glo "place_or_end", .glo "begin_of", .glo "is_place", .glo "worth_in", .glo "store_with", .glo "stores_behind", .glo "stores_by_rows", .glo "ways_from", .glo "counts_on", .glo "ends_counted", .glo "run_count", .glo "_law_gone", .glo "is_pick", .glo "walked", .glo "end_of", .glo "_law_run_right", .glo "count_nothing", .glo "all_runs", .glo "answer_counts", .glo "_law_left", .glo "_law_due", .glo "runs_by", .glo "run_led", .glo "run_by_number", .glo "law", .free "bool", .free "int", .free "isinstance", .free "len", .free "list", .free "max", .free "min", .free "range", .free "sorted", .free "str", .free "sum", .free "tuple", .int "MOST_ROWS" 30, .int "MOST_RUNS" 2000]
def tu : List (PySem.Str × List He.Dv) := [("NOTHING", [.str "nothing"])]
abbrev R : PySem.W.OpenRow := PySem.W.OpenLaw.row PySem.Challenge.rw_pickruns_k72_whole_counts_behind
abbrev hk : PySem.W.Hook := DL.hookE 4 fa tu fn
def ob (s : PySem.W.SharedT) : He.AlD := DL.obsEG 4 fa tu fn (HandSHeadRun.getT s)
theorem ob_eq (s : PySem.W.SharedT) : ob s = hk.obs s.abs := DL.obsEG_eq (HandSHeadRun.getT_eq s)
def loose : List PySem.Str := (["__name__", "RunError", "NoStore", "NoNumber", "TooMany", "NoFit", "NoName", "NoChoice", "MOST_ROWS", "need_alike", "spots_behind", "skip_by", "row_anew", "copied_row", "put_after", "NOTHING", "is_whole", "need_store", "worth_in", "is_place", "place_or_end", "begin_of", "store_with", "ways_from", "is_pick", "walked", "end_of", "MOST_RUNS", "all_runs", "stores_behind"] : List PySem.Str) ++ (["stores_by_rows", "counts_on", "ends_counted", "answer_counts", "count_nothing", "runs_by", "run_count", "run_led", "run_by_number", "_law_cell_at", "_law_stir", "_law_deck", "_law_next", "_law_thing", "_law_row", "_law_boxes", "_law_program", "_law_wide", "_law_store", "_law_worth", "_law_set", "_law_ways", "_law_left", "_law_ended", "_law_due_by_places", "_law_gone", "_law_run_right", "_law_due"] : List PySem.Str)
theorem run (w : World) : HandSHeadRun.RunEq R (PySem.W.view R.prog [64]) hk ob 16000 loose w := by
  intro os
  kernel_rfl
theorem top_of {P : Program} {w : World} {K : PySem.W.Frag} {h : Heap} {mg : Str → Option Value} (X : K.In h) (G : h.Ns mainGlobals mg) (c : DL.SaysE fa tu fn K) : DL.Top P w K mg where
  b_bool := He.free_ok X G (c.d.fact 48 (f := .free "bool") rfl)
  b_int := He.free_ok X G (c.d.fact 49 (f := .free "int") rfl)
  b_isinstance := He.free_ok X G (c.d.fact 50 (f := .free "isinstance") rfl)
  b_len := He.free_ok X G (c.d.fact 51 (f := .free "len") rfl)
  b_list := He.free_ok X G (c.d.fact 52 (f := .free "list") rfl)
  b_max := He.free_ok X G (c.d.fact 53 (f := .free "max") rfl)
  b_min := He.free_ok X G (c.d.fact 54 (f := .free "min") rfl)
  b_range := He.free_ok X G (c.d.fact 55 (f := .free "range") rfl)
  b_sorted := He.free_ok X G (c.d.fact 56 (f := .free "sorted") rfl)
  b_str := He.free_ok X G (c.d.fact 57 (f := .free "str") rfl)
  b_sum := He.free_ok X G (c.d.fact 58 (f := .free "sum") rfl)
  b_tuple := He.free_ok X G (c.d.fact 59 (f := .free "tuple") rfl)
  i_MOST_ROWS := He.int_ok X G (c.d.fact 60 (f := .int "MOST_ROWS" 30) rfl)
  i_MOST_RUNS := He.int_ok X G (c.d.fact 61 (f := .int "MOST_RUNS" 2000) rfl)
  t_NOTHING := ⟨_, PySem.W.mg_of X G (c.tup 0 (p := ("NOTHING", [.str "nothing"])) rfl).1, fun F => .tup ((c.tup 0 (p := ("NOTHING", [.str "nothing"])) rfl).2 F) (.cons (.str _ (by decide +kernel)) (.nil))⟩
  s__law_stir := let ⟨fd, F⟩ := c.d.def_ 0 (d := df "_law_stir" 46) rfl; ⟨_, fd, F, He.glo_ok X G (c.d.fact 0 (f := .glo "_law_stir") rfl)⟩
  s__law_deck := let ⟨fd, F⟩ := c.d.def_ 1 (d := df "_law_deck" 47) rfl; ⟨_, fd, F, He.glo_ok X G (c.d.fact 1 (f := .glo "_law_deck") rfl)⟩
  s__law_next := let ⟨fd, F⟩ := c.d.def_ 2 (d := df "_law_next" 48) rfl; ⟨_, fd, F, He.glo_ok X G (c.d.fact 2 (f := .glo "_law_next") rfl)⟩
  s__law_boxes := let ⟨fd, F⟩ := c.d.def_ 3 (d := df "_law_boxes" 51) rfl; ⟨_, fd, F, He.glo_ok X G (c.d.fact 3 (f := .glo "_law_boxes") rfl)⟩
  s__law_thing := let ⟨fd, F⟩ := c.d.def_ 4 (d := df "_law_thing" 49) rfl; ⟨_, fd, F, He.glo_ok X G (c.d.fact 4 (f := .glo "_law_thing") rfl)⟩
  s__law_row := let ⟨fd, F⟩ := c.d.def_ 5 (d := df "_law_row" 50) rfl; ⟨_, fd, F, He.glo_ok X G (c.d.fact 5 (f := .glo "_law_row") rfl)⟩
  s__law_program := let ⟨fd, F⟩ := c.d.def_ 6 (d := df "_law_program" 52) rfl; ⟨_, fd, F, He.glo_ok X G (c.d.fact 6 (f := .glo "_law_program") rfl)⟩
  s_need_alike := let ⟨fd, F⟩ := c.d.def_ 7 (d := df "need_alike" 10) rfl; ⟨_, fd, F, He.glo_ok X G (c.d.fact 7 (f := .glo "need_alike") rfl)⟩
  s_spots_behind := let ⟨fd, F⟩ := c.d.def_ 8 (d := df "spots_behind" 11) rfl; ⟨_, fd, F, He.glo_ok X G (c.d.fact 8 (f := .glo "spots_behind") rfl)⟩
  s_copied_row := let ⟨fd, F⟩ := c.d.def_ 9 (d := df "copied_row" 14) rfl; ⟨_, fd, F, He.glo_ok X G (c.d.fact 9 (f := .glo "copied_row") rfl)⟩
  s_skip_by := let ⟨fd, F⟩ := c.d.def_ 10 (d := df "skip_by" 12) rfl; ⟨_, fd, F, He.glo_ok X G (c.d.fact 10 (f := .glo "skip_by") rfl)⟩
  s_row_anew := let ⟨fd, F⟩ := c.d.def_ 11 (d := df "row_anew" 13) rfl; ⟨_, fd, F, He.glo_ok X G (c.d.fact 11 (f := .glo "row_anew") rfl)⟩
  s_put_after := let ⟨fd, F⟩ := c.d.def_ 12 (d := df "put_after" 15) rfl; ⟨_, fd, F, He.glo_ok X G (c.d.fact 12 (f := .glo "put_after") rfl)⟩
  s__law_cell_at := let ⟨fd, F⟩ := c.d.def_ 13 (d := df "_law_cell_at" 45) rfl; ⟨_, fd, F, He.glo_ok X G (c.d.fact 13 (f := .glo "_law_cell_at") rfl)⟩
  s__law_wide := let ⟨fd, F⟩ := c.d.def_ 14 (d := df "_law_wide" 53) rfl; ⟨_, fd, F, He.glo_ok X G (c.d.fact 14 (f := .glo "_law_wide") rfl)⟩
  s__law_store := let ⟨fd, F⟩ := c.d.def_ 15 (d := df "_law_store" 54) rfl; ⟨_, fd, F, He.glo_ok X G (c.d.fact 15 (f := .glo "_law_store") rfl)⟩
  s__law_worth := let ⟨fd, F⟩ := c.d.def_ 16 (d := df "_law_worth" 55) rfl; ⟨_, fd, F, He.glo_ok X G (c.d.fact 16 (f := .glo "_law_worth") rfl)⟩
  s__law_set := let ⟨fd, F⟩ := c.d.def_ 17 (d := df "_law_set" 56) rfl; ⟨_, fd, F, He.glo_ok X G (c.d.fact 17 (f := .glo "_law_set") rfl)⟩
  s__law_ways := let ⟨fd, F⟩ := c.d.def_ 18 (d := df "_law_ways" 57) rfl; ⟨_, fd, F, He.glo_ok X G (c.d.fact 18 (f := .glo "_law_ways") rfl)⟩
  s__law_ended := let ⟨fd, F⟩ := c.d.def_ 19 (d := df "_law_ended" 59) rfl; ⟨_, fd, F, He.glo_ok X G (c.d.fact 19 (f := .glo "_law_ended") rfl)⟩
  s__law_due_by_places := let ⟨fd, F⟩ := c.d.def_ 20 (d := df "_law_due_by_places" 60) rfl; ⟨_, fd, F, He.glo_ok X G (c.d.fact 20 (f := .glo "_law_due_by_places") rfl)⟩
  s_is_whole := let ⟨fd, F⟩ := c.d.def_ 21 (d := df "is_whole" 18) rfl; ⟨_, fd, F, He.glo_ok X G (c.d.fact 21 (f := .glo "is_whole") rfl)⟩
  s_need_store := let ⟨fd, F⟩ := c.d.def_ 22 (d := df "need_store" 19) rfl; ⟨_, fd, F, He.glo_ok X G (c.d.fact 22 (f := .glo "need_store") rfl)⟩
  s_place_or_end := let ⟨fd, F⟩ := c.d.def_ 23 (d := df "place_or_end" 22) rfl; ⟨_, fd, F, He.glo_ok X G (c.d.fact 23 (f := .glo "place_or_end") rfl)⟩
  s_begin_of := let ⟨fd, F⟩ := c.d.def_ 24 (d := df "begin_of" 23) rfl; ⟨_, fd, F, He.glo_ok X G (c.d.fact 24 (f := .glo "begin_of") rfl)⟩
  s_is_place := let ⟨fd, F⟩ := c.d.def_ 25 (d := df "is_place" 21) rfl; ⟨_, fd, F, He.glo_ok X G (c.d.fact 25 (f := .glo "is_place") rfl)⟩
  s_worth_in := let ⟨fd, F⟩ := c.d.def_ 26 (d := df "worth_in" 20) rfl; ⟨_, fd, F, He.glo_ok X G (c.d.fact 26 (f := .glo "worth_in") rfl)⟩
  s_store_with := let ⟨fd, F⟩ := c.d.def_ 27 (d := df "store_with" 24) rfl; ⟨_, fd, F, He.glo_ok X G (c.d.fact 27 (f := .glo "store_with") rfl)⟩
  s_stores_behind := let ⟨fd, F⟩ := c.d.def_ 28 (d := df "stores_behind" 33) rfl; ⟨_, fd, F, He.glo_ok X G (c.d.fact 28 (f := .glo "stores_behind") rfl)⟩
  s_stores_by_rows := let ⟨fd, F⟩ := c.d.def_ 29 (d := df "stores_by_rows" 34) rfl; ⟨_, fd, F, He.glo_ok X G (c.d.fact 29 (f := .glo "stores_by_rows") rfl)⟩
  s_ways_from := let ⟨fd, F⟩ := c.d.def_ 30 (d := df "ways_from" 25) rfl; ⟨_, fd, F, He.glo_ok X G (c.d.fact 30 (f := .glo "ways_from") rfl)⟩
  s_counts_on := let ⟨fd, F⟩ := c.d.def_ 31 (d := df "counts_on" 35) rfl; ⟨_, fd, F, He.glo_ok X G (c.d.fact 31 (f := .glo "counts_on") rfl)⟩
  s_ends_counted := let ⟨fd, F⟩ := c.d.def_ 32 (d := df "ends_counted" 36) rfl; ⟨_, fd, F, He.glo_ok X G (c.d.fact 32 (f := .glo "ends_counted") rfl)⟩
  s_run_count := let ⟨fd, F⟩ := c.d.def_ 33 (d := df "run_count" 41) rfl; ⟨_, fd, F, He.glo_ok X G (c.d.fact 33 (f := .glo "run_count") rfl)⟩
  s__law_gone := let ⟨fd, F⟩ := c.d.def_ 34 (d := df "_law_gone" 61) rfl; ⟨_, fd, F, He.glo_ok X G (c.d.fact 34 (f := .glo "_law_gone") rfl)⟩
  s_is_pick := let ⟨fd, F⟩ := c.d.def_ 35 (d := df "is_pick" 26) rfl; ⟨_, fd, F, He.glo_ok X G (c.d.fact 35 (f := .glo "is_pick") rfl)⟩
  s_walked := let ⟨fd, F⟩ := c.d.def_ 36 (d := df "walked" 27) rfl; ⟨_, fd, F, He.glo_ok X G (c.d.fact 36 (f := .glo "walked") rfl)⟩
  s_end_of := let ⟨fd, F⟩ := c.d.def_ 37 (d := df "end_of" 28) rfl; ⟨_, fd, F, He.glo_ok X G (c.d.fact 37 (f := .glo "end_of") rfl)⟩
  s__law_run_right := let ⟨fd, F⟩ := c.d.def_ 38 (d := df "_law_run_right" 62) rfl; ⟨_, fd, F, He.glo_ok X G (c.d.fact 38 (f := .glo "_law_run_right") rfl)⟩
  s_count_nothing := let ⟨fd, F⟩ := c.d.def_ 39 (d := df "count_nothing" 38) rfl; ⟨_, fd, F, He.glo_ok X G (c.d.fact 39 (f := .glo "count_nothing") rfl)⟩
  s_all_runs := let ⟨fd, F⟩ := c.d.def_ 40 (d := df "all_runs" 31) rfl; ⟨_, fd, F, He.glo_ok X G (c.d.fact 40 (f := .glo "all_runs") rfl)⟩
  s_answer_counts := let ⟨fd, F⟩ := c.d.def_ 41 (d := df "answer_counts" 37) rfl; ⟨_, fd, F, He.glo_ok X G (c.d.fact 41 (f := .glo "answer_counts") rfl)⟩
  s__law_left := let ⟨fd, F⟩ := c.d.def_ 42 (d := df "_law_left" 58) rfl; ⟨_, fd, F, He.glo_ok X G (c.d.fact 42 (f := .glo "_law_left") rfl)⟩
  s__law_due := let ⟨fd, F⟩ := c.d.def_ 43 (d := df "_law_due" 63) rfl; ⟨_, fd, F, He.glo_ok X G (c.d.fact 43 (f := .glo "_law_due") rfl)⟩
  s_runs_by := let ⟨fd, F⟩ := c.d.def_ 44 (d := df "runs_by" 40) rfl; ⟨_, fd, F, He.glo_ok X G (c.d.fact 44 (f := .glo "runs_by") rfl)⟩
  s_run_led := let ⟨fd, F⟩ := c.d.def_ 45 (d := df "run_led" 42) rfl; ⟨_, fd, F, He.glo_ok X G (c.d.fact 45 (f := .glo "run_led") rfl)⟩
  s_run_by_number := let ⟨fd, F⟩ := c.d.def_ 46 (d := df "run_by_number" 43) rfl; ⟨_, fd, F, He.glo_ok X G (c.d.fact 46 (f := .glo "run_by_number") rfl)⟩
  s_law := let ⟨fd, F⟩ := c.d.def_ 47 (d := df "law" 64) rfl; ⟨_, fd, F, He.glo_ok X G (c.d.fact 47 (f := .glo "law") rfl)⟩
theorem ok {P : Program} {w : World} {K : PySem.W.Frag} {mg : Str → Option Value} {base : Heap} (T : DL.Top P w K mg) (f : Addr) (fd : FuncData) (F : DL.FnP K "law" DL.s_law f fd) : FnOk P w K mg base CX0 20 f fd ["script"] (DL.spOf ⟨P, w, K⟩ DL.sp_law) := by
  have C__law_stir := DL.c__law_stir (base := base) (w := w) (P := P) T 
  have C__law_deck := DL.c__law_deck (base := base) (w := w) (P := P) T C__law_stir
  have C__law_next := DL.c__law_next (base := base) (w := w) (P := P) T 
  have C__law_boxes := DL.c__law_boxes (base := base) (w := w) (P := P) T C__law_next
  have C__law_thing := DL.c__law_thing (base := base) (w := w) (P := P) T C__law_next
  have C__law_row := DL.c__law_row (base := base) (w := w) (P := P) T C__law_next C__law_thing
  have C__law_program := DL.c__law_program (base := base) (w := w) (P := P) T C__law_next C__law_row
  have C_need_alike := DL.c_need_alike (base := base) (w := w) (P := P) T 
  have C_spots_behind := DL.c_spots_behind (base := base) (w := w) (P := P) T 
  have C_copied_row := DL.c_copied_row (base := base) (w := w) (P := P) T 
  have C_skip_by := DL.c_skip_by (base := base) (w := w) (P := P) T 
  have C_row_anew := DL.c_row_anew (base := base) (w := w) (P := P) T C_skip_by C_copied_row
  have C_put_after := DL.c_put_after (base := base) (w := w) (P := P) T C_need_alike C_spots_behind C_row_anew C_copied_row
  have C__law_cell_at := DL.c__law_cell_at (base := base) (w := w) (P := P) T 
  have C__law_wide := DL.c__law_wide (base := base) (w := w) (P := P) T C__law_next C__law_thing
  have C__law_store := DL.c__law_store (base := base) (w := w) (P := P) T C__law_next
  have C__law_worth := DL.c__law_worth (base := base) (w := w) (P := P) T 
  have C__law_set := DL.c__law_set (base := base) (w := w) (P := P) T 
  have C__law_ways := DL.c__law_ways (base := base) (w := w) (P := P) T C__law_worth C__law_set
  have C__law_ended := DL.c__law_ended (base := base) (w := w) (P := P) T C__law_ways
  have C__law_due_by_places := DL.c__law_due_by_places (base := base) (w := w) (P := P) T C__law_ended C__law_set
  have C_is_whole := DL.c_is_whole (base := base) (w := w) (P := P) T 
  have C_need_store := DL.c_need_store (base := base) (w := w) (P := P) T C_is_whole
  have C_place_or_end := DL.c_place_or_end (base := base) (w := w) (P := P) T 
  have C_begin_of := DL.c_begin_of (base := base) (w := w) (P := P) T C_place_or_end
  have C_is_place := DL.c_is_place (base := base) (w := w) (P := P) T 
  have C_worth_in := DL.c_worth_in (base := base) (w := w) (P := P) T 
  have C_store_with := DL.c_store_with (base := base) (w := w) (P := P) T 
  have C_stores_behind := DL.c_stores_behind (base := base) (w := w) (P := P) T C_store_with C_worth_in
  have C_stores_by_rows := DL.c_stores_by_rows (base := base) (w := w) (P := P) T C_stores_behind
  have C_ways_from := DL.c_ways_from (base := base) (w := w) (P := P) T C_store_with C_worth_in C_place_or_end
  have C_counts_on := DL.c_counts_on (base := base) (w := w) (P := P) T C_stores_by_rows C_ways_from C_is_place
  have C_ends_counted := DL.c_ends_counted (base := base) (w := w) (P := P) T C_need_store C_begin_of C_is_place C_counts_on
  have C_run_count := DL.c_run_count (base := base) (w := w) (P := P) T C_ends_counted
  have C__law_gone := DL.c__law_gone (base := base) (w := w) (P := P) T C__law_ways
  have C_is_pick := DL.c_is_pick (base := base) (w := w) (P := P) T 
  have C_walked := DL.c_walked (base := base) (w := w) (P := P) T C_need_store C_begin_of C_is_place C_ways_from C_is_pick C_is_whole
  have C_end_of := DL.c_end_of (base := base) (w := w) (P := P) T C_walked
  have C__law_run_right := DL.c__law_run_right (base := base) (w := w) (P := P) T C__law_gone C__law_set C_end_of
  have C_count_nothing := DL.c_count_nothing (base := base) (w := w) (P := P) T C_ends_counted
  have C_all_runs := DL.c_all_runs (base := base) (w := w) (P := P) T C_need_store C_begin_of C_is_place C_is_pick C_ways_from
  have C_answer_counts := DL.c_answer_counts (base := base) (w := w) (P := P) T C_ends_counted
  have C__law_left := DL.c__law_left (base := base) (w := w) (P := P) T C__law_ways
  have C__law_due := DL.c__law_due (base := base) (w := w) (P := P) T C_count_nothing C_all_runs C__law_set C__law_left C_answer_counts
  have C_runs_by := DL.c_runs_by (base := base) (w := w) (P := P) T C_is_place
  have C_run_led := DL.c_run_led (base := base) (w := w) (P := P) T C_counts_on C_begin_of C_runs_by C_is_place C_ways_from C_is_pick
  have C_run_by_number := DL.c_run_by_number (base := base) (w := w) (P := P) T C_need_store C_run_led
  exact DL.ok_law T C__law_deck C__law_cell_at C__law_boxes C__law_program C__law_next C__law_wide C_put_after C__law_store C__law_due_by_places C__law_due C_answer_counts C_count_nothing C_run_count C__law_run_right C_run_by_number f fd F
end Hd
namespace Hd
open PySem PySem.W PySem.Calls PyProof.Rows
abbrev dd : DefRec := HandSHeadRun.topDef R.prog 64
abbrev qq : Program := view R.prog [64]
theorem p_e : opening R.prog = plainProg R.prog.main.scope.names := by kernel_rfl
theorem p_f : ∀ s, fenceModules? R.prog s = some s := fun s => by kernel_rfl
theorem p_def : defOf qq R.name = some (dd, []) := by kernel_rfl
theorem p_the : R.prog.theDef R.name = some (dd.params, dd.body, dd.scope) := by kernel_rfl
theorem p_kw : kwWritten? dd.params.kwonlyargs dd.params.kw_defaults = some [] := by kernel_rfl
theorem p_wr : (!R.writes || R.records.isEmpty) = true := by rfl
theorem p_ws : R.wellSaid = true := by decide +kernel
theorem p_ok : (chainsOk qq && opensWell R.prog && (frees R.toRowW && R.within.isEmpty)) = true := by decide +kernel
theorem p_bare : R.prog.bare := ⟨rfl, rfl, rfl, rfl, rfl, by decide +kernel⟩
theorem p_wit : R.toRowW.promised := by w_witness2
theorem p_name : dd.name = ("law" : PySem.Str) := by kernel_rfl
theorem p_dfl : dd.params.defaults = [] := by kernel_rfl
theorem p_binds {K : Frag} {f : Addr} {fd : FuncData} (F : DL.FnP K "law" DL.s_law f fd) : ∀ (s : Shared) (u : Value), BindsTo s fd ⟨[u], []⟩ [("script", u)] := fun s v => L2.FunD.bindsA (ps := ["script"]) F (fun _ _ _ _ _ _ us hl => match us, hl with | [_], _ => rfl) s [v] rfl
theorem p_call : WalkO qq loose (XL qq []) hk.says R.toRowW dd [] fun f vs => PySem.call f vs := by
  refine L2.walk_ofE (l := PySem.Challenge.rw_pickruns_k72_whole_counts_behind) (n := 63) (k := 20) (x := "script") (CX := L2.CX0) rfl (by decide) p_dfl ⟨rfl, by decide, by decide⟩ ?F (fun _ _ _ _ z => z)
  intro w mg fa h Y G hmg0
  obtain ⟨K, KX, c⟩ := Y
  have hmg : mg ("law" : PySem.Str) = some (.ref fa) := by
    rw [← p_name]
    exact hmg0
  have T := top_of (P := (PySem.Challenge.rw_pickruns_k72_whole_counts_behind).prog) (w := w) KX G c
  obtain ⟨f, fd, F, g⟩ := T.s_law
  have ef : f = fa := by
    have := g.symm.trans hmg
    injection this with this
    injection this
  subst ef
  refine ⟨K, fd, DL.spOf ⟨(PySem.Challenge.rw_pickruns_k72_whole_counts_behind).prog, w, K⟩ DL.sp_law, KX, p_binds F, fun H a ns hl _ hS => ?_, fun base _ _ => ok T _ fd F⟩
  exact DL.law_end (fun Q E q => ⟨ns, rfl, q⟩) hS
theorem p_holds : R.Holds := HandSHeadRun.head_any (r := R) (q := qq) (H := hk) (ob := ob) (M := 16000) (loose := loose) (d := dd) (kwd := []) ob_eq p_e p_f run p_def p_the p_kw p_wr p_ws p_ok p_bare p_wit p_call
end Hd
open PySem PySem.W PySem.Calls PyProof.Rows
theorem PySem.Challenge.cw_pickruns_k72_whole_counts_behind_holds : PySem.Challenge.rw_pickruns_k72_whole_counts_behind.Holds := by
  w_on; o_law
  exact Hd.p_holds

import PyProof.Rows.All
import Wide.All
import OpenK.AllK
import Wide.FinOn
import HandS.ForMost
import HandS.Walk
import HandS.TupAny
import HandS.Wide
import HandS.Style
import HandS.Conv
import HandS.SortInts
import HandS.TupMul
import HandS.IsInst
import KE.GoesEnum
import KE.GoesMore
import HandS.DictTup
import HandS.More
import HandS.SortRule
import HandS.Deep
import KE.GoesZip
import HandS.Zip
import HandS.Flow
import KE.KUnpackStar
import HandS.DictComp
import HandS.HeadEnd
import HandS.Head0
import HandS.Head1
import HandS.Head2
import HandS.HeadHook1
import HandS.HeadHook2
import PySem.Challenge.RW_crosslift_k04_all_shifts_tried
set_option Elab.async false
set_option linter.all false
set_option maxRecDepth 100000
set_option maxHeartbeats 4000000
namespace Cl
open PySem L2 PySem.Spec PyProof.Rows

/-! ### heaps that grow -/
def Ex (H H' : Hp) : Prop := ∀ a o, H a = some o → H' a = some o
theorem Ex.refl (H : Hp) : Ex H H := fun _ _ h => h
theorem Ex.trans {H H1 H2 : Hp} (a : Ex H H1) (b : Ex H1 H2) : Ex H H2 := fun x o h => b x o (a x o h)
theorem Ex.new {H : Hp} {p : Addr} {o : HO} (h : H p = none) : Ex H (upd H p o) := fun a u e => by
  rw [upd_ne (ne_of_none e h)]
  exact e
theorem Ex.none {H H' : Hp} {p : Addr} (e : Ex H H') (h : H' p = none) : H p = none := by
  cases h1 : H p with
  | none => rfl
  | some o => rw [e p o h1] at h; cases h
theorem Ex.rd {H H' : Hp} {a : Addr} {u : HO} (e : Ex H H') (h : Rd H a u) : Rd H' a u := by
  rcases h with h | ⟨o, h⟩
  · exact Or.inl (e a _ h)
  · exact Or.inr ⟨o, e a _ h⟩
theorem Ex.l {K : PySem.W.Frag} {H H' : Hp} {a : Addr} {xs : List V} (e : Ex H H') (h : SqL K H a xs) : SqL K H' a xs := by
  rcases h with h | h
  · exact Or.inl (e.rd h)
  · exact Or.inr h
theorem Ex.t {K : PySem.W.Frag} {H H' : Hp} {a : Addr} {xs : List V} (e : Ex H H') (h : H a = some (.tup xs)) : SqT K H' a xs := .inl (.inl (e _ _ h))

/-! ### what a value stands for -/
def keyD : Key → PyData
  | .inl i => .int i
  | .inr x => .str x
mutual
inductive Rp (K : PySem.W.Frag) (H : Hp) : V → PyData → Prop
  | non : Rp K H .non .none
  | bl (b : Bool) : Rp K H (.bl b) (.bool b)
  | int (i : Int) : Rp K H (.int i) (.int i)
  | str (x : Str) : Rp K H (.str x) (.str x)
  | lst {a : Addr} {xs : List V} {ds : List PyData} : H a = some (.lst xs) → RpA K H xs ds → Rp K H (.ref a) (.list ds)
  | tup {a : Addr} {xs : List V} {ds : List PyData} : H a = some (.tup xs) → RpA K H xs ds → Rp K H (.ref a) (.tuple ds)
  | dic {a : Addr} {kvs : List (Key × V)} {ds : List (PyData × PyData)} : H a = some (.dK kvs) → RpD K H kvs ds → Rp K H (.ref a) (.dict ds)
  /-- a dict whose keys are tuples -/
  | dicT {a : Addr} {kvs : List (List Key × V)} {ds : List (PyData × PyData)} : H a = some (.dT kvs) → RpT K H kvs ds → Rp K H (.ref a) (.dict ((.bool true, .none) :: ds))
  /-- .. locked for good -/
  | dicF {a : Addr} {od : Obj} {kvs : List (List Key × V)} {ds : List (PyData × PyData)} : H a = some (.frz od (.dT kvs)) → RpT K H kvs ds → Rp K H (.ref a) (.dict ((.bool false, .none) :: ds))
  /-- an instance of the class at C that never changes again -/
  | ins {a C dx : Addr} {fs : List (Str × V)} {ds : List (PyData × PyData)} : H a = some (.ins C dx fs) → RpF K H fs ds → Rp K H (.ref a) (.dict ((.none, .int (C : Nat)) :: ds))
inductive RpA (K : PySem.W.Frag) (H : Hp) : List V → List PyData → Prop
  | nil : RpA K H [] []
  | cons {v : V} {vs : List V} {d : PyData} {ds : List PyData} : Rp K H v d → RpA K H vs ds → RpA K H (v :: vs) (d :: ds)
inductive RpD (K : PySem.W.Frag) (H : Hp) : List (Key × V) → List (PyData × PyData) → Prop
  | nil : RpD K H [] []
  | cons {k : Key} {v : V} {vs : List (Key × V)} {d : PyData} {ds : List (PyData × PyData)} : Rp K H v d → RpD K H vs ds → RpD K H ((k, v) :: vs) ((keyD k, d) :: ds)
inductive RpT (K : PySem.W.Frag) (H : Hp) : List (List Key × V) → List (PyData × PyData) → Prop
  | nil : RpT K H [] []
  | cons {k : List Key} {v : V} {vs : List (List Key × V)} {d : PyData} {ds : List (PyData × PyData)} : Rp K H v d → RpT K H vs ds → RpT K H ((k, v) :: vs) ((.tuple (k.map keyD), d) :: ds)
inductive RpF (K : PySem.W.Frag) (H : Hp) : List (Str × V) → List (PyData × PyData) → Prop
  | nil : RpF K H [] []
  | cons {k : Str} {v : V} {vs : List (Str × V)} {d : PyData} {ds : List (PyData × PyData)} : Rp K H v d → RpF K H vs ds → RpF K H ((k, v) :: vs) ((.str k, d) :: ds)
end
section
variable {K : PySem.W.Frag} {H H' : Hp}
mutual
theorem Rp.mono (e : Ex H H') : ∀ {v : V} {d : PyData}, Rp K H v d → Rp K H' v d
  | _, _, .non => .non
  | _, _, .bl b => .bl b
  | _, _, .int i => .int i
  | _, _, .str x => .str x
  | _, _, .lst h r => .lst (e _ _ h) (RpA.mono e r)
  | _, _, .tup h r => .tup (e _ _ h) (RpA.mono e r)
  | _, _, .dic h r => .dic (e _ _ h) (RpD.mono e r)
  | _, _, .dicT h r => .dicT (e _ _ h) (RpT.mono e r)
  | _, _, .dicF h r => .dicF (e _ _ h) (RpT.mono e r)
  | _, _, .ins h r => .ins (e _ _ h) (RpF.mono e r)
theorem RpA.mono (e : Ex H H') : ∀ {v : List V} {d : List PyData}, RpA K H v d → RpA K H' v d
  | _, _, .nil => .nil
  | _, _, .cons h r => .cons (Rp.mono e h) (RpA.mono e r)
theorem RpD.mono (e : Ex H H') : ∀ {v : List (Key × V)} {d : List (PyData × PyData)}, RpD K H v d → RpD K H' v d
  | _, _, .nil => .nil
  | _, _, .cons h r => .cons (Rp.mono e h) (RpD.mono e r)
theorem RpT.mono (e : Ex H H') : ∀ {v : List (List Key × V)} {d : List (PyData × PyData)}, RpT K H v d → RpT K H' v d
  | _, _, .nil => .nil
  | _, _, .cons h r => .cons (Rp.mono e h) (RpT.mono e r)
theorem RpF.mono (e : Ex H H') : ∀ {v : List (Str × V)} {d : List (PyData × PyData)}, RpF K H v d → RpF K H' v d
  | _, _, .nil => .nil
  | _, _, .cons h r => .cons (Rp.mono e h) (RpF.mono e r)
end
theorem RpA.length : ∀ {v : List V} {d : List PyData}, RpA K H v d → v.length = d.length
  | _, _, .nil => rfl
  | _, _, .cons _ r => by rw [List.length_cons, List.length_cons, r.length]
theorem RpA.get : ∀ {v : List V} {d : List PyData}, RpA K H v d → ∀ (i : Nat) (y : PyData), d[i]? = some y → ∃ x, v[i]? = some x ∧ Rp K H x y
  | _, _, .nil, i, y, h => by simp at h
  | _, _, .cons (v := v) h r, 0, y, e => ⟨v, rfl, by cases e; exact h⟩
  | _, _, .cons h r, i + 1, y, e => r.get i y e
theorem RpA.getL : ∀ {v : List V} {d : List PyData}, RpA K H v d → ∀ (i : Nat) (x : V), v[i]? = some x → ∃ y, d[i]? = some y ∧ Rp K H x y
  | _, _, .nil, i, y, h => by simp at h
  | _, _, .cons (d := d) h r, 0, y, e => ⟨d, rfl, by cases e; exact h⟩
  | _, _, .cons h r, i + 1, y, e => r.getL i y e
theorem RpA.append : ∀ {v v' : List V} {d d' : List PyData}, RpA K H v d → RpA K H v' d' → RpA K H (v ++ v') (d ++ d')
  | _, _, _, _, .nil, s => s
  | _, _, _, _, .cons h r, s => .cons h (r.append s)
theorem RpA.snoc {v : List V} {d : List PyData} {x : V} {y : PyData} (r : RpA K H v d) (h : Rp K H x y) : RpA K H (v ++ [x]) (d ++ [y]) := r.append (.cons h .nil)
theorem RpA.drop : ∀ {v : List V} {d : List PyData} (n : Nat), RpA K H v d → RpA K H (v.drop n) (d.drop n)
  | _, _, 0, r => r
  | _, _, n + 1, .nil => .nil
  | _, _, n + 1, .cons _ r => r.drop n
theorem RpA.take : ∀ {v : List V} {d : List PyData} (n : Nat), RpA K H v d → RpA K H (v.take n) (d.take n)
  | _, _, 0, r => .nil
  | _, _, n + 1, .nil => .nil
  | _, _, n + 1, .cons h r => .cons h (r.take n)
theorem RpA.set : ∀ {v : List V} {d : List PyData} {x : V} {y : PyData} (n : Nat), RpA K H v d → Rp K H x y → RpA K H (v.set n x) (d.set n y)
  | _, _, _, _, _, .nil, _ => .nil
  | _, _, _, _, 0, .cons _ r, h => .cons h r
  | _, _, _, _, n + 1, .cons g r, h => .cons g (r.set n h)
theorem RpA.reverse : ∀ {v : List V} {d : List PyData}, RpA K H v d → RpA K H v.reverse d.reverse
  | _, _, .nil => .nil
  | _, _, .cons h r => by rw [List.reverse_cons, List.reverse_cons]; exact r.reverse.snoc h
theorem RpA.rep {v : List V} {d : List PyData} (r : RpA K H v d) : ∀ n : Nat, RpA K H (List.replicate n v).flatten (List.replicate n d).flatten
  | 0 => .nil
  | n + 1 => by rw [List.replicate_succ, List.replicate_succ, List.flatten_cons, List.flatten_cons]; exact r.append (r.rep n)
theorem RpA.ints : ∀ {v : List V} {ns : List Int}, RpA K H v (ns.map PyData.int) → v = ns.map V.int
  | _, [], .nil => rfl
  | _, n :: ns, .cons h r => by cases h; rw [List.map_cons, r.ints]
theorem RpA.ofInts : ∀ ns : List Int, RpA K H (ns.map V.int) (ns.map PyData.int)
  | [] => .nil
  | n :: ns => .cons (.int n) (RpA.ofInts ns)
theorem RpA.bools : ∀ {v : List V} {ns : List Bool}, RpA K H v (ns.map PyData.bool) → v = ns.map V.bl
  | _, [], .nil => rfl
  | _, n :: ns, .cons h r => by cases h; rw [List.map_cons, r.bools]
end

/-! ### the world: what is changed by calls (a source of draws, editors) -/
structure World where
  T : Type
  rel : PySem.W.Frag → Hp → Hp → List Addr → T → Prop
  mono : ∀ {K : PySem.W.Frag} {H0 H0' HW : Hp} {ad : List Addr} {w : T}, Ex H0 H0' → rel K H0 HW ad w → rel K H0' HW ad w
/-- the heap in parts: what never changes again, what the world holds, the handles -/
structure Sh where
  H0 : Hp
  HW : Hp
  ad : List Addr
  /-- a thing that a stretch of a def works on -/
  pt : Option Addr := none
/-- not a tuple -/
def NT (o : HO) : Prop := ∀ xs, o ≠ .tup xs
theorem NT.lst (xs : List V) : NT (.lst xs) := fun _ e => nomatch e
structure HO' (K : PySem.W.Frag) (Wd : World) (s : Sh) (H : Hp) (w : Wd.T) : Prop where
  ex : Ex s.H0 H
  exW : Ex s.HW H
  dj : ∀ a o, s.H0 a = some o → NT o → s.HW a = none
  rel : Wd.rel K s.H0 s.HW s.ad w
/-- from one state to a later one: what stood outside the world stands as it was -/
structure Le (s : Sh) (H : Hp) (s' : Sh) (H' : Hp) : Prop where
  h0 : Ex s.H0 s'.H0
  fr : ∀ a o, H a = some o → s.HW a = none → H' a = some o
  dom : ∀ a o, H a = some o → ∃ o', H' a = some o' ∧ (NT o → NT o')
  nf : ∀ a o, H a = some o → NT o → s.H0 a = none → s'.H0 a = none
  nw : ∀ a o, H a = some o → s.HW a = none → s'.HW a = none
  ad : ∃ m, s'.ad = s.ad ++ m
  pt : s'.pt = s.pt
theorem Le.refl (s : Sh) (H : Hp) : Le s H s H := ⟨Ex.refl _, fun _ _ h _ => h, fun _ o h => ⟨o, h, id⟩, fun _ _ _ _ h => h, fun _ _ _ h => h, ⟨[], by simp⟩, rfl⟩
theorem Le.trans {s s1 s2 : Sh} {H H1 H2 : Hp} (a : Le s H s1 H1) (b : Le s1 H1 s2 H2) : Le s H s2 H2 := by
  refine ⟨a.h0.trans b.h0, fun x o h n => b.fr x o (a.fr x o h n) (a.nw x o h n), fun x o h => ?_, fun x o h t n => ?_, fun x o h n => b.nw x o (a.fr x o h n) (a.nw x o h n), ?_, b.pt.trans a.pt⟩
  · obtain ⟨o', h', k⟩ := a.dom x o h
    obtain ⟨o2, h2, k2⟩ := b.dom x o' h'
    exact ⟨o2, h2, fun z => k2 (k z)⟩
  · obtain ⟨o', h', k⟩ := a.dom x o h
    exact b.nf x o' h' (k t) (a.nf x o h t n)
  · obtain ⟨m, e⟩ := a.ad
    obtain ⟨m', e'⟩ := b.ad
    exact ⟨m ++ m', by rw [e', e, List.append_assoc]⟩
/-- a new object, not frozen -/
theorem Le.new {s : Sh} {H : Hp} {p : Addr} {o : HO} (h : H p = none) : Le s H s (upd H p o) :=
  ⟨Ex.refl _, fun a u e _ => Ex.new h a u e, fun a u e => ⟨u, Ex.new h a u e, id⟩, fun _ _ _ _ e => e, fun _ _ _ e => e, ⟨[], by simp⟩, rfl⟩
theorem Le.none0 {s s' : Sh} {H H' : Hp} (l : Le s H s' H') {p : Addr} (h : H' p = none) : H p = none := by
  cases e : H p with
  | none => rfl
  | some o =>
    obtain ⟨o', e', _⟩ := l.dom p o e
    rw [e'] at h; cases h
section
variable {K : PySem.W.Frag} {Wd : World} {s s' : Sh} {H H' : Hp} {w : Wd.T}
theorem HO'.none0 (h : HO' K Wd s H w) {p : Addr} (n : H p = none) : s.H0 p = none := h.ex.none n
theorem HO'.noneW (h : HO' K Wd s H w) {p : Addr} (n : H p = none) : s.HW p = none := h.exW.none n
theorem HO'.new (h : HO' K Wd s H w) {p : Addr} {o : HO} (n : H p = none) : HO' K Wd s (upd H p o) w :=
  ⟨h.ex.trans (Ex.new n), h.exW.trans (Ex.new n), h.dj, h.rel⟩
/-- what stands outside the world is frozen -/
def Sh.frz (s : Sh) (p : Addr) (o : HO) : Sh := { s with H0 := upd s.H0 p o }
theorem HO'.frz (h : HO' K Wd s H w) {p : Addr} {o : HO} (e : H p = some o) (n0 : s.H0 p = none) (nw : s.HW p = none) : HO' K Wd (s.frz p o) H w := by
  refine ⟨fun a u q => ?_, h.exW, fun a u q t => ?_, Wd.mono (Ex.new n0) h.rel⟩
  · by_cases ha : a = p
    · subst ha
      have q' : upd s.H0 a o a = some u := q
      rw [upd_same] at q'; cases q'; exact e
    · have q' : upd s.H0 p o a = some u := q
      rw [upd_ne ha] at q'
      exact h.ex a u q'
  · show s.HW a = none
    by_cases ha : a = p
    · rw [ha]; exact nw
    · have q' : upd s.H0 p o a = some u := q
      rw [upd_ne ha] at q'
      exact h.dj a u q' t
/-- a tuple is frozen, wherever it stands -/
theorem HO'.frzT (h : HO' K Wd s H w) {p : Addr} {xs : List V} (e : H p = some (.tup xs)) (n0 : s.H0 p = none) : HO' K Wd (s.frz p (.tup xs)) H w := by
  refine ⟨fun a u q => ?_, h.exW, fun a u q t => ?_, Wd.mono (Ex.new n0) h.rel⟩
  · by_cases ha : a = p
    · subst ha
      have q' : upd s.H0 a (.tup xs) a = some u := q
      rw [upd_same] at q'; cases q'; exact e
    · have q' : upd s.H0 p (.tup xs) a = some u := q
      rw [upd_ne ha] at q'
      exact h.ex a u q'
  · show s.HW a = none
    by_cases ha : a = p
    · have q' : upd s.H0 p (.tup xs) a = some u := q
      rw [ha, upd_same] at q'
      cases q'
      exact absurd rfl (t xs)
    · have q' : upd s.H0 p (.tup xs) a = some u := q
      rw [upd_ne ha] at q'
      exact h.dj a u q' t
theorem Le.frzT (l : Le s H s' H') {p : Addr} {xs : List V} (e : H' p = some (.tup xs)) (n0 : s'.H0 p = none) : Le s H (s'.frz p (.tup xs)) H' :=
  ⟨l.h0.trans (Ex.new n0), l.fr, l.dom, fun a u q t z => by
    show upd s'.H0 p (.tup xs) a = none
    by_cases ha : a = p
    · obtain ⟨o', e', k⟩ := l.dom a u q
      rw [ha, e] at e'
      cases e'
      exact absurd rfl (k t xs)
    · rw [upd_ne ha]
      exact l.nf a u q t z, l.nw, l.ad, l.pt⟩
/-- frozen: p was not there at the start -/
theorem Le.frz (l : Le s H s' H') {p : Addr} {o : HO} (n : H p = none) (n0 : s'.H0 p = none) : Le s H (s'.frz p o) H' :=
  ⟨l.h0.trans (Ex.new n0), l.fr, l.dom, fun a u e t q => by
    show upd s'.H0 p o a = none
    rw [upd_ne (ne_of_none e n)]
    exact l.nf a u e t q, l.nw, l.ad, l.pt⟩
/-- an object that is neither frozen nor the world's is changed -/
theorem HO'.mut (h : HO' K Wd s H w) {p : Addr} {o : HO} (n0 : s.H0 p = none) (nw : s.HW p = none) : HO' K Wd s (upd H p o) w :=
  ⟨fun a u e => by rw [upd_ne (ne_of_none e n0)]; exact h.ex a u e, fun a u e => by rw [upd_ne (ne_of_none e nw)]; exact h.exW a u e, h.dj, h.rel⟩
theorem Le.mut (l : Le s H s' H') {p : Addr} {o : HO} (n : H p = none) : Le s H s' (upd H' p o) :=
  ⟨l.h0, fun a u e q => by rw [upd_ne (ne_of_none e n)]; exact l.fr a u e q, fun a u e => by
    rw [upd_ne (ne_of_none e n)]
    exact l.dom a u e, l.nf, l.nw, l.ad, l.pt⟩
end

/-! ### objects that are one's own -/
inductive Ob where
  | lst (ds : List PyData)
  | dic (kvs : List (Key × PyData))
  | dicT (kvs : List (List Key × PyData))
  | ins (C : Addr) (fs : List (Str × PyData))
inductive RpG {κ : Type} (K : PySem.W.Frag) (H : Hp) : List (κ × V) → List (κ × PyData) → Prop
  | nil : RpG K H [] []
  | cons {k : κ} {v : V} {vs : List (κ × V)} {d : PyData} {ds : List (κ × PyData)} : Rp K H v d → RpG K H vs ds → RpG K H ((k, v) :: vs) ((k, d) :: ds)
abbrev RpK (K : PySem.W.Frag) (H : Hp) (xs : List (Key × V)) (ds : List (Key × PyData)) : Prop := RpG K H xs ds
theorem RpG.mono {κ : Type} {K : PySem.W.Frag} {H H' : Hp} (e : Ex H H') : ∀ {v : List (κ × V)} {d : List (κ × PyData)}, RpG K H v d → RpG K H' v d
  | _, _, .nil => .nil
  | _, _, .cons h r => .cons (Rp.mono e h) (RpG.mono e r)
theorem RpG.length {κ : Type} {K : PySem.W.Frag} {H : Hp} : ∀ {v : List (κ × V)} {d : List (κ × PyData)}, RpG K H v d → v.length = d.length
  | _, _, .nil => rfl
  | _, _, .cons _ r => by rw [List.length_cons, List.length_cons, r.length]
theorem RpG.append {κ : Type} {K : PySem.W.Frag} {H : Hp} : ∀ {v v' : List (κ × V)} {d d' : List (κ × PyData)}, RpG K H v d → RpG K H v' d' → RpG K H (v ++ v') (d ++ d')
  | _, _, _, _, .nil, s => s
  | _, _, _, _, .cons h r, s => .cons h (r.append s)
def dicD (kvs : List (Key × PyData)) : List (PyData × PyData) := kvs.map fun p => (keyD p.1, p.2)
def dicTD (kvs : List (List Key × PyData)) : List (PyData × PyData) := kvs.map fun p => (.tuple (p.1.map keyD), p.2)
def insD (fs : List (Str × PyData)) : List (PyData × PyData) := fs.map fun p => (.str p.1, p.2)
theorem RpG.toD {K : PySem.W.Frag} {H : Hp} : ∀ {v : List (Key × V)} {d : List (Key × PyData)}, RpG K H v d → RpD K H v (dicD d)
  | _, _, .nil => .nil
  | _, _, .cons h r => .cons h r.toD
theorem RpG.toT {K : PySem.W.Frag} {H : Hp} : ∀ {v : List (List Key × V)} {d : List (List Key × PyData)}, RpG K H v d → RpT K H v (dicTD d)
  | _, _, .nil => .nil
  | _, _, .cons h r => .cons h r.toT
theorem RpG.toF {K : PySem.W.Frag} {H : Hp} : ∀ {v : List (Str × V)} {d : List (Str × PyData)}, RpG K H v d → RpF K H v (insD d)
  | _, _, .nil => .nil
  | _, _, .cons h r => .cons h r.toF
theorem keyD_inj : ∀ {a b : Key}, keyD a = keyD b → a = b
  | .inl _, .inl _, h => by cases h; rfl
  | .inr _, .inr _, h => by cases h; rfl
  | .inl _, .inr _, h => by cases h
  | .inr _, .inl _, h => by cases h
theorem keysD_inj : ∀ {a b : List Key}, a.map keyD = b.map keyD → a = b
  | [], [], _ => rfl
  | [], _ :: _, h => by cases h
  | _ :: _, [], h => by cases h
  | x :: a, y :: b, h => by
    rw [List.map_cons, List.map_cons] at h
    injection h with h1 h2
    rw [keyD_inj h1, keysD_inj h2]
theorem RpD.toK {K : PySem.W.Frag} {H : Hp} : ∀ {v : List (Key × V)} {d : List (Key × PyData)}, RpD K H v (dicD d) → RpG K H v d
  | [], [], _ => .nil
  | (k, v) :: vs, (k', d) :: ds, h => by
    generalize e : dicD ((k', d) :: ds) = x at h
    cases h with
    | cons h r =>
      have e : (keyD k', d) :: dicD ds = (keyD k, _) :: _ := e
      injection e with e1 e2
      injection e1 with e3 e4
      subst e4
      subst e2
      rw [keyD_inj e3]
      exact .cons h r.toK
  | [], _ :: _, h => by cases h
  | _ :: _, [], h => by cases h
theorem RpT.toK {K : PySem.W.Frag} {H : Hp} : ∀ {v : List (List Key × V)} {d : List (List Key × PyData)}, RpT K H v (dicTD d) → RpG K H v d
  | [], [], _ => .nil
  | (k, v) :: vs, (k', d) :: ds, h => by
    generalize e : dicTD ((k', d) :: ds) = x at h
    cases h with
    | cons h r =>
      have e : (PyData.tuple (k'.map keyD), d) :: dicTD ds = (PyData.tuple (k.map keyD), _) :: _ := e
      injection e with e1 e2
      injection e1 with e3 e4
      injection e3 with e3
      subst e4
      subst e2
      rw [keysD_inj e3]
      exact .cons h r.toK
  | [], _ :: _, h => by cases h
  | _ :: _, [], h => by cases h
theorem RpF.toK {K : PySem.W.Frag} {H : Hp} : ∀ {v : List (Str × V)} {d : List (Str × PyData)}, RpF K H v (insD d) → RpG K H v d
  | [], [], _ => .nil
  | (k, v) :: vs, (k', d) :: ds, h => by
    generalize e : insD ((k', d) :: ds) = x at h
    cases h with
    | cons h r =>
      have e : (PyData.str k', d) :: insD ds = (PyData.str k, _) :: _ := e
      injection e with e1 e2
      injection e1 with e3 e4
      injection e3 with e3
      subst e4
      subst e2
      subst e3
      exact .cons h r.toK
  | [], _ :: _, h => by cases h
  | _ :: _, [], h => by cases h
def Ob.dat : Ob → PyData
  | .lst ds => .list ds
  | .dic kvs => .dict (dicD kvs)
  | .dicT kvs => .dict ((.bool true, .none) :: dicTD kvs)
  | .ins C fs => .dict ((.none, .int (C : Nat)) :: insD fs)
def ObR (K : PySem.W.Frag) (H0 : Hp) (u : HO) : Ob → Prop
  | .lst ds => ∃ xs, u = .lst xs ∧ RpA K H0 xs ds
  | .dic ds => ∃ xs, u = .dK xs ∧ RpG K H0 xs ds
  | .dicT ds => ∃ xs, u = .dT xs ∧ RpG K H0 xs ds
  | .ins C ds => ∃ dx xs, u = .ins C dx xs ∧ RpG K H0 xs ds
theorem ObR.mono {K : PySem.W.Frag} {H H' : Hp} (e : Ex H H') {u : HO} : ∀ {o : Ob}, ObR K H u o → ObR K H' u o
  | .lst ds, ⟨xs, e1, h⟩ => ⟨xs, e1, RpA.mono e h⟩
  | .dic ds, ⟨xs, e1, h⟩ => ⟨xs, e1, RpG.mono e h⟩
  | .dicT ds, ⟨xs, e1, h⟩ => ⟨xs, e1, RpG.mono e h⟩
  | .ins C ds, ⟨dx, xs, e1, h⟩ => ⟨dx, xs, e1, RpG.mono e h⟩
theorem ObR.nt {K : PySem.W.Frag} {H : Hp} {u : HO} : ∀ {o : Ob}, ObR K H u o → NT u
  | .lst ds, ⟨xs, e1, h⟩ => e1 ▸ fun _ e => nomatch e
  | .dic ds, ⟨xs, e1, h⟩ => e1 ▸ fun _ e => nomatch e
  | .dicT ds, ⟨xs, e1, h⟩ => e1 ▸ fun _ e => nomatch e
  | .ins C ds, ⟨dx, xs, e1, h⟩ => e1 ▸ fun _ e => nomatch e
theorem ObR.rp {K : PySem.W.Frag} {H : Hp} {p : Addr} {u : HO} : ∀ {o : Ob}, ObR K H u o → H p = some u → Rp K H (.ref p) o.dat
  | .lst ds, ⟨xs, e1, h⟩, e => .lst (e1 ▸ e) h
  | .dic ds, ⟨xs, e1, h⟩, e => .dic (e1 ▸ e) h.toD
  | .dicT ds, ⟨xs, e1, h⟩, e => .dicT (e1 ▸ e) h.toT
  | .ins C ds, ⟨dx, xs, e1, h⟩, e => .ins (e1 ▸ e) h.toF
theorem ObR.lst {K : PySem.W.Frag} {H : Hp} {u : HO} {ds : List PyData} (h : ObR K H u (.lst ds)) : ∃ xs, u = .lst xs ∧ RpA K H xs ds := h
theorem ObR.dic {K : PySem.W.Frag} {H : Hp} {u : HO} {ds : List (Key × PyData)} (h : ObR K H u (.dic ds)) : ∃ xs, u = .dK xs ∧ RpG K H xs ds := h

/-! ### a def's places: a datum, a list or dict of one's own, a handle -/
inductive Sv where
  | dat (d : PyData)
  | own (o : Ob)
  | hd (n : Nat)
  | pt
abbrev Ev := List (Option Sv)
def SvR (K : PySem.W.Frag) (HE : Hp) (s : Sh) (H : Hp) (v : V) : Sv → Prop
  | .dat d => Rp K s.H0 v d
  | .own o => ∃ p u, v = .ref p ∧ H p = some u ∧ s.H0 p = none ∧ s.HW p = none ∧ HE p = none ∧ ObR K s.H0 u o
  | .hd n => ∃ a, s.ad[n]? = some a ∧ v = .ref a
  | .pt => ∃ a, s.pt = some a ∧ v = .ref a
structure Sl (K : PySem.W.Frag) (sE : Sh) (HE : Hp) (s : Sh) (H : Hp) (σ : L2.St) (Γ : Ev) : Prop where
  en : Le sE HE s H
  len : Γ.length = σ.length
  sl : ∀ (i : Nat) (x : Sv), Γ[i]? = some (some x) → ∃ v, σ[i]? = some (some v) ∧ SvR K HE s H v x
  dj : ∀ (i j : Nat) (p : Addr) (ds es : Ob), i ≠ j → Γ[i]? = some (some (.own ds)) → Γ[j]? = some (some (.own es)) → σ[i]? = some (some (.ref p)) → σ[j]? ≠ some (some (.ref p))
section
variable {K : PySem.W.Frag} {Wd : World} {sE s s' : Sh} {HE H H' : Hp} {w : Wd.T} {σ : L2.St} {Γ : Ev}
theorem SvR.le (l : Le s H s' H') {v : V} : ∀ {x : Sv}, SvR K HE s H v x → SvR K HE s' H' v x
  | .dat d, h => Rp.mono l.h0 h
  | .own ds, h => by
    obtain ⟨p, xs, e, h1, h2, h3, h4, r⟩ := h
    exact ⟨p, xs, e, l.fr p _ h1 h3, l.nf p _ h1 r.nt h2, l.nw p _ h1 h3, h4, r.mono l.h0⟩
  | .hd n, h => by
    obtain ⟨a, h1, e⟩ := h
    obtain ⟨m, em⟩ := l.ad
    exact ⟨a, by rw [em, List.getElem?_append_left (List.getElem?_eq_some_iff.mp h1).1]; exact h1, e⟩
  | .pt, h => by
    obtain ⟨a, h1, e⟩ := h
    exact ⟨a, l.pt.trans h1, e⟩
theorem Sl.le (S : Sl K sE HE s H σ Γ) (l : Le s H s' H') : Sl K sE HE s' H' σ Γ :=
  ⟨S.en.trans l, S.len, fun i x h => by
    obtain ⟨v, h1, h2⟩ := S.sl i x h
    exact ⟨v, h1, h2.le l⟩, S.dj⟩
end

/-! ### results -/
inductive Rv where
  | dat (d : PyData)
  | new (o : Ob)
  | bor (i : Nat) (o : Ob)
  | hd (n : Nat)
/-- Hs: the heap at the start -/
def RvR (K : PySem.W.Frag) (Hs : Hp) (s : Sh) (H : Hp) (σ : L2.St) (Γ : Ev) (v : V) : Rv → Prop
  | .dat d => Rp K s.H0 v d
  | .new o => ∃ p u, v = .ref p ∧ Hs p = none ∧ H p = some u ∧ s.H0 p = none ∧ s.HW p = none ∧ ObR K s.H0 u o
  | .bor i ds => Γ[i]? = some (some (.own ds)) ∧ σ[i]? = some (some v)
  | .hd n => ∃ a, s.ad[n]? = some a ∧ v = .ref a
/-- an exception: its class's name, its fields -/
structure Exn where
  cls : Str
  fs : List (Str × PyData)
inductive Rs (T α : Type) where
  | ok (a : α) (w : T)
  | ex (x : Exn) (w : T)
def bindR {T α β : Type} : Option (Rs T α) → (α → T → Option (Rs T β)) → Option (Rs T β)
  | some (.ok a w), f => f a w
  | some (.ex x w), _ => some (.ex x w)
  | none, _ => none
@[simp] theorem bindR_ok {T α β : Type} {a : α} {w : T} {f : α → T → Option (Rs T β)} : bindR (some (.ok a w)) f = f a w := rfl
@[simp] theorem bindR_ex {T α β : Type} {x : Exn} {w : T} {f : α → T → Option (Rs T β)} : bindR (some (.ex x w)) f = some (.ex x w) := rfl
@[simp] theorem bindR_none {T α β : Type} {f : α → T → Option (Rs T β)} : bindR (none : Option (Rs T α)) f = none := rfl
/-- how an exception lies: its class, its own dict -/
def XR (K : PySem.W.Frag) (mg : Str → Option Value) (H : Hp) (cls : Value) (d : Option Addr) (x : Exn) : Prop :=
  mg x.cls = some cls ∧ match x.fs, d with
    | [], none => True
    | f :: fs, some a => ∃ vs : List V, H a = some (.xd ((f :: fs).map (·.1) |>.zip vs)) ∧ RpA K H vs ((f :: fs).map (·.2))
    | _, _ => False
/-- the frame of one def's semantics -/
structure Cf where
  K : PySem.W.Frag
  mg : Str → Option Value
  Wd : World
  E : XK
abbrev Cf.T (C : Cf) : Type := C.Wd.T
/-- what is wanted behind an evaluation -/
def Post {α : Type} (C : Cf) (s : Sh) (H : Hp) (res : Rs C.T α) (Q : α → Sh → Hp → Prop) : Prop :=
  match res with
  | .ok a w' => ∀ s' H', Le s H s' H' → HO' C.K C.Wd s' H' w' → Q a s' H'
  | .ex x w' => ∀ cls d s' H', Le s H s' H' → HO' C.K C.Wd s' H' w' → XR C.K C.mg H' cls d x → C.E cls d H'
end Cl

set_option Elab.async false
set_option linter.all false
set_option maxRecDepth 100000
set_option maxHeartbeats 4000000
namespace Cl
open PySem L2 PySem.Spec PyProof.Rows

theorem bindR_cases {T α β : Type} {o : Option (Rs T α)} {f : α → T → Option (Rs T β)} {res : Rs T β} (h : bindR o f = some res) :
    (∃ a w, o = some (.ok a w) ∧ f a w = some res) ∨ (∃ x w, o = some (.ex x w) ∧ res = .ex x w) := by
  cases o with
  | none => cases h
  | some r =>
    cases r with
    | ok a w => exact .inl ⟨a, w, rfl, h⟩
    | ex x w => cases h; exact .inr ⟨x, w, rfl, rfl⟩
theorem Post.imp {α : Type} {C : Cf} {s : Sh} {H : Hp} {res : Rs C.T α} {Q Q' : α → Sh → Hp → Prop} (h : Post C s H res Q) (hq : ∀ a s' H', Q a s' H' → Q' a s' H') : Post C s H res Q' := by
  cases res with
  | ok a w => exact fun s' H' l h' => hq _ _ _ (h s' H' l h')
  | ex x w => exact h
theorem Post.le {α : Type} {C : Cf} {s s1 : Sh} {H H1 : Hp} {res : Rs C.T α} {Q : α → Sh → Hp → Prop} (l : Le s H s1 H1) (h : Post C s H res Q) : Post C s1 H1 res Q := by
  cases res with
  | ok a w => exact fun s' H' l' h' => h s' H' (l.trans l') h'
  | ex x w => exact fun cls d s' H' l' h' => h cls d s' H' (l.trans l') h'
/-- an exception passes through a bind -/
theorem Post.ex {α β : Type} {C : Cf} {s : Sh} {H : Hp} {x : Exn} {w : C.T} {Q : α → Sh → Hp → Prop} {Q' : β → Sh → Hp → Prop} (h : Post C s H (.ex x w) Q) : Post C s H (.ex x w) Q' := h

/-! ### expressions -/
structure SE (C : Cf) where
  t : TE
  ev : Ev → C.T → Option (Rs C.T Rv)
  ok : ∀ {sE : Sh} {HE : Hp} {s : Sh} {H : Hp} {σ : L2.St} {Γ : Ev} {w : C.T} {res : Rs C.T Rv}, Sl C.K sE HE s H σ Γ → HO' C.K C.Wd s H w → ev Γ w = some res →
    ∀ Q : VK, Post C s H res (fun r s' H' => ∀ v, RvR C.K H s' H' σ Γ v r → Q v H') → t σ H Q
def CE {C : Cf} (X : Cx) (e : Expr) (a : SE C) : Prop := PE X e a.t

def Rv.dat? : Rv → Option PyData
  | .dat d => some d
  | .new o => some o.dat
  | _ => none
def Rv.view : Rv → Option PyData
  | .dat d => some d
  | .new o => some o.dat
  | .bor _ o => some o.dat
  | .hd _ => none
def evO {T α β : Type} (f : α → Option β) : α → T → Option (Rs T β) := fun a w => (f a).map fun b => .ok b w
@[simp] theorem evO_some {T α β : Type} {f : α → Option β} {a : α} {b : β} {w : T} (h : f a = some b) : evO f a w = some (.ok b w) := by unfold evO; rw [h]; rfl
theorem evO_inv {T α β : Type} {f : α → Option β} {a : α} {w : T} {res : Rs T β} (h : evO f a w = some res) : ∃ b, f a = some b ∧ res = .ok b w := by
  unfold evO at h
  cases e : f a with
  | none => rw [e] at h; cases h
  | some b => rw [e] at h; cases h; exact ⟨b, rfl, rfl⟩
def SE.evD {C : Cf} (a : SE C) (Γ : Ev) (w : C.T) : Option (Rs C.T PyData) := bindR (a.ev Γ w) (evO Rv.dat?)
def SE.evV {C : Cf} (a : SE C) (Γ : Ev) (w : C.T) : Option (Rs C.T PyData) := bindR (a.ev Γ w) (evO Rv.view)
/-- what is seen of a value: a list's items are frozen, itself it may be one's own -/
def View (K : PySem.W.Frag) (s : Sh) (H : Hp) (v : V) (d : PyData) : Prop :=
  match d with
  | .list ds => ∃ p xs, v = .ref p ∧ H p = some (.lst xs) ∧ RpA K s.H0 xs ds
  | .dict ds => Rp K s.H0 v (.dict ds) ∨ ∃ p u o, v = .ref p ∧ H p = some u ∧ ObR K s.H0 u o ∧ o.dat = .dict ds
  | d => Rp K s.H0 v d
theorem View.of {K : PySem.W.Frag} {s : Sh} {H : Hp} {v : V} {d : PyData} (e : Ex s.H0 H) (h : Rp K s.H0 v d) : View K s H v d := by
  cases h with
  | lst a r => exact ⟨_, _, rfl, e _ _ a, r⟩
  | non => exact .non
  | bl b => exact .bl b
  | int i => exact .int i
  | str i => exact .str i
  | tup a r => exact .tup a r
  | dic a r => exact .inl (.dic a r)
  | dicT a r => exact .inl (.dicT a r)
  | dicF a r => exact .inl (.dicF a r)
  | ins a r => exact .inl (.ins a r)
theorem View.ob {K : PySem.W.Frag} {s : Sh} {H : Hp} {p : Addr} {u : HO} : ∀ {o : Ob}, H p = some u → ObR K s.H0 u o → View K s H (.ref p) o.dat
  | .lst ds, e, h => by
    obtain ⟨xs, rfl, r⟩ := h.lst
    exact ⟨p, xs, rfl, e, r⟩
  | .dic ds, e, h => .inr ⟨p, u, _, rfl, e, h, rfl⟩
  | .dicT ds, e, h => .inr ⟨p, u, _, rfl, e, h, rfl⟩
  | .ins C ds, e, h => .inr ⟨p, u, _, rfl, e, h, rfl⟩
theorem View.rp {K : PySem.W.Frag} {s : Sh} {H : Hp} {v : V} {d : PyData} (e : Ex s.H0 H) (h : View K s H v d) : Rp K H v d := by
  cases d with
  | list ds =>
    obtain ⟨p, xs, rfl, h1, r⟩ := h
    exact .lst h1 (r.mono e)
  | none => exact Rp.mono e h
  | bool b => exact Rp.mono e h
  | int i => exact Rp.mono e h
  | str i => exact Rp.mono e h
  | tuple ds => exact Rp.mono e h
  | dict ds =>
    rcases h with h | ⟨p, u, o, rfl, h1, r, eo⟩
    · exact Rp.mono e h
    · rw [← eo]; exact (r.mono e).rp h1
/-- seen now and later -/
def Sees (C : Cf) (s : Sh) (H : Hp) (v : V) (d : PyData) : Prop := ∀ s' H', Le s H s' H' → Ex s'.H0 H' → View C.K s' H' v d
theorem Sees.now {C : Cf} {s : Sh} {H : Hp} {v : V} {d : PyData} (h : Sees C s H v d) (e : Ex s.H0 H) : View C.K s H v d := h s H (Le.refl _ _) e
theorem Sees.le {C : Cf} {s s1 : Sh} {H H1 : Hp} {v : V} {d : PyData} (h : Sees C s H v d) (l : Le s H s1 H1) : Sees C s1 H1 v d := fun s' H' l' e => h s' H' (l.trans l') e
theorem Sees.of {C : Cf} {s : Sh} {H : Hp} {v : V} {d : PyData} (h : Rp C.K s.H0 v d) : Sees C s H v d := fun s' H' l e => View.of e (Rp.mono l.h0 h)

section
variable {C : Cf} {sE s : Sh} {HE H : Hp} {σ : L2.St} {Γ : Ev} {w : C.T}
theorem SE.okD (a : SE C) {res : Rs C.T PyData} (S : Sl C.K sE HE s H σ Γ) (h : HO' C.K C.Wd s H w) (e : a.evD Γ w = some res) (Q : VK)
    (q : Post C s H res (fun d s' H' => ∀ v, Rp C.K s'.H0 v d → Q v H')) : a.t σ H Q := by
  rcases bindR_cases e with ⟨r, w1, e1, e2⟩ | ⟨x, w1, e1, rfl⟩
  · obtain ⟨d, e3, rfl⟩ := evO_inv e2
    refine a.ok S h e1 Q fun s' H' l h' v hv => ?_
    cases r with
    | dat d' => cases e3; exact q s' H' l h' v hv
    | new ds =>
      cases e3
      obtain ⟨p, u, rfl, n, hp, n0, nw, r⟩ := hv
      exact q (s'.frz p u) H' (l.frz n n0) (h'.frz hp n0 nw) _ ((r.mono (Ex.new n0)).rp upd_same)
    | bor i ds => cases e3
    | hd n => cases e3
  · exact a.ok S h e1 Q q.ex
theorem SE.okV (a : SE C) {res : Rs C.T PyData} (S : Sl C.K sE HE s H σ Γ) (h : HO' C.K C.Wd s H w) (e : a.evV Γ w = some res) (Q : VK)
    (q : Post C s H res (fun d s' H' => ∀ v, Sees C s' H' v d → Q v H')) : a.t σ H Q := by
  rcases bindR_cases e with ⟨r, w1, e1, e2⟩ | ⟨x, w1, e1, rfl⟩
  · obtain ⟨d, e3, rfl⟩ := evO_inv e2
    refine a.ok S h e1 Q fun s' H' l h' v hv => ?_
    cases r with
    | dat d' => cases e3; exact q s' H' l h' v (Sees.of hv)
    | new ds =>
      cases e3
      obtain ⟨p, u, rfl, n, hp, n0, nw, r⟩ := hv
      exact q s' H' l h' _ fun s2 H2 l2 e2 => View.ob (l2.fr p _ hp nw) (r.mono l2.h0)
    | bor i ds =>
      cases e3
      obtain ⟨g, gv⟩ := hv
      refine q s' H' l h' _ fun s2 H2 l2 e2 => ?_
      obtain ⟨v', hv', p, u, rfl, h1, h2, h3, h4, r⟩ := (S.le (l.trans l2)).sl _ _ g
      rw [gv] at hv'; cases hv'
      exact View.ob h1 r
    | hd n => cases e3
  · exact a.ok S h e1 Q q.ex
end

/-- a result of an operation, no place's -/
def RvP (K : PySem.W.Frag) (Hs : Hp) (s : Sh) (H : Hp) (v : V) : Rv → Prop
  | .dat d => Rp K s.H0 v d
  | .new o => ∃ p u, v = .ref p ∧ Hs p = none ∧ H p = some u ∧ s.H0 p = none ∧ s.HW p = none ∧ ObR K s.H0 u o
  | .bor _ _ => False
  | .hd n => ∃ a, s.ad[n]? = some a ∧ v = .ref a
theorem RvP.start {K : PySem.W.Frag} {s0 s1 s : Sh} {H0 H1 H : Hp} {v : V} {r : Rv} (l : Le s0 H0 s1 H1) (h : RvP K H1 s H v r) : RvP K H0 s H v r := by
  cases r with
  | dat d => exact h
  | new ds =>
    obtain ⟨p, xs, e, n, r⟩ := h
    exact ⟨p, xs, e, l.none0 n, r⟩
  | bor i ds => exact h
  | hd n => exact h
theorem RvP.rv {K : PySem.W.Frag} {Hs : Hp} {s : Sh} {H : Hp} {v : V} {r : Rv} {σ : L2.St} {Γ : Ev} (h : RvP K Hs s H v r) : RvR K Hs s H σ Γ v r := by
  cases r with
  | bor i ds => exact h.elim
  | dat d => exact h
  | new ds => exact h
  | hd n => exact h
/-- what is wanted of an operation that raises nothing -/
def Opd (C : Cf) (s : Sh) (H : Hp) (w : C.T) (rv : Rv) (Q : VK) : Prop := ∀ s' H' v, Le s H s' H' → HO' C.K C.Wd s' H' w → RvP C.K H s' H' v rv → Q v H'
theorem Opd.val {C : Cf} {s : Sh} {H : Hp} {w : C.T} {d : PyData} {Q : VK} {v : V} (h : HO' C.K C.Wd s H w) (q : Opd C s H w (.dat d) Q) (r : Rp C.K s.H0 v d) : Q v H := q s H v (Le.refl _ _) h r
theorem Opd.new {C : Cf} {s : Sh} {H : Hp} {w : C.T} {ds : List PyData} {Q : VK} {p : Addr} {xs : List V} (h : HO' C.K C.Wd s H w) (q : Opd C s H w (.new (.lst ds)) Q) (r : RpA C.K s.H0 xs ds) (n : H p = none) : Q (.ref p) (upd H p (.lst xs)) :=
  q s _ _ (Le.new n) (h.new n) ⟨p, .lst xs, rfl, n, upd_same, h.none0 n, h.noneW n, xs, rfl, r⟩
theorem Opd.tup {C : Cf} {s : Sh} {H : Hp} {w : C.T} {ds : List PyData} {Q : VK} {p : Addr} {xs : List V} (h : HO' C.K C.Wd s H w) (q : Opd C s H w (.dat (.tuple ds)) Q) (r : RpA C.K s.H0 xs ds) (n : H p = none) : Q (.ref p) (upd H p (.tup xs)) := by
  have h2 : HO' C.K C.Wd s (upd H p (.tup xs)) w := h.new n
  exact q (s.frz p (.tup xs)) _ _ ((Le.new n).frz n (h.none0 n)) (h2.frz upd_same (h.none0 n) (h.noneW n)) (.tup upd_same (r.mono (Ex.new (h.none0 n))))

/-! ### two operands -/
structure BinOk (C : Cf) (r : R2) (f : PyData → PyData → Option Rv) : Prop where
  run : ∀ {s : Sh} {H : Hp} {w : C.T} {x y : V} {d e : PyData} {rv : Rv}, HO' C.K C.Wd s H w → View C.K s H x d → View C.K s H y e → f d e = some rv → ∀ Q, Opd C s H w rv Q → r x y H Q
def evBin {C : Cf} (f : PyData → PyData → Option Rv) (a b : SE C) : Ev → C.T → Option (Rs C.T Rv) := fun Γ w =>
  bindR (a.evV Γ w) fun x w1 => bindR (b.evV Γ w1) fun y w2 => (f x y).map fun r => .ok r w2
def SE.bin {C : Cf} (r : R2) (f : PyData → PyData → Option Rv) (hr : BinOk C r f) (a b : SE C) : SE C where
  t := tOp r a.t b.t
  ev := evBin f a b
  ok := by
    intro sE HE s H σ Γ w res S h e Q q
    rcases bindR_cases e with ⟨x, w1, e1, e2⟩ | ⟨x, w1, e1, rfl⟩
    · refine a.okV S h e1 _ fun s1 H1 l1 h1 v1 z1 => ?_
      rcases bindR_cases e2 with ⟨y, w2, e3, e4⟩ | ⟨y, w2, e3, rfl⟩
      · refine b.okV (S.le l1) h1 e3 _ fun s2 H2 l2 h2 v2 z2 => ?_
        cases e5 : f x y with
        | none => rw [e5] at e4; cases e4
        | some rv =>
          rw [e5] at e4; cases e4
          refine hr.run h2 ((z1.le l2).now h2.ex) (z2.now h2.ex) e5 Q fun s3 H3 v l3 h3 r3 => ?_
          exact q s3 H3 ((l1.trans l2).trans l3) h3 v (r3.start (l1.trans l2)).rv
      · exact b.okV (S.le l1) h1 e3 _ (q.ex.le l1)
    · exact a.okV S h e1 _ q.ex
/-! ### one operand -/
structure UnOk (C : Cf) (r : V → Hp → VK → Prop) (f : PyData → Option Rv) : Prop where
  run : ∀ {s : Sh} {H : Hp} {w : C.T} {x : V} {d : PyData} {rv : Rv}, HO' C.K C.Wd s H w → View C.K s H x d → f d = some rv → ∀ Q, Opd C s H w rv Q → r x H Q
def evUn {C : Cf} (f : PyData → Option Rv) (a : SE C) : Ev → C.T → Option (Rs C.T Rv) := fun Γ w => bindR (a.evV Γ w) (evO f)
def SE.un {C : Cf} (r : V → Hp → VK → Prop) (f : PyData → Option Rv) (hr : UnOk C r f) (a : SE C) : SE C where
  t := tUn r a.t
  ev := evUn f a
  ok := by
    intro sE HE s H σ Γ w res S h e Q q
    rcases bindR_cases e with ⟨x, w1, e1, e2⟩ | ⟨x, w1, e1, rfl⟩
    · refine a.okV S h e1 _ fun s1 H1 l1 h1 v1 z1 => ?_
      obtain ⟨rv, e3, rfl⟩ := evO_inv e2
      exact hr.run h1 (z1.now h1.ex) e3 Q fun s3 H3 v l3 h3 r3 => q s3 H3 (l1.trans l3) h3 v (r3.start l1).rv
    · exact a.okV S h e1 _ q.ex
/-- a built-in of one argument -/
def SE.cb1 {C : Cf} (r : List V → Hp → VK → Prop) (f : PyData → Option Rv) (hr : UnOk C (fun x => r [x]) f) (a : SE C) : SE C where
  t := tCB r (tCons a.t tNil)
  ev := evUn f a
  ok := (SE.un (fun x => r [x]) f hr a).ok
def SE.cb2 {C : Cf} (r : List V → Hp → VK → Prop) (f : PyData → PyData → Option Rv) (hr : BinOk C (fun x y => r [x, y]) f) (a b : SE C) : SE C where
  t := tCB r (tCons a.t (tCons b.t tNil))
  ev := evBin f a b
  ok := (SE.bin (fun x y => r [x, y]) f hr a b).ok

/-! ### names, constants -/
def SE.var {C : Cf} (i : Nat) : SE C where
  t := tVar i
  ev := fun Γ w => match Γ[i]? with
    | some (some (.dat d)) => some (.ok (.dat d) w)
    | some (some (.own ds)) => some (.ok (.bor i ds) w)
    | some (some (.hd n)) => some (.ok (.hd n) w)
    | _ => none
  ok := by
    intro sE HE s H σ Γ w res S h e Q q
    split at e
    · rename_i d g
      cases e
      obtain ⟨v, gv, r⟩ := S.sl _ _ g
      exact ⟨v, gv, q s H (Le.refl _ _) h v r⟩
    · rename_i ds g
      cases e
      obtain ⟨v, gv, r⟩ := S.sl _ _ g
      exact ⟨v, gv, q s H (Le.refl _ _) h v ⟨g, gv⟩⟩
    · rename_i n g
      cases e
      obtain ⟨v, gv, r⟩ := S.sl _ _ g
      exact ⟨v, gv, q s H (Le.refl _ _) h v r⟩
    · cases e
def SE.con {C : Cf} (v : V) (d : PyData) (hr : ∀ H, Rp C.K H v d) : SE C where
  t := tC v
  ev := fun _ w => some (.ok (.dat d) w)
  ok := by
    intro sE HE s H σ Γ w res S h e Q q
    cases e
    exact q s H (Le.refl _ _) h v (hr _)
abbrev SE.int {C : Cf} (i : Int) : SE C := .con (.int i) (.int i) fun _ => .int i
abbrev SE.bl {C : Cf} (b : Bool) : SE C := .con (.bl b) (.bool b) fun _ => .bl b
abbrev SE.non {C : Cf} : SE C := .con .non .none fun _ => .non
abbrev SE.str {C : Cf} (x : Str) : SE C := .con (.str x) (.str x) fun _ => .str x

/-! ### arguments -/
inductive Av where
  | dat (d : PyData)
  | hd (n : Nat)
def AvR (K : PySem.W.Frag) (s : Sh) (v : V) : Av → Prop
  | .dat d => Rp K s.H0 v d
  | .hd n => ∃ a, s.ad[n]? = some a ∧ v = .ref a
theorem AvR.le {K : PySem.W.Frag} {s s' : Sh} {H H' : Hp} (l : Le s H s' H') {v : V} : ∀ {a : Av}, AvR K s v a → AvR K s' v a
  | .dat d, h => Rp.mono l.h0 h
  | .hd n, h => by
    obtain ⟨a, h1, e⟩ := h
    obtain ⟨m, em⟩ := l.ad
    exact ⟨a, by rw [em, List.getElem?_append_left (List.getElem?_eq_some_iff.mp h1).1]; exact h1, e⟩
def Rv.arg : Rv → Option Av
  | .dat d => some (.dat d)
  | .new o => some (.dat o.dat)
  | .hd n => some (.hd n)
  | .bor _ _ => none
inductive AvA (K : PySem.W.Frag) (s : Sh) : List V → List Av → Prop
  | nil : AvA K s [] []
  | cons {v : V} {vs : List V} {a : Av} {as : List Av} : AvR K s v a → AvA K s vs as → AvA K s (v :: vs) (a :: as)
theorem AvA.le {K : PySem.W.Frag} {s s' : Sh} {H H' : Hp} (l : Le s H s' H') : ∀ {vs : List V} {as : List Av}, AvA K s vs as → AvA K s' vs as
  | _, _, .nil => .nil
  | _, _, .cons h r => .cons (h.le l) (r.le l)
theorem AvA.length {K : PySem.W.Frag} {s : Sh} : ∀ {vs : List V} {as : List Av}, AvA K s vs as → vs.length = as.length
  | _, _, .nil => rfl
  | _, _, .cons _ r => by rw [List.length_cons, List.length_cons, r.length]
def SE.evA {C : Cf} (a : SE C) (Γ : Ev) (w : C.T) : Option (Rs C.T Av) := bindR (a.ev Γ w) (evO Rv.arg)
theorem SE.okA {C : Cf} {sE s : Sh} {HE H : Hp} {σ : L2.St} {Γ : Ev} {w : C.T} (a : SE C) {res : Rs C.T Av} (S : Sl C.K sE HE s H σ Γ) (h : HO' C.K C.Wd s H w) (e : a.evA Γ w = some res) (Q : VK)
    (q : Post C s H res (fun d s' H' => ∀ v, AvR C.K s' v d → Q v H')) : a.t σ H Q := by
  rcases bindR_cases e with ⟨r, w1, e1, e2⟩ | ⟨x, w1, e1, rfl⟩
  · obtain ⟨d, e3, rfl⟩ := evO_inv e2
    refine a.ok S h e1 Q fun s' H' l h' v hv => ?_
    cases r with
    | dat d' => cases e3; exact q s' H' l h' v hv
    | new ds =>
      cases e3
      obtain ⟨p, u, rfl, n, hp, n0, nw, r⟩ := hv
      exact q (s'.frz p u) H' (l.frz n n0) (h'.frz hp n0 nw) _ ((r.mono (Ex.new n0)).rp upd_same)
    | bor i ds => cases e3
    | hd n => cases e3; exact q s' H' l h' v hv
  · exact a.ok S h e1 Q q.ex
structure SA (C : Cf) where
  t : TA
  ev : Ev → C.T → Option (Rs C.T (List Av))
  ok : ∀ {sE : Sh} {HE : Hp} {s : Sh} {H : Hp} {σ : L2.St} {Γ : Ev} {w : C.T} {res : Rs C.T (List Av)}, Sl C.K sE HE s H σ Γ → HO' C.K C.Wd s H w → ev Γ w = some res →
    ∀ Q : List V → Hp → Prop, Post C s H res (fun as s' H' => ∀ vs, AvA C.K s' vs as → Q vs H') → t σ H Q
def CA {C : Cf} (X : Cx) (es : List Expr) (a : SA C) : Prop := PA X es a.t
def SA.nil {C : Cf} : SA C where
  t := tNil
  ev := fun _ w => some (.ok [] w)
  ok := by
    intro sE HE s H σ Γ w res S h e Q q
    cases e
    exact q s H (Le.refl _ _) h [] .nil
def SA.cons {C : Cf} (a : SE C) (b : SA C) : SA C where
  t := tCons a.t b.t
  ev := fun Γ w => bindR (a.evA Γ w) fun x w1 => bindR (b.ev Γ w1) fun xs w2 => some (.ok (x :: xs) w2)
  ok := by
    intro sE HE s H σ Γ w res S h e Q q
    rcases bindR_cases e with ⟨x, w1, e1, e2⟩ | ⟨x, w1, e1, rfl⟩
    · refine a.okA S h e1 _ fun s1 H1 l1 h1 v1 z1 => ?_
      rcases bindR_cases e2 with ⟨y, w2, e3, e4⟩ | ⟨y, w2, e3, rfl⟩
      · refine b.ok (S.le l1) h1 e3 _ fun s2 H2 l2 h2 v2 z2 => ?_
        cases e4
        exact q s2 H2 (l1.trans l2) h2 _ (.cons (z1.le l2) z2)
      · exact b.ok (S.le l1) h1 e3 _ (q.ex.le l1)
    · exact a.okA S h e1 _ q.ex
def datsOf : List Av → Option (List PyData)
  | [] => some []
  | .dat d :: r => (datsOf r).map (d :: ·)
  | .hd _ :: _ => none
theorem AvA.dats {K : PySem.W.Frag} {s : Sh} : ∀ {vs : List V} {as : List Av} {ds : List PyData}, AvA K s vs as → datsOf as = some ds → RpA K s.H0 vs ds
  | _, _, _, .nil, e => by cases e; exact .nil
  | _, _, _, .cons (a := .dat d) h r, e => by
    unfold datsOf at e
    cases e2 : datsOf _ with
    | none => rw [e2] at e; cases e
    | some ds => rw [e2] at e; cases e; exact .cons h (r.dats e2)
  | _, _, _, .cons (a := .hd n) h r, e => by cases e
def SE.tup {C : Cf} (a : SA C) : SE C where
  t := tTup a.t
  ev := fun Γ w => bindR (a.ev Γ w) fun as w1 => if as.length ≤ 100000 then (datsOf as).map fun ds => .ok (.dat (.tuple ds)) w1 else none
  ok := by
    intro sE HE s H σ Γ w res S h e Q q
    rcases bindR_cases e with ⟨as, w1, e1, e2⟩ | ⟨x, w1, e1, rfl⟩
    · refine a.ok S h e1 _ fun s1 H1 l1 h1 vs z1 => ?_
      split at e2
      · rename_i hl
        cases e3 : datsOf as with
        | none => rw [e3] at e2; cases e2
        | some ds =>
          rw [e3] at e2; cases e2
          refine ⟨by rw [z1.length]; exact Nat.le_trans hl (by decide), fun p hp => ?_⟩
          exact Opd.tup h1 (fun s3 H3 v l3 h3 r3 => q s3 H3 (l1.trans l3) h3 v (r3.start l1).rv) (z1.dats e3) hp
      · cases e2
    · exact a.ok S h e1 _ q.ex
def SE.lst {C : Cf} (a : SA C) : SE C where
  t := tLst a.t
  ev := fun Γ w => bindR (a.ev Γ w) fun as w1 => if as.length ≤ 100000 then (datsOf as).map fun ds => .ok (.new (.lst ds)) w1 else none
  ok := by
    intro sE HE s H σ Γ w res S h e Q q
    rcases bindR_cases e with ⟨as, w1, e1, e2⟩ | ⟨x, w1, e1, rfl⟩
    · refine a.ok S h e1 _ fun s1 H1 l1 h1 vs z1 => ?_
      split at e2
      · rename_i hl
        cases e3 : datsOf as with
        | none => rw [e3] at e2; cases e2
        | some ds =>
          rw [e3] at e2; cases e2
          refine ⟨by rw [z1.length]; exact Nat.le_trans hl (by decide), fun p hp => ?_⟩
          exact Opd.new h1 (fun s3 H3 v l3 h3 r3 => q s3 H3 (l1.trans l3) h3 v (r3.start l1).rv) (z1.dats e3) hp
      · cases e2
    · exact a.ok S h e1 _ q.ex

/-! ### calls of the text's own defs -/
abbrev PF (Wd : World) := List Av → Wd.T → Option (Rs Wd.T Rv)
def spF (K : PySem.W.Frag) (mg : Str → Option Value) (Wd : World) (n : Nat) (g : PF Wd) : Sp := fun vs H Q E => vs.length = n ∧ ∃ (s : Sh) (as : List Av) (w : Wd.T) (res : Rs Wd.T Rv),
  HO' K Wd s H w ∧ AvA K s vs as ∧ g as w = some res ∧ Post ⟨K, mg, Wd, E⟩ s H res (fun r s' H' => ∀ v, RvP K H s' H' v r → Q v H')
def SE.call {C : Cf} (n : Nat) (g : PF C.Wd) (a : SA C) : SE C where
  t := tCall (spF C.K C.mg C.Wd n g) [] C.E a.t
  ev := fun Γ w => bindR (a.ev Γ w) fun as w1 => if as.length = n then g as w1 else none
  ok := by
    intro sE HE s H σ Γ w res S h e Q q
    rcases bindR_cases e with ⟨as, w1, e1, e2⟩ | ⟨x, w1, e1, rfl⟩
    · refine a.ok S h e1 _ fun s1 H1 l1 h1 vs z1 => ?_
      split at e2
      · rename_i hn
        refine ⟨by rw [List.append_nil, z1.length]; exact hn, s1, as, w1, res, h1, by rw [List.append_nil]; exact z1, e2, ?_⟩
        cases res with
        | ok r w2 => exact fun s3 H3 l3 h3 v r3 => q s3 H3 (l1.trans l3) h3 v (r3.start l1).rv
        | ex x w2 => exact fun cls d s3 H3 l3 h3 r3 => q cls d s3 H3 (l1.trans l3) h3 r3
      · cases e2
    · exact a.ok S h e1 _ q.ex
end Cl

set_option Elab.async false
set_option linter.all false
set_option maxRecDepth 100000
set_option maxHeartbeats 4000000
namespace Cl
open PySem L2 PySem.Spec PyProof.Rows

/-! ### tests -/
structure ST (C : Cf) where
  t : TT
  ev : Ev → C.T → Option (Rs C.T Bool)
  ok : ∀ {sE : Sh} {HE : Hp} {s : Sh} {H : Hp} {σ : L2.St} {Γ : Ev} {w : C.T} {res : Rs C.T Bool}, Sl C.K sE HE s H σ Γ → HO' C.K C.Wd s H w → ev Γ w = some res →
    ∀ Q : Bool → Hp → Prop, Post C s H res (fun b s' H' => Q b H') → t σ H Q
def CT {C : Cf} (X : Cx) (e : Expr) (a : ST C) : Prop := PT X e a.t
def CW {C : Cf} (X : Cx) (e : Expr) (a : ST C) : Prop := PW X e a.t
def bool? : PyData → Option Bool
  | .bool b => some b
  | _ => none
def ST.of {C : Cf} (a : SE C) : ST C where
  t := tB a.t
  ev := fun Γ w => bindR (a.evV Γ w) (evO bool?)
  ok := by
    intro sE HE s H σ Γ w res S h e Q q
    rcases bindR_cases e with ⟨x, w1, e1, e2⟩ | ⟨x, w1, e1, rfl⟩
    · refine a.okV S h e1 _ fun s1 H1 l1 h1 v1 z1 => ?_
      obtain ⟨b, e3, rfl⟩ := evO_inv e2
      cases x with
      | bool b' =>
        cases e3
        have z := z1.now h1.ex
        cases z
        exact ⟨_, rfl, q s1 H1 l1 h1⟩
      | none => cases e3
      | int i => cases e3
      | str i => cases e3
      | list i => cases e3
      | tuple i => cases e3
      | dict i => cases e3
    · exact a.okV S h e1 _ q.ex
def ST.and {C : Cf} (a b : ST C) : ST C where
  t := tAnd a.t b.t
  ev := fun Γ w => bindR (a.ev Γ w) fun x w1 => if x = true then b.ev Γ w1 else some (.ok false w1)
  ok := by
    intro sE HE s H σ Γ w res S h e Q q
    rcases bindR_cases e with ⟨x, w1, e1, e2⟩ | ⟨x, w1, e1, rfl⟩
    · refine a.ok S h e1 _ fun s1 H1 l1 h1 => ?_
      cases x with
      | true => exact iteT (b.ok (S.le l1) h1 e2 _ (q.le l1))
      | false => cases e2; exact iteF (q s1 H1 l1 h1)
    · exact a.ok S h e1 _ q.ex
def ST.or {C : Cf} (a b : ST C) : ST C where
  t := tOr a.t b.t
  ev := fun Γ w => bindR (a.ev Γ w) fun x w1 => if x = true then some (.ok true w1) else b.ev Γ w1
  ok := by
    intro sE HE s H σ Γ w res S h e Q q
    rcases bindR_cases e with ⟨x, w1, e1, e2⟩ | ⟨x, w1, e1, rfl⟩
    · refine a.ok S h e1 _ fun s1 H1 l1 h1 => ?_
      cases x with
      | true => cases e2; exact iteT (q s1 H1 l1 h1)
      | false => exact iteF (b.ok (S.le l1) h1 e2 _ (q.le l1))
    · exact a.ok S h e1 _ q.ex
def ST.not {C : Cf} (a : ST C) : ST C where
  t := tNot a.t
  ev := fun Γ w => bindR (a.ev Γ w) fun x w1 => some (.ok (!x) w1)
  ok := by
    intro sE HE s H σ Γ w res S h e Q q
    rcases bindR_cases e with ⟨x, w1, e1, e2⟩ | ⟨x, w1, e1, rfl⟩
    · cases e2
      exact a.ok S h e1 _ fun s1 H1 l1 h1 => q s1 H1 l1 h1
    · exact a.ok S h e1 _ q.ex
/-- a if t else b -/
def SE.ite {C : Cf} (c : ST C) (a b : SE C) : SE C where
  t := tIf c.t a.t b.t
  ev := fun Γ w => bindR (c.ev Γ w) fun x w1 => if x = true then a.ev Γ w1 else b.ev Γ w1
  ok := by
    intro sE HE s H σ Γ w res S h e Q q
    have ren : ∀ {s1 H1}, Le s H s1 H1 → ∀ {res : Rs C.T Rv}, Post C s H res (fun r s' H' => ∀ v, RvR C.K H s' H' σ Γ v r → Q v H') → Post C s1 H1 res (fun r s' H' => ∀ v, RvR C.K H1 s' H' σ Γ v r → Q v H') := by
      intro s1 H1 l1 res q
      refine (q.le l1).imp fun r s' H' z v hv => z v ?_
      cases r with
      | dat d => exact hv
      | new ds =>
        obtain ⟨p, xs, e, n, r⟩ := hv
        exact ⟨p, xs, e, l1.none0 n, r⟩
      | bor i ds => exact hv
      | hd n => exact hv
    rcases bindR_cases e with ⟨x, w1, e1, e2⟩ | ⟨x, w1, e1, rfl⟩
    · refine c.ok S h e1 _ fun s1 H1 l1 h1 => ?_
      cases x with
      | true => exact iteT (a.ok (S.le l1) h1 e2 _ (ren l1 q))
      | false => exact iteF (b.ok (S.le l1) h1 e2 _ (ren l1 q))
    · exact c.ok S h e1 _ q.ex
/-- a and b, a or b, not a as values (truth values) -/
def SE.andV {C : Cf} (a b : SE C) : SE C where
  t := tAndV a.t b.t
  ev := fun Γ w => bindR ((ST.of a).ev Γ w) fun x w1 => if x = true then b.ev Γ w1 else some (.ok (.dat (.bool false)) w1)
  ok := by
    intro sE HE s H σ Γ w res S h e Q q
    refine (SE.ite (ST.of a) b (SE.bl false)).ok S h (res := res) ?_ Q q
    exact e
def SE.orV {C : Cf} (a b : SE C) : SE C where
  t := tOrV a.t b.t
  ev := fun Γ w => bindR ((ST.of a).ev Γ w) fun x w1 => if x = true then some (.ok (.dat (.bool true)) w1) else b.ev Γ w1
  ok := by
    intro sE HE s H σ Γ w res S h e Q q
    refine (SE.ite (ST.of a) (SE.bl true) b).ok S h (res := res) ?_ Q q
    exact e
def SE.notV {C : Cf} (a : SE C) : SE C where
  t := tNotV a.t
  ev := fun Γ w => bindR ((ST.of a).ev Γ w) fun x w1 => some (.ok (.dat (.bool (!x))) w1)
  ok := by
    intro sE HE s H σ Γ w res S h e Q q
    rcases bindR_cases e with ⟨x, w1, e1, e2⟩ | ⟨x, w1, e1, rfl⟩
    · cases e2
      refine (ST.of a).ok S h e1 (fun b H1 => Q (.bl (!b)) H1) fun s1 H1 l1 h1 => ?_
      exact q s1 H1 l1 h1 _ (.bl _)
    · exact (ST.of a).ok S h e1 (fun b H1 => Q (.bl (!b)) H1) q.ex

/-! ### statements -/
inductive Fl (T : Type) where
  | nx (Γ : Ev) (w : T)
  | rt (r : Rv) (w : T)
  | bk (Γ : Ev) (w : T)
  | ct (Γ : Ev) (w : T)
  | ex (x : Exn) (w : T)
def SPost (C : Cf) (sE : Sh) (HE : Hp) (s : Sh) (fl : Fl C.T) (D : Ends) : Prop :=
  match fl with
  | .nx Γ' w' => ∀ s' H' σ', Ex s.H0 s'.H0 → Sl C.K sE HE s' H' σ' Γ' → HO' C.K C.Wd s' H' w' → D.nx σ' H'
  | .bk Γ' w' => ∀ s' H' σ', Ex s.H0 s'.H0 → Sl C.K sE HE s' H' σ' Γ' → HO' C.K C.Wd s' H' w' → D.bk σ' H'
  | .ct Γ' w' => ∀ s' H' σ', Ex s.H0 s'.H0 → Sl C.K sE HE s' H' σ' Γ' → HO' C.K C.Wd s' H' w' → D.ct σ' H'
  | .rt r w' => ∀ v s' H', Le sE HE s' H' → HO' C.K C.Wd s' H' w' → RvP C.K HE s' H' v r → D.rt v H'
  | .ex x w' => ∀ cls d s' H', Le sE HE s' H' → HO' C.K C.Wd s' H' w' → XR C.K C.mg H' cls d x → C.E cls d H'
structure SS (C : Cf) where
  t : TS
  ev : Ev → C.T → Option (Fl C.T)
  ok : ∀ {sE : Sh} {HE : Hp} {s : Sh} {H : Hp} {σ : L2.St} {Γ : Ev} {w : C.T} {fl : Fl C.T}, Sl C.K sE HE s H σ Γ → HO' C.K C.Wd s H w → ev Γ w = some fl →
    ∀ D : Ends, SPost C sE HE s fl D → t D σ H
def CS {C : Cf} (X : Cx) (st : Stmt) (a : SS C) : Prop := PS X st a.t
def CSs {C : Cf} (X : Cx) (st : List Stmt) (a : SS C) : Prop := PSs X st a.t
def bindF {T α : Type} : Option (Rs T α) → (α → T → Option (Fl T)) → Option (Fl T)
  | some (.ok a w), f => f a w
  | some (.ex x w), _ => some (.ex x w)
  | none, _ => none
@[simp] theorem bindF_ok {T α : Type} {a : α} {w : T} {f : α → T → Option (Fl T)} : bindF (some (.ok a w)) f = f a w := rfl
@[simp] theorem bindF_ex {T α : Type} {x : Exn} {w : T} {f : α → T → Option (Fl T)} : bindF (some (.ex x w)) f = some (.ex x w) := rfl
@[simp] theorem bindF_none {T α : Type} {f : α → T → Option (Fl T)} : bindF (none : Option (Rs T α)) f = none := rfl
theorem bindF_cases {T α : Type} {o : Option (Rs T α)} {f : α → T → Option (Fl T)} {res : Fl T} (h : bindF o f = some res) :
    (∃ a w, o = some (.ok a w) ∧ f a w = some res) ∨ (∃ x w, o = some (.ex x w) ∧ res = .ex x w) := by
  cases o with
  | none => cases h
  | some r =>
    cases r with
    | ok a w => exact .inl ⟨a, w, rfl, h⟩
    | ex x w => cases h; exact .inr ⟨x, w, rfl, rfl⟩
def bindS {T : Type} : Option (Fl T) → (Ev → T → Option (Fl T)) → Option (Fl T)
  | some (.nx Γ w), f => f Γ w
  | o, _ => o
@[simp] theorem bindS_nx {T : Type} {Γ : Ev} {w : T} {f : Ev → T → Option (Fl T)} : bindS (some (.nx Γ w)) f = f Γ w := rfl
@[simp] theorem bindS_rt {T : Type} {r : Rv} {w : T} {f : Ev → T → Option (Fl T)} : bindS (some (.rt r w)) f = some (.rt r w) := rfl
@[simp] theorem bindS_bk {T : Type} {Γ : Ev} {w : T} {f : Ev → T → Option (Fl T)} : bindS (some (.bk Γ w)) f = some (.bk Γ w) := rfl
@[simp] theorem bindS_ct {T : Type} {Γ : Ev} {w : T} {f : Ev → T → Option (Fl T)} : bindS (some (.ct Γ w)) f = some (.ct Γ w) := rfl
@[simp] theorem bindS_ex {T : Type} {x : Exn} {w : T} {f : Ev → T → Option (Fl T)} : bindS (some (.ex x w)) f = some (.ex x w) := rfl
@[simp] theorem bindS_none {T : Type} {f : Ev → T → Option (Fl T)} : bindS (none : Option (Fl T)) f = none := rfl
section
variable {C : Cf} {sE s : Sh} {HE H : Hp} {σ : L2.St} {Γ : Ev} {w : C.T}
theorem exS {α : Type} {x : Exn} {w' : C.T} {D : Ends} {Q : α → Sh → Hp → Prop} (S : Sl C.K sE HE s H σ Γ) (q : SPost C sE HE s (.ex x w') D) : Post C s H (.ex x w' : Rs C.T α) Q :=
  fun cls d s' H' l h' r => q cls d s' H' (S.en.trans l) h' r
theorem SPost.le {s1 : Sh} {fl : Fl C.T} {D : Ends} (l : Ex s.H0 s1.H0) (q : SPost C sE HE s fl D) : SPost C sE HE s1 fl D := by
  cases fl with
  | nx Γ' w' => exact fun s' H' σ' e => q s' H' σ' (l.trans e)
  | bk Γ' w' => exact fun s' H' σ' e => q s' H' σ' (l.trans e)
  | ct Γ' w' => exact fun s' H' σ' e => q s' H' σ' (l.trans e)
  | rt r w' => exact q
  | ex x w' => exact q
end
def SS.seq {C : Cf} (a b : SS C) : SS C where
  t := tSeq a.t b.t
  ev := fun Γ w => bindS (a.ev Γ w) b.ev
  ok := by
    intro sE HE s H σ Γ w fl S h e D q
    cases e1 : a.ev Γ w with
    | none => rw [e1] at e; cases e
    | some f1 =>
      rw [e1] at e
      refine a.ok S h e1 { D with nx := b.t D } ?_
      cases f1 with
      | nx Γ1 w1 => exact fun s1 H1 σ1 x1 S1 h1 => b.ok S1 h1 e D (q.le x1)
      | bk Γ1 w1 => cases e; exact q
      | ct Γ1 w1 => cases e; exact q
      | rt r w1 => cases e; exact q
      | ex r w1 => cases e; exact q
def SS.nop {C : Cf} : SS C where
  t := tNext
  ev := fun Γ w => some (.nx Γ w)
  ok := by
    intro sE HE s H σ Γ w fl S h e D q
    cases e
    exact q s H σ (Ex.refl _) S h
def SS.brk {C : Cf} : SS C where
  t := tBreak
  ev := fun Γ w => some (.bk Γ w)
  ok := by
    intro sE HE s H σ Γ w fl S h e D q
    cases e
    exact q s H σ (Ex.refl _) S h
def SS.cnt {C : Cf} : SS C where
  t := tCont
  ev := fun Γ w => some (.ct Γ w)
  ok := by
    intro sE HE s H σ Γ w fl S h e D q
    cases e
    exact q s H σ (Ex.refl _) S h
def SS.never {C : Cf} : SS C where
  t := tNever
  ev := fun _ _ => none
  ok := by
    intro sE HE s H σ Γ w fl S h e D q
    cases e
def SS.ite {C : Cf} (c : ST C) (a b : SS C) : SS C where
  t := tIfS c.t a.t b.t
  ev := fun Γ w => bindF (c.ev Γ w) fun x w1 => if x = true then a.ev Γ w1 else b.ev Γ w1
  ok := by
    intro sE HE s H σ Γ w fl S h e D q
    rcases bindF_cases e with ⟨x, w1, e1, e2⟩ | ⟨x, w1, e1, rfl⟩
    · refine c.ok S h e1 _ fun s1 H1 l1 h1 => ?_
      cases x with
      | true => exact iteT (a.ok (S.le l1) h1 e2 D (q.le l1.h0))
      | false => exact iteF (b.ok (S.le l1) h1 e2 D (q.le l1.h0))
    · exact c.ok S h e1 _ (exS S q)
def SS.drop {C : Cf} (a : SE C) : SS C where
  t := tDrop a.t
  ev := fun Γ w => bindF (a.ev Γ w) fun _ w1 => some (.nx Γ w1)
  ok := by
    intro sE HE s H σ Γ w fl S h e D q
    rcases bindF_cases e with ⟨x, w1, e1, e2⟩ | ⟨x, w1, e1, rfl⟩
    · cases e2
      exact a.ok S h e1 _ fun s1 H1 l1 h1 v _ => q s1 H1 σ l1.h0 (S.le l1) h1
    · exact a.ok S h e1 _ (exS S q)
def Rv.out : Rv → Rv
  | .bor _ ds => .new ds
  | r => r
def SS.ret {C : Cf} (a : SE C) : SS C where
  t := tRet a.t
  ev := fun Γ w => bindF (a.ev Γ w) fun r w1 => some (.rt r.out w1)
  ok := by
    intro sE HE s H σ Γ w fl S h e D q
    rcases bindF_cases e with ⟨x, w1, e1, e2⟩ | ⟨x, w1, e1, rfl⟩
    · cases e2
      refine a.ok S h e1 _ fun s1 H1 l1 h1 v hv => q v s1 H1 (S.en.trans l1) h1 ?_
      cases x with
      | dat d => exact hv
      | hd n => exact hv
      | new ds =>
        obtain ⟨p, xs, e, n, r⟩ := hv
        exact ⟨p, xs, e, S.en.none0 n, r⟩
      | bor i ds =>
        obtain ⟨g, gv⟩ := hv
        obtain ⟨v', hv', p, xs, rfl, a1, a2, a3, a4, r⟩ := (S.le l1).sl _ _ g
        rw [gv] at hv'; cases hv'
        exact ⟨p, xs, rfl, a4, a1, a2, a3, r⟩
    · exact a.ok S h e1 _ (exS S q)
def SS.retN {C : Cf} : SS C where
  t := tRetN
  ev := fun Γ w => some (.rt (.dat .none) w)
  ok := by
    intro sE HE s H σ Γ w fl S h e D q
    cases e
    exact q .non s H S.en h .non

/-! ### the places change -/
section
variable {K : PySem.W.Frag} {sE s : Sh} {HE H : Hp} {σ : L2.St} {Γ : Ev}
theorem Sl.put {i : Nat} {v : V} {x : Sv} (S : Sl K sE HE s H σ Γ) (hi : i < Γ.length) (r : SvR K HE s H v x)
    (ap : ∀ es p, x = .own es → v = .ref p → ∀ (j : Nat) (ds : Ob), j ≠ i → Γ[j]? = some (some (.own ds)) → σ[j]? ≠ some (some (.ref p))) : Sl K sE HE s H (σ.set i (some v)) (Γ.set i (some x)) := by
  have hi' : i < σ.length := by rw [← S.len]; exact hi
  refine ⟨S.en, by rw [List.length_set, List.length_set]; exact S.len, fun j y g => ?_, fun j k p ds es hjk g1 g2 a => ?_⟩
  · by_cases hj : i = j
    · subst hj
      rw [List.getElem?_set_self hi] at g
      cases g
      exact ⟨v, List.getElem?_set_self hi', r⟩
    · rw [List.getElem?_set_ne hj] at g
      rw [List.getElem?_set_ne hj]
      exact S.sl j y g
  · by_cases h1 : i = j
    · subst h1
      rw [List.getElem?_set_self hi] at g1
      rw [List.getElem?_set_ne hjk] at g2 ⊢
      rw [List.getElem?_set_self hi'] at a
      injection g1 with g1
      injection g1 with g1
      injection a with a
      injection a with a
      exact ap _ p g1 a k es (Ne.symm hjk) g2
    · rw [List.getElem?_set_ne h1] at g1 a
      by_cases h2 : i = k
      · subst h2
        rw [List.getElem?_set_self hi] at g2
        rw [List.getElem?_set_self hi']
        intro b
        injection g2 with g2
        injection g2 with g2
        injection b with b
        injection b with b
        exact ap _ p g2 b j ds hjk g1 a
      · rw [List.getElem?_set_ne h2] at g2 ⊢
        exact S.dj j k p ds es hjk g1 g2 a
/-- the list of a place is changed -/
theorem Sl.mut {i : Nat} {p : Addr} {ds es : Ob} {ys : HO} (S : Sl K sE HE s H σ Γ) (g : Γ[i]? = some (some (.own ds))) (gv : σ[i]? = some (some (.ref p))) (n0 : s.H0 p = none) (nw : s.HW p = none) (nE : HE p = none) (r : ObR K s.H0 ys es) :
    Sl K sE HE s (upd H p ys) σ (Γ.set i (some (.own es))) := by
  have hi : i < Γ.length := (List.getElem?_eq_some_iff.mp g).1
  have ne : ∀ (j : Nat) (ds' : Ob), j ≠ i → Γ[j]? = some (some (.own ds')) → σ[j]? ≠ some (some (.ref p)) := fun j ds' hj g' => S.dj i j p ds ds' (Ne.symm hj) g g' gv
  refine ⟨S.en.mut nE, by rw [List.length_set]; exact S.len, fun j y g' => ?_, fun j k q ds' es' hjk g1 g2 a => ?_⟩
  · by_cases hj : i = j
    · subst hj
      rw [List.getElem?_set_self hi] at g'
      cases g'
      exact ⟨_, gv, p, ys, rfl, upd_same, n0, nw, nE, r⟩
    · rw [List.getElem?_set_ne hj] at g'
      obtain ⟨v, h1, h2⟩ := S.sl j y g'
      refine ⟨v, h1, ?_⟩
      cases y with
      | dat d => exact h2
      | hd n => exact h2
      | pt => exact h2
      | own ds' =>
        obtain ⟨q, xs, rfl, a1, a2, a3, a4, r'⟩ := h2
        have nq : q ≠ p := fun z => ne j ds' (Ne.symm hj) g' (by rw [h1, z])
        exact ⟨q, xs, rfl, by rw [upd_ne nq]; exact a1, a2, a3, a4, r'⟩
  · have e1 : ∃ d1, Γ[j]? = some (some (.own d1)) := by
      by_cases h1 : i = j
      · subst h1; exact ⟨_, g⟩
      · rw [List.getElem?_set_ne h1] at g1; exact ⟨_, g1⟩
    have e2 : ∃ d1, Γ[k]? = some (some (.own d1)) := by
      by_cases h1 : i = k
      · subst h1; exact ⟨_, g⟩
      · rw [List.getElem?_set_ne h1] at g2; exact ⟨_, g2⟩
    obtain ⟨d1, e1⟩ := e1
    obtain ⟨d2, e2⟩ := e2
    exact S.dj j k q d1 d2 hjk e1 e2 a
/-- a place's list is frozen -/
theorem Sl.frz {Wd : World} {w : Wd.T} {i : Nat} {ds : Ob} (S : Sl K sE HE s H σ Γ) (h : HO' K Wd s H w) (g : Γ[i]? = some (some (.own ds))) :
    ∃ s', Ex s.H0 s'.H0 ∧ HO' K Wd s' H w ∧ Sl K sE HE s' H σ (Γ.set i (some (.dat ds.dat))) := by
  have hi : i < Γ.length := (List.getElem?_eq_some_iff.mp g).1
  obtain ⟨v, gv, p, xs, rfl, a1, a2, a3, a4, r⟩ := S.sl i _ g
  refine ⟨s.frz p xs, Ex.new a2, h.frz a1 a2 a3, S.en.frz a4 a2, by rw [List.length_set]; exact S.len, fun j y g' => ?_, fun j k q ds' es' hjk g1 g2 a => ?_⟩
  · by_cases hj : i = j
    · subst hj
      rw [List.getElem?_set_self hi] at g'
      cases g'
      exact ⟨_, gv, (r.mono (Ex.new a2)).rp upd_same⟩
    · rw [List.getElem?_set_ne hj] at g'
      obtain ⟨v, h1, h2⟩ := S.sl j y g'
      refine ⟨v, h1, ?_⟩
      cases y with
      | dat d => exact Rp.mono (Ex.new a2) h2
      | hd n => exact h2
      | pt => exact h2
      | own ds' =>
        obtain ⟨q, xs', rfl, b1, b2, b3, b4, r'⟩ := h2
        have nq : q ≠ p := fun z => S.dj i j p ds ds' hj g g' gv (by rw [h1, z])
        exact ⟨q, xs', rfl, b1, by show upd s.H0 p xs q = none; rw [upd_ne nq]; exact b2, b3, b4, r'.mono (Ex.new a2)⟩
  · have n1 : i ≠ j := fun z => by subst z; rw [List.getElem?_set_self hi] at g1; cases g1
    have n2 : i ≠ k := fun z => by subst z; rw [List.getElem?_set_self hi] at g2; cases g2
    rw [List.getElem?_set_ne n1] at g1
    rw [List.getElem?_set_ne n2] at g2
    exact S.dj j k q ds' es' hjk g1 g2 a
end
def Rv.sv : Rv → Option Sv
  | .dat d => some (.dat d)
  | .new ds => some (.own ds)
  | .hd n => some (.hd n)
  | .bor _ _ => none
/-- x = e; a new list is one's own -/
def SS.asg {C : Cf} (i : Nat) (a : SE C) : SS C where
  t := tAsg a.t (gName i)
  ev := fun Γ w => bindF (a.ev Γ w) fun r w1 => if i < Γ.length then r.sv.map fun x => .nx (Γ.set i (some x)) w1 else none
  ok := by
    intro sE HE s H σ Γ w fl S h e D q
    rcases bindF_cases e with ⟨r, w1, e1, e2⟩ | ⟨x, w1, e1, rfl⟩
    · refine a.ok S h e1 _ fun s1 H1 l1 h1 v hv => ?_
      split at e2
      · rename_i hi
        have S1 := S.le l1
        cases r with
        | dat d => cases e2; exact q s1 H1 _ l1.h0 (S1.put hi (x := .dat d) hv (fun es p z => by cases z)) h1
        | hd n => cases e2; exact q s1 H1 _ l1.h0 (S1.put hi (x := .hd n) hv (fun es p z => by cases z)) h1
        | bor j ds => cases e2
        | new ds =>
          cases e2
          obtain ⟨p, xs, rfl, n, hp, n0, nw, r⟩ := hv
          refine q s1 H1 _ l1.h0 (S1.put hi (x := .own ds) ⟨p, xs, rfl, hp, n0, nw, S.en.none0 n, r⟩ fun es p' _ z j ds' _ g' b => ?_) h1
          cases z
          obtain ⟨v', hv', p2, xs2, rfl, b1, _⟩ := S.sl j _ g'
          rw [b] at hv'; cases hv'
          rw [n] at b1; cases b1
      · cases e2
    · exact a.ok S h e1 _ (exS S q)
/-- x = e; a new list is frozen -/
def SS.asgD {C : Cf} (i : Nat) (a : SE C) : SS C where
  t := tAsg a.t (gName i)
  ev := fun Γ w => bindF (a.evD Γ w) fun d w1 => if i < Γ.length then some (.nx (Γ.set i (some (.dat d))) w1) else none
  ok := by
    intro sE HE s H σ Γ w fl S h e D q
    rcases bindF_cases e with ⟨d, w1, e1, e2⟩ | ⟨x, w1, e1, rfl⟩
    · refine a.okD S h e1 _ fun s1 H1 l1 h1 v hv => ?_
      split at e2
      · rename_i hi
        cases e2
        exact q s1 H1 _ l1.h0 ((S.le l1).put hi (x := .dat d) hv (fun es p z => by cases z)) h1
      · cases e2
    · exact a.okD S h e1 _ (exS S q)
/-- nothing: the list at place i is one's own no more -/
def SS.frz {C : Cf} (i : Nat) : SS C where
  t := tNext
  ev := fun Γ w => match Γ[i]? with
    | some (some (.own ds)) => some (.nx (Γ.set i (some (.dat ds.dat))) w)
    | _ => none
  ok := by
    intro sE HE s H σ Γ w fl S h e D q
    split at e
    · rename_i ds g
      cases e
      obtain ⟨s', x', h', S'⟩ := S.frz h g
      exact q s' H σ x' S' h'
    · cases e
theorem css_frz {C : Cf} {X : Cx} {sts : List Stmt} {a : SS C} (i : Nat) (h : CSs X sts a) : CSs X sts (.seq (.frz i) a) := h
/-- xs.append(e) -/
def SS.app {C : Cf} (i : Nat) (a : SE C) : SS C where
  t := tDrop (tBM C.K "list" rAppend (tVar i) (tCons a.t tNil))
  ev := fun Γ w => match Γ[i]? with
    | some (some (.own (.lst ds))) => bindF (a.evD Γ w) fun d w1 => if ds.length < 100000 then some (.nx (Γ.set i (some (.own (.lst (ds ++ [d]))))) w1) else none
    | _ => none
  ok := by
    intro sE HE s H σ Γ w fl S h e D q
    split at e
    · rename_i ds g
      obtain ⟨v, gv, p, u, rfl, a1, a2, a3, a4, r0⟩ := S.sl i _ g
      obtain ⟨xs, rfl, r⟩ := r0.lst
      refine ⟨_, gv, .inl ⟨rfl, xs, .inl (.inl a1)⟩, ?_⟩
      rcases bindF_cases e with ⟨d, w1, e1, e2⟩ | ⟨x, w1, e1, rfl⟩
      · refine a.okD S h e1 _ fun s1 H1 l1 h1 v hv => ?_
        split at e2
        · rename_i hl
          cases e2
          have S1 := S.le l1
          refine ⟨p, xs, v, rfl, rfl, l1.fr p _ a1 a3, by rw [r.length]; exact Nat.lt_of_lt_of_le hl (by decide), ?_⟩
          refine q s1 _ σ l1.h0 (S1.mut g gv (l1.nf p _ a1 (NT.lst _) a2) (l1.nw p _ a1 a3) a4 ⟨_, rfl, (r.mono l1.h0).snoc hv⟩) (h1.mut (l1.nf p _ a1 (NT.lst _) a2) (l1.nw p _ a1 a3))
        · cases e2
      · exact a.okD S h e1 _ (exS S q)
    · cases e
/-- xs[e] = f -/
def SS.setIx {C : Cf} (i : Nat) (b : SE C) (a : SE C) : SS C where
  t := tAsg a.t (gSub (tVar i) b.t rSetL)
  ev := fun Γ w => match Γ[i]? with
    | some (some (.own (.lst ds))) => bindF (a.evD Γ w) fun d w1 => bindF (b.evV Γ w1) fun k w2 => match k with
      | .int k => match ixN ds.length k with
        | some j => some (.nx (Γ.set i (some (.own (.lst (ds.set j d))))) w2)
        | none => none
      | _ => none
    | _ => none
  ok := by
    intro sE HE s H σ Γ w fl S h e D q
    split at e
    · rename_i ds g
      rcases bindF_cases e with ⟨d, w1, e1, e2⟩ | ⟨x, w1, e1, rfl⟩
      · refine a.okD S h e1 _ fun s1 H1 l1 h1 v hv => ?_
        have S1 := S.le l1
        obtain ⟨v', gv, p, u, rfl, a1, a2, a3, a4, r0⟩ := S1.sl i _ g
        obtain ⟨xs, rfl, r⟩ := r0.lst
        refine ⟨_, gv, ?_⟩
        rcases bindF_cases e2 with ⟨k, w2, e3, e4⟩ | ⟨x, w2, e3, rfl⟩
        · refine b.okV S1 h1 e3 _ fun s2 H2 l2 h2 v2 z2 => ?_
          split at e4
          · rename_i k
            split at e4
            · rename_i j hj
              cases e4
              have z := z2.now h2.ex
              cases z
              have S2 := S1.le l2
              refine ⟨p, xs, k, j, rfl, rfl, l2.fr p _ a1 a3, by rw [r.length]; exact hj, ?_⟩
              exact q s2 _ σ (l1.h0.trans l2.h0) (S2.mut g gv (l2.nf p _ a1 (NT.lst _) a2) (l2.nw p _ a1 a3) a4 ⟨_, rfl, (r.mono l2.h0).set j (Rp.mono l2.h0 hv)⟩) (h2.mut (l2.nf p _ a1 (NT.lst _) a2) (l2.nw p _ a1 a3))
            · cases e4
          · cases e4
        · exact b.okV S1 h1 e3 _ (exS S1 (SPost.le l1.h0 q))
      · exact a.okD S h e1 _ (exS S q)
    · cases e
/-- x op= e of ints -/
def SS.aug {C : Cf} (i : Nat) (f : Int → Int → Int) (a : SE C) : SS C where
  t := tAug i a.t (ipI f)
  ev := fun Γ w => match Γ[i]? with
    | some (some (.dat (.int x))) => bindF (a.evV Γ w) fun y w1 => match y with
      | .int y => some (.nx (Γ.set i (some (.dat (.int (f x y))))) w1)
      | _ => none
    | _ => none
  ok := by
    intro sE HE s H σ Γ w fl S h e D q
    split at e
    · rename_i x g
      have hi : i < Γ.length := (List.getElem?_eq_some_iff.mp g).1
      obtain ⟨v, gv, r⟩ := S.sl i _ g
      cases r
      refine ⟨_, gv, ?_⟩
      rcases bindF_cases e with ⟨y, w1, e1, e2⟩ | ⟨x, w1, e1, rfl⟩
      · refine a.okV S h e1 _ fun s1 H1 l1 h1 v hv => ?_
        split at e2
        · rename_i y
          cases e2
          have z := hv.now h1.ex
          cases z
          exact ⟨x, y, rfl, rfl, q s1 H1 _ l1.h0 ((S.le l1).put hi (x := .dat (.int (f x y))) (.int _) (fun es p z => by cases z)) h1⟩
        · cases e2
      · exact a.okV S h e1 _ (exS S q)
    · cases e
end Cl

set_option Elab.async false
set_option linter.all false
set_option maxRecDepth 100000
set_option maxHeartbeats 4000000
namespace Cl
open PySem L2 PySem.Spec PyProof.Rows

/-! ### targets -/
theorem wipe_set {σ : L2.St} {i : Nat} {x : Option V} : ∀ {vs : List Nat}, i ∈ vs → wipe (σ.set i x) vs = wipe σ vs
  | [], h => by cases h
  | v :: vs, h => by
    unfold wipe
    by_cases hi : i ∈ vs
    · rw [wipe_set hi]
    · have e : i = v := by
        rcases List.mem_cons.mp h with h | h
        · exact h
        · exact absurd h hi
      subst e
      have : ∀ {vs : List Nat} {τ : L2.St}, (wipe (τ.set i x) vs).set i none = (wipe τ vs).set i none := by
        intro vs
        induction vs with
        | nil => intro τ; show (τ.set i x).set i none = τ.set i none; rw [List.set_set]
        | cons v vs ih =>
          intro τ
          unfold wipe
          by_cases e : v = i
          · subst e
            rw [List.set_set, List.set_set]
            exact ih
          · rw [List.set_comm _ _ e, ih, List.set_comm _ _ (Ne.symm e)]
      exact this
structure SG (C : Cf) where
  t : TG
  sl : List Nat
  asg : PyData → Ev → Option Ev
  okT : ∀ {sE : Sh} {HE : Hp} {s : Sh} {H : Hp} {σ : L2.St} {Γ Γ' : Ev} {v : V} {d : PyData}, Sl C.K sE HE s H σ Γ → Ex s.H0 H → Rp C.K s.H0 v d → asg d Γ = some Γ' →
    ∀ Q : L2.St → Hp → Prop, (∀ σ', (∀ s2 H2, Ex s.H0 s2.H0 → Sl C.K sE HE s2 H2 σ Γ → Sl C.K sE HE s2 H2 σ' Γ') → (∀ vs : List Nat, (∀ i ∈ sl, i ∈ vs) → wipe σ' vs = wipe σ vs) → Q σ' H) → t v σ H Q
structure SGs (C : Cf) where
  t : TGs
  sl : List Nat
  asg : List PyData → Ev → Option Ev
  okT : ∀ {sE : Sh} {HE : Hp} {s : Sh} {H : Hp} {σ : L2.St} {Γ Γ' : Ev} {v : List V} {d : List PyData}, Sl C.K sE HE s H σ Γ → Ex s.H0 H → RpA C.K s.H0 v d → asg d Γ = some Γ' →
    ∀ Q : L2.St → Hp → Prop, (∀ σ', (∀ s2 H2, Ex s.H0 s2.H0 → Sl C.K sE HE s2 H2 σ Γ → Sl C.K sE HE s2 H2 σ' Γ') → (∀ vs : List Nat, (∀ i ∈ sl, i ∈ vs) → wipe σ' vs = wipe σ vs) → Q σ' H) → t v σ H Q
theorem SG.ok {C : Cf} (a : SG C) {sE : Sh} {HE : Hp} {s : Sh} {H : Hp} {σ : L2.St} {Γ Γ' : Ev} {v : V} {d : PyData} (S : Sl C.K sE HE s H σ Γ) (h : Ex s.H0 H) (r : Rp C.K s.H0 v d) (e : a.asg d Γ = some Γ')
    (Q : L2.St → Hp → Prop) (q : ∀ σ', Sl C.K sE HE s H σ' Γ' → (∀ vs : List Nat, (∀ i ∈ a.sl, i ∈ vs) → wipe σ' vs = wipe σ vs) → Q σ' H) : a.t v σ H Q := a.okT S h r e Q fun σ' T w => q σ' (T s H (Ex.refl _) S) w
theorem SGs.ok {C : Cf} (a : SGs C) {sE : Sh} {HE : Hp} {s : Sh} {H : Hp} {σ : L2.St} {Γ Γ' : Ev} {v : List V} {d : List PyData} (S : Sl C.K sE HE s H σ Γ) (h : Ex s.H0 H) (r : RpA C.K s.H0 v d) (e : a.asg d Γ = some Γ')
    (Q : L2.St → Hp → Prop) (q : ∀ σ', Sl C.K sE HE s H σ' Γ' → (∀ vs : List Nat, (∀ i ∈ a.sl, i ∈ vs) → wipe σ' vs = wipe σ vs) → Q σ' H) : a.t v σ H Q := a.okT S h r e Q fun σ' T w => q σ' (T s H (Ex.refl _) S) w
def CG {C : Cf} (X : Cx) (e : Expr) (a : SG C) : Prop := PG X e a.t
def CGs {C : Cf} (X : Cx) (e : List Expr) (a : SGs C) : Prop := PGs X e a.t
def SG.name {C : Cf} (i : Nat) : SG C where
  t := gName i
  sl := [i]
  asg := fun d Γ => if i < Γ.length then some (Γ.set i (some (.dat d))) else none
  okT := by
    intro sE HE s H σ Γ Γ' v d S h r e Q q
    split at e
    · rename_i hi
      cases e
      exact q _ (fun s2 H2 x S2 => S2.put hi (x := .dat d) (Rp.mono x r) (fun es p z => by cases z)) fun vs hv => wipe_set (hv i (by simp))
    · cases e
def SGs.nil {C : Cf} : SGs C where
  t := gNil
  sl := []
  asg := fun d Γ => match d with
    | [] => some Γ
    | _ => none
  okT := by
    intro sE HE s H σ Γ Γ' v d S h r e Q q
    cases r with
    | nil => cases e; exact ⟨rfl, q _ (fun _ _ _ S2 => S2) fun _ _ => rfl⟩
    | cons a r => cases e
def SGs.cons {C : Cf} (a : SG C) (b : SGs C) : SGs C where
  t := gCons a.t b.t
  sl := a.sl ++ b.sl
  asg := fun d Γ => match d with
    | x :: r => (a.asg x Γ).bind fun Γ1 => b.asg r Γ1
    | _ => none
  okT := by
    intro sE HE s H σ Γ Γ' v d S h r e Q q
    cases r with
    | nil => cases e
    | cons x r =>
      have e : ((a.asg _ Γ).bind fun Γ1 => b.asg _ Γ1) = some Γ' := e
      cases e1 : a.asg _ Γ with
      | none => rw [e1] at e; cases e
      | some Γ1 =>
        rw [e1] at e
        refine ⟨_, _, rfl, a.okT S h x e1 _ fun σ1 T1 w1 => b.okT (T1 s H (Ex.refl _) S) h r e Q fun σ2 T2 w2 => q σ2 (fun s2 H2 x2 S2 => T2 s2 H2 x2 (T1 s2 H2 x2 S2)) fun vs hv => ?_⟩
        rw [w2 vs fun i hi => hv i (List.mem_append_right _ hi), w1 vs fun i hi => hv i (List.mem_append_left _ hi)]
def SG.tup {C : Cf} (n : Nat) (a : SGs C) : SG C where
  t := gTup C.K n a.t
  sl := a.sl
  asg := fun d Γ => match d with
    | .tuple ds => if ds.length = n then a.asg ds Γ else none
    | _ => none
  okT := by
    intro sE HE s H σ Γ Γ' v d S h r e Q q
    split at e
    · rename_i ds
      split at e
      · rename_i hn
        cases r with
        | tup hT r => exact ⟨_, _, rfl, h.t hT, by rw [r.length]; exact hn, a.okT S h r e Q q⟩
      · cases e
    · cases e

/-! ### what a loop walks -/
structure Wk (C : Cf) (J : It) (H0 : Hp) (items : List PyData) : Prop where
  go : ∀ {s : Sh} {H : Hp} {w : C.T} {i : Nat}, HO' C.K C.Wd s H w → Ex H0 s.H0 → i < items.length → J.go i H
  stop : ∀ {s : Sh} {H : Hp} {w : C.T}, HO' C.K C.Wd s H w → Ex H0 s.H0 → J.stop items.length H
  yld : ∀ {s : Sh} {H : Hp} {w : C.T} {i : Nat} {x : V} {H' : Hp}, HO' C.K C.Wd s H w → Ex H0 s.H0 → i < items.length → J.yld i H x H' → ∃ s' d, items[i]? = some d ∧ Le s H s' H' ∧ HO' C.K C.Wd s' H' w ∧ Rp C.K s'.H0 x d
structure SI (C : Cf) where
  t : TI
  ev : Ev → C.T → Option (Rs C.T (List PyData))
  ok : ∀ {sE : Sh} {HE : Hp} {s : Sh} {H : Hp} {σ : L2.St} {Γ : Ev} {w : C.T} {res : Rs C.T (List PyData)}, Sl C.K sE HE s H σ Γ → HO' C.K C.Wd s H w → ev Γ w = some res →
    ∀ R : It → Hp → Prop, Post C s H res (fun items s' H' => ∀ J, Wk C J s'.H0 items → R J H') → t σ H R
def CI {C : Cf} (X : Cx) (tg e : Expr) (a : SI C) : Prop := PI X tg e a.t
def loopF {T : Type} : Option (Fl T) → (Ev → T → Option (Fl T)) → Option (Fl T)
  | some (.nx Γ w), k => k Γ w
  | some (.ct Γ w), k => k Γ w
  | some (.bk Γ w), _ => some (.nx Γ w)
  | o, _ => o
@[simp] theorem loopF_nx {T : Type} {Γ : Ev} {w : T} {f : Ev → T → Option (Fl T)} : loopF (some (.nx Γ w)) f = f Γ w := rfl
@[simp] theorem loopF_ct {T : Type} {Γ : Ev} {w : T} {f : Ev → T → Option (Fl T)} : loopF (some (.ct Γ w)) f = f Γ w := rfl
@[simp] theorem loopF_bk {T : Type} {Γ : Ev} {w : T} {f : Ev → T → Option (Fl T)} : loopF (some (.bk Γ w)) f = some (.nx Γ w) := rfl
@[simp] theorem loopF_rt {T : Type} {r : Rv} {w : T} {f : Ev → T → Option (Fl T)} : loopF (some (.rt r w)) f = some (.rt r w) := rfl
@[simp] theorem loopF_ex {T : Type} {x : Exn} {w : T} {f : Ev → T → Option (Fl T)} : loopF (some (.ex x w)) f = some (.ex x w) := rfl
@[simp] theorem loopF_none {T : Type} {f : Ev → T → Option (Fl T)} : loopF (none : Option (Fl T)) f = none := rfl
def forEv {T : Type} (g : PyData → Ev → Option Ev) (b : Ev → T → Option (Fl T)) : List PyData → Ev → T → Option (Fl T)
  | [], Γ, w => some (.nx Γ w)
  | d :: r, Γ, w => (g d Γ).bind fun Γ1 => loopF (b Γ1 w) (forEv g b r)
def SS.for {C : Cf} (it : SI C) (g : SG C) (b : SS C) : SS C where
  t := tFor it.t g.t b.t
  ev := fun Γ w => bindF (it.ev Γ w) fun items w1 => forEv g.asg b.ev items Γ w1
  ok := by
    intro sE HE s H σ Γ w fl S h e D q
    rcases bindF_cases e with ⟨items, w1, e1, e2⟩ | ⟨x, w1, e1, rfl⟩
    · refine it.ok S h e1 _ fun s1 H1 l1 h1 J wk => ?_
      refine ⟨fun i m σ H => m = items.length - i ∧ i ≤ items.length ∧ ∃ s2 Γ2 w2, Ex s1.H0 s2.H0 ∧ Sl C.K sE HE s2 H σ Γ2 ∧ HO' C.K C.Wd s2 H w2 ∧ forEv g.asg b.ev (items.drop i) Γ2 w2 = some fl,
        ⟨_, rfl, Nat.zero_le _, s1, Γ, w1, Ex.refl _, S.le l1, h1, e2⟩, ?_⟩
      rintro i m σ2 H2 ⟨rfl, hi, s2, Γ2, w2, x2, S2, h2, e3⟩
      by_cases hlt : i < items.length
      · refine .inr ⟨wk.go h2 x2 hlt, fun σ' H' => ∃ s3 Γ3 w3, Ex s1.H0 s3.H0 ∧ Sl C.K sE HE s3 H' σ' Γ3 ∧ HO' C.K C.Wd s3 H' w3 ∧ forEv g.asg b.ev (items.drop (i + 1)) Γ3 w3 = some fl,
          fun σ' H' ⟨s3, Γ3, w3, z⟩ => ⟨_, by omega, rfl, hlt, s3, Γ3, w3, z⟩, fun x H' y => ?_⟩
        obtain ⟨s3, d, hd, l3, h3, r3⟩ := wk.yld h2 x2 hlt y
        have ed : items.drop i = d :: items.drop (i + 1) := by
          obtain ⟨_, e⟩ := List.getElem?_eq_some_iff.mp hd
          rw [List.drop_eq_getElem_cons hlt, e]
        rw [ed] at e3
        unfold forEv at e3
        cases e4 : g.asg d Γ2 with
        | none => rw [e4] at e3; cases e3
        | some Γ3 =>
          rw [e4] at e3
          refine g.ok (S2.le l3) h3.ex r3 e4 _ fun σ3 S3 _ => ?_
          have e3 : loopF (b.ev Γ3 w2) (forEv g.asg b.ev (items.drop (i + 1))) = some fl := e3
          cases e5 : b.ev Γ3 w2 with
          | none => rw [e5] at e3; cases e3
          | some f1 =>
            rw [e5] at e3
            refine b.ok S3 h3 e5 _ ?_
            have x3 := x2.trans l3.h0
            cases f1 with
            | nx Γ4 w4 => exact fun s4 H4 σ4 x4 S4 h4 => ⟨s4, Γ4, w4, x3.trans x4, S4, h4, e3⟩
            | ct Γ4 w4 => exact fun s4 H4 σ4 x4 S4 h4 => ⟨s4, Γ4, w4, x3.trans x4, S4, h4, e3⟩
            | bk Γ4 w4 => cases e3; exact fun s4 H4 σ4 x4 S4 h4 => q s4 H4 σ4 ((l1.h0.trans x3).trans x4) S4 h4
            | rt r w4 => cases e3; exact fun v s4 H4 l4 h4 r4 => q v s4 H4 l4 h4 r4
            | ex x w4 => cases e3; exact fun cls d s4 H4 l4 h4 r4 => q cls d s4 H4 l4 h4 r4
      · have ei : i = items.length := by omega
        subst ei
        rw [List.drop_length] at e3
        cases e3
        exact .inl ⟨wk.stop h2 x2, q s2 H2 σ2 (l1.h0.trans x2) S2 h2⟩
    · exact it.ok S h e1 _ (exS S q)
def whileEv {T : Type} (c : Ev → T → Option (Rs T Bool)) (b : Ev → T → Option (Fl T)) : Nat → Ev → T → Option (Fl T)
  | 0, _, _ => none
  | n + 1, Γ, w => bindF (c Γ w) fun x w1 => if x = true then loopF (b Γ w1) (whileEv c b n) else some (.nx Γ w1)
def SS.while {C : Cf} (n : Nat) (c : ST C) (b : SS C) : SS C where
  t := tWhile c.t b.t
  ev := whileEv c.ev b.ev n
  ok := by
    intro sE HE s H σ Γ w fl S h e D q
    refine ⟨fun m σ H => ∃ s2 Γ2 w2, Ex s.H0 s2.H0 ∧ Sl C.K sE HE s2 H σ Γ2 ∧ HO' C.K C.Wd s2 H w2 ∧ whileEv c.ev b.ev m Γ2 w2 = some fl, ⟨n, s, Γ, w, Ex.refl _, S, h, e⟩, ?_⟩
    rintro m σ2 H2 ⟨s2, Γ2, w2, x2, S2, h2, e2⟩
    cases m with
    | zero => cases e2
    | succ m =>
      rcases bindF_cases e2 with ⟨x, w3, e3, e4⟩ | ⟨x, w3, e3, rfl⟩
      · refine c.ok S2 h2 e3 _ fun s3 H3 l3 h3 => ?_
        have x3 := x2.trans l3.h0
        cases x with
        | false => cases e4; exact iteF (q s3 H3 σ2 x3 (S2.le l3) h3)
        | true =>
          refine iteT ⟨fun σ' H' => ∃ s2 Γ2 w2, Ex s.H0 s2.H0 ∧ Sl C.K sE HE s2 H' σ' Γ2 ∧ HO' C.K C.Wd s2 H' w2 ∧ whileEv c.ev b.ev m Γ2 w2 = some fl, fun σ' H' z => ⟨m, Nat.lt_succ_self _, z⟩, ?_⟩
          have e4 : loopF (b.ev Γ2 w3) (whileEv c.ev b.ev m) = some fl := by simpa using e4
          cases e5 : b.ev Γ2 w3 with
          | none => rw [e5] at e4; cases e4
          | some f1 =>
            rw [e5] at e4
            refine b.ok (S2.le l3) h3 e5 _ ?_
            cases f1 with
            | nx Γ4 w4 => exact fun s4 H4 σ4 x4 S4 h4 => ⟨s4, Γ4, w4, x3.trans x4, S4, h4, e4⟩
            | ct Γ4 w4 => exact fun s4 H4 σ4 x4 S4 h4 => ⟨s4, Γ4, w4, x3.trans x4, S4, h4, e4⟩
            | bk Γ4 w4 => cases e4; exact fun s4 H4 σ4 x4 S4 h4 => q s4 H4 σ4 (x3.trans x4) S4 h4
            | rt r w4 => cases e4; exact fun v s4 H4 l4 h4 r4 => q v s4 H4 l4 h4 r4
            | ex x w4 => cases e4; exact fun cls d s4 H4 l4 h4 r4 => q cls d s4 H4 l4 h4 r4
      · exact c.ok S2 h2 e3 _ (exS S2 (SPost.le x2 q))

/-! ### comprehensions -/
abbrev Cf.z (C : Cf) : Cf := ⟨C.K, C.mg, C.Wd, E0⟩
def ST.yes {C : Cf} : ST C where
  t := tYes
  ev := fun _ w => some (.ok true w)
  ok := by
    intro sE HE s H σ Γ w res S h e Q q
    cases e
    exact q s H (Le.refl _ _) h
def wipeE (Γ : Ev) : List Nat → Ev
  | [] => Γ
  | v :: vs => (wipeE Γ vs).set v none
theorem wipeE_length (Γ : Ev) : ∀ vs : List Nat, (wipeE Γ vs).length = Γ.length
  | [] => rfl
  | v :: vs => by unfold wipeE; rw [List.length_set, wipeE_length Γ vs]
theorem wipeE_some {Γ : Ev} {i : Nat} {x : Sv} : ∀ {vs : List Nat}, (wipeE Γ vs)[i]? = some (some x) → Γ[i]? = some (some x) ∧ i ∉ vs
  | [], h => ⟨h, by simp⟩
  | v :: vs, h => by
    unfold wipeE at h
    by_cases hi : v = i
    · subst hi
      by_cases hv : v < (wipeE Γ vs).length
      · rw [List.getElem?_set_self hv] at h; cases h
      · rw [List.getElem?_eq_none (by simpa using hv)] at h; cases h
    · rw [List.getElem?_set_ne hi] at h
      obtain ⟨h1, h2⟩ := wipeE_some h
      exact ⟨h1, by simp only [List.mem_cons, not_or]; exact ⟨fun e => hi e.symm, h2⟩⟩
theorem Sl.wipe {K : PySem.W.Frag} {sE s : Sh} {HE H : Hp} {σ : L2.St} {Γ : Ev} (S : Sl K sE HE s H σ Γ) (vs : List Nat) : Sl K sE HE s H (wipe σ vs) (wipeE Γ vs) := by
  refine ⟨S.en, by rw [wipeE_length, wipe_length]; exact S.len, fun i x g => ?_, fun i j p ds es hij g1 g2 a b => ?_⟩
  · obtain ⟨g, n⟩ := wipeE_some g
    obtain ⟨v, gv, r⟩ := S.sl i x g
    exact ⟨v, by rw [wipe_out n]; exact gv, r⟩
  · exact S.dj i j p ds es hij (wipeE_some g1).1 (wipeE_some g2).1 (wipe_some a).1 (wipe_some b).1
def mapEv {T : Type} (g : PyData → Ev → Option Ev) (c : Ev → T → Option (Rs T Bool)) (b : Ev → T → Option (Rs T PyData)) (Γ : Ev) : List PyData → T → Option (List PyData × T)
  | [], w => some ([], w)
  | d :: r, w => match g d Γ with
    | none => none
    | some Γ1 => match c Γ1 w with
      | some (.ok true w1) => match b Γ1 w1 with
        | some (.ok y w2) => match mapEv g c b Γ r w2 with
          | some (ys, w3) => some (y :: ys, w3)
          | none => none
        | _ => none
      | some (.ok false w1) => mapEv g c b Γ r w1
      | _ => none
def SE.lc {C : Cf} (it : SI C) (g : SG C.z) (c : ST C.z) (b : SE C.z) (vs : List Nat) (hg : g.sl.all (fun i => vs.contains i) = true) : SE C where
  t := tLc it.t g.t c.t b.t vs
  ev := fun Γ w => bindR (it.ev Γ w) fun items w1 => if items.length ≤ 100000 then
      (match mapEv g.asg c.ev b.evD (wipeE Γ vs) items w1 with
      | some (ys, w2) => some (.ok (.new (.lst ys)) w2)
      | none => none)
    else none
  ok := by
    intro sE HE s H σ Γ w res S h e Q q
    have hg' : ∀ i ∈ g.sl, i ∈ vs := fun i hi => by
      have := List.all_eq_true.mp hg i hi
      simpa using this
    rcases bindR_cases e with ⟨items, w1, e1, e2⟩ | ⟨x, w1, e1, rfl⟩
    · refine it.ok S h e1 _ fun s1 H1 l1 h1 J wk D hD => ?_
      split at e2
      · rename_i hlen
        split at e2
        · rename_i ys w2 e3
          cases e2
          refine ⟨fun i m H2 => m = items.length - i ∧ i ≤ items.length ∧ ∃ s2 w3 acc ds rest, Le s1 H1 s2 H2 ∧ HO' C.K C.Wd s2 H2 w3 ∧ H2 D = some (.lst acc) ∧ s2.H0 D = none ∧ s2.HW D = none ∧ RpA C.K s2.H0 acc ds ∧ acc.length ≤ i ∧ mapEv g.asg c.ev b.evD (wipeE Γ vs) (items.drop i) w3 = some (rest, w2) ∧ ys = ds ++ rest,
            ⟨_, rfl, Nat.zero_le _, s1, w1, [], [], ys, Le.new hD, h1.new hD, upd_same, h1.none0 hD, h1.noneW hD, .nil, Nat.le_refl _, e3, rfl⟩, ?_⟩
          rintro i m H2 ⟨rfl, hi, s2, w3, acc, ds, rest, l2, h2, eD, n0, nw, ra, hacc, e4, ey⟩
          by_cases hlt : i < items.length
          · refine .inr ⟨wk.go h2 l2.h0 hlt, fun H' => ∃ s2 w3 acc ds rest, Le s1 H1 s2 H' ∧ HO' C.K C.Wd s2 H' w3 ∧ H' D = some (.lst acc) ∧ s2.H0 D = none ∧ s2.HW D = none ∧ RpA C.K s2.H0 acc ds ∧ acc.length ≤ i + 1 ∧ mapEv g.asg c.ev b.evD (wipeE Γ vs) (items.drop (i + 1)) w3 = some (rest, w2) ∧ ys = ds ++ rest,
              fun H' z => ⟨_, by omega, rfl, hlt, z⟩, fun x H' y => ?_⟩
            obtain ⟨s3, d, hd, l3, h3, r3⟩ := wk.yld h2 l2.h0 hlt y
            have ed : items.drop i = d :: items.drop (i + 1) := by
              obtain ⟨_, e⟩ := List.getElem?_eq_some_iff.mp hd
              rw [List.drop_eq_getElem_cons hlt, e]
            rw [ed] at e4
            unfold mapEv at e4
            have S3 := ((S.le l1).le (l2.trans l3)).wipe vs
            split at e4
            · cases e4
            · rename_i Γ1 e5
              refine g.ok S3 h3.ex r3 e5 _ fun σ3 S4 wp => ⟨?_, ?_⟩
              · rw [wp vs hg']
                have : ∀ (us : List Nat) (τ : L2.St), (∀ i ∈ us, i ∈ vs) → wipe (wipe τ us) vs = wipe τ vs := by
                  intro us
                  induction us with
                  | nil => intro τ _; rfl
                  | cons u us ih =>
                    intro τ hu
                    have e : wipe τ (u :: us) = (wipe τ us).set u none := rfl
                    rw [e, wipe_set (hu u (by simp))]
                    exact ih τ fun i hi => hu i (List.mem_cons_of_mem _ hi)
                exact this vs σ fun _ hi => hi
              have eD3 := l3.fr D _ eD nw
              have n03 := l3.nf D _ eD (NT.lst _) n0
              have nw3 := l3.nw D _ eD nw
              split at e4
              · rename_i w4 e6
                refine c.ok S4 h3 e6 _ fun s4 H4 l4 h4 => iteT ?_
                split at e4
                · rename_i y' w5 e7
                  refine b.okD (S4.le l4) h4 e7 _ fun s5 H5 l5 h5 v5 r5 => ?_
                  have l45 := l4.trans l5
                  have eD5 := l45.fr D _ eD3 nw3
                  split at e4
                  · rename_i ys' w6 e8
                    cases e4
                    refine ⟨acc, eD5, Nat.lt_of_lt_of_le (Nat.lt_of_le_of_lt hacc hlt) (Nat.le_trans hlen (by decide)), s5, w5, acc ++ [v5], ds ++ [y'], ys', ?_, h5.mut (l45.nf D _ eD3 (NT.lst _) n03) (l45.nw D _ eD3 nw3), upd_same, l45.nf D _ eD3 (NT.lst _) n03, l45.nw D _ eD3 nw3, ((ra.mono l3.h0).mono l45.h0).snoc r5, by rw [List.length_append]; show acc.length + 1 ≤ i + 1; omega, e8, by rw [ey, List.append_assoc]; rfl⟩
                    exact ((l2.trans l3).trans l45).mut hD
                  · cases e4
                · cases e4
              · rename_i w4 e6
                refine c.ok S4 h3 e6 _ fun s4 H4 l4 h4 => iteF ?_
                exact ⟨s4, w4, acc, ds, rest, (l2.trans l3).trans l4, h4, l4.fr D _ eD3 nw3, l4.nf D _ eD3 (NT.lst _) n03, l4.nw D _ eD3 nw3, (ra.mono l3.h0).mono l4.h0, by omega, e4, ey⟩
              · cases e4
          · have ei : i = items.length := by omega
            subst ei
            rw [List.drop_length] at e4
            cases e4
            rw [List.append_nil] at ey
            subst ey
            exact .inl ⟨wk.stop h2 l2.h0, q s2 H2 (l1.trans l2) h2 _ ⟨D, .lst acc, rfl, l1.none0 hD, eD, n0, nw, acc, rfl, ra⟩⟩
        · cases e2
      · cases e2
    · exact it.ok S h e1 _ q.ex

/-! ### iterators -/
def seq? : PyData → Option (List PyData)
  | .list ds => some ds
  | .tuple ds => some ds
  | _ => none
theorem wk_list {C : Cf} {a : Addr} {xs : List V} {ds : List PyData} {H0 : Hp} (h : H0 a = some (.lst xs)) (r : RpA C.K H0 xs ds) : Wk C (Itl C.K a) H0 ds where
  go := by
    intro s H w i h' x hi
    exact ⟨xs, xs[i]'(by rw [r.length]; exact hi), .inl (.inl (h'.ex _ _ (x _ _ h))), by simp [r.length, hi]⟩
  stop := by
    intro s H w h' x
    exact ⟨xs, .inl (.inl (h'.ex _ _ (x _ _ h))), by rw [r.length]; exact Nat.le_refl _⟩
  yld := by
    intro s H w i v H' h' x hi y
    obtain ⟨e, y⟩ := y
    subst e
    obtain ⟨d, hd, rd⟩ := r.getL i v (y xs (.inl (.inl (h'.ex _ _ (x _ _ h)))))
    exact ⟨s, d, hd, Le.refl _ _, h', Rp.mono x rd⟩
theorem wk_tup {C : Cf} {a : Addr} {xs : List V} {ds : List PyData} {H0 : Hp} (h : H0 a = some (.tup xs)) (r : RpA C.K H0 xs ds) : Wk C (Itt C.K a) H0 ds where
  go := by
    intro s H w i h' x hi
    exact ⟨xs, xs[i]'(by rw [r.length]; exact hi), h'.ex.t (x _ _ h), by simp [r.length, hi]⟩
  stop := by
    intro s H w h' x
    exact ⟨xs, h'.ex.t (x _ _ h), by rw [r.length]; exact Nat.le_refl _⟩
  yld := by
    intro s H w i v H' h' x hi y
    obtain ⟨e, y⟩ := y
    subst e
    obtain ⟨d, hd, rd⟩ := r.getL i v (y xs (h'.ex.t (x _ _ h)))
    exact ⟨s, d, hd, Le.refl _ _, h', Rp.mono x rd⟩
def SI.list {C : Cf} (a : SE C) : SI C where
  t := iList C.K a.t
  ev := fun Γ w => bindR (a.evD Γ w) (evO fun d => match d with
    | .list ds => some ds
    | _ => none)
  ok := by
    intro sE HE s H σ Γ w res S h e R q
    rcases bindR_cases e with ⟨d, w1, e1, e2⟩ | ⟨x, w1, e1, rfl⟩
    · obtain ⟨items, e3, rfl⟩ := evO_inv e2
      refine a.okD S h e1 _ fun s1 H1 l1 h1 v z => ?_
      cases z with
      | lst ha r =>
        cases e3
        exact ⟨_, rfl, ⟨_, .inl (.inl (h1.ex _ _ ha))⟩, q s1 H1 l1 h1 _ (wk_list ha r)⟩
      | non => cases e3
      | bl b => cases e3
      | int i => cases e3
      | str i => cases e3
      | tup _ _ => cases e3
      | dic _ _ => cases e3
      | dicT _ _ => cases e3
      | dicF _ _ => cases e3
      | ins _ _ => cases e3
    · exact a.okD S h e1 _ q.ex
def SI.tup {C : Cf} (a : SE C) : SI C where
  t := iTup C.K a.t
  ev := fun Γ w => bindR (a.evD Γ w) (evO fun d => match d with
    | .tuple ds => some ds
    | _ => none)
  ok := by
    intro sE HE s H σ Γ w res S h e R q
    rcases bindR_cases e with ⟨d, w1, e1, e2⟩ | ⟨x, w1, e1, rfl⟩
    · obtain ⟨items, e3, rfl⟩ := evO_inv e2
      refine a.okD S h e1 _ fun s1 H1 l1 h1 v z => ?_
      cases z with
      | tup ha r =>
        cases e3
        exact ⟨_, rfl, ⟨_, h1.ex.t ha⟩, q s1 H1 l1 h1 _ (wk_tup ha r)⟩
      | non => cases e3
      | bl b => cases e3
      | int i => cases e3
      | str i => cases e3
      | lst _ _ => cases e3
      | dic _ _ => cases e3
      | dicT _ _ => cases e3
      | dicF _ _ => cases e3
      | ins _ _ => cases e3
    · exact a.okD S h e1 _ q.ex
def ranD (lo : Int) (n : Nat) : List PyData := (List.range n).map fun (i : Nat) => PyData.int (lo + (i : Int))
theorem wk_range {C : Cf} {lo : Int} {n : Nat} {H0 : Hp} : Wk C (Itr lo n) H0 (ranD lo n) where
  go := by
    intro s H w i h' x hi
    have hi : i < n := by simpa [ranD] using hi
    exact hi
  stop := by
    intro s H w h' x
    have e : (ranD lo n).length = n := by simp [ranD]
    rw [e]
    exact Nat.le_refl _
  yld := by
    intro s H w i v H' h' x hi y
    have hi : i < n := by simpa [ranD] using hi
    obtain ⟨e, y⟩ := y
    subst e y
    exact ⟨s, _, by simp [ranD, hi], Le.refl _ _, h', .int _⟩
/-- range(e) -/
def SI.range {C : Cf} (a : SE C) : SI C where
  t := iRng1 (tCons a.t tNil)
  ev := fun Γ w => bindR (a.evV Γ w) (evO fun d => match d with
    | .int j => if j ≤ 100000 ∧ -100000 ≤ j then some (ranD 0 j.toNat) else none
    | _ => none)
  ok := by
    intro sE HE s H σ Γ w res S h e R q
    rcases bindR_cases e with ⟨d, w1, e1, e2⟩ | ⟨x, w1, e1, rfl⟩
    · obtain ⟨items, e3, rfl⟩ := evO_inv e2
      refine a.okV S h e1 _ fun s1 H1 l1 h1 v z => ?_
      cases d with
      | int j =>
        have z := z.now h1.ex
        cases z
        have e3 : (if j ≤ 100000 ∧ -100000 ≤ j then some (ranD 0 j.toNat) else none) = some items := e3
        split at e3
        · rename_i hj
          cases e3
          exact ⟨j, rfl, by omega, by omega, q s1 H1 l1 h1 _ wk_range⟩
        · cases e3
      | none => cases e3
      | bool i => cases e3
      | str i => cases e3
      | list i => cases e3
      | tuple i => cases e3
      | dict i => cases e3
    · exact a.okV S h e1 _ q.ex
/-- range(a, b) -/
def SI.range2 {C : Cf} (a b : SE C) : SI C where
  t := iRng2 (tCons a.t (tCons b.t tNil))
  ev := fun Γ w => bindR (a.evV Γ w) fun x w1 => bindR (b.evV Γ w1) fun y w2 => match x, y with
    | .int i, .int j => if (j ≤ 100000 ∧ -100000 ≤ j) ∧ (i ≤ 100000 ∧ -100000 ≤ i) then some (.ok (ranD i (j - i).toNat) w2) else none
    | _, _ => none
  ok := by
    intro sE HE s H σ Γ w res S h e R q
    rcases bindR_cases e with ⟨d, w1, e1, e2⟩ | ⟨x, w1, e1, rfl⟩
    · refine a.okV S h e1 _ fun s1 H1 l1 h1 v z => ?_
      rcases bindR_cases e2 with ⟨d2, w2, e3, e4⟩ | ⟨x, w2, e3, rfl⟩
      · refine b.okV (S.le l1) h1 e3 _ fun s2 H2 l2 h2 v2 z2 => ?_
        split at e4
        · rename_i i j
          split at e4
          · rename_i hj
            cases e4
            have z := (z.le l2).now h2.ex
            have z2 := z2.now h2.ex
            cases z
            cases z2
            exact ⟨i, j, rfl, by omega, q s2 H2 (l1.trans l2) h2 _ wk_range⟩
          · cases e4
        · cases e4
      · exact b.okV (S.le l1) h1 e3 _ (q.ex.le l1)
    · exact a.okV S h e1 _ q.ex
/-- a new pair at each turn -/
theorem wk_pair {C : Cf} {J : It} {H0 : Hp} {xs ys : List PyData} {fx fy : Nat → Hp → Option V} (hl : xs.length = ys.length)
    (go : ∀ {s : Sh} {H : Hp} {w : C.T} {i : Nat}, HO' C.K C.Wd s H w → Ex H0 s.H0 → i < xs.length → J.go i H)
    (stop : ∀ {s : Sh} {H : Hp} {w : C.T}, HO' C.K C.Wd s H w → Ex H0 s.H0 → J.stop xs.length H)
    (yld : ∀ {s : Sh} {H : Hp} {w : C.T} {i : Nat} {v : V} {H' : Hp}, HO' C.K C.Wd s H w → Ex H0 s.H0 → i < xs.length → J.yld i H v H' → ∃ T x y d e, v = .ref T ∧ H T = none ∧ H' = upd H T (.tup [x, y]) ∧ xs[i]? = some d ∧ ys[i]? = some e ∧ Rp C.K s.H0 x d ∧ Rp C.K s.H0 y e) :
    Wk C J H0 ((xs.zip ys).map fun p => .tuple [p.1, p.2]) where
  go := by
    intro s H w i h' x hi
    exact go h' x (by simp [← hl] at hi; exact hi)
  stop := by
    intro s H w h' x
    have e : ((xs.zip ys).map fun p => PyData.tuple [p.1, p.2]).length = xs.length := by simp [hl]
    rw [e]
    exact stop h' x
  yld := by
    intro s H w i v H' h' x hi y
    obtain ⟨T, a, b, d, e, rfl, n, rfl, hd, he, ra, rb⟩ := yld h' x (by simp [← hl] at hi; exact hi) y
    have h2 : HO' C.K C.Wd s (upd H T (.tup [a, b])) w := h'.new n
    refine ⟨s.frz T (.tup [a, b]), .tuple [d, e], ?_, (Le.new n).frz n (h'.none0 n), h2.frz upd_same (h'.none0 n) (h'.noneW n), .tup upd_same (.cons (Rp.mono (Ex.new (h'.none0 n)) ra) (.cons (Rp.mono (Ex.new (h'.none0 n)) rb) .nil))⟩
    rw [List.getElem?_map, show (xs.zip ys)[i]? = some (d, e) from List.getElem?_zip_eq_some.mpr ⟨hd, he⟩]
    rfl
end Cl

set_option Elab.async false
set_option linter.all false
set_option maxRecDepth 100000
set_option maxHeartbeats 4000000
namespace Cl
open PySem L2 PySem.Spec PyProof.Rows

theorem lt_size {n : Nat} (h : n ≤ 100000) : n ≤ sizeLine := Nat.le_trans h (by decide)

/-! ### arithmetic -/
def addF : PyData → PyData → Option Rv
  | .int i, .int j => some (.dat (.int (i + j)))
  | .str x, .str y => if x.length + y.length ≤ 100000 then some (.dat (.str (x ++ y))) else none
  | .list a, .list b => if a.length + b.length ≤ 100000 then some (.new (.lst (a ++ b))) else none
  | .tuple a, .tuple b => if a.length + b.length ≤ 100000 then some (.dat (.tuple (a ++ b))) else none
  | _, _ => none
def rAddA (K : PySem.W.Frag) : R2 := fun x y H Q => (rI0 fun i j => .int (i + j)) x y H Q ∨ (∃ i j, x = .str i ∧ y = .str j ∧ i.length + j.length ≤ sizeLine ∧ Q (.str (i ++ j)) H) ∨ rCat x y H Q ∨ rCatA K x y H Q
theorem op_addA {X : Cx} : OpR X (binaryOp .Add) (rAddA X.K) := op_add.or (op_add_str.or (op_cat.or op_catA))
theorem add_ok {C : Cf} : BinOk C (rAddA C.K) addF := by
  refine ⟨?_⟩
  intro s H w x y d e rv h vx vy ef Q q
  unfold addF at ef
  split at ef
  · cases ef
    cases vx
    cases vy
    exact .inl ⟨_, _, rfl, rfl, q.val h (.int _)⟩
  · split at ef
    · rename_i hl
      cases ef
      cases vx
      cases vy
      exact .inr (.inl ⟨_, _, rfl, rfl, lt_size hl, q.val h (.str _)⟩)
    · cases ef
  · split at ef
    · rename_i hl
      cases ef
      obtain ⟨p, xs, rfl, hp, r1⟩ := vx
      obtain ⟨p2, ys, rfl, hp2, r2⟩ := vy
      exact .inr (.inr (.inl ⟨p, p2, xs, ys, rfl, rfl, hp, hp2, by rw [r1.length, r2.length]; exact lt_size hl, fun u hu => q.new h (r1.append r2) hu⟩))
    · cases ef
  · split at ef
    · rename_i hl
      cases ef
      cases vx with
      | tup h1 r1 =>
        cases vy with
        | tup h2 r2 =>
          refine .inr (.inr (.inr ⟨_, _, _, _, rfl, rfl, h.ex.t h1, h.ex.t h2, by rw [r1.length, r2.length]; exact lt_size hl, fun e1 => ?_, fun _ e2 => ?_, fun _ _ u hu => q.tup h (r1.append r2) hu⟩))
          · subst e1
            cases r1
            exact q.val h (.tup h2 r2)
          · subst e2
            cases r2
            rw [List.append_nil] at q
            exact q.val h (.tup h1 r1)
    · cases ef
  · cases ef
def intF2 (g : Int → Int → Option Int) : PyData → PyData → Option Rv
  | .int i, .int j => (g i j).map fun k => .dat (.int k)
  | _, _ => none
theorem int2_ok {C : Cf} {P : Int → Int → Prop} {f : Int → Int → Int} {g : Int → Int → Option Int} (hg : ∀ i j k, g i j = some k → P i j ∧ k = f i j) : BinOk C (rI P fun i j => .int (f i j)) (intF2 g) := by
  refine ⟨?_⟩
  intro s H w x y d e rv h vx vy ef Q q
  unfold intF2 at ef
  split at ef
  · rename_i i j
    cases e1 : g i j with
    | none => rw [e1] at ef; cases ef
    | some k =>
      rw [e1] at ef
      cases ef
      obtain ⟨hp, rfl⟩ := hg i j k e1
      cases vx
      cases vy
      exact ⟨_, _, rfl, rfl, hp, q.val h (.int _)⟩
  · cases ef
def subF : PyData → PyData → Option Rv := intF2 fun i j => some (i - j)
def rSubA : R2 := rI (fun _ _ => True) fun i j => .int (i - j)
theorem op_subA {X : Cx} : OpR X (binaryOp .Sub) rSubA := opI fun _ _ _ _ _ _ _ _ q => sub_int q
theorem sub_ok {C : Cf} : BinOk C rSubA subF := int2_ok fun i j k e => by cases e; exact ⟨trivial, rfl⟩
/-- one factor is small -/
def mulC (i j : Int) : Bool := (decide (-(2 ^ 64) < i) && decide (i < 2 ^ 64)) || (decide (-(2 ^ 64) < j) && decide (j < 2 ^ 64))
theorem mulC_l {i j : Int} (h : -(2 ^ 64) < i) (h' : i < 2 ^ 64) : mulC i j = true := by unfold mulC; rw [decide_eq_true h, decide_eq_true h']; rfl
theorem mulC_r {i j : Int} (h : -(2 ^ 64) < j) (h' : j < 2 ^ 64) : mulC i j = true := by unfold mulC; rw [decide_eq_true h, decide_eq_true h']; simp
def mulF : PyData → PyData → Option Rv
  | .int i, .int j => if mulC i j = true then some (.dat (.int (i * j))) else none
  | .list a, .int k => if k ≤ 1000 ∧ -1000 ≤ k ∧ a.length ≤ 1000 then some (.new (.lst (List.replicate k.toNat a).flatten)) else none
  | .tuple a, .int k => if k ≤ 1000 ∧ -1000 ≤ k ∧ a.length ≤ 1000 then some (.dat (.tuple (List.replicate k.toNat a).flatten)) else none
  | _, _ => none
def fdivF : PyData → PyData → Option Rv := intF2 fun i j => if 0 < j ∧ j < 1073741824 then some (i / j) else none
def modF : PyData → PyData → Option Rv := intF2 fun i j => if 0 < j then some (i % j) else none
def powF : PyData → PyData → Option Rv := intF2 fun i j => if 0 ≤ j ∧ j ≤ 1000 ∧ i.natAbs < 2 ^ 64 then some (i ^ j.toNat) else none
theorem fdiv_ok {C : Cf} : BinOk C (rI CDiv fun i j => .int (i / j)) fdivF := int2_ok fun i j k e => by
  split at e
  · rename_i h; cases e; exact ⟨h, rfl⟩
  · cases e
theorem mod_ok {C : Cf} : BinOk C (rI (fun _ j => 0 < j) fun i j => .int (i % j)) modF := int2_ok fun i j k e => by
  split at e
  · rename_i h; cases e; exact ⟨h, rfl⟩
  · cases e
theorem pow_ok {C : Cf} : BinOk C (rI CPow fun i j => .int (i ^ j.toNat)) powF := int2_ok fun i j k e => by
  split at e
  · rename_i h; cases e; exact ⟨⟨h.1, by omega, h.2.2⟩, rfl⟩
  · cases e
/-! ### comparisons -/
def cmpF (g : Int → Int → Bool) : PyData → PyData → Option Rv
  | .int i, .int j => some (.dat (.bool (g i j)))
  | _, _ => none
theorem cmp_ok {C : Cf} {g : Int → Int → Bool} : BinOk C (rI0 fun i j => .bl (g i j)) (cmpF g) := by
  refine ⟨?_⟩
  intro s H w x y d e rv h vx vy ef Q q
  unfold cmpF at ef
  split at ef
  · cases ef
    cases vx
    cases vy
    exact ⟨_, _, rfl, rfl, q.val h (.bl _)⟩
  · cases ef
def ltF := cmpF fun i j => decide (i < j)
def leF := cmpF fun i j => decide (i ≤ j)
def gtF := cmpF fun i j => decide (j < i)
def geF := cmpF fun i j => decide (j ≤ i)
mutual
theorem Rp.dp {K : PySem.W.Frag} {H : Hp} : ∀ {v : V} {d : PyData}, Rp K H v d → d.canLay0 = true → Dp K H v d
  | _, _, .non, _ => .non
  | _, _, .bl b, _ => .bl b
  | _, _, .int b, _ => .int b
  | _, _, .str b, _ => .str b
  | _, _, .lst h r, c => .lst (.inl (.inl h)) (RpA.dp r (by simpa [PyData.canLay0] using c))
  | _, _, .tup h r, c => .tup (.inl (.inl h)) (RpA.dp r (by simpa [PyData.canLay0] using c))
  | _, _, .dic h r, c => by simp [PyData.canLay0] at c
  | _, _, .dicT h r, c => by simp [PyData.canLay0] at c
  | _, _, .dicF h r, c => by simp [PyData.canLay0] at c
  | _, _, .ins h r, c => by simp [PyData.canLay0] at c
theorem RpA.dp {K : PySem.W.Frag} {H : Hp} : ∀ {v : List V} {d : List PyData}, RpA K H v d → PyData.canLayAll0 d = true → DpAll K H v d
  | _, _, .nil, _ => .nil
  | _, _, .cons h r, c => by
    simp only [PyData.canLayAll0, Bool.and_eq_true] at c
    exact .cons (Rp.dp h c.1) (RpA.dp r c.2)
end
def okEq (d : PyData) : Bool := SeqAt.shaped d
def eqF (neg : Bool) (d e : PyData) : Option Rv := if okEq d = true ∧ okEq e = true then some (.dat (.bool (if neg then !PyData.eqv d e else PyData.eqv d e))) else none
def rEqA (K : PySem.W.Frag) (neg : Bool) : R2 := fun x y H Q => ∃ d e, Dp K H x d ∧ Dp K H y e ∧ SeqAt.shaped d = true ∧ SeqAt.shaped e = true ∧ Q (.bl (if neg then !PyData.eqv d e else PyData.eqv d e)) H
theorem op_eqA {X : Cx} (hu : X.A.units + 64 < cLine) : OpR X (compareOp .Eq) (rEqA X.K false) := op_eqD hu
theorem op_neA {X : Cx} (hu : X.A.units + 64 < cLine) : OpR X (compareOp .NotEq) (rEqA X.K true) := op_neD hu
theorem eq_ok {C : Cf} {neg : Bool} : BinOk C (rEqA C.K neg) (eqF neg) := by
  refine ⟨?_⟩
  intro s H w x y d e rv h vx vy ef Q q
  unfold eqF at ef
  split at ef
  · rename_i hs
    cases ef
    exact ⟨d, e, (vx.rp h.ex).dp (SeqAt.canLay_of_shaped hs.1), (vy.rp h.ex).dp (SeqAt.canLay_of_shaped hs.2), hs.1, hs.2, q.val h (.bl _)⟩
  · cases ef
def isNone : PyData → Bool
  | .none => true
  | _ => false
def isF (neg : Bool) (d e : PyData) : Option Rv := if isNone e = true then some (.dat (.bool (if neg then !isNone d else isNone d))) else none
def rIsA (neg : Bool) : R2 := fun x y H Q => y = .non ∧ Q (.bl (if neg then !decide (x = .non) else decide (x = .non))) H
theorem op_isA {X : Cx} : OpR X (compareOp .Is) (rIsA false) := op_isN
theorem op_notA {X : Cx} : OpR X (compareOp .IsNot) (rIsA true) := op_notN
theorem is_ok {C : Cf} {neg : Bool} : BinOk C (rIsA neg) (isF neg) := by
  refine ⟨?_⟩
  intro s H w x y d e rv h vx vy ef Q q
  unfold isF at ef
  split at ef
  · rename_i hs
    cases ef
    have ey : y = .non := by
      cases e with
      | none => cases vy; rfl
      | _ => cases hs
    have ex : decide (x = .non) = isNone d := by
      have r := vx.rp h.ex
      cases r <;> first | rfl | exact decide_eq_false (fun z => nomatch z)
    refine ⟨ey, ?_⟩
    rw [ex]
    exact q.val h (.bl _)
  · cases ef
/-- in a list or tuple of flat things -/
def flatD : PyData → Bool
  | .none => true
  | .bool _ => true
  | .int _ => true
  | .str _ => true
  | _ => false
theorem Rp.flat {K : PySem.W.Frag} {H : Hp} {v : V} {d : PyData} (r : Rp K H v d) (f : flatD d = true) : flatV v = true := by
  cases r <;> first | rfl | cases f
theorem Rp.eqV {K : PySem.W.Frag} {H : Hp} {v u : V} {d e : PyData} (r : Rp K H v d) (r' : Rp K H u e) (f : flatD d = true) (f' : flatD e = true) : L2.eqV v u = PyData.eqv d e := by
  cases r <;> cases r' <;> first | (simp [L2.eqV, PyData.eqv]; done) | cases f | cases f'
theorem RpA.inV {K : PySem.W.Frag} {H : Hp} {v : V} {d : PyData} (r : Rp K H v d) (f : flatD d = true) : ∀ {xs : List V} {ds : List PyData}, RpA K H xs ds → ds.all flatD = true → L2.inV v xs = ds.any (fun e => PyData.eqv e d) ∧ xs.all flatV = true
  | _, _, .nil, _ => ⟨rfl, rfl⟩
  | _, _, .cons h t, fs => by
    rw [List.all_cons, Bool.and_eq_true] at fs
    obtain ⟨i1, i2⟩ := RpA.inV r f t fs.2
    refine ⟨?_, by rw [List.all_cons, h.flat fs.1, i2]; rfl⟩
    unfold L2.inV at i1 ⊢
    rw [List.any_cons, List.any_cons, i1, Rp.eqV h r fs.1 f]
def inF (neg : Bool) (d e : PyData) : Option Rv := match seq? e with
  | some ds => if flatD d = true ∧ ds.all flatD = true then some (.dat (.bool (if neg then !ds.any (fun e => PyData.eqv e d) else ds.any (fun e => PyData.eqv e d)))) else none
  | none => none
theorem in_ok {C : Cf} {neg : Bool} : BinOk C (rIn C.K neg) (inF neg) := by
  refine ⟨?_⟩
  intro s H w x y d e rv h vx vy ef Q q
  unfold inF at ef
  split at ef
  · rename_i ds es
    split at ef
    · rename_i hs
      cases ef
      have rx := vx.rp h.ex
      cases e with
      | list es' =>
        cases es
        obtain ⟨p, xs, rfl, hp, r⟩ := vy
        obtain ⟨i1, i2⟩ := RpA.inV rx hs.1 (r.mono h.ex) hs.2
        refine ⟨p, xs, rfl, .inl (.inl (.inl hp)), rx.flat hs.1, i2, ?_⟩
        rw [i1]
        exact q.val h (.bl _)
      | tuple es' =>
        cases es
        cases vy with
        | tup hp r =>
          obtain ⟨i1, i2⟩ := RpA.inV rx hs.1 (r.mono h.ex) hs.2
          refine ⟨_, _, rfl, .inr (h.ex.t hp), rx.flat hs.1, i2, ?_⟩
          rw [i1]
          exact q.val h (.bl _)
      | _ => cases es
    · cases ef
  · cases ef
/-! ### items -/
def ixF : PyData → PyData → Option Rv
  | .list ds, .int i => (atI ds i).map .dat
  | .tuple ds, .int i => (atI ds i).map .dat
  | _, _ => none
theorem RpA.atI {K : PySem.W.Frag} {H : Hp} {xs : List V} {ds : List PyData} {i : Int} {d : PyData} (r : RpA K H xs ds) (h : L2.atI ds i = some d) : ∃ v, L2.atI xs i = some v ∧ Rp K H v d := by
  unfold L2.atI at h ⊢
  rw [r.length]
  cases e : ixN ds.length i with
  | none => rw [e] at h; cases h
  | some j => rw [e] at h; exact r.get j d h
def rIxA (K : PySem.W.Frag) : R2 := fun x y H Q => rIxL K x y H Q ∨ rIxT K x y H Q
theorem ix_A {X : Cx} : IxR X (rIxA X.K) := ix_list.or ix_tup
theorem ix_ok {C : Cf} : BinOk C (rIxA C.K) ixF := by
  refine ⟨?_⟩
  intro s H w x y d e rv h vx vy ef Q q
  unfold ixF at ef
  split at ef
  · rename_i ds i
    cases e1 : atI ds i with
    | none => rw [e1] at ef; cases ef
    | some d' =>
      rw [e1] at ef
      cases ef
      obtain ⟨p, xs, rfl, hp, r⟩ := vx
      cases vy
      obtain ⟨v, hv, rv⟩ := r.atI e1
      exact .inl ⟨p, xs, _, v, rfl, rfl, .inl (.inl hp), hv, q.val h rv⟩
  · rename_i ds i
    cases e1 : atI ds i with
    | none => rw [e1] at ef; cases ef
    | some d' =>
      rw [e1] at ef
      cases ef
      cases vx with
      | tup hp r =>
        cases vy
        obtain ⟨v, hv, rv⟩ := r.atI e1
        exact .inr ⟨_, _, _, v, rfl, rfl, h.ex.t hp, hv, q.val h rv⟩
  · cases ef
/-! ### slices -/
structure SO (C : Cf) where
  t : TO
  ev : Ev → C.T → Option (Rs C.T (Option Int))
  ok : ∀ {sE : Sh} {HE : Hp} {s : Sh} {H : Hp} {σ : L2.St} {Γ : Ev} {w : C.T} {res : Rs C.T (Option Int)}, Sl C.K sE HE s H σ Γ → HO' C.K C.Wd s H w → ev Γ w = some res →
    ∀ Q : Option Int → Hp → Prop, Post C s H res (fun b s' H' => Q b H') → t σ H Q
def CO {C : Cf} (X : Cx) (e : Option Expr) (a : SO C) : Prop := PO X e a.t
def SO.no {C : Cf} : SO C where
  t := tNoPart
  ev := fun _ w => some (.ok none w)
  ok := by
    intro sE HE s H σ Γ w res S h e Q q
    cases e
    exact q s H (Le.refl _ _) h
def SO.so {C : Cf} (a : SE C) : SO C where
  t := tPart a.t
  ev := fun Γ w => bindR (a.evV Γ w) (evO fun d => match d with
    | .int i => some (some i)
    | _ => none)
  ok := by
    intro sE HE s H σ Γ w res S h e Q q
    rcases bindR_cases e with ⟨x, w1, e1, e2⟩ | ⟨x, w1, e1, rfl⟩
    · refine a.okV S h e1 _ fun s1 H1 l1 h1 v1 z1 => ?_
      obtain ⟨b, e3, rfl⟩ := evO_inv e2
      cases x with
      | int b' =>
        cases e3
        have z := z1.now h1.ex
        cases z
        exact ⟨_, rfl, q s1 H1 l1 h1⟩
      | none => cases e3
      | bool i => cases e3
      | str i => cases e3
      | list i => cases e3
      | tuple i => cases e3
      | dict i => cases e3
    · exact a.okV S h e1 _ q.ex
def cutD (xs : List PyData) (lo hi : Option Int) : List PyData := (xs.drop (HT.sIx xs.length 0 lo)).take (HT.sIx xs.length xs.length hi - HT.sIx xs.length 0 lo)
theorem RpA.cut {K : PySem.W.Frag} {H : Hp} {xs : List V} {ds : List PyData} (r : RpA K H xs ds) (lo hi : Option Int) : RpA K H (cutV xs lo hi) (cutD ds lo hi) := by
  unfold cutV cutD
  rw [r.length]
  exact (r.drop _).take _
def slF (d : PyData) (lo hi : Option Int) : Option Rv := match d with
  | .list ds => some (.new (.lst (cutD ds lo hi)))
  | .tuple ds => some (.dat (.tuple (cutD ds lo hi)))
  | _ => none
def rSlAA (K : PySem.W.Frag) : V → Option Int → Option Int → Hp → VK → Prop := fun x lo hi H Q => rSlL K x lo hi H Q ∨ rSlA K x lo hi H Q
theorem sl_AA {X : Cx} : SlR X (rSlAA X.K) := sl_list.or sl_tupA
def SE.sl {C : Cf} (a : SE C) (l u : SO C) : SE C where
  t := tSl (rSlAA C.K) a.t l.t u.t
  ev := fun Γ w => bindR (a.evV Γ w) fun d w1 => bindR (l.ev Γ w1) fun lo w2 => bindR (u.ev Γ w2) fun hi w3 => (slF d lo hi).map fun r => .ok r w3
  ok := by
    intro sE HE s H σ Γ w res S h e Q q
    rcases bindR_cases e with ⟨x, w1, e1, e2⟩ | ⟨x, w1, e1, rfl⟩
    · refine a.okV S h e1 _ fun s1 H1 l1 h1 v1 z1 => ?_
      rcases bindR_cases e2 with ⟨lo, w2, e3, e4⟩ | ⟨x, w2, e3, rfl⟩
      · refine l.ok (S.le l1) h1 e3 _ fun s2 H2 l2 h2 => ?_
        rcases bindR_cases e4 with ⟨hi, w3, e5, e6⟩ | ⟨x, w3, e5, rfl⟩
        · refine u.ok (S.le (l1.trans l2)) h2 e5 _ fun s3 H3 l3 h3 => ?_
          cases e7 : slF x lo hi with
          | none => rw [e7] at e6; cases e6
          | some rv =>
            rw [e7] at e6
            cases e6
            have l23 := l2.trans l3
            have q' : Opd C s3 H3 w3 rv Q := fun s4 H4 v l4 h4 r4 => q s4 H4 ((l1.trans l23).trans l4) h4 v (r4.start (l1.trans l23)).rv
            have z := (z1.le l23).now h3.ex
            cases x with
            | list ds =>
              cases e7
              obtain ⟨p, xs, rfl, hp, r⟩ := z
              exact .inl ⟨p, xs, rfl, .inl (.inl hp), fun p hp => q'.new h3 (r.cut lo hi) hp⟩
            | tuple ds =>
              cases e7
              cases z with
              | tup hp r =>
                refine .inr ⟨_, _, rfl, h3.ex.t hp, fun hw => ?_, fun _ p hp => q'.tup h3 (r.cut lo hi) hp⟩
                have e8 : cutD ds lo hi = ds := by
                  unfold cutD
                  rw [← r.length, hw.1, hw.2, r.length, List.drop_zero, Nat.sub_zero, List.take_length]
                rw [e8] at q'
                exact q'.val h3 (.tup hp r)
            | none => cases e7
            | bool i => cases e7
            | int i => cases e7
            | str i => cases e7
            | dict i => cases e7
        · exact u.ok (S.le (l1.trans l2)) h2 e5 _ ((q.ex.le l1).le l2)
      · exact l.ok (S.le l1) h1 e3 _ (q.ex.le l1)
    · exact a.okV S h e1 _ q.ex

/-! ### built-ins of one value -/
def negF : PyData → Option Rv
  | .int i => some (.dat (.int (-i)))
  | _ => none
theorem neg_ok {C : Cf} : UnOk C (rU fun i => .int (-i)) negF := by
  refine ⟨?_⟩
  intro s H w x d rv h vx ef Q q
  cases d with
  | int i => cases ef; cases vx; exact ⟨_, rfl, q.val h (.int _)⟩
  | _ => cases ef
def lenF : PyData → Option Rv
  | .list ds => some (.dat (.int ds.length))
  | .tuple ds => some (.dat (.int ds.length))
  | _ => none
def rLenA (K : PySem.W.Frag) : List V → Hp → VK → Prop := fun xs H Q => ∃ p ys, xs = [.ref p] ∧ (SqL K H p ys ∨ SqT K H p ys) ∧ Q (.int ys.length) H
theorem cr_lenA {X : Cx} : CallR X (.builtin "len") (rLenA X.K) := call_len_seq
theorem len_ok {C : Cf} : UnOk C (fun x => rLenA C.K [x]) lenF := by
  refine ⟨?_⟩
  intro s H w x d rv h vx ef Q q
  cases d with
  | list ds =>
    cases ef
    obtain ⟨p, xs, rfl, hp, r⟩ := vx
    refine ⟨p, xs, rfl, .inl (.inl (.inl hp)), ?_⟩
    rw [r.length]
    exact q.val h (.int _)
  | tuple ds =>
    cases ef
    cases vx with
    | tup hp r =>
      refine ⟨_, _, rfl, .inr (h.ex.t hp), ?_⟩
      rw [r.length]
      exact q.val h (.int _)
  | _ => cases ef
def absF : PyData → Option Rv
  | .int i => some (.dat (.int (if i < 0 then -i else i)))
  | _ => none
def rAbsA : List V → Hp → VK → Prop := fun xs H Q => ∃ i, xs = [.int i] ∧ Q (.int (if i < 0 then -i else i)) H
theorem cr_absA {X : Cx} : CallR X (.builtin "abs") rAbsA := call_abs
theorem abs_ok {C : Cf} : UnOk C (fun x => rAbsA [x]) absF := by
  refine ⟨?_⟩
  intro s H w x d rv h vx ef Q q
  cases d with
  | int i => cases ef; cases vx; exact ⟨_, rfl, q.val h (.int _)⟩
  | _ => cases ef
def toIntF : PyData → Option Rv
  | .int i => some (.dat (.int i))
  | .bool b => some (.dat (.int (if b then 1 else 0)))
  | _ => none
def rToIntA : List V → Hp → VK → Prop := fun xs H Q => (∃ i, xs = [.int i] ∧ Q (.int i) H) ∨ ∃ k, xs = [.bl k] ∧ Q (.int (if k then 1 else 0)) H
theorem cr_toIntA {X : Cx} : CallR X (.type "int") rToIntA := call_int1
theorem toInt_ok {C : Cf} : UnOk C (fun x => rToIntA [x]) toIntF := by
  refine ⟨?_⟩
  intro s H w x d rv h vx ef Q q
  cases d with
  | int i => cases ef; cases vx; exact .inl ⟨_, rfl, q.val h (.int _)⟩
  | bool b => cases ef; cases vx; exact .inr ⟨_, rfl, q.val h (.int _)⟩
  | _ => cases ef
def ints? : List PyData → Option (List Int)
  | [] => some []
  | .int i :: r => (ints? r).map (i :: ·)
  | _ :: _ => none
theorem ints?_inv : ∀ {ds : List PyData} {ns : List Int}, ints? ds = some ns → ds = ns.map PyData.int
  | [], _, h => by cases h; rfl
  | .int i :: r, ns, h => by
    unfold ints? at h
    cases e : ints? r with
    | none => rw [e] at h; cases h
    | some ms => rw [e] at h; cases h; rw [ints?_inv e]; rfl
  | .none :: _, _, h => by cases h
  | .bool _ :: _, _, h => by cases h
  | .str _ :: _, _, h => by cases h
  | .list _ :: _, _, h => by cases h
  | .tuple _ :: _, _, h => by cases h
  | .dict _ :: _, _, h => by cases h
@[simp] theorem ints?_map : ∀ ns : List Int, ints? (ns.map PyData.int) = some ns
  | [] => rfl
  | n :: ns => by rw [List.map_cons, ints?, ints?_map ns]; rfl
def sumF : PyData → Option Rv
  | .list ds => (ints? ds).map fun ns => .dat (.int ns.sum)
  | _ => none
theorem sum_ok {C : Cf} : UnOk C (fun x => rSum C.K [x]) sumF := by
  refine ⟨?_⟩
  intro s H w x d rv h vx ef Q q
  cases d with
  | list ds =>
    have ef : ((ints? ds).map fun ns => Rv.dat (.int ns.sum)) = some rv := ef
    cases e : ints? ds with
    | none => rw [e] at ef; cases ef
    | some ns =>
      rw [e] at ef
      cases ef
      obtain ⟨p, xs, rfl, hp, r⟩ := vx
      rw [ints?_inv e] at r
      rw [r.ints] at hp
      exact ⟨p, ns, rfl, .inl (.inl hp), q.val h (.int _)⟩
  | _ => cases ef
def maxL : List Int → Int
  | [] => 0
  | [x] => x
  | x :: r => if x < maxL r then maxL r else x
def minL : List Int → Int
  | [] => 0
  | [x] => x
  | x :: r => if minL r < x then minL r else x
theorem maxL_mem : ∀ {l : List Int}, l ≠ [] → maxL l ∈ l
  | [], h => absurd rfl h
  | [x], _ => by simp [maxL]
  | x :: y :: r, _ => by
    show (if x < maxL (y :: r) then maxL (y :: r) else x) ∈ _
    split
    · exact List.mem_cons_of_mem _ (maxL_mem (by simp))
    · simp
theorem maxL_ge : ∀ {l : List Int} {z : Int}, z ∈ l → z ≤ maxL l
  | [x], z, h => by simp at h; subst h; exact Int.le_refl _
  | x :: y :: r, z, h => by
    show z ≤ (if x < maxL (y :: r) then maxL (y :: r) else x)
    rcases List.mem_cons.mp h with rfl | h
    · split <;> omega
    · have := maxL_ge (l := y :: r) h
      split <;> omega
theorem minL_mem : ∀ {l : List Int}, l ≠ [] → minL l ∈ l
  | [], h => absurd rfl h
  | [x], _ => by simp [minL]
  | x :: y :: r, _ => by
    show (if minL (y :: r) < x then minL (y :: r) else x) ∈ _
    split
    · exact List.mem_cons_of_mem _ (minL_mem (by simp))
    · simp
theorem minL_le : ∀ {l : List Int} {z : Int}, z ∈ l → minL l ≤ z
  | [x], z, h => by simp at h; subst h; exact Int.le_refl _
  | x :: y :: r, z, h => by
    show (if minL (y :: r) < x then minL (y :: r) else x) ≤ z
    rcases List.mem_cons.mp h with rfl | h
    · split <;> omega
    · have := minL_le (l := y :: r) h
      split <;> omega
def maxF : PyData → Option Rv
  | .list ds => (ints? ds).bind fun ns => if ns = [] then none else some (.dat (.int (maxL ns)))
  | _ => none
def minF : PyData → Option Rv
  | .list ds => (ints? ds).bind fun ns => if ns = [] then none else some (.dat (.int (minL ns)))
  | _ => none
theorem max_ok {C : Cf} : UnOk C (fun x => rMax C.K [x]) maxF := by
  refine ⟨?_⟩
  intro s H w x d rv h vx ef Q q
  cases d with
  | list ds =>
    have ef : ((ints? ds).bind fun ns => if ns = [] then none else some (Rv.dat (.int (maxL ns)))) = some rv := ef
    cases e : ints? ds with
    | none => rw [e] at ef; cases ef
    | some ns =>
      rw [e] at ef
      have ef : (if ns = [] then none else some (Rv.dat (.int (maxL ns)))) = some rv := ef
      split at ef
      · cases ef
      · rename_i hne
        cases ef
        obtain ⟨p, xs, rfl, hp, r⟩ := vx
        rw [ints?_inv e] at r
        rw [r.ints] at hp
        refine ⟨p, ns, rfl, .inl (.inl hp), List.length_pos_iff.mpr hne, fun m h1 h2 => ?_⟩
        have em : m = maxL ns := by
          have a := h2 _ (maxL_mem hne)
          have b := maxL_ge h1
          omega
        rw [em]
        exact q.val h (.int _)
  | _ => cases ef
theorem min_ok {C : Cf} : UnOk C (fun x => rMin C.K [x]) minF := by
  refine ⟨?_⟩
  intro s H w x d rv h vx ef Q q
  cases d with
  | list ds =>
    have ef : ((ints? ds).bind fun ns => if ns = [] then none else some (Rv.dat (.int (minL ns)))) = some rv := ef
    cases e : ints? ds with
    | none => rw [e] at ef; cases ef
    | some ns =>
      rw [e] at ef
      have ef : (if ns = [] then none else some (Rv.dat (.int (minL ns)))) = some rv := ef
      split at ef
      · cases ef
      · rename_i hne
        cases ef
        obtain ⟨p, xs, rfl, hp, r⟩ := vx
        rw [ints?_inv e] at r
        rw [r.ints] at hp
        refine ⟨p, ns, rfl, .inl (.inl hp), List.length_pos_iff.mpr hne, fun m h1 h2 => ?_⟩
        have em : m = minL ns := by
          have a := h2 _ (minL_mem hne)
          have b := minL_le h1
          omega
        rw [em]
        exact q.val h (.int _)
  | _ => cases ef
def bools? : List PyData → Option (List Bool)
  | [] => some []
  | .bool i :: r => (bools? r).map (i :: ·)
  | _ :: _ => none
theorem bools?_inv : ∀ {ds : List PyData} {ns : List Bool}, bools? ds = some ns → ds = ns.map PyData.bool
  | [], _, h => by cases h; rfl
  | .bool i :: r, ns, h => by
    unfold bools? at h
    cases e : bools? r with
    | none => rw [e] at h; cases h
    | some ms => rw [e] at h; cases h; rw [bools?_inv e]; rfl
  | .none :: _, _, h => by cases h
  | .int _ :: _, _, h => by cases h
  | .str _ :: _, _, h => by cases h
  | .list _ :: _, _, h => by cases h
  | .tuple _ :: _, _, h => by cases h
  | .dict _ :: _, _, h => by cases h
@[simp] theorem bools?_map : ∀ ns : List Bool, bools? (ns.map PyData.bool) = some ns
  | [] => rfl
  | n :: ns => by rw [List.map_cons, bools?, bools?_map ns]; rfl
def allF : PyData → Option Rv
  | .list ds => (bools? ds).map fun ns => .dat (.bool (ns.all id))
  | _ => none
theorem all_ok {C : Cf} : UnOk C (fun x => rAll C.K [x]) allF := by
  refine ⟨?_⟩
  intro s H w x d rv h vx ef Q q
  cases d with
  | list ds =>
    have ef : ((bools? ds).map fun ns => Rv.dat (.bool (ns.all id))) = some rv := ef
    cases e : bools? ds with
    | none => rw [e] at ef; cases ef
    | some ns =>
      rw [e] at ef
      cases ef
      obtain ⟨p, xs, rfl, hp, r⟩ := vx
      rw [bools?_inv e] at r
      rw [r.bools] at hp
      exact ⟨p, ns, rfl, .inl (.inl hp), q.val h (.bl _)⟩
  | _ => cases ef
/-- list(xs), tuple(xs) -/
def listF : PyData → Option Rv
  | .list ds => some (.new (.lst ds))
  | .tuple ds => some (.new (.lst ds))
  | _ => none
def rListA (K : PySem.W.Frag) : List V → Hp → VK → Prop := fun xs H Q => ∃ p ys, xs = [.ref p] ∧ (SqL K H p ys ∨ SqT K H p ys) ∧ ∀ l, H l = none → Q (.ref l) (upd H l (.lst ys))
theorem cr_listA {X : Cx} : CallR X (.type "list") (rListA X.K) := call_list_of
theorem list_ok {C : Cf} : UnOk C (fun x => rListA C.K [x]) listF := by
  refine ⟨?_⟩
  intro s H w x d rv h vx ef Q q
  cases d with
  | list ds =>
    cases ef
    obtain ⟨p, xs, rfl, hp, r⟩ := vx
    exact ⟨p, xs, rfl, .inl (.inl (.inl hp)), fun l hl => q.new h r hl⟩
  | tuple ds =>
    cases ef
    cases vx with
    | tup hp r => exact ⟨_, _, rfl, .inr (h.ex.t hp), fun l hl => q.new h r hl⟩
  | _ => cases ef
def tupleF : PyData → Option Rv
  | .list ds => some (.dat (.tuple ds))
  | .tuple ds => some (.dat (.tuple ds))
  | _ => none
def rTupA (K : PySem.W.Frag) : List V → Hp → VK → Prop := fun xs H Q => ∃ p ys, xs = [.ref p] ∧ ((SqL K H p ys ∧ ∀ l, H l = none → Q (.ref l) (upd H l (.tup ys))) ∨ (SqT K H p ys ∧ Q (.ref p) H))
theorem cr_tupA {X : Cx} : CallR X (.type "tuple") (rTupA X.K) := call_tuple_of
theorem tuple_ok {C : Cf} : UnOk C (fun x => rTupA C.K [x]) tupleF := by
  refine ⟨?_⟩
  intro s H w x d rv h vx ef Q q
  cases d with
  | list ds =>
    cases ef
    obtain ⟨p, xs, rfl, hp, r⟩ := vx
    exact ⟨p, xs, rfl, .inl ⟨.inl (.inl hp), fun l hl => q.tup h r hl⟩⟩
  | tuple ds =>
    cases ef
    cases vx with
    | tup hp r => exact ⟨_, _, rfl, .inr ⟨h.ex.t hp, q.val h (.tup hp r)⟩⟩
  | _ => cases ef
/-! ### of two -/
def max2F : PyData → PyData → Option Rv := intF2 fun i j => some (if j > i then j else i)
def min2F : PyData → PyData → Option Rv := intF2 fun i j => some (if j < i then j else i)
def rMax2A : List V → Hp → VK → Prop := fun xs H Q => ∃ i j, xs = [.int i, .int j] ∧ Q (.int (if j > i then j else i)) H
def rMin2A : List V → Hp → VK → Prop := fun xs H Q => ∃ i j, xs = [.int i, .int j] ∧ Q (.int (if j < i then j else i)) H
theorem cr_max2A {X : Cx} (hc : X.calm = true) : CallR X (.builtin "max") rMax2A := call_max2 hc
theorem cr_min2A {X : Cx} (hc : X.calm = true) : CallR X (.builtin "min") rMin2A := call_min2 hc
theorem max2_ok {C : Cf} : BinOk C (fun x y => rMax2A [x, y]) max2F := by
  refine ⟨?_⟩
  intro s H w x y d e rv h vx vy ef Q q
  unfold max2F intF2 at ef
  split at ef
  · cases ef
    cases vx
    cases vy
    exact ⟨_, _, rfl, q.val h (.int _)⟩
  · cases ef
theorem min2_ok {C : Cf} : BinOk C (fun x y => rMin2A [x, y]) min2F := by
  refine ⟨?_⟩
  intro s H w x y d e rv h vx vy ef Q q
  unfold min2F intF2 at ef
  split at ef
  · cases ef
    cases vx
    cases vy
    exact ⟨_, _, rfl, q.val h (.int _)⟩
  · cases ef
end Cl

set_option Elab.async false
set_option linter.all false
set_option maxRecDepth 100000
set_option maxHeartbeats 4000000
namespace L2
open PySem PySem.Spec PyProof.Rows
theorem tuple_mul1 (l : Addr) (items : Array Value) (n : Nat) (dd : Option Addr) (sl : Array (Option Value)) (x : Int) (u : Tok) (c0 : (decide (x < -(2 ^ 63)) || decide (x ≥ 2 ^ 63)) = false) (c1 : (items.isEmpty || x == 1) = true) :
    Meets (Builtin.«tuple.__mul__» ⟨[.ref l, .int x u], []⟩) (fun _ R s => s.heap.get? l = some { cls := .type "tuple", dict := dd, data := .seq items n, slots := sl } ∧ R (.ok (.ret (.ref l))) s) :=
  .of_wp fun prog w A R s h => by
    obtain ⟨hp, g, d, tk, os⟩ := s
    obtain ⟨hl, h⟩ := h
    have f1 := AutoSeq1.idx_int
    wp_walk using wpAny_loadPart' hl
    repeat (first
      | (refine wpAny_ite_false (decide_eq_false (by rw [c0]; exact Bool.false_ne_true)) ?_; wp_walk using wpAny_loadPart' hl)
      | (refine wpAny_ite_true (decide_eq_true c1) ?_; wp_walk using wpAny_loadPart' hl))
    exact ⟨_, rfl, h⟩
theorem tuple_mul0 (l : Addr) (items : Array Value) (n : Nat) (dd : Option Addr) (sl : Array (Option Value)) (x : Int) (u : Tok) (c0 : (decide (x < -(2 ^ 63)) || decide (x ≥ 2 ^ 63)) = false) (c1 : (items.isEmpty || x == 1) = false) (c2 : (decide (x ≤ 0) || items.isEmpty) = true) :
    Meets (Builtin.«tuple.__mul__» ⟨[.ref l, .int x u], []⟩) (fun _ R s => s.heap.get? l = some { cls := .type "tuple", dict := dd, data := .seq items n, slots := sl } ∧
      R (.ok (.ret (Value.ref s.heap.objs.size))) { s with heap := s.heap.push { cls := Value.type "tuple", data := Data.seq #[] }, toks := s.toks }) :=
  .of_wp fun prog w A R s h => by
    obtain ⟨hp, g, d, tk, os⟩ := s
    obtain ⟨hl, h⟩ := h
    have f1 := AutoSeq1.idx_int
    wp_walk using wpAny_loadPart' hl
    repeat (first
      | (refine wpAny_ite_false (decide_eq_false (by rw [c0]; exact Bool.false_ne_true)) ?_; wp_walk using wpAny_loadPart' hl)
      | (refine wpAny_ite_false (decide_eq_false (by rw [c1]; exact Bool.false_ne_true)) ?_; wp_walk using wpAny_loadPart' hl)
      | (refine wpAny_ite_true (decide_eq_true c2) ?_; wp_walk using wpAny_loadPart' hl))
    exact ⟨_, rfl, h⟩

/-- a tuple times an int, whatever they are -/
def rRepTA (K : PySem.W.Frag) : R2 := fun x y H Q => ∃ l k xs, x = .ref l ∧ y = .int k ∧ SqT K H l xs ∧ -1000 ≤ k ∧ k ≤ 1000 ∧ xs.length ≤ 1000 ∧
  ((xs = [] ∨ k = 1) → Q (.ref l) H) ∧ (¬ (xs = [] ∨ k = 1) → ∀ p, H p = none → Q (.ref p) (upd H p (.tup (List.replicate k.toNat xs).flatten)))
theorem op_repTA {X : Cx} : OpR X (binaryOp .Mult) (rRepTA X.K) := by
  intro pins s σ H x y v u Q I rx ry h
  obtain ⟨l, k, xs, rfl, rfl, hT, h1, h2, hz, q1, q2⟩ := h
  by_cases hc : xs = [] ∨ k = 1
  · have q := q1 hc
    cases rx
    obtain ⟨t, rfl⟩ := ry
    obtain ⟨its, r, ⟨⟨cls, dd, data, sl⟩, ho, hcl, n, hd⟩, hs⟩ := I.tuple hT
    simp only at hcl hd
    subst hcl hd
    have hle : its.length = xs.length := r.length.symm
    have c0 : (decide (k < -(2 ^ 63)) || decide (k ≥ 2 ^ 63)) = false := by
      rw [decide_eq_false (by omega), decide_eq_false (by omega)] <;> rfl
    have c1 : (its.toArray.isEmpty || k == 1) = true := by
      rcases hc with rfl | rfl
      · cases its with
        | nil => rfl
        | cons a b => cases hle
      · simp
    refine wpAny_binaryOp_repeat_ref (T := "tuple") (U := "int") (by decide) ⟨_, ho, rfl⟩ (fun s' => typeIs_int s' k t) noFill_tuple_mul F.fills_int_mul F.slot_int_rmul repeat_tuple F.slot_int_index.lookup
      (call_meets F.slot_int_rmul (typeIs_int s k t) F.entry_int_rmul (F.args_int_rmul_2 _ _) (int_rmul_tuple k t l its.toArray n dd sl)
        ⟨ho, rfl, ⟨_, ho, rfl⟩, call_meets F.slot_tuple_mul ⟨_, ho, rfl⟩ F.entry_tuple_mul (F.args_tuple_mul_2 _ _) (tuple_mul1 l its.toArray n dd sl k t c0 c1) ⟨ho, ?_⟩⟩)
    exact ⟨.ref l, H, I, rfl, q⟩
  · have q := q2 hc
    have hne : xs ≠ [] := fun e => hc (.inl e)
    have hk1 : k ≠ 1 := fun e => hc (.inr e)
    by_cases hk : 2 ≤ k
    · exact op_repT pins s σ H _ _ v u Q I rx ry ⟨l, k, xs, rfl, rfl, hT, hne, hk, h2, hz, q⟩
    · cases rx
      obtain ⟨t, rfl⟩ := ry
      obtain ⟨its, r, ⟨⟨cls, dd, data, sl⟩, ho, hcl, n, hd⟩, hs⟩ := I.tuple hT
      simp only at hcl hd
      subst hcl hd
      have hle : its.length = xs.length := r.length.symm
      have hi : its.toArray.isEmpty = false := by
        cases its with
        | nil => exact absurd (List.eq_nil_of_length_eq_zero hle.symm) hne
        | cons a b => rfl
      have c0 : (decide (k < -(2 ^ 63)) || decide (k ≥ 2 ^ 63)) = false := by
        rw [decide_eq_false (by omega), decide_eq_false (by omega)] <;> rfl
      have c1 : (its.toArray.isEmpty || k == 1) = false := by
        rw [hi, Bool.false_or]
        exact beq_eq_false_iff_ne.mpr hk1
      have c2 : (decide (k ≤ 0) || its.toArray.isEmpty) = true := by
        rw [decide_eq_true (by omega)]; rfl
      refine wpAny_binaryOp_repeat_ref (T := "tuple") (U := "int") (by decide) ⟨_, ho, rfl⟩ (fun s' => typeIs_int s' k t) noFill_tuple_mul F.fills_int_mul F.slot_int_rmul repeat_tuple F.slot_int_index.lookup
        (call_meets F.slot_int_rmul (typeIs_int s k t) F.entry_int_rmul (F.args_int_rmul_2 _ _) (int_rmul_tuple k t l its.toArray n dd sl)
          ⟨ho, rfl, ⟨_, ho, rfl⟩, call_meets F.slot_tuple_mul ⟨_, ho, rfl⟩ F.entry_tuple_mul (F.args_tuple_mul_2 _ _) (tuple_mul0 l its.toArray n dd sl k t c0 c1 c2) ⟨ho, ?_⟩⟩)
      have e0 : (List.replicate k.toNat xs).flatten = [] := by
        rw [show k.toNat = 0 by omega]; rfl
      rw [e0] at q
      refine ⟨.ref s.heap.objs.size, _, I.laid (t' := s.toks) (o := .tup []) (fun b ob q => Heap.get?_push_of_some _ q) (Nat.le_refl _) ?_, rfl, q _ (I.hok.fresh (Nat.le_refl _))⟩
      exact ⟨Nat.zero_le _, [], .nil, IsTup.new _ _⟩
end L2
namespace Cl
open PySem L2 PySem.Spec PyProof.Rows
def rMulA (K : PySem.W.Frag) : R2 := fun x y H Q => (rI CMul fun i j => .int (i * j)) x y H Q ∨ rRep x y H Q ∨ rRepTA K x y H Q
theorem op_mulA {X : Cx} : OpR X (binaryOp .Mult) (rMulA X.K) := op_mul.or (op_rep.or op_repTA)
theorem mul_ok {C : Cf} : BinOk C (rMulA C.K) mulF := by
  refine ⟨?_⟩
  intro s H w x y d e rv h vx vy ef Q q
  unfold mulF at ef
  split at ef
  · split at ef
    · rename_i hm
      cases ef
      cases vx
      cases vy
      refine .inl ⟨_, _, rfl, rfl, ?_, q.val h (.int _)⟩
      unfold mulC at hm
      simp only [Bool.or_eq_true, Bool.and_eq_true, decide_eq_true_eq] at hm
      exact hm
    · cases ef
  · rename_i a k
    split at ef
    · rename_i hk
      cases ef
      obtain ⟨p, xs, rfl, hp, r⟩ := vx
      cases vy
      refine .inr (.inl ⟨p, _, xs, rfl, rfl, hp, by omega, by omega, ?_, fun u hu => q.new h (r.rep _) hu⟩)
      rw [r.length, sizeLine_eq]
      have := Nat.mul_le_mul hk.2.2 (show k.toNat ≤ 1000 by omega)
      omega
    · cases ef
  · rename_i a k
    split at ef
    · rename_i hk
      cases ef
      cases vx with
      | tup hp r =>
        cases vy
        refine .inr (.inr ⟨_, _, _, rfl, rfl, h.ex.t hp, hk.2.1, hk.1, by rw [r.length]; exact hk.2.2, fun hc => ?_, fun hc u hu => q.tup h (r.rep _) hu⟩)
        have e0 : (List.replicate k.toNat a).flatten = a := by
          rcases hc with rfl | rfl
          · cases r
            simp
          · show ([a] : List (List PyData)).flatten = a
            simp
        rw [e0] at q
        exact q.val h (.tup hp r)
    · cases ef
  · cases ef
end Cl

set_option Elab.async false
set_option linter.all false
set_option maxRecDepth 100000
set_option maxHeartbeats 4000000
namespace Cl
open PySem L2 PySem.Spec PyProof.Rows

/-! ### several values at once: a, b = e, f -/
theorem RvR.le {K : PySem.W.Frag} {Hs : Hp} {s s' : Sh} {H H' : Hp} {σ : L2.St} {Γ : Ev} {v : V} (l : Le s H s' H') : ∀ {r : Rv}, RvR K Hs s H σ Γ v r → RvR K Hs s' H' σ Γ v r
  | .dat d, h => Rp.mono l.h0 h
  | .new ds, h => by
    obtain ⟨p, xs, e, n, h1, h2, h3, r⟩ := h
    exact ⟨p, xs, e, n, l.fr p _ h1 h3, l.nf p _ h1 r.nt h2, l.nw p _ h1 h3, r.mono l.h0⟩
  | .bor i ds, h => h
  | .hd n, h => by
    obtain ⟨a, h1, e⟩ := h
    obtain ⟨m, em⟩ := l.ad
    exact ⟨a, by rw [em, List.getElem?_append_left (List.getElem?_eq_some_iff.mp h1).1]; exact h1, e⟩
theorem RvR.start {K : PySem.W.Frag} {s0 s1 s : Sh} {H0 H1 H : Hp} {σ : L2.St} {Γ : Ev} {v : V} {r : Rv} (l : Le s0 H0 s1 H1) (h : RvR K H1 s H σ Γ v r) : RvR K H0 s H σ Γ v r := by
  cases r with
  | dat d => exact h
  | new ds =>
    obtain ⟨p, xs, e, n, r⟩ := h
    exact ⟨p, xs, e, l.none0 n, r⟩
  | bor i ds => exact h
  | hd n => exact h
inductive RvL (K : PySem.W.Frag) (Hs : Hp) (s : Sh) (H : Hp) (σ : L2.St) (Γ : Ev) : List V → List Rv → Prop
  | nil : RvL K Hs s H σ Γ [] []
  | cons {v : V} {r : Rv} {vs : List V} {rs : List Rv} : RvR K Hs s H σ Γ v r → RvL K Hs s H σ Γ vs rs → (∀ (p : Addr) (ds : Ob), r = .new ds → v = .ref p → ∀ u ∈ vs.zip rs, ∀ es, u.2 = .new es → u.1 ≠ .ref p) → RvL K Hs s H σ Γ (v :: vs) (r :: rs)
structure SM (C : Cf) where
  t : TA
  ev : Ev → C.T → Option (Rs C.T (List Rv))
  ok : ∀ {sE : Sh} {HE : Hp} {s : Sh} {H : Hp} {σ : L2.St} {Γ : Ev} {w : C.T} {res : Rs C.T (List Rv)}, Sl C.K sE HE s H σ Γ → HO' C.K C.Wd s H w → ev Γ w = some res →
    ∀ Q : List V → Hp → Prop, Post C s H res (fun rs s' H' => ∀ vs, RvL C.K H s' H' σ Γ vs rs → Q vs H') → t σ H Q
def CM {C : Cf} (X : Cx) (es : List Expr) (a : SM C) : Prop := PA X es a.t
def SM.nil {C : Cf} : SM C where
  t := tNil
  ev := fun _ w => some (.ok [] w)
  ok := by
    intro sE HE s H σ Γ w res S h e Q q
    cases e
    exact q s H (Le.refl _ _) h [] .nil
theorem RvL.start {K : PySem.W.Frag} {s0 s1 s : Sh} {H0 H1 H : Hp} {σ : L2.St} {Γ : Ev} (l : Le s0 H0 s1 H1) : ∀ {vs : List V} {rs : List Rv}, RvL K H1 s H σ Γ vs rs → RvL K H0 s H σ Γ vs rs
  | _, _, .nil => .nil
  | _, _, .cons h r d => .cons (h.start l) (r.start l) d
theorem RvL.fresh {K : PySem.W.Frag} {s : Sh} {Hs H : Hp} {σ : L2.St} {Γ : Ev} {p : Addr} {o : HO} (hp : Hs p = some o) : ∀ {vs : List V} {rs : List Rv}, RvL K Hs s H σ Γ vs rs → ∀ u ∈ vs.zip rs, ∀ es, u.2 = .new es → u.1 ≠ .ref p
  | _, _, .nil => fun u hu => by cases hu
  | _, _, .cons (v := v) (r := r) h t d => fun u hu es e a => by
    rcases List.mem_cons.mp hu with rfl | hu
    · have e : r = .new es := e
      have a : v = .ref p := a
      subst e
      subst a
      obtain ⟨q, xs, e, n, _⟩ := h
      cases e
      rw [hp] at n; cases n
    · exact t.fresh hp u hu es e a
def SM.cons {C : Cf} (a : SE C) (b : SM C) : SM C where
  t := tCons a.t b.t
  ev := fun Γ w => bindR (a.ev Γ w) fun x w1 => bindR (b.ev Γ w1) fun xs w2 => some (.ok (x :: xs) w2)
  ok := by
    intro sE HE s H σ Γ w res S h e Q q
    rcases bindR_cases e with ⟨x, w1, e1, e2⟩ | ⟨x, w1, e1, rfl⟩
    · refine a.ok S h e1 _ fun s1 H1 l1 h1 v1 z1 => ?_
      rcases bindR_cases e2 with ⟨y, w2, e3, e4⟩ | ⟨y, w2, e3, rfl⟩
      · refine b.ok (S.le l1) h1 e3 _ fun s2 H2 l2 h2 v2 z2 => ?_
        cases e4
        refine q s2 H2 (l1.trans l2) h2 _ (.cons (z1.le l2) (z2.start l1) fun p ds er ev => ?_)
        subst er
        subst ev
        obtain ⟨p', xs, ep, n, hp, _⟩ := z1
        cases ep
        exact z2.fresh hp
      · exact b.ok (S.le l1) h1 e3 _ (q.ex.le l1)
    · exact a.ok S h e1 _ q.ex
def putE : List Nat → List Rv → Ev → Option Ev
  | [], [], Γ => some Γ
  | i :: is, r :: rs, Γ => if i < Γ.length then r.sv.bind fun x => putE is rs (Γ.set i (some x)) else none
  | _, _, _ => none
def putS : List Nat → List V → L2.St → L2.St
  | i :: is, v :: vs, σ => putS is vs (σ.set i (some v))
  | _, _, σ => σ
theorem putE_len : ∀ {is : List Nat} {rs : List Rv} {Γ Γ' : Ev}, putE is rs Γ = some Γ' → is.length = rs.length
  | [], [], _, _, _ => rfl
  | i :: is, r :: rs, Γ, Γ', h => by
    unfold putE at h
    split at h
    · cases e : r.sv with
      | none => rw [e] at h; cases h
      | some x =>
        rw [e] at h
        have h : putE is rs (Γ.set i (some x)) = some Γ' := h
        rw [List.length_cons, List.length_cons, putE_len h]
    · cases h
  | [], _ :: _, _, _, h => by cases h
  | _ :: _, [], _, _, h => by cases h
theorem RvL.length {K : PySem.W.Frag} {Hs : Hp} {s : Sh} {H : Hp} {σ : L2.St} {Γ : Ev} : ∀ {vs : List V} {rs : List Rv}, RvL K Hs s H σ Γ vs rs → vs.length = rs.length
  | _, _, .nil => rfl
  | _, _, .cons _ r _ => by rw [List.length_cons, List.length_cons, r.length]
/-- stored one after the other -/
theorem Sl.puts {K : PySem.W.Frag} {sE s : Sh} {HE Hs H : Hp} {σ0 : L2.St} {Γ0 : Ev} (dom : ∀ a o, HE a = some o → ∃ o', Hs a = some o') : ∀ {is : List Nat} {vs : List V} {rs : List Rv} {σ : L2.St} {Γ Γ' : Ev}, Sl K sE HE s H σ Γ → RvL K Hs s H σ0 Γ0 vs rs →
    (∀ u ∈ vs.zip rs, ∀ es p, u.2 = .new es → u.1 = .ref p → ∀ (j : Nat) (ds : Ob), Γ[j]? = some (some (.own ds)) → σ[j]? ≠ some (some (.ref p))) → putE is rs Γ = some Γ' → Sl K sE HE s H (putS is vs σ) Γ'
  | [], _, _, σ, Γ, Γ', S, .nil, _, e => by cases e; exact S
  | [], _, _, σ, Γ, Γ', S, .cons _ _ _, _, e => by cases e
  | i :: is, _, _, σ, Γ, Γ', S, .nil, _, e => by cases e
  | i :: is, _, _, σ, Γ, Γ', S, .cons (v := v) (r := r) (vs := vs) (rs := rs) h t d, ap, e => by
    unfold putE at e
    split at e
    · rename_i hi
      cases e1 : r.sv with
      | none => rw [e1] at e; cases e
      | some x =>
        rw [e1] at e
        have e : putE is rs (Γ.set i (some x)) = some Γ' := e
        have hx : SvR K HE s H v x := by
          cases r with
          | dat d => cases e1; exact h
          | hd d => cases e1; exact h
          | bor i ds => cases e1
          | new ds =>
            cases e1
            obtain ⟨p, xs, rfl, n, h1, h2, h3, r⟩ := h
            refine ⟨p, xs, rfl, h1, h2, h3, ?_, r⟩
            cases q : HE p with
            | none => rfl
            | some o =>
              obtain ⟨o', q'⟩ := dom p o q
              rw [n] at q'; cases q'
        have S1 := S.put hi hx fun es p ex ev j ds _ g => by
          subst ex
          have er : r = .new es := by
            cases r with
            | new ds => cases e1; rfl
            | dat d => cases e1
            | hd d => cases e1
            | bor i ds => cases e1
          exact ap (v, r) (by simp) es p er ev j ds g
        refine S1.puts dom t (fun u hu es p eu ev j ds g => ?_) e
        have hi' : i < σ.length := by rw [← S.len]; exact hi
        by_cases hj : i = j
        · subst hj
          rw [List.getElem?_set_self hi] at g
          rw [List.getElem?_set_self hi']
          intro z
          have g : x = .own ds := by cases g; rfl
          have z : v = .ref p := by cases z; rfl
          subst g
          have er : r = .new ds := by
            cases r with
            | new ds' => cases e1; rfl
            | dat d => cases e1
            | hd d => cases e1
            | bor i ds => cases e1
          exact d p ds er z u hu es eu ev
        · rw [List.getElem?_set_ne hj] at g
          rw [List.getElem?_set_ne hj]
          exact ap u (List.mem_cons_of_mem _ hu) es p eu ev j ds g
    · cases e
section
variable {C : Cf} {sE s s1 : Sh} {HE H H1 : Hp} {σ : L2.St} {Γ Γ' : Ev} {vs : List V} {rs : List Rv} {is : List Nat}
theorem Sl.putM (S : Sl C.K sE HE s H σ Γ) (l : Le s H s1 H1) (z : RvL C.K H s1 H1 σ Γ vs rs) (e : putE is rs Γ = some Γ') : Sl C.K sE HE s1 H1 (putS is vs σ) Γ' := by
  refine (S.le l).puts (fun a o h => let ⟨o2, h2, _⟩ := S.en.dom a o h; ⟨o2, h2⟩) z (fun u hu es p eu ev j ds g b => ?_) e
  obtain ⟨v', hv', q, xs, rfl, h1, _⟩ := S.sl j _ g
  rw [b] at hv'; cases hv'
  exact z.fresh h1 u hu es eu ev
end
def SS.par2 {C : Cf} (i j : Nat) (a : SM C) : SS C where
  t := tPar i j a.t
  ev := fun Γ w => bindF (a.ev Γ w) fun rs w1 => (putE [i, j] rs Γ).map fun Γ' => .nx Γ' w1
  ok := by
    intro sE HE s H σ Γ w fl S h e D q
    rcases bindF_cases e with ⟨rs, w1, e1, e2⟩ | ⟨x, w1, e1, rfl⟩
    · refine a.ok S h e1 _ fun s1 H1 l1 h1 vs z => ?_
      cases e3 : putE [i, j] rs Γ with
      | none => rw [e3] at e2; cases e2
      | some Γ' =>
        rw [e3] at e2; cases e2
        have S1 := S.putM l1 z e3
        have hl : vs.length = 2 := by rw [z.length, ← putE_len e3]; rfl
        match vs, hl, S1 with
        | [v, u], _, S1 => exact ⟨v, u, rfl, q s1 H1 _ l1.h0 S1 h1⟩
    · exact a.ok S h e1 _ (exS S q)
def SS.par3 {C : Cf} (i j k : Nat) (a : SM C) : SS C where
  t := tPar3 i j k a.t
  ev := fun Γ w => bindF (a.ev Γ w) fun rs w1 => (putE [i, j, k] rs Γ).map fun Γ' => .nx Γ' w1
  ok := by
    intro sE HE s H σ Γ w fl S h e D q
    rcases bindF_cases e with ⟨rs, w1, e1, e2⟩ | ⟨x, w1, e1, rfl⟩
    · refine a.ok S h e1 _ fun s1 H1 l1 h1 vs z => ?_
      cases e3 : putE [i, j, k] rs Γ with
      | none => rw [e3] at e2; cases e2
      | some Γ' =>
        rw [e3] at e2; cases e2
        have S1 := S.putM l1 z e3
        have hl : vs.length = 3 := by rw [z.length, ← putE_len e3]; rfl
        match vs, hl, S1 with
        | [v, u, y], _, S1 => exact ⟨v, u, y, rfl, q s1 H1 _ l1.h0 S1 h1⟩
    · exact a.ok S h e1 _ (exS S q)
def gNames : List Nat → TGs
  | [] => gNil
  | i :: is => gCons (gName i) (gNames is)
theorem gNames_run {Q : L2.St → Hp → Prop} : ∀ {is : List Nat} {vs : List V} {σ : L2.St} {H : Hp}, is.length = vs.length → Q (putS is vs σ) H → gNames is vs σ H Q
  | [], [], σ, H, _, q => ⟨rfl, q⟩
  | i :: is, v :: vs, σ, H, e, q => ⟨v, vs, rfl, gNames_run (by simpa using e) q⟩
/-- a, b, .. = (e, f, ..) by a tuple -/
def SS.parT {C : Cf} (is : List Nat) (a : SM C) : SS C where
  t := tAsg (tTup a.t) (gTup C.K is.length (gNames is))
  ev := fun Γ w => if is.length ≤ 1000 then bindF (a.ev Γ w) fun rs w1 => (putE is rs Γ).map fun Γ' => .nx Γ' w1 else none
  ok := by
    intro sE HE s H σ Γ w fl S h e D q
    split at e
    · rename_i hlen
      rcases bindF_cases e with ⟨rs, w1, e1, e2⟩ | ⟨x, w1, e1, rfl⟩
      · refine a.ok S h e1 _ fun s1 H1 l1 h1 vs z => ?_
        cases e3 : putE is rs Γ with
        | none => rw [e3] at e2; cases e2
        | some Γ' =>
          rw [e3] at e2; cases e2
          have hl : is.length = vs.length := by rw [z.length, ← putE_len e3]
          refine ⟨by rw [← hl]; exact Nat.le_trans hlen (by decide), fun p hp => ?_⟩
          refine ⟨p, vs, rfl, .inl (.inl upd_same), hl.symm, gNames_run hl ?_⟩
          have S1 := S.putM l1 z e3
          exact q s1 _ _ l1.h0 (S1.le (Le.new hp)) (h1.new hp)
      · exact a.ok S h e1 _ (exS S q)
    · cases e

/-! ### a def -/
def Av.sv : Av → Sv
  | .dat d => .dat d
  | .hd n => .hd n
def startE (n : Nat) (as : List Av) : Ev := as.map (fun a => some a.sv) ++ List.replicate (n - as.length) none
theorem AvA.get {K : PySem.W.Frag} {s : Sh} : ∀ {vs : List V} {as : List Av} {i : Nat} {a : Av}, AvA K s vs as → as[i]? = some a → ∃ v, vs[i]? = some v ∧ AvR K s v a
  | _, _, _, _, .nil, e => by simp at e
  | _, _, 0, _, .cons h _, e => by simp at e; subst e; exact ⟨_, rfl, h⟩
  | _, _, i + 1, _, .cons _ r, e => by
    obtain ⟨v, h1, h2⟩ := r.get (i := i) (by simpa using e)
    exact ⟨v, by simpa using h1, h2⟩
theorem startE_get {n i : Nat} {as : List Av} {x : Sv} (h : (startE n as)[i]? = some (some x)) : ∃ a, as[i]? = some a ∧ a.sv = x := by
  unfold startE at h
  by_cases hi : i < as.length
  · rw [List.getElem?_append_left (by simpa using hi), List.getElem?_map] at h
    cases e : as[i]? with
    | none => rw [e] at h; cases h
    | some a => rw [e] at h; cases h; exact ⟨a, rfl, rfl⟩
  · rw [List.getElem?_append_right (by simpa using hi), List.getElem?_replicate] at h
    split at h <;> cases h
theorem Sl.start {K : PySem.W.Frag} {s : Sh} {H : Hp} {N : List Str} {vs : List V} {as : List Av} (r : AvA K s vs as) : Sl K s H s H (L2.start N vs) (startE N.length as) := by
  have own : ∀ (i : Nat) (ds : Ob), (startE N.length as)[i]? ≠ some (some (.own ds)) := fun i ds h => by
    obtain ⟨a, _, e⟩ := startE_get h
    cases a <;> cases e
  refine ⟨Le.refl _ _, ?_, fun i x h => ?_, fun i j p ds es _ h => absurd h (own i ds)⟩
  · unfold startE L2.start
    simp [r.length]
  · obtain ⟨a, ha, rfl⟩ := startE_get h
    obtain ⟨v, hv, ra⟩ := r.get ha
    refine ⟨v, ?_, ?_⟩
    · unfold L2.start
      have hi : i < vs.length := (List.getElem?_eq_some_iff.mp hv).1
      rw [List.getElem?_append_left (by simpa using hi), List.getElem?_map, hv]
      rfl
    · cases a with
      | dat d => exact ra
      | hd n => exact ra
def outF {T : Type} : Option (Fl T) → Option (Rs T Rv)
  | some (.rt r w) => some (.ok r w)
  | some (.nx _ w) => some (.ok (.dat .none) w)
  | _ => none
@[simp] theorem outF_rt {T : Type} {r : Rv} {w : T} : outF (some (.rt r w)) = some (.ok r w) := rfl
@[simp] theorem outF_nx {T : Type} {Γ : Ev} {w : T} : outF (some (.nx Γ w)) = some (.ok (.dat .none) w) := rfl
/-- what a def computes -/
def runF {C : Cf} (n : Nat) (b : SS C) : PF C.Wd := fun as w => outF (b.ev (startE n as) w)
structure Fn (P : Program) (w : PySem.World) (K : PySem.W.Frag) (mg : Str → Option Value) (base : Heap) (Wd : World) (k : Nat) (x : Str) (n : Nat) (g : PF Wd) : Prop where
  ex : ∃ (f : Addr) (fd : FuncData) (ps : List Str), FnOk P w K mg base CX0 k f fd ps (spF K mg Wd n g) ∧ mg x = some (.ref f) ∧ PySem.W.keepIn K (.ref f) = true ∧ Binds K fd ps []
section
variable {P : Program} {w : PySem.World} {K : PySem.W.Frag} {mg : Str → Option Value} {base : Heap} {Wd : World}
theorem fnOk {x qual : Str} {st : Stmt} {f : Addr} {fd : FuncData} {N ps : List Str} {k : Nat} (F : Fun K x qual st f fd) (S : FnScope N ps (defScope st)) (body : SS ⟨K, mg, Wd, E0⟩)
    (hb : ∀ (cdv : Value) (A : Around) (outer : List Env) (s : Shared) (H : Hp) (E : XK), Room k (A.deeper (envOfC qual (defScope st) s.heap.objs.size f cdv)) →
      CSs (cxOf CX0 P w K mg base N qual (defScope st) f cdv A outer s H E).nox (defBody st) body) :
    FnOk P w K mg base CX0 (k + 1) f fd ps (spF K mg Wd ps.length (runF N.length body)) := by
  refine F.ok S (fun vs H Q E h => h.1) (fun cdv A outer s H vs Q E hr h => ⟨_, hb cdv A outer s H E hr, ?_⟩)
  obtain ⟨hl, s0, as, w0, res, h0, ra, eg, q⟩ := h
  have eg : outF (body.ev (startE N.length as) w0) = some res := eg
  cases e : body.ev (startE N.length as) w0 with
  | none => rw [e] at eg; cases eg
  | some fl =>
    rw [e] at eg
    refine body.ok (Sl.start ra) h0 e _ ?_
    cases fl with
    | nx Γ' w' =>
      cases eg
      exact fun s' H' σ' x S' h' => q s' H' S'.en h' .non .non
    | rt r w' =>
      cases eg
      exact fun v s' H' l h' r' => q s' H' l h' v r'
    | bk Γ' w' => cases eg
    | ct Γ' w' => cases eg
    | ex x w' => cases eg
theorem Fn.mono {k j : Nat} {x : Str} {n : Nat} {g : PF Wd} (h : Fn P w K mg base Wd k x n g) (hk : k ≤ j) : Fn P w K mg base Wd j x n g := by
  obtain ⟨f, fd, ps, h1, h2⟩ := h.ex
  exact ⟨f, fd, ps, h1.mono hk, h2⟩
end
end Cl

set_option Elab.async false
set_option linter.all false
set_option maxRecDepth 100000
set_option maxHeartbeats 4000000
namespace Cl
open PySem L2 PySem.Spec PyProof.Rows

/-- built-in names that the module leaves alone -/
structure Bts (mg : Str → Option Value) : Prop where
  len : mg "len" = none
  range : mg "range" = none
  abs : mg "abs" = none
  int : mg "int" = none
  sum : mg "sum" = none
  min : mg "min" = none
  max : mg "max" = none
  all : mg "all" = none
  list : mg "list" = none
  tuple : mg "tuple" = none
  sorted : mg "sorted" = none
  isinstance : mg "isinstance" = none
  zip : mg "zip" = none
  enumerate : mg "enumerate" = none
  str : mg "str" = none
  bool : mg "bool" = none
theorem bt_abs : bootBuiltins "abs" = some (.builtin "abs") := by decide +kernel
theorem bt_int : bootBuiltins "int" = some (.type "int") := by decide +kernel
theorem bt_sum : bootBuiltins "sum" = some (.builtin "sum") := by decide +kernel
theorem bt_min : bootBuiltins "min" = some (.builtin "min") := by decide +kernel
theorem bt_max : bootBuiltins "max" = some (.builtin "max") := by decide +kernel
theorem bt_all : bootBuiltins "all" = some (.builtin "all") := by decide +kernel
theorem bt_list : bootBuiltins "list" = some (.type "list") := by decide +kernel
theorem bt_tuple : bootBuiltins "tuple" = some (.type "tuple") := by decide +kernel
theorem bt_len : bootBuiltins "len" = some (.builtin "len") := by decide +kernel

abbrev cf (X : Cx) (Wd : World) : Cf := ⟨X.K, X.mg, Wd, E0⟩

section
variable {C : Cf}
@[simp] abbrev SE.add (a b : SE C) : SE C := .bin (rAddA C.K) addF add_ok a b
@[simp] abbrev SE.sub (a b : SE C) : SE C := .bin rSubA subF sub_ok a b
@[simp] abbrev SE.mul (a b : SE C) : SE C := .bin (rMulA C.K) mulF mul_ok a b
@[simp] abbrev SE.fdiv (a b : SE C) : SE C := .bin (rI CDiv fun i j => .int (i / j)) fdivF fdiv_ok a b
@[simp] abbrev SE.mod (a b : SE C) : SE C := .bin (rI (fun _ j => 0 < j) fun i j => .int (i % j)) modF mod_ok a b
@[simp] abbrev SE.pow (a b : SE C) : SE C := .bin (rI CPow fun i j => .int (i ^ j.toNat)) powF pow_ok a b
@[simp] abbrev SE.lt (a b : SE C) : SE C := .bin (rI0 fun i j => .bl (decide (i < j))) ltF cmp_ok a b
@[simp] abbrev SE.le (a b : SE C) : SE C := .bin (rI0 fun i j => .bl (decide (i ≤ j))) leF cmp_ok a b
@[simp] abbrev SE.gt (a b : SE C) : SE C := .bin (rI0 fun i j => .bl (decide (j < i))) gtF cmp_ok a b
@[simp] abbrev SE.ge (a b : SE C) : SE C := .bin (rI0 fun i j => .bl (decide (j ≤ i))) geF cmp_ok a b
@[simp] abbrev SE.eq (a b : SE C) : SE C := .bin (rEqA C.K false) (eqF false) eq_ok a b
@[simp] abbrev SE.ne (a b : SE C) : SE C := .bin (rEqA C.K true) (eqF true) eq_ok a b
@[simp] abbrev SE.is (a b : SE C) : SE C := .bin (rIsA false) (isF false) is_ok a b
@[simp] abbrev SE.isn (a b : SE C) : SE C := .bin (rIsA true) (isF true) is_ok a b
@[simp] abbrev SE.inn (a b : SE C) : SE C := .bin (rIn C.K false) (inF false) in_ok a b
@[simp] abbrev SE.nin (a b : SE C) : SE C := .bin (rIn C.K true) (inF true) in_ok a b
@[simp] abbrev SE.ix (a b : SE C) : SE C := .bin (rIxA C.K) ixF ix_ok a b
@[simp] abbrev SE.neg (a : SE C) : SE C := .un (rU fun i => .int (-i)) negF neg_ok a
@[simp] abbrev SE.len (a : SE C) : SE C := .cb1 (rLenA C.K) lenF len_ok a
@[simp] abbrev SE.abs (a : SE C) : SE C := .cb1 rAbsA absF abs_ok a
@[simp] abbrev SE.toInt (a : SE C) : SE C := .cb1 rToIntA toIntF toInt_ok a
@[simp] abbrev SE.sum (a : SE C) : SE C := .cb1 (rSum C.K) sumF sum_ok a
@[simp] abbrev SE.max (a : SE C) : SE C := .cb1 (rMax C.K) maxF max_ok a
@[simp] abbrev SE.min (a : SE C) : SE C := .cb1 (rMin C.K) minF min_ok a
@[simp] abbrev SE.all (a : SE C) : SE C := .cb1 (rAll C.K) allF all_ok a
@[simp] abbrev SE.list (a : SE C) : SE C := .cb1 (rListA C.K) listF list_ok a
@[simp] abbrev SE.tuple (a : SE C) : SE C := .cb1 (rTupA C.K) tupleF tuple_ok a
@[simp] abbrev SE.max2 (a b : SE C) : SE C := .cb2 rMax2A max2F max2_ok a b
@[simp] abbrev SE.min2 (a b : SE C) : SE C := .cb2 rMin2A min2F min2_ok a b
end

section
variable {X : Cx} {Wd : World} {a b c : Expr} {sa sb sc : SE (cf X Wd)} {ta tb : ST (cf X Wd)} {pos : Pos}
theorem ce_var {C : Cf} (i : Nat) {x : Str} (hN : X.N[i]? = some x := by rfl) (hv : Vis X.env.scope x := by first | exact Or.inl rfl | exact Or.inr (Or.inl rfl) | exact Or.inr (Or.inr rfl)) (hd : (x == ("__debug__" : Str)) = false := by decide)
    (hcd : (x == ("__classdict__" : Str)) = false := by decide) : CE X (.Name x pos) (SE.var (C := C) i) := pe_var hN hv hd hcd
theorem ce_int {C : Cf} {i : Int} {j} : CE X (.Constant (.int i) j pos) (SE.int (C := C) i) := pe_int
theorem ce_bl {C : Cf} {i : Bool} {j} : CE X (.Constant (.bool i) j pos) (SE.bl (C := C) i) := pe_bl
theorem ce_non {C : Cf} {j} : CE X (.Constant .none j pos) (SE.non (C := C)) := pe_non
theorem ce_str {C : Cf} {i : Str} {j} : CE X (.Constant (.str i) j pos) (SE.str (C := C) i) := pe_str
theorem ce_glob {C : Cf} {x : Str} {v : V} {d : PyData} {u : Value} {hr : ∀ H, Rp C.K H v d} (hm : X.mg x = some u) (r : RelV v u) (hg : Gl X x := by rfl) (hd : (x == ("__debug__" : Str)) = false := by decide) : CE X (.Name x pos) (SE.con (C := C) v d hr) := pe_glob hg hm r hd
theorem ce_add (ha : CE X a sa) (hb : CE X b sb) : CE X (.BinOp a .Add b pos) (SE.add sa sb) := pe_op op_addA ha hb
theorem ce_sub (ha : CE X a sa) (hb : CE X b sb) : CE X (.BinOp a .Sub b pos) (SE.sub sa sb) := pe_op op_subA ha hb
theorem ce_mul (ha : CE X a sa) (hb : CE X b sb) : CE X (.BinOp a .Mult b pos) (SE.mul sa sb) := pe_op op_mulA ha hb
theorem ce_fdiv (ha : CE X a sa) (hb : CE X b sb) : CE X (.BinOp a .FloorDiv b pos) (SE.fdiv sa sb) := pe_op op_fdiv ha hb
theorem ce_mod (ha : CE X a sa) (hb : CE X b sb) : CE X (.BinOp a .Mod b pos) (SE.mod sa sb) := pe_op op_mod ha hb
theorem ce_pow (ha : CE X a sa) (hb : CE X b sb) : CE X (.BinOp a .Pow b pos) (SE.pow sa sb) := pe_op op_pow ha hb
theorem ce_lt (ha : CE X a sa) (hb : CE X b sb) : CE X (.Compare a [.Lt] [b] pos) (SE.lt sa sb) := pe_cmpR op_lt ha hb (nomark _)
theorem ce_le (ha : CE X a sa) (hb : CE X b sb) : CE X (.Compare a [.LtE] [b] pos) (SE.le sa sb) := pe_cmpR op_le ha hb (nomark _)
theorem ce_gt (ha : CE X a sa) (hb : CE X b sb) : CE X (.Compare a [.Gt] [b] pos) (SE.gt sa sb) := pe_cmpR op_gt ha hb (nomark _)
theorem ce_ge (ha : CE X a sa) (hb : CE X b sb) : CE X (.Compare a [.GtE] [b] pos) (SE.ge sa sb) := pe_cmpR op_ge ha hb (nomark _)
theorem ce_eq {k : Nat} (hr : Room k X.A) (ha : CE X a sa) (hb : CE X b sb) : CE X (.Compare a [.Eq] [b] pos) (SE.eq sa sb) := pe_cmpR (op_eqA hr.units) ha hb (nomark _)
theorem ce_ne {k : Nat} (hr : Room k X.A) (ha : CE X a sa) (hb : CE X b sb) : CE X (.Compare a [.NotEq] [b] pos) (SE.ne sa sb) := pe_cmpR (op_neA hr.units) ha hb (nomark _)
theorem ce_is (ha : CE X a sa) (hb : CE X b sb) : CE X (.Compare a [.Is] [b] pos) (SE.is sa sb) := pe_cmpR op_isA ha hb (nomark _)
theorem ce_isn (ha : CE X a sa) (hb : CE X b sb) : CE X (.Compare a [.IsNot] [b] pos) (SE.isn sa sb) := pe_cmpR op_notA ha hb (nomark _)
theorem ce_inn (ha : CE X a sa) (hb : CE X b sb) (hm : behindInMarks .In b = false := by rfl) : CE X (.Compare a [.In] [b] pos) (SE.inn sa sb) := pe_cmpR op_in_seq ha hb hm
theorem ce_nin (ha : CE X a sa) (hb : CE X b sb) (hm : behindInMarks .NotIn b = false := by rfl) : CE X (.Compare a [.NotIn] [b] pos) (SE.nin sa sb) := pe_cmpR op_notIn_seq ha hb hm
theorem ct_lt (ha : CE X a sa) (hb : CE X b sb) : CT X (.Compare a [.Lt] [b] pos) (ST.of (SE.lt sa sb)) := pt_cmpR op_lt ha hb (nomark _)
theorem ct_le (ha : CE X a sa) (hb : CE X b sb) : CT X (.Compare a [.LtE] [b] pos) (ST.of (SE.le sa sb)) := pt_cmpR op_le ha hb (nomark _)
theorem ct_gt (ha : CE X a sa) (hb : CE X b sb) : CT X (.Compare a [.Gt] [b] pos) (ST.of (SE.gt sa sb)) := pt_cmpR op_gt ha hb (nomark _)
theorem ct_ge (ha : CE X a sa) (hb : CE X b sb) : CT X (.Compare a [.GtE] [b] pos) (ST.of (SE.ge sa sb)) := pt_cmpR op_ge ha hb (nomark _)
theorem ct_eq {k : Nat} (hr : Room k X.A) (ha : CE X a sa) (hb : CE X b sb) : CT X (.Compare a [.Eq] [b] pos) (ST.of (SE.eq sa sb)) := pt_cmpR (op_eqA hr.units) ha hb (nomark _)
theorem ct_ne {k : Nat} (hr : Room k X.A) (ha : CE X a sa) (hb : CE X b sb) : CT X (.Compare a [.NotEq] [b] pos) (ST.of (SE.ne sa sb)) := pt_cmpR (op_neA hr.units) ha hb (nomark _)
theorem ct_is (ha : CE X a sa) (hb : CE X b sb) : CT X (.Compare a [.Is] [b] pos) (ST.of (SE.is sa sb)) := pt_cmpR op_isA ha hb (nomark _)
theorem ct_isn (ha : CE X a sa) (hb : CE X b sb) : CT X (.Compare a [.IsNot] [b] pos) (ST.of (SE.isn sa sb)) := pt_cmpR op_notA ha hb (nomark _)
theorem ct_inn (ha : CE X a sa) (hb : CE X b sb) (hm : behindInMarks .In b = false := by rfl) : CT X (.Compare a [.In] [b] pos) (ST.of (SE.inn sa sb)) := pt_cmpR op_in_seq ha hb hm
theorem ct_nin (ha : CE X a sa) (hb : CE X b sb) (hm : behindInMarks .NotIn b = false := by rfl) : CT X (.Compare a [.NotIn] [b] pos) (ST.of (SE.nin sa sb)) := pt_cmpR op_notIn_seq ha hb hm
theorem ct_val (ha : CE X a sa) (he : ∀ whole, isTrue a X.env whole = (do let v ← whole; standAt a.pos; holding [v] (truthy v)) := by intro _; rfl) : CT X a (ST.of sa) := pt_val ha he
theorem cw_and1 (ha : CT X a ta) : CW X (.BoolOp .And [a] pos) ta := pw_and1 ha
theorem cw_or1 (ha : CT X a ta) : CW X (.BoolOp .Or [a] pos) ta := pw_or1 ha
theorem cw_and {r : List Expr} (ha : CT X a ta) (hb : CW X (.BoolOp .And (b :: r) pos) tb) : CW X (.BoolOp .And (a :: b :: r) pos) (ST.and ta tb) := pw_and ha hb
theorem cw_or {r : List Expr} (ha : CT X a ta) (hb : CW X (.BoolOp .Or (b :: r) pos) tb) : CW X (.BoolOp .Or (a :: b :: r) pos) (ST.or ta tb) := pw_or ha hb
theorem ct_w (h : CW X a ta) : CT X a ta := PW.pt h
theorem ct_not (ha : CT X a ta) : CT X (.UnaryOp .Not a pos) (ST.not ta) := pt_not ha
theorem ce_one {op} (h : CE X a sa) : CE X (.BoolOp op [a] pos) sa := pe_one h
theorem ce_and {r : List Expr} (ha : CE X a sa) (hb : CE X (.BoolOp .And (b :: r) pos) sb) : CE X (.BoolOp .And (a :: b :: r) pos) (SE.andV sa sb) := pe_and ha hb
theorem ce_or {r : List Expr} (ha : CE X a sa) (hb : CE X (.BoolOp .Or (b :: r) pos) sb) : CE X (.BoolOp .Or (a :: b :: r) pos) (SE.orV sa sb) := pe_or ha hb
theorem ce_not (ha : CE X a sa) : CE X (.UnaryOp .Not a pos) (SE.notV sa) := pe_not ha
theorem ce_ite (hc : CT X c ta) (ha : CE X a sa) (hb : CE X b sb) : CE X (.IfExp c a b pos) (SE.ite ta sa sb) := pe_ifExp hc ha hb
theorem ce_neg (ha : CE X a sa) : CE X (.UnaryOp .USub a pos) (SE.neg sa) := show PE X _ (tUn (rU fun i => .int (-i)) sa.t) from pe_un un_neg ha
theorem ce_ix (ha : CE X a sa) (hb : CE X b sb) (hs : PlainIx b := by exact fun _ _ => rfl) : CE X (.Subscript a b pos) (SE.ix sa sb) := pe_ix ix_A ha hb hs
theorem co_no : CO X none (SO.no (C := cf X Wd)) := po_none
theorem co_so (ha : CE X a sa) : CO X (some a) (SO.so sa) := po_some ha
theorem ce_sl {lo hi : Option Expr} {p2 : Pos} {sl sh : SO (cf X Wd)} (ha : CE X a sa) (hl : CO X lo sl) (hh : CO X hi sh) : CE X (.Subscript a (.Slice lo hi none p2) pos) (SE.sl sa sl sh) := pe_slice sl_AA ha hl hh
/-! ### built-ins -/
theorem ce_len (T : Bts X.mg) (ha : CE X a sa) (hg : Gl X "len" := by rfl) (hs : starEach [a] X.env = (false, eval a X.env) :: starEach [] X.env := by rfl) {p : Pos} : CE X (.Call (.Name "len" p) [a] [] pos) (SE.len sa) := pe_callB cr_lenA hg T.len bt_len (pa_cons ha pa_nil hs) (by decide) (by decide) hs
theorem ce_abs (T : Bts X.mg) (ha : CE X a sa) (hg : Gl X "abs" := by rfl) (hs : starEach [a] X.env = (false, eval a X.env) :: starEach [] X.env := by rfl) {p : Pos} : CE X (.Call (.Name "abs" p) [a] [] pos) (SE.abs sa) := pe_callB cr_absA hg T.abs bt_abs (pa_cons ha pa_nil hs) (by decide) (by decide) hs
theorem ce_toInt (T : Bts X.mg) (ha : CE X a sa) (hg : Gl X "int" := by rfl) (hs : starEach [a] X.env = (false, eval a X.env) :: starEach [] X.env := by rfl) {p : Pos} : CE X (.Call (.Name "int" p) [a] [] pos) (SE.toInt sa) := pe_callTy cr_toIntA hg T.int bt_int (pa_cons ha pa_nil hs) (by decide) (by decide) hs
theorem ce_sum (T : Bts X.mg) (ha : CE X a sa) (hc : X.calm = true := by rfl) (hg : Gl X "sum" := by rfl) (hs : starEach [a] X.env = (false, eval a X.env) :: starEach [] X.env := by rfl) {p : Pos} : CE X (.Call (.Name "sum" p) [a] [] pos) (SE.sum sa) := pe_callB (cr_sum hc) hg T.sum bt_sum (pa_cons ha pa_nil hs) (by decide) (by decide) hs
theorem ce_max (T : Bts X.mg) (ha : CE X a sa) (hc : X.calm = true := by rfl) (hg : Gl X "max" := by rfl) (hs : starEach [a] X.env = (false, eval a X.env) :: starEach [] X.env := by rfl) {p : Pos} : CE X (.Call (.Name "max" p) [a] [] pos) (SE.max sa) := pe_callB (cr_max hc) hg T.max bt_max (pa_cons ha pa_nil hs) (by decide) (by decide) hs
theorem ce_min (T : Bts X.mg) (ha : CE X a sa) (hc : X.calm = true := by rfl) (hg : Gl X "min" := by rfl) (hs : starEach [a] X.env = (false, eval a X.env) :: starEach [] X.env := by rfl) {p : Pos} : CE X (.Call (.Name "min" p) [a] [] pos) (SE.min sa) := pe_callB (cr_min hc) hg T.min bt_min (pa_cons ha pa_nil hs) (by decide) (by decide) hs
theorem ce_all (T : Bts X.mg) (ha : CE X a sa) (hc : X.calm = true := by rfl) (hg : Gl X "all" := by rfl) (hs : starEach [a] X.env = (false, eval a X.env) :: starEach [] X.env := by rfl) {p : Pos} : CE X (.Call (.Name "all" p) [a] [] pos) (SE.all sa) := pe_callB (cr_all hc) hg T.all bt_all (pa_cons ha pa_nil hs) (by decide) (by decide) hs
theorem ce_list (T : Bts X.mg) (ha : CE X a sa) (hg : Gl X "list" := by rfl) (hs : starEach [a] X.env = (false, eval a X.env) :: starEach [] X.env := by rfl) {p : Pos} : CE X (.Call (.Name "list" p) [a] [] pos) (SE.list sa) := pe_callTy cr_listA hg T.list bt_list (pa_cons ha pa_nil hs) (by decide) (by decide) hs
theorem ce_tuple (T : Bts X.mg) (ha : CE X a sa) (hg : Gl X "tuple" := by rfl) (hs : starEach [a] X.env = (false, eval a X.env) :: starEach [] X.env := by rfl) {p : Pos} : CE X (.Call (.Name "tuple" p) [a] [] pos) (SE.tuple sa) := pe_callTy cr_tupA hg T.tuple bt_tuple (pa_cons ha pa_nil hs) (by decide) (by decide) hs
theorem ce_max2 (T : Bts X.mg) (ha : CE X a sa) (hb : CE X b sb) (hc : X.calm = true := by rfl) (hg : Gl X "max" := by rfl) (hs : starEach [a, b] X.env = (false, eval a X.env) :: starEach [b] X.env := by rfl) (hs2 : starEach [b] X.env = (false, eval b X.env) :: starEach [] X.env := by rfl) (hpl : (backTo pos (starEach [b] X.env)).any (·.1) = false := by rfl) {p : Pos} : CE X (.Call (.Name "max" p) [a, b] [] pos) (SE.max2 sa sb) :=
  pe_callB (cr_max2A hc) hg T.max bt_max (pa_cons ha (pa_cons hb pa_nil hs2) hs) (by decide) (by decide) hs hpl
theorem ce_min2 (T : Bts X.mg) (ha : CE X a sa) (hb : CE X b sb) (hc : X.calm = true := by rfl) (hg : Gl X "min" := by rfl) (hs : starEach [a, b] X.env = (false, eval a X.env) :: starEach [b] X.env := by rfl) (hs2 : starEach [b] X.env = (false, eval b X.env) :: starEach [] X.env := by rfl) (hpl : (backTo pos (starEach [b] X.env)).any (·.1) = false := by rfl) {p : Pos} : CE X (.Call (.Name "min" p) [a, b] [] pos) (SE.min2 sa sb) :=
  pe_callB (cr_min2A hc) hg T.min bt_min (pa_cons ha (pa_cons hb pa_nil hs2) hs) (by decide) (by decide) hs hpl
/-! ### argument lists, displays, calls -/
variable {es : List Expr} {ss : SA (cf X Wd)} {sm : SM (cf X Wd)}
theorem ca_nil : CA X [] (SA.nil (C := cf X Wd)) := pa_nil
theorem ca_cons (ha : CE X a sa) (hr : CA X es ss) (hs : starEach (a :: es) X.env = (false, eval a X.env) :: starEach es X.env := by rfl) : CA X (a :: es) (SA.cons sa ss) := pa_cons ha hr hs
theorem cm_nil : CM X [] (SM.nil (C := cf X Wd)) := pa_nil
theorem cm_cons (ha : CE X a sa) (hr : CM X es sm) (hs : starEach (a :: es) X.env = (false, eval a X.env) :: starEach es X.env := by rfl) : CM X (a :: es) (SM.cons sa sm) := pa_cons ha hr hs
theorem ce_tup {k} (h : CA X es ss) : CE X (.Tuple es k pos) (SE.tup ss) := pe_tup h
theorem ce_lst (h : CA X es ss) : CE X (.List es pos) (SE.lst ss) := pe_lst h
theorem ce_call {k n : Nat} {x : Str} {g : PF Wd} {p : Pos} (F : Fn X.prog X.w X.K X.mg X.base Wd k x n g) (hr : Room k X.A) (ha : CA X (a :: es) ss) (hg : Gl X x := by rfl) (hdb : (x == ("__debug__" : Str)) = false := by decide)
    (he : starEach (a :: es) X.env = (false, eval a X.env) :: starEach es X.env := by rfl) (hpl : (backTo pos (starEach es X.env)).any (·.1) = false := by rfl) : CE X (.Call (.Name x p) (a :: es) [] pos) (SE.call n g ss) := by
  obtain ⟨f, fd, ps, h1, h2, h3, h4⟩ := F.ex
  exact pe_call h1 hr hg h2 h3 h4 .nil pass0 ha hdb he hpl
/-! ### targets, iterators -/
variable {tg : Expr} {sg : SG (cf X Wd)} {sgs : SGs (cf X Wd)} {tgs : List Expr}
theorem cg_name {C : Cf} (i : Nat) {x : Str} (hN : X.N.Nodup) (hi : X.N[i]? = some x := by rfl) (hx : Loc X.env.scope x := by first | exact .inl rfl | exact .inr rfl) (hf : X.fn x = true ∨ X.env.scope.names.lookup x = some .local := by first | exact .inl rfl | exact .inr rfl) : CG X (.Name x pos) (SG.name (C := C) i) := pg_name hN hi hx hf
theorem cgs_nil : CGs X [] (SGs.nil (C := cf X Wd)) := pgs_nil
theorem cgs_cons (h1 : CG X a sg) (h2 : CGs X es sgs) (hs : (assignEach (a :: es) X.env).map (·.2) = assign a X.env :: (assignEach es X.env).map (·.2) := by rfl) : CGs X (a :: es) (SGs.cons sg sgs) := pgs_cons h1 h2 hs
theorem cg_tup {k n : Nat} (h : CGs X es sgs) (hc : X.calm = true := by rfl) (hn : (assignEach es X.env).length = n := by rfl) (hst : (assignEach es X.env).findIdx? (·.1) = none := by rfl) : CG X (.Tuple es k pos) (SG.tup n sgs) := pg_tup hc h hn hst
theorem ci_list (h : CE X a sa) : CI X tg a (SI.list sa) := pi_list h
theorem ci_tup (h : CE X a sa) : CI X tg a (SI.tup sa) := pi_tup h
theorem ci_range (T : Bts X.mg) {p : Pos} (ha : CE X a sa) (hg : Gl X "range" := by rfl) (hs : starEach [a] X.env = [(false, eval a X.env)] := by rfl) : CI X tg (.Call (.Name "range" p) [a] [] pos) (SI.range sa) := pi_range1 hg T.range (pa_cons ha pa_nil hs) hs
theorem ci_range2 (T : Bts X.mg) {p : Pos} (ha : CE X a sa) (hb : CE X b sb) (hg : Gl X "range" := by rfl) (hs : starEach [a, b] X.env = [(false, eval a X.env), (false, eval b X.env)] := by rfl) (hs2 : starEach [b] X.env = [(false, eval b X.env)] := by rfl) : CI X tg (.Call (.Name "range" p) [a, b] [] pos) (SI.range2 sa sb) :=
  pi_range2 hg T.range (pa_cons ha (pa_cons hb pa_nil hs2) (by rw [hs, hs2])) hs hs2
/-! ### comprehensions -/
def CTs {C : Cf} (X : Cx) (ifs : List Expr) (a : ST C) : Prop := PTs X ifs a.t
theorem cts_nil {C : Cf} : CTs X [] (ST.yes (C := C)) := pts_nil
theorem cts_one (h : CT X c ta) : CTs X [c] ta := pts_one h
theorem ce_lc {elt iter : Expr} {ifs : List Expr} {scope : Scope} {it : SI (cf X Wd)} {g : SG (cf X Wd)} {tc : ST (cf X Wd)} {sb : SE (cf X Wd)} (own : List (Str × Nat)) {hgs : (g.sl.all fun i => (own.map (·.2)).contains i) = true} (hN : X.N.Nodup) (hi : CI X tg iter it) (ok : BlkOk X.N X.env.scope scope own)
    (hg : ∀ (s : Shared) (H : Hp) (C : Addr) (cl : List (Str × Addr)) (fp : List Addr), CG (X.blk s H scope (compEnvC scope cl C X.env) fp) tg g) (ht : ∀ (s : Shared) (H : Hp) (C : Addr) (cl : List (Str × Addr)) (fp : List Addr), CTs (X.blk s H scope (compEnvC scope cl C X.env) fp) ifs tc)
    (he : ∀ (s : Shared) (H : Hp) (C : Addr) (cl : List (Str × Addr)) (fp : List Addr), CE (X.blk s H scope (compEnvC scope cl C X.env) fp) elt sb) (hc : X.calm = true := by rfl) (hs : ∀ x, foldedSetIterable iter X.env x = pure x := by intro _; rfl) :
    CE X (.ListComp elt [⟨tg, iter, ifs, 0⟩] scope pos) (SE.lc it g tc sb (own.map (·.2)) hgs) := pe_lc hc hN hi ok hg ht he hs
/-! ### statements -/
variable {st : Stmt} {r : List Stmt} {s1 s2 : SS (cf X Wd)}
theorem css_nil : CSs X [] (SS.nop (C := cf X Wd)) := pss_nil
theorem css_one (h : CS X st s1) : CSs X [st] s1 := pss_one h
theorem css_cons (h : CS X st s1) (h2 : CSs X r s2) : CSs X (st :: r) (SS.seq s1 s2) := show PSs X (st :: r) (tSeq s1.t s2.t) from pss_cons h h2
theorem cs_asg (i : Nat) {x : Str} {p : Pos} (hN : X.N.Nodup) (ha : CE X a sa) (hi : X.N[i]? = some x := by rfl) (hx : Loc X.env.scope x := by first | exact .inl rfl | exact .inr rfl) (hs : swapsWith a (some (.Name x p)) pos.line X.env = pure false := by rfl) (hf : X.fn x = true ∨ X.env.scope.names.lookup x = some .local := by first | exact .inl rfl | exact .inr rfl) :
    CS X (.Assign [.Name x p] a pos) (SS.asg i sa) := ps_set hN hi hx ha hs hf
theorem cs_asgD (i : Nat) {x : Str} {p : Pos} (hN : X.N.Nodup) (ha : CE X a sa) (hi : X.N[i]? = some x := by rfl) (hx : Loc X.env.scope x := by first | exact .inl rfl | exact .inr rfl) (hs : swapsWith a (some (.Name x p)) pos.line X.env = pure false := by rfl) (hf : X.fn x = true ∨ X.env.scope.names.lookup x = some .local := by first | exact .inl rfl | exact .inr rfl) :
    CS X (.Assign [.Name x p] a pos) (SS.asgD i sa) := ps_set hN hi hx ha hs hf
theorem cs_lc {elt iter : Expr} {ifs : List Expr} {scope : Scope} {it : SI (cf X Wd)} {g : SG (cf X Wd)} {tc : ST (cf X Wd)} {sb : SE (cf X Wd)} (i : Nat) {y : Str} {py spos : Pos} (own : List (Str × Nat)) {hgs : (g.sl.all fun i => (own.map (·.2)).contains i) = true} (hN : X.N.Nodup) (hi : CI X tg iter it) (ok : BlkOk X.N X.env.scope scope own)
    (hg : ∀ (s : Shared) (H : Hp) (C : Addr) (cl : List (Str × Addr)) (fp : List Addr), CG (X.blk s H scope (compEnvC scope cl C X.env) fp) tg g) (ht : ∀ (s : Shared) (H : Hp) (C : Addr) (cl : List (Str × Addr)) (fp : List Addr), CTs (X.blk s H scope (compEnvC scope cl C X.env) fp) ifs tc)
    (he : ∀ (s : Shared) (H : Hp) (C : Addr) (cl : List (Str × Addr)) (fp : List Addr), CE (X.blk s H scope (compEnvC scope cl C X.env) fp) elt sb) (hy : X.N[i]? = some y := by rfl) (hyl : X.env.scope.names.lookup y = some .local := by rfl) (hk : X.env.scope.kind = .function := by rfl) (hl : (py.line == pos.line) = true := by rfl)
    (hn : (scope.names.any fun (n, k) => n == y && (k == .local || k == .cell)) = false := by decide +kernel) (hc : X.calm = true := by rfl) (hs : ∀ x, foldedSetIterable iter X.env x = pure x := by intro _; rfl) :
    CS X (.Assign [.Name y py] (.ListComp elt [⟨tg, iter, ifs, 0⟩] scope pos) spos) (SS.asg i (SE.lc it g tc sb (own.map (·.2)) hgs)) := ps_setLc hc hN hy hyl (sw_true hk hyl hl hn) hi ok hg ht he hs
theorem cs_lcD {elt iter : Expr} {ifs : List Expr} {scope : Scope} {it : SI (cf X Wd)} {g : SG (cf X Wd)} {tc : ST (cf X Wd)} {sb : SE (cf X Wd)} (i : Nat) {y : Str} {py spos : Pos} (own : List (Str × Nat)) {hgs : (g.sl.all fun i => (own.map (·.2)).contains i) = true} (hN : X.N.Nodup) (hi : CI X tg iter it) (ok : BlkOk X.N X.env.scope scope own)
    (hg : ∀ (s : Shared) (H : Hp) (C : Addr) (cl : List (Str × Addr)) (fp : List Addr), CG (X.blk s H scope (compEnvC scope cl C X.env) fp) tg g) (ht : ∀ (s : Shared) (H : Hp) (C : Addr) (cl : List (Str × Addr)) (fp : List Addr), CTs (X.blk s H scope (compEnvC scope cl C X.env) fp) ifs tc)
    (he : ∀ (s : Shared) (H : Hp) (C : Addr) (cl : List (Str × Addr)) (fp : List Addr), CE (X.blk s H scope (compEnvC scope cl C X.env) fp) elt sb) (hy : X.N[i]? = some y := by rfl) (hyl : X.env.scope.names.lookup y = some .local := by rfl) (hk : X.env.scope.kind = .function := by rfl) (hl : (py.line == pos.line) = true := by rfl)
    (hn : (scope.names.any fun (n, k) => n == y && (k == .local || k == .cell)) = false := by decide +kernel) (hc : X.calm = true := by rfl) (hs : ∀ x, foldedSetIterable iter X.env x = pure x := by intro _; rfl) :
    CS X (.Assign [.Name y py] (.ListComp elt [⟨tg, iter, ifs, 0⟩] scope pos) spos) (SS.asgD i (SE.lc it g tc sb (own.map (·.2)) hgs)) := ps_setLc hc hN hy hyl (sw_true hk hyl hl hn) hi ok hg ht he hs
theorem cs_par2 (i j : Nat) {x y : Str} {px py pt : Pos} {kt k2 pt2} (hN : X.N.Nodup) (hm : CM X [a, b] sm) (hi : X.N[i]? = some x := by rfl) (hj : X.N[j]? = some y := by rfl) (hij : i ≠ j := by decide)
    (hx : X.env.scope.names.lookup x = some .local := by rfl) (hy : X.env.scope.names.lookup y = some .local := by rfl)
    (hw : swappedStores [.Tuple [.Name x px, .Name y py] kt pt] (.Tuple [a, b] k2 pt2) X.env = pure (some [x, y]) := by rfl)
    (hs : swapsWithSole [.Tuple [.Name x px, .Name y py] kt pt] (.Tuple [a, b] k2 pt2) pos.line X.env = pure false := by rfl) (hc : X.calm = true := by rfl) :
    CS X (.Assign [.Tuple [.Name x px, .Name y py] kt pt] (.Tuple [a, b] k2 pt2) pos) (SS.par2 i j sm) := ps_par hc hN hi hj hij hx hy hm hw hs
theorem cs_par3 (i j l : Nat) {x y z : Str} {px py pz pt : Pos} {kt k2 pt2} (hN : X.N.Nodup) (hm : CM X [a, b, c] sm) (hi : X.N[i]? = some x := by rfl) (hj : X.N[j]? = some y := by rfl) (hl : X.N[l]? = some z := by rfl) (hij : i ≠ j := by decide) (hil : i ≠ l := by decide) (hjl : j ≠ l := by decide)
    (hx : X.env.scope.names.lookup x = some .local := by rfl) (hy : X.env.scope.names.lookup y = some .local := by rfl) (hz : X.env.scope.names.lookup z = some .local := by rfl)
    (hw : swappedStores [.Tuple [.Name x px, .Name y py, .Name z pz] kt pt] (.Tuple [a, b, c] k2 pt2) X.env = pure (some [x, y, z]) := by rfl)
    (hs : swapsWithSole [.Tuple [.Name x px, .Name y py, .Name z pz] kt pt] (.Tuple [a, b, c] k2 pt2) pos.line X.env = pure false := by rfl) (hc : X.calm = true := by rfl) :
    CS X (.Assign [.Tuple [.Name x px, .Name y py, .Name z pz] kt pt] (.Tuple [a, b, c] k2 pt2) pos) (SS.par3 i j l sm) := ps_par3 hc hN hi hj hl hij hil hjl hx hy hz hm hw hs
/-- names that take a tuple's items -/
inductive Nms (X : Cx) : List Expr → List Nat → Prop
  | nil : Nms X [] []
  | cons {x : Str} {p : Pos} {i : Nat} {es : List Expr} {is : List Nat} (hN : X.N.Nodup) (h : Nms X es is) (hi : X.N[i]? = some x := by rfl) (hx : Loc X.env.scope x := by first | exact .inl rfl | exact .inr rfl) (hf : X.fn x = true ∨ X.env.scope.names.lookup x = some .local := by first | exact .inl rfl | exact .inr rfl)
      (hs : (assignEach (.Name x p :: es) X.env).map (·.2) = assign (.Name x p) X.env :: (assignEach es X.env).map (·.2) := by rfl) : Nms X (.Name x p :: es) (i :: is)
theorem Nms.pgs : ∀ {es : List Expr} {is : List Nat}, Nms X es is → PGs X es (gNames is)
  | _, _, .nil => pgs_nil
  | _, _, .cons hN h hi hx hf hs => pgs_cons (pg_name hN hi hx hf) h.pgs hs
theorem cs_parT {ns : List Expr} {is : List Nat} {pt : Pos} {kt k2 pt2} (hn : Nms X ns is) (hm : CM X es sm) (hc : X.calm = true := by rfl) (hl : (assignEach ns X.env).length = is.length := by rfl) (hst : (assignEach ns X.env).findIdx? (·.1) = none := by rfl)
    (hs : swapsWithSole [.Tuple ns kt pt] (.Tuple es k2 pt2) pos.line X.env = pure false := by rfl) (hw : swappedStores [.Tuple ns kt pt] (.Tuple es k2 pt2) X.env = pure none := by rfl)
    (h1 : (assignEach [.Tuple ns kt pt] X.env).map (·.2) = [assign (.Tuple ns kt pt) X.env] := by rfl) :
    CS X (.Assign [.Tuple ns kt pt] (.Tuple es k2 pt2) pos) (SS.parT is sm) := ps_asg (pe_tup hm) (pg_tup hc hn.pgs hl hst) hs hw h1
def SS.unp {C : Cf} (g : SG C) (a : SE C) : SS C where
  t := tAsg a.t g.t
  ev := fun Γ w => bindF (a.evD Γ w) fun d w1 => (g.asg d Γ).map fun Γ' => .nx Γ' w1
  ok := by
    intro sE HE s H σ Γ w fl S h e D q
    rcases bindF_cases e with ⟨d, w1, e1, e2⟩ | ⟨x, w1, e1, rfl⟩
    · refine a.okD S h e1 _ fun s1 H1 l1 h1 v hv => ?_
      cases e3 : g.asg d Γ with
      | none => rw [e3] at e2; cases e2
      | some Γ' =>
        rw [e3] at e2; cases e2
        exact g.ok (S.le l1) h1.ex hv e3 _ fun σ' S' _ => q s1 H1 σ' l1.h0 S' h1
    · exact a.okD S h e1 _ (exS S q)
/-- a, b = e -/
theorem cs_unp (hg : CG X tg sg) (ha : CE X a sa) (hs : swapsWithSole [tg] a pos.line X.env = pure false := by rfl) (hw : swappedStores [tg] a X.env = pure none := by rfl)
    (h1 : (assignEach [tg] X.env).map (·.2) = [assign tg X.env] := by rfl) : CS X (.Assign [tg] a pos) (SS.unp sg sa) := ps_asg ha hg hs hw h1
theorem cs_app (i : Nat) {x : Str} {p ap : Pos} {pl : Sem Bool} (ha : CE X a sa) (hv : PE X (.Name x p) (tVar i)) (hs : swapsWith (.Call (.Attribute (.Name x p) "append" ap) [a] [] pos) none pos.line X.env = pure false := by rfl)
    (hb : PE X (.Call (.Attribute (.Name x p) "append" ap) [a] [] pos) (tBM X.K "list" rAppend (tVar i) (tCons sa.t tNil))) : CS X (.Expr (.Call (.Attribute (.Name x p) "append" ap) [a] [] pos) pos) (SS.app i sa) := ps_expr hb hs
theorem cs_setIx (i : Nat) {x : Str} {p tp : Pos} (ha : CE X a sa) (hv : PE X (.Name x p) (tVar i)) (hb : CE X b sb)
    (hq : ∀ v, assign (.Subscript (.Name x p) b tp) X.env v = (do
      let ov ← holding [v] (eval (.Name x p) X.env)
      let iv ← holding [v, ov] (eval b X.env)
      standAt tp
      holding [v, ov, iv] (setItem ov iv v)
      release [v, ov, iv] []) := by intro _; rfl)
    (hs : swapsWithSole [.Subscript (.Name x p) b tp] a pos.line X.env = pure false := by rfl) (hw : swappedStores [.Subscript (.Name x p) b tp] a X.env = pure none := by rfl)
    (h1 : (assignEach [.Subscript (.Name x p) b tp] X.env).map (·.2) = [assign (.Subscript (.Name x p) b tp) X.env] := by rfl) :
    CS X (.Assign [.Subscript (.Name x p) b tp] a pos) (SS.setIx i sb sa) := ps_asg ha (pg_sub hv hb set_list hq) hs hw h1
theorem cs_aug (i : Nat) {x : Str} {p : Pos} {op : Operator} {f : Int → Int → Int} (hN : X.N.Nodup) (hop : PIp X op (ipI f)) (ha : CE X a sa) (hi : X.N[i]? = some x := by rfl) (hx : Loc X.env.scope x := by first | exact .inl rfl | exact .inr rfl) (hf : X.fn x = true ∨ X.env.scope.names.lookup x = some .local := by first | exact .inl rfl | exact .inr rfl) :
    CS X (.AugAssign (.Name x p) op a pos) (SS.aug i f sa) := ps_aug hN hi hx ha hop hf
theorem cs_if {es' : List Stmt} {sts : List Stmt} (hc : CT X c ta) (h1 : CSs X sts s1) (h2 : CSs X es' s2) : CS X (.If c sts es' pos) (SS.ite ta s1 s2) := ps_if hc h1 h2
theorem cs_ret (ha : CE X a sa) : CS X (.Return (some a) pos) (SS.ret sa) := ps_ret ha
theorem cs_retN : CS X (.Return none pos) (SS.retN (C := cf X Wd)) := ps_retN
theorem cs_pass : CS X (.Pass pos) (SS.nop (C := cf X Wd)) := ps_pass
theorem cs_brk : CS X (.Break pos) (SS.brk (C := cf X Wd)) := ps_break
theorem cs_cnt : CS X (.Continue pos) (SS.cnt (C := cf X Wd)) := ps_continue
theorem cs_never : CS X st (SS.never (C := cf X Wd)) := ps_never
theorem css_never : CSs X r (SS.never (C := cf X Wd)) := pss_never
theorem cs_drop {p2 : Pos} (ha : CE X a sa) (hs : swapsWith a none p2.line X.env = pure false := by rfl) : CS X (.Expr a p2) (SS.drop sa) := ps_expr ha hs
theorem cs_for {iter : Expr} {body : List Stmt} {it : SI (cf X Wd)} (hp : PassesOwn (model X.prog X.w) X.A X.env X.xe) (hi : CI X tg iter it) (hg : CG X tg sg) (hb : CSs X body s1) (hc : X.calm = true := by rfl) (hs : ∀ x, foldedSetIterable iter X.env x = pure x := by intro _; rfl) :
    CS X (.For tg iter body [] pos) (SS.for it sg s1) := ps_for hp hc hi hg hb hs
theorem cs_while {body : List Stmt} (n : Nat) (hp : PassesOwn (model X.prog X.w) X.A X.env X.xe) (hc : CT X c ta) (hb : CSs X body s1) : CS X (.While c body [] pos) (SS.while n ta s1) := ps_while hp hc hb
end
end Cl

set_option Elab.async false
set_option linter.all false
set_option maxRecDepth 100000
set_option maxHeartbeats 4000000
namespace L2
open PySem PySem.Spec PyProof.Rows
/-! ### enumerate(tuple) -/
def IteT (K : PySem.W.Frag) (a : Addr) : It :=
  ⟨fun i H => ∃ (xs : List V) (x : V), SqT K H a xs ∧ xs[i]? = some x, fun i H v H' => ∃ T x, v = .ref T ∧ H T = none ∧ H' = upd H T (.tup [.int (i : Nat), x]) ∧ ∀ xs, SqT K H a xs → xs[i]? = some x, fun i H => ∃ xs : List V, SqT K H a xs ∧ xs.length = i⟩
theorem turn_enumT {P : Program} {w : World} {K : PySem.W.Frag} {elts : List Expr} {kk : Nat} {tpos : Pos} (a e it : Addr) :
    Turn P w K (.Tuple elts kk tpos) (IteT K a) [e, it] e (fun i h => (∃ old, IsEnum h e it ((i : Nat) : Int) old) ∧ h.IsTupleIter it a i ∧ e ≠ it) where
  mem := by simp
  obj := fun i h st b hb => by
    obtain ⟨⟨old, he⟩, ⟨o, ho, hc, hd⟩, _⟩ := st
    have e' : b = e ∨ b = it := by simpa using hb
    rcases e' with z | z
    · rw [z]; exact ⟨_, he, fun v q => nomatch q⟩
    · rw [z]; exact ⟨o, ho, fun v q => by rw [hd] at q; cases q⟩
  keep := fun i h h' st k => let ⟨⟨old, he⟩, hi, hne⟩ := st; ⟨⟨old, k e (by simp) _ he⟩, hi.at fun o q => k it (by simp) o q, hne⟩
  item := by
    intro X hP hw hK hc i pins s σ H E I hf st hg
    subst hP hw hK
    obtain ⟨⟨old, he⟩, hit, hne⟩ := st
    obtain ⟨xs, x, hq, hx⟩ := hg
    obtain ⟨its, rv, p, hz⟩ := I.tuple hq
    obtain ⟨u, hu, ru⟩ := rv.get hx
    have hel : e < s.heap.objs.size := Heap.lt_size he
    have hil : it < s.heap.objs.size := by obtain ⟨_, q, _⟩ := hit; exact Heap.lt_size q
    have hp : s.heap.IsTuple a its.toArray := p
    have nat : a ≠ it := fun z => by
      subst z
      obtain ⟨o1, e1, c1, _⟩ := hit
      obtain ⟨o2, e2, c2, _⟩ := p
      rw [e1] at e2; cases e2
      rw [c1] at c2; exact absurd c2 (by decide)
    have nae : a ≠ e := fun z => by
      subst z
      obtain ⟨o2, e2, c2, _⟩ := p
      rw [he] at e2; cases e2
      exact absurd (show Value.type "enumerate" = Value.type "tuple" from c2) (by decide)
    have hlt : i < its.toArray.size := by
      have := (List.getElem?_eq_some_iff.mp hu).1
      simpa using this
    refine wpAny_pyNext_enum_itemC (Draws.tuple (prog := X.prog) (w := X.w) (A := X.A.in1) (I.ok.hd hc) it a nat its.toArray) he ⟨hit, hp⟩ hlt hne (by simp [hne, Ne.symm nae]) fun x' h' tk hP ho hst' hT hsz hk => ?_
    obtain ⟨hit', _⟩ := hst'
    have ex : x' = u := by
      have hP : its.toArray[i]? = some x' := hP
      have hu' : its.toArray[i]? = some u := by simpa using hu
      rw [hu'] at hP; exact (Option.some.inj hP).symm
    subst ex
    refine ⟨_, rfl, wpAny_letOwnedTupleGo_enum (s := { s with heap := h', toks := tk + 1 }) ho fun h'' he' sb => ?_⟩
    have hT2 : h''.get? s.heap.objs.size = some { cls := .type "tuple", data := .seq #[.int i tk, x'] } := (sb.2 _ (Nat.ne_of_gt hel)).trans hT
    have new : ObjOk X.prog X.w (upd H s.heap.objs.size (.tup [.int (i : Nat), x])) h'' s.heap.objs.size (.tup [.int (i : Nat), x]) :=
      ⟨by show 2 ≤ sizeLine; decide, [.int i tk, x'], .cons ⟨_, rfl⟩ (.cons ru .nil), ⟨_, hT2, rfl, _, rfl⟩⟩
    have I1 : Inv X pins σ (upd H s.heap.objs.size (.tup [.int (i : Nat), x])) { s with heap := h'', toks := tk + 1 } :=
      I.turnedNew (ch := [e, it]) (fun b ob hb q => (sb.2 b (fun z => hb (by simp [z]))).trans (hk b ob (fun z => hb (by simp [z])) (fun z => hb (by simp [z])) q)) hf (Nat.le_refl _) new
    refine ⟨.ref s.heap.objs.size, _, I1, rfl, ⟨_, x, rfl, I.hok.fresh (Nat.le_refl _), rfl, fun ys hy => by rw [I.tuple_inj hy hq]; exact hx⟩, ⟨⟨x', ?_⟩, hit'.at fun o q => (sb.2 it (Ne.symm hne)).trans q, hne⟩, fun b hb => ?_⟩
    · have e1 : ((i + 1 : Nat) : Int) = (i : Int) + 1 := by omega
      rw [e1]; exact he'
    · have hb' : b < s.heap.objs.size := by
        have e' : b = e ∨ b = it := by simpa using hb
        rcases e' with z | z
        · rw [z]; exact hel
        · rw [z]; exact hil
      rw [upd_ne (Nat.ne_of_lt hb')]
      exact (hf b hb).1
  done := by
    intro X hP hw hK hc i pins s σ H E I hf st hg
    subst hP hw hK
    obtain ⟨⟨old, he⟩, hit, hne⟩ := st
    obtain ⟨xs, hq, hx⟩ := hg
    obtain ⟨its, rv, p, hz⟩ := I.tuple hq
    obtain ⟨f0, f1, f2, f3, f4, f5⟩ := hf it (by simp)
    have hl := rv.length
    have hp : s.heap.IsTuple a its.toArray := p
    have nat : a ≠ it := fun z => by
      subst z
      obtain ⟨o1, e1, c1, _⟩ := hit
      obtain ⟨o2, e2, c2, _⟩ := p
      rw [e1] at e2; cases e2
      rw [c1] at c2; exact absurd c2 (by decide)
    have ei : i = its.toArray.size := by rw [List.size_toArray, ← hl, hx]
    subst ei
    exact wpAny_pyNext_enum_endD (Draws.tuple (prog := X.prog) (w := X.w) (A := X.A.in1) (I.ok.hd hc) it a nat its.toArray) he ⟨hit, hp⟩ fun h' eb => ⟨rfl, I.turned (t' := s.toks) (fun b o hb q => eb b o hb q) f0 f1 f3 f4 f5⟩
  self := fun A i s Q E st h => let ⟨⟨_, he⟩, _⟩ := st; wpAny_pyIter_enum he h
def iEnumT (K : PySem.W.Frag) (ta : TA) : TI := fun σ H R => ta σ H fun vs H1 => ∃ a xs, vs = [.ref a] ∧ SqT K H1 a xs ∧ R (IteT K a) H1
theorem PI.or {X : Cx} {tg e : Expr} {w w' : TI} (h : PI X tg e w) (h' : PI X tg e w') : PI X tg e (fun σ H R => w σ H R ∨ w' σ H R) := ⟨fun pins s σ H R I q => by
  rcases q with q | q
  · exact h.run pins s σ H R I q
  · exact h'.run pins s σ H R I q⟩
set_option maxHeartbeats 1000000 in
theorem meets_enumerate_newB1 {v : Value} {o : Obj} {H : Heap → Prop} (B : Begins v o H) :
    Meets (Builtin.«enumerate.__new__» ⟨[.type "enumerate", v], []⟩) (fun _ R s => H s.heap ∧
      R (.ok (.ret (.ref (s.heap.push o).objs.size))) { s with heap := (s.heap.push o).push { cls := .type "enumerate", data := .fields #[.none, .bool false, .ref s.heap.objs.size, rawInt 0, .none, .none] } }) :=
  .of_wp fun prog w A R s h => by
    obtain ⟨hp, g, d, tk, os⟩ := s; obtain ⟨h1, h⟩ := h
    have hsub := sub_enumerate
    have q1 : ∀ {A' : Around} {E : Value → Shared → Prop} {Q : Value → Shared → Prop}, Q (.ref hp.objs.size) ⟨hp.push o, g, d, tk, os⟩ → wpAny (model prog w) A' (pyIter v) Q E ⟨hp, g, d, tk, os⟩ :=
      fun q => B.iter prog w _ _ ⟨hp, g, d, tk, os⟩ _ h1 q
    wp_walk using q1
    first
      | exact ⟨_, rfl, h⟩
      | (refine wpAny_stack_any fun st => wpAny_pure ?_
         split
         · rename_i c _ _ _ _ _
           cases (c == Value.type "enumerate")
           · wp_walk using q1
             exact ⟨_, rfl, h⟩
           · wp_walk using q1
             exact ⟨_, rfl, h⟩
         · wp_walk using q1
           exact ⟨_, rfl, h⟩)
theorem call_enum1 {prog : Program} {w : World} {A : Around} {E : Value → Shared → Prop} {s : Shared} {v : Value} {o : Obj} {H : Heap → Prop} {Q : Value → Shared → Prop} (B : Begins v o H) (h1 : H s.heap)
    (h : ∀ h', IsEnum h' (s.heap.objs.size + 1) s.heap.objs.size 0 .none → h'.get? s.heap.objs.size = some o → h'.objs.size = s.heap.objs.size + 2 →
      (∀ b o, s.heap.get? b = some o → h'.get? b = some o) → Q (.ref (s.heap.objs.size + 1)) { s with heap := h' }) : wpAny (model prog w) A (call (.type "enumerate") [v]) Q E s := by
  refine callType_new F.called_enumerate (by decide) (F.typeCall_enumerate_1 _) (F.newCall_enumerate_1 _) (fun obj => F.args_object_init_2 obj _) F.entry_enumerate_new
    (meets_enumerate_newB1 B) ⟨h1, ?_⟩
  have hz : (s.heap.push o).objs.size = s.heap.objs.size + 1 := Heap.size_push ..
  show _ ∧ _
  rw [hz]
  have he : IsEnum ((s.heap.push o).push { cls := .type "enumerate", data := .fields #[.none, .bool false, .ref s.heap.objs.size, rawInt 0, .none, .none] }) (s.heap.objs.size + 1) s.heap.objs.size 0 .none := by
    have := Heap.get?_push_size (s.heap.push o) (o := { cls := .type "enumerate", data := .fields #[.none, .bool false, .ref s.heap.objs.size, rawInt 0, .none, .none] }) rfl
    rw [hz] at this; exact this
  refine ⟨⟨_, he, rfl⟩, h _ he (Heap.get?_push_of_some _ (Heap.get?_push_size _ B.free)) (by rw [Heap.size_push, hz]) fun b o x => Heap.get?_push_of_some _ (Heap.get?_push_of_some _ x)⟩
theorem pi_enumT {X : Cx} {e : Expr} {ta : TA} {p pos tpos : Pos} {elts : List Expr} {kk : Nat} (hg : Gl X "enumerate") (hm : X.mg "enumerate" = none) (ha : PA X [e] ta) (hs : starEach [e] X.env = [(false, eval e X.env)] := by rfl) :
    PI X (.Tuple elts kk tpos) (.Call (.Name "enumerate" p) [e] [] pos) (iEnumT X.K ta) := by
  refine ⟨fun pins s σ H R I h => ?_⟩
  refine Call_ (ld_blt I hg hm boot_enumerate (PyProof.Rows.callWith_type1 (thn (ha.run pos pins s σ H _ I h) fun us s1 ⟨vs, H1, I1, r1, q1⟩ => ?_) hs rfl))
  obtain ⟨a, xs, ex, hq, q⟩ := q1
  subst ex
  cases r1 with
  | cons r rr =>
    cases rr
    cases r
    obtain ⟨its, rv, p', hz⟩ := I1.tuple hq
    refine call_enum1 (begins_tuple a its.toArray) p' fun h' he hit hsz hk => wpAny_pyIter_enum he ?_
    have I2 : Inv X pins σ H1 { s1 with heap := h' } := I1.kept (t' := s1.toks) hk
    refine ⟨s1.heap.objs.size + 1, [s1.heap.objs.size + 1, s1.heap.objs.size], _, _, H1, rfl, I2, turn_enumT a (s1.heap.objs.size + 1) s1.heap.objs.size, ⟨⟨.none, he⟩, ⟨_, hit, rfl, rfl⟩, Nat.succ_ne_self _⟩, fun b hb => ?_, q⟩
    have e' : b = s1.heap.objs.size + 1 ∨ b = s1.heap.objs.size := by simpa using hb
    have hle : s1.heap.objs.size ≤ b := by
      rcases e' with z | z
      · rw [z]; exact Nat.le_add_right _ _
      · rw [z]; exact Nat.le_refl _
    exact I1.fpOk hle (I1.hok.fresh hle)
end L2

namespace Cl
open PySem L2 PySem.Spec PyProof.Rows
/-! ### any sequence, walked -/
def SI.seq {C : Cf} (a : SE C) : SI C where
  t := fun σ H R => iList C.K a.t σ H R ∨ iTup C.K a.t σ H R
  ev := fun Γ w => bindR (a.evD Γ w) (evO seq?)
  ok := by
    intro sE HE s H σ Γ w res S h e R q
    rcases bindR_cases e with ⟨d, w1, e1, e2⟩ | ⟨x, w1, e1, rfl⟩
    · obtain ⟨items, e3, rfl⟩ := evO_inv e2
      cases d with
      | list ds =>
        cases e3
        refine .inl (a.okD S h e1 _ fun s1 H1 l1 h1 v z => ?_)
        cases z with
        | lst ha r => exact ⟨_, rfl, ⟨_, .inl (.inl (h1.ex _ _ ha))⟩, q s1 H1 l1 h1 _ (wk_list ha r)⟩
      | tuple ds =>
        cases e3
        refine .inr (a.okD S h e1 _ fun s1 H1 l1 h1 v z => ?_)
        cases z with
        | tup ha r => exact ⟨_, rfl, ⟨_, h1.ex.t ha⟩, q s1 H1 l1 h1 _ (wk_tup ha r)⟩
      | none => cases e3
      | bool b => cases e3
      | int b => cases e3
      | str b => cases e3
      | dict b => cases e3
    · exact .inl (a.okD S h e1 _ q.ex)
theorem ci_seq {X : Cx} {Wd : World} {tg a : Expr} {sa : SE (cf X Wd)} (h : CE X a sa) : CI X tg a (SI.seq sa) := PI.or (pi_list h) (pi_tup h)
/-! ### enumerate -/
def enumD (ds : List PyData) : List PyData := ((ranD 0 ds.length).zip ds).map fun p => .tuple [p.1, p.2]
theorem ranD_get {n i : Nat} (h : i < n) : (ranD 0 n)[i]? = some (.int (i : Nat)) := by simp [ranD, h]
theorem wk_enumL {C : Cf} {a : Addr} {xs : List V} {ds : List PyData} {H0 : Hp} (h : H0 a = some (.lst xs)) (r : RpA C.K H0 xs ds) : Wk C (Ite C.K a) H0 (enumD ds) := by
  have e0 : (ranD 0 ds.length).length = ds.length := by simp [ranD]
  refine wk_pair (fx := fun _ _ => none) (fy := fun _ _ => none) (by rw [e0]) (fun {s H w i} h' x hi => ?_) (fun {s H w} h' x => ?_) fun {s H w i v H'} h' x hi y => ?_
  · rw [e0] at hi
    have hx : i < xs.length := by rw [r.length]; exact hi
    exact ⟨xs, xs[i], .inl (.inl (h'.ex _ _ (x _ _ h))), by simp [hx]⟩
  · rw [e0]
    exact ⟨xs, .inl (.inl (h'.ex _ _ (x _ _ h))), by rw [r.length]; exact Nat.le_refl _⟩
  · rw [e0] at hi
    obtain ⟨T, y', rfl, n, rfl, g⟩ := y
    obtain ⟨d, hd, rd⟩ := r.getL i y' (g xs (.inl (.inl (h'.ex _ _ (x _ _ h)))))
    exact ⟨T, _, y', _, d, rfl, n, rfl, ranD_get hi, hd, .int _, Rp.mono x rd⟩
theorem wk_enumT {C : Cf} {a : Addr} {xs : List V} {ds : List PyData} {H0 : Hp} (h : H0 a = some (.tup xs)) (r : RpA C.K H0 xs ds) : Wk C (IteT C.K a) H0 (enumD ds) := by
  have e0 : (ranD 0 ds.length).length = ds.length := by simp [ranD]
  refine wk_pair (fx := fun _ _ => none) (fy := fun _ _ => none) (by rw [e0]) (fun {s H w i} h' x hi => ?_) (fun {s H w} h' x => ?_) fun {s H w i v H'} h' x hi y => ?_
  · rw [e0] at hi
    have hx : i < xs.length := by rw [r.length]; exact hi
    exact ⟨xs, xs[i], h'.ex.t (x _ _ h), by simp [hx]⟩
  · rw [e0]
    exact ⟨xs, h'.ex.t (x _ _ h), r.length⟩
  · rw [e0] at hi
    obtain ⟨T, y', rfl, n, rfl, g⟩ := y
    obtain ⟨d, hd, rd⟩ := r.getL i y' (g xs (h'.ex.t (x _ _ h)))
    exact ⟨T, _, y', _, d, rfl, n, rfl, ranD_get hi, hd, .int _, Rp.mono x rd⟩
def SI.enum {C : Cf} (a : SE C) : SI C where
  t := fun σ H R => iEnum C.K (tCons a.t tNil) σ H R ∨ iEnumT C.K (tCons a.t tNil) σ H R
  ev := fun Γ w => bindR (a.evD Γ w) (evO fun d => (seq? d).map enumD)
  ok := by
    intro sE HE s H σ Γ w res S h e R q
    rcases bindR_cases e with ⟨d, w1, e1, e2⟩ | ⟨x, w1, e1, rfl⟩
    · obtain ⟨items, e3, rfl⟩ := evO_inv e2
      cases d with
      | list ds =>
        cases e3
        refine .inl (a.okD S h e1 _ fun s1 H1 l1 h1 v z => ?_)
        cases z with
        | lst ha r => exact ⟨_, _, rfl, .inl (.inl (h1.ex _ _ ha)), q s1 H1 l1 h1 _ (wk_enumL ha r)⟩
      | tuple ds =>
        cases e3
        refine .inr (a.okD S h e1 _ fun s1 H1 l1 h1 v z => ?_)
        cases z with
        | tup ha r => exact ⟨_, _, rfl, h1.ex.t ha, q s1 H1 l1 h1 _ (wk_enumT ha r)⟩
      | none => cases e3
      | bool b => cases e3
      | int b => cases e3
      | str b => cases e3
      | dict b => cases e3
    · exact .inl (a.okD S h e1 _ q.ex)
theorem ci_enum {X : Cx} {Wd : World} {a : Expr} {es : List Expr} {kk : Nat} {tpos p pos : Pos} {sa : SE (cf X Wd)} (T : Bts X.mg) (h : CE X a sa) (hg : Gl X "enumerate" := by rfl) (hs : starEach [a] X.env = [(false, eval a X.env)] := by rfl) :
    CI X (.Tuple es kk tpos) (.Call (.Name "enumerate" p) [a] [] pos) (SI.enum sa) := PI.or (pi_enum hg T.enumerate (pa_cons h pa_nil hs) hs) (pi_enumT hg T.enumerate (pa_cons h pa_nil hs) hs)
/-! ### a list is one's own no more, if it was -/
def SS.frzq {C : Cf} (i : Nat) : SS C where
  t := tNext
  ev := fun Γ w => match Γ[i]? with
    | some (some (.own ds)) => some (.nx (Γ.set i (some (.dat ds.dat))) w)
    | _ => some (.nx Γ w)
  ok := by
    intro sE HE s H σ Γ w fl S h e D q
    split at e
    · rename_i ds g
      cases e
      obtain ⟨s', x', h', S'⟩ := S.frz h g
      exact q s' H σ x' S' h'
    · cases e
      exact q s H σ (Ex.refl _) S h
theorem css_frzq {C : Cf} {X : Cx} {sts : List Stmt} {a : SS C} (i : Nat) (h : CSs X sts a) : CSs X sts (.seq (.frzq i) a) := h
/-! ### a < b < c -/
def bindB {α : Type} (o : Option Rv) (k : Bool → Option α) : Option α := match o with
  | some (.dat (.bool b)) => k b
  | _ => none
@[simp] theorem bindB_bool {α : Type} {b : Bool} {k : Bool → Option α} : bindB (some (.dat (.bool b))) k = k b := rfl
theorem bindB_inv {α : Type} {o : Option Rv} {k : Bool → Option α} {r : α} (h : bindB o k = some r) : ∃ b, o = some (.dat (.bool b)) ∧ k b = some r := by
  unfold bindB at h
  split at h
  · exact ⟨_, rfl, h⟩
  · cases h
def evChain {C : Cf} (f f' : PyData → PyData → Option Rv) (a b c : SE C) : Ev → C.T → Option (Rs C.T Rv) := fun Γ w =>
  bindR (a.evV Γ w) fun x w1 => bindR (b.evV Γ w1) fun y w2 => bindB (f x y) fun k => if k = true then bindR (c.evV Γ w2) fun z w3 => (f' y z).map fun r => .ok r w3 else some (.ok (.dat (.bool false)) w2)
def SE.chain {C : Cf} (r r' : R2) (f f' : PyData → PyData → Option Rv) (hr : BinOk C r f) (hr' : BinOk C r' f') (a b c : SE C) : SE C where
  t := tChain r r' a.t b.t c.t
  ev := evChain f f' a b c
  ok := by
    intro sE HE s H σ Γ w res S h e Q q
    rcases bindR_cases e with ⟨x, w1, e1, e2⟩ | ⟨x, w1, e1, rfl⟩
    · refine a.okV S h e1 _ fun s1 H1 l1 h1 v1 z1 => ?_
      rcases bindR_cases e2 with ⟨y, w2, e3, e4⟩ | ⟨y, w2, e3, rfl⟩
      · refine b.okV (S.le l1) h1 e3 _ fun s2 H2 l2 h2 v2 z2 => ?_
        have l12 := l1.trans l2
        obtain ⟨kb, e5, e4⟩ := bindB_inv e4
        refine hr.run h2 ((z1.le l2).now h2.ex) (z2.now h2.ex) e5 _ fun s3 H3 v l3 h3 r3 => ?_
        cases r3
        cases kb with
        | true =>
          refine ⟨true, rfl, iteT ?_⟩
          have e4 : bindR (c.evV Γ w2) (fun z w3 => (f' y z).map fun r => .ok r w3) = some res := e4
          rcases bindR_cases e4 with ⟨z, w3, e6, e7⟩ | ⟨z, w3, e6, rfl⟩
          · refine c.okV (S.le (l12.trans l3)) h3 e6 _ fun s4 H4 l4 h4 v4 z4 => ?_
            cases e8 : f' y z with
            | none => rw [e8] at e7; cases e7
            | some rv =>
              rw [e8] at e7; cases e7
              refine hr'.run h4 ((z2.le (l3.trans l4)).now h4.ex) (z4.now h4.ex) e8 Q fun s5 H5 v' l5 h5 r5 => ?_
              have l := (l12.trans l3).trans l4
              exact q s5 H5 (l.trans l5) h5 v' (r5.start l).rv
          · exact c.okV (S.le (l12.trans l3)) h3 e6 _ (q.ex.le (l12.trans l3))
        | false =>
          cases e4
          exact ⟨false, rfl, iteF (q s3 H3 (l12.trans l3) h3 _ (.bl false))⟩
      · exact b.okV (S.le l1) h1 e3 _ (q.ex.le l1)
    · exact a.okV S h e1 _ q.ex
section
variable {X : Cx} {Wd : World} {a b c : Expr} {sa sb sc : SE (cf X Wd)} {pos : Pos}
@[simp] abbrev SE.chain_le_le {C : Cf} (a b c : SE C) : SE C := .chain (rI0 fun i j => .bl (decide (i ≤ j))) (rI0 fun i j => .bl (decide (i ≤ j))) leF leF cmp_ok cmp_ok a b c
theorem ce_chain_le_le (ha : CE X a sa) (hb : CE X b sb) (hc : CE X c sc) (hm : lastMarks [.LtE, .LtE] [b, c] = false := by with_unfolding_all rfl) : CE X (.Compare a [.LtE, .LtE] [b, c] pos) (SE.chain_le_le sa sb sc) := pe_chain op_le op_le ha hb hc hm
theorem ct_chain_le_le (ha : CE X a sa) (hb : CE X b sb) (hc : CE X c sc) (hm : lastMarks [.LtE, .LtE] [b, c] = false := by with_unfolding_all rfl) : CT X (.Compare a [.LtE, .LtE] [b, c] pos) (ST.of (SE.chain_le_le sa sb sc)) := pt_chain op_le op_le ha hb hc hm
@[simp] abbrev SE.chain_le_lt {C : Cf} (a b c : SE C) : SE C := .chain (rI0 fun i j => .bl (decide (i ≤ j))) (rI0 fun i j => .bl (decide (i < j))) leF ltF cmp_ok cmp_ok a b c
theorem ce_chain_le_lt (ha : CE X a sa) (hb : CE X b sb) (hc : CE X c sc) (hm : lastMarks [.LtE, .Lt] [b, c] = false := by with_unfolding_all rfl) : CE X (.Compare a [.LtE, .Lt] [b, c] pos) (SE.chain_le_lt sa sb sc) := pe_chain op_le op_lt ha hb hc hm
theorem ct_chain_le_lt (ha : CE X a sa) (hb : CE X b sb) (hc : CE X c sc) (hm : lastMarks [.LtE, .Lt] [b, c] = false := by with_unfolding_all rfl) : CT X (.Compare a [.LtE, .Lt] [b, c] pos) (ST.of (SE.chain_le_lt sa sb sc)) := pt_chain op_le op_lt ha hb hc hm
end
/-! ### isinstance of a built-in class -/
def tyD : PyData → String
  | .none => "NoneType"
  | .bool _ => "bool"
  | .int _ => "int"
  | .str _ => "str"
  | .list _ => "list"
  | .tuple _ => "tuple"
  | .dict _ => "dict"
/-- an instance (its first entry has the key None) -/
def isObjD : PyData → Bool
  | .dict ((.none, _) :: _) => true
  | .dict ((.bool _, _) :: _) => true
  | _ => false
def isiF (T : String) (d : PyData) : Option Rv := if isObjD d = true then none else (kitB (tyD d) T).map fun b => .dat (.bool b)
def rIsiA (K : PySem.W.Frag) (T : String) (x : V) (H : Hp) (Q : VK) : Prop := ∃ t b, TyX K H x (.type t) ∧ kitB t T = some b ∧ Q (.bl b) H
theorem Rp.ty {K : PySem.W.Frag} {H : Hp} {v : V} {d : PyData} (r : Rp K H v d) (hn : isObjD d = false) : TyX K H v (.type (tyD d)) := by
  cases r with
  | non => exact .base .non
  | bl b => exact .base (.bl b)
  | int b => exact .base (.int b)
  | str b => exact .base (.str b)
  | lst h r => exact .base (.lst h)
  | dic h r => exact .base (.dK h)
  | dicT h r => cases hn
  | dicF h r => cases hn
  | ins h r => cases hn
  | tup h r => exact .base (.tup h)
theorem isi_ok {C : Cf} {T : String} : UnOk C (rIsiA C.K T) (isiF T) := by
  refine ⟨?_⟩
  intro s H w x d rv h vx ef Q q
  unfold isiF at ef
  split at ef
  · cases ef
  · rename_i hn
    cases e : kitB (tyD d) T with
    | none => rw [e] at ef; cases ef
    | some b =>
      rw [e] at ef; cases ef
      exact ⟨_, b, (vx.rp h.ex).ty (by simpa using hn), e, q.val h (.bl b)⟩
def SE.isi {C : Cf} (T : String) (a : SE C) : SE C where
  t := tCB (fun xs H Q => ∃ x, xs = [x, .ty T] ∧ rIsiA C.K T x H Q) (tCons a.t (tCons (tC (.ty T)) tNil))
  ev := evUn (isiF T) a
  ok := by
    intro sE HE s H σ Γ w res S h e Q q
    rcases bindR_cases e with ⟨x, w1, e1, e2⟩ | ⟨x, w1, e1, rfl⟩
    · refine a.okV S h e1 _ fun s1 H1 l1 h1 v1 z1 => ⟨v1, rfl, ?_⟩
      obtain ⟨rv, e3, rfl⟩ := evO_inv e2
      exact isi_ok.run h1 (z1.now h1.ex) e3 Q fun s3 H3 v l3 h3 r3 => q s3 H3 (l1.trans l3) h3 v (r3.start l1).rv
    · exact a.okV S h e1 _ q.ex
theorem cr_isiA {X : Cx} {T : String} : CallR X (.builtin "isinstance") (fun xs H Q => ∃ x, xs = [x, .ty T] ∧ rIsiA X.K T x H Q) := by
  intro pins s σ H xs us Q I r h
  obtain ⟨x, rfl, t, b, ty, e, q⟩ := h
  exact call_isi pins s σ H _ us Q I r ⟨x, .ty T, .type t, .type T, b, rfl, .ty T, ty, kit_ty e, q⟩
theorem bt_isinstance : bootBuiltins "isinstance" = some (.builtin "isinstance") := by decide +kernel
theorem bt_bool : bootBuiltins "bool" = some (.type "bool") := by decide +kernel
theorem bt_str : bootBuiltins "str" = some (.type "str") := by decide +kernel
section
variable {X : Cx} {Wd : World} {a : Expr} {sa : SE (cf X Wd)} {pos p p2 : Pos}
theorem ce_isi {x : Str} {T : String} (B : Bts X.mg) (hm : X.mg x = none) (hv : bootBuiltins x = some (.type T)) (ha : CE X a sa) (hg : Gl X "isinstance" := by rfl) (hx : Gl X x := by rfl) (hn : x ≠ "__name__" := by decide) (hd : (x == ("__debug__" : Str)) = false := by decide)
    (hs : starEach [a, .Name x p2] X.env = (false, eval a X.env) :: starEach [.Name x p2] X.env := by rfl) (hs2 : starEach [.Name x p2] X.env = (false, eval (.Name x p2) X.env) :: starEach [] X.env := by rfl) (hpl : (backTo pos (starEach [.Name x p2] X.env)).any (·.1) = false := by rfl) :
    CE X (.Call (.Name "isinstance" p) [a, .Name x p2] [] pos) (SE.isi T sa) :=
  pe_callB cr_isiA hg B.isinstance bt_isinstance (pa_cons ha (pa_cons (pe_bltn (v := .ty T) hx hm hv rfl hn hd) pa_nil hs2) hs) (by decide) (by decide) hs hpl
theorem ce_isi_int (B : Bts X.mg) (ha : CE X a sa) (hg : Gl X "isinstance" := by rfl) (hx : Gl X "int" := by rfl) (hs : starEach [a, .Name "int" p2] X.env = (false, eval a X.env) :: starEach [.Name "int" p2] X.env := by rfl) (hs2 : starEach [.Name "int" p2] X.env = (false, eval (.Name "int" p2) X.env) :: starEach [] X.env := by rfl) (hpl : (backTo pos (starEach [.Name "int" p2] X.env)).any (·.1) = false := by rfl) :
    CE X (.Call (.Name "isinstance" p) [a, .Name "int" p2] [] pos) (SE.isi "int" sa) := ce_isi B B.int bt_int ha hg hx (by decide) (by decide) hs hs2 hpl
theorem ce_isi_bool (B : Bts X.mg) (ha : CE X a sa) (hg : Gl X "isinstance" := by rfl) (hx : Gl X "bool" := by rfl) (hs : starEach [a, .Name "bool" p2] X.env = (false, eval a X.env) :: starEach [.Name "bool" p2] X.env := by rfl) (hs2 : starEach [.Name "bool" p2] X.env = (false, eval (.Name "bool" p2) X.env) :: starEach [] X.env := by rfl) (hpl : (backTo pos (starEach [.Name "bool" p2] X.env)).any (·.1) = false := by rfl) :
    CE X (.Call (.Name "isinstance" p) [a, .Name "bool" p2] [] pos) (SE.isi "bool" sa) := ce_isi B B.bool bt_bool ha hg hx (by decide) (by decide) hs hs2 hpl
theorem ce_isi_tuple (B : Bts X.mg) (ha : CE X a sa) (hg : Gl X "isinstance" := by rfl) (hx : Gl X "tuple" := by rfl) (hs : starEach [a, .Name "tuple" p2] X.env = (false, eval a X.env) :: starEach [.Name "tuple" p2] X.env := by rfl) (hs2 : starEach [.Name "tuple" p2] X.env = (false, eval (.Name "tuple" p2) X.env) :: starEach [] X.env := by rfl) (hpl : (backTo pos (starEach [.Name "tuple" p2] X.env)).any (·.1) = false := by rfl) :
    CE X (.Call (.Name "isinstance" p) [a, .Name "tuple" p2] [] pos) (SE.isi "tuple" sa) := ce_isi B B.tuple bt_tuple ha hg hx (by decide) (by decide) hs hs2 hpl
theorem ce_isi_list (B : Bts X.mg) (ha : CE X a sa) (hg : Gl X "isinstance" := by rfl) (hx : Gl X "list" := by rfl) (hs : starEach [a, .Name "list" p2] X.env = (false, eval a X.env) :: starEach [.Name "list" p2] X.env := by rfl) (hs2 : starEach [.Name "list" p2] X.env = (false, eval (.Name "list" p2) X.env) :: starEach [] X.env := by rfl) (hpl : (backTo pos (starEach [.Name "list" p2] X.env)).any (·.1) = false := by rfl) :
    CE X (.Call (.Name "isinstance" p) [a, .Name "list" p2] [] pos) (SE.isi "list" sa) := ce_isi B B.list bt_list ha hg hx (by decide) (by decide) hs hs2 hpl
theorem ce_isi_str (B : Bts X.mg) (ha : CE X a sa) (hg : Gl X "isinstance" := by rfl) (hx : Gl X "str" := by rfl) (hs : starEach [a, .Name "str" p2] X.env = (false, eval a X.env) :: starEach [.Name "str" p2] X.env := by rfl) (hs2 : starEach [.Name "str" p2] X.env = (false, eval (.Name "str" p2) X.env) :: starEach [] X.env := by rfl) (hpl : (backTo pos (starEach [.Name "str" p2] X.env)).any (·.1) = false := by rfl) :
    CE X (.Call (.Name "isinstance" p) [a, .Name "str" p2] [] pos) (SE.isi "str" sa) := ce_isi B B.str bt_str ha hg hx (by decide) (by decide) hs hs2 hpl
/-- xs.append(e), in short -/
theorem cs_app' (i : Nat) {x : Str} {ap spos : Pos} (ha : CE X a sa) (hi : X.N[i]? = some x := by rfl) (hv : Vis X.env.scope x := by first | exact Or.inl rfl | exact Or.inr (Or.inl rfl) | exact Or.inr (Or.inr rfl)) (hd : (x == ("__debug__" : Str)) = false := by decide) (hcd : (x == ("__classdict__" : Str)) = false := by decide)
    (hbase : attributeBase (.Name x p) "append" X.env (eval (.Name x p) X.env) = eval (.Name x p) X.env := by rfl)
    (hfew : ((backTo pos (starEach [a] X.env)).all (fun x => !x.1) && (backToKw pos (keywordEach [] X.env)).all (fun x => x.1.isSome) && decide ([a].length + ([] : List Keyword).length + (if ([] : List Keyword).isEmpty then 0 else 1) < 30)) = true := by rfl)
    (hline : (ap.endLine == pos.line) = true := by rfl) (hs : starEach [a] X.env = (false, eval a X.env) :: starEach [] X.env := by rfl) (hplain : (backTo pos (starEach [] X.env)).any (·.1) = false := by rfl)
    (hw : swapsWith (.Call (.Attribute (.Name x p) "append" ap) [a] [] pos) none spos.line X.env = pure false := by rfl) :
    CS X (.Expr (.Call (.Attribute (.Name x p) "append" ap) [a] [] pos) spos) (SS.app i sa) :=
  ps_expr (pe_bm PySem.F.plainAttrs_list PySem.F.slot_list_append PySem.F.type_list_append mt_append (pe_var hi hv hd hcd) (pa_cons ha pa_nil hs) hbase hfew hline hs hplain) hw
end
end Cl

set_option Elab.async false
set_option linter.all false
set_option maxRecDepth 100000
set_option maxHeartbeats 4000000
namespace Cl
open PySem L2 PySem.Spec PyProof.Rows
/-! ### reckoning: what simp knows -/
section
variable {C : Cf} {Γ : Ev} {w : C.T} {a b c : SE C} {ta tb : ST C} {s1 s2 : SS C}
def getV (i : Nat) (Γ : Ev) : Option Rv := match Γ[i]? with
    | some (some (.dat d)) => some (.dat d)
    | some (some (.own ds)) => some (.bor i ds)
    | some (some (.hd n)) => some (.hd n)
    | _ => none
theorem var_ev {i : Nat} : (SE.var (C := C) i).ev Γ w = (getV i Γ).map fun r => .ok r w := by
  unfold SE.var getV
  simp only
  split <;> simp_all
@[simp] theorem con_ev {v d hr} : (SE.con (C := C) v d hr).ev Γ w = some (.ok (.dat d) w) := rfl
@[simp] theorem bin_ev {r f} {h : BinOk C r f} : (SE.bin r f h a b).ev Γ w = bindR (a.evV Γ w) fun x w1 => bindR (b.evV Γ w1) fun y w2 => (f x y).map fun r => .ok r w2 := rfl
@[simp] theorem un_ev {r f} {h : UnOk C r f} : (SE.un r f h a).ev Γ w = bindR (a.evV Γ w) (evO f) := rfl
@[simp] theorem cb1_ev {r f} {h : UnOk C (fun x => r [x]) f} : (SE.cb1 r f h a).ev Γ w = bindR (a.evV Γ w) (evO f) := rfl
@[simp] theorem isi_ev {T} : (SE.isi T a).ev Γ w = bindR (a.evV Γ w) (evO (isiF T)) := rfl
@[simp] theorem cb2_ev {r f} {h : BinOk C (fun x y => r [x, y]) f} : (SE.cb2 r f h a b).ev Γ w = bindR (a.evV Γ w) fun x w1 => bindR (b.evV Γ w1) fun y w2 => (f x y).map fun r => .ok r w2 := rfl
theorem evV_def : a.evV Γ w = bindR (a.ev Γ w) (evO Rv.view) := rfl
theorem evD_def : a.evD Γ w = bindR (a.ev Γ w) (evO Rv.dat?) := rfl
theorem evA_def : a.evA Γ w = bindR (a.ev Γ w) (evO Rv.arg) := rfl
@[simp] theorem chain_ev {r r' f f' h h'} : (SE.chain (C := C) r r' f f' h h' a b c).ev Γ w = bindR (a.evV Γ w) fun x w1 => bindR (b.evV Γ w1) fun y w2 => bindB (f x y) fun k => if k = true then bindR (c.evV Γ w2) fun z w3 => (f' y z).map fun r => .ok r w3 else some (.ok (.dat (.bool false)) w2) := rfl
@[simp] theorem of_ev : (ST.of a).ev Γ w = bindR (a.evV Γ w) (evO bool?) := rfl
@[simp] theorem tand_ev : (ST.and ta tb).ev Γ w = bindR (ta.ev Γ w) fun x w1 => if x = true then tb.ev Γ w1 else some (.ok false w1) := rfl
@[simp] theorem tor_ev : (ST.or ta tb).ev Γ w = bindR (ta.ev Γ w) fun x w1 => if x = true then some (.ok true w1) else tb.ev Γ w1 := rfl
@[simp] theorem tnot_ev : (ST.not ta).ev Γ w = bindR (ta.ev Γ w) fun x w1 => some (.ok (!x) w1) := rfl
@[simp] theorem tyes_ev : (ST.yes (C := C)).ev Γ w = some (.ok true w) := rfl
@[simp] theorem eite_ev : (SE.ite ta a b).ev Γ w = bindR (ta.ev Γ w) fun x w1 => if x = true then a.ev Γ w1 else b.ev Γ w1 := rfl
@[simp] theorem andV_ev : (SE.andV a b).ev Γ w = bindR ((ST.of a).ev Γ w) fun x w1 => if x = true then b.ev Γ w1 else some (.ok (.dat (.bool false)) w1) := rfl
@[simp] theorem orV_ev : (SE.orV a b).ev Γ w = bindR ((ST.of a).ev Γ w) fun x w1 => if x = true then some (.ok (.dat (.bool true)) w1) else b.ev Γ w1 := rfl
@[simp] theorem notV_ev : (SE.notV a).ev Γ w = bindR ((ST.of a).ev Γ w) fun x w1 => some (.ok (.dat (.bool (!x))) w1) := rfl
@[simp] theorem anil_ev : (SA.nil (C := C)).ev Γ w = some (.ok [] w) := rfl
@[simp] theorem acons_ev {r : SA C} : (SA.cons a r).ev Γ w = bindR (a.evA Γ w) fun x w1 => bindR (r.ev Γ w1) fun xs w2 => some (.ok (x :: xs) w2) := rfl
@[simp] theorem mnil_ev : (SM.nil (C := C)).ev Γ w = some (.ok [] w) := rfl
@[simp] theorem mcons_ev {r : SM C} : (SM.cons a r).ev Γ w = bindR (a.ev Γ w) fun x w1 => bindR (r.ev Γ w1) fun xs w2 => some (.ok (x :: xs) w2) := rfl
@[simp] theorem tup_ev {r : SA C} : (SE.tup r).ev Γ w = bindR (r.ev Γ w) fun as w1 => if as.length ≤ 100000 then (datsOf as).map fun ds => .ok (.dat (.tuple ds)) w1 else none := rfl
@[simp] theorem lst_ev {r : SA C} : (SE.lst r).ev Γ w = bindR (r.ev Γ w) fun as w1 => if as.length ≤ 100000 then (datsOf as).map fun ds => .ok (.new (.lst ds)) w1 else none := rfl
@[simp] theorem call_ev {n g} {r : SA C} : (SE.call n g r).ev Γ w = bindR (r.ev Γ w) fun as w1 => if as.length = n then g as w1 else none := rfl
@[simp] theorem no_ev : (SO.no (C := C)).ev Γ w = some (.ok none w) := rfl
@[simp] theorem so_ev : (SO.so a).ev Γ w = bindR (a.evV Γ w) (evO fun d => match d with
    | .int i => some (some i)
    | _ => none) := rfl
@[simp] theorem sl_ev {l u : SO C} : (SE.sl a l u).ev Γ w = bindR (a.evV Γ w) fun d w1 => bindR (l.ev Γ w1) fun lo w2 => bindR (u.ev Γ w2) fun hi w3 => (slF d lo hi).map fun r => .ok r w3 := rfl
@[simp] theorem lc_ev {it : SI C} {g : SG C.z} {t : ST C.z} {e : SE C.z} {vs hg} : (SE.lc it g t e vs hg).ev Γ w = bindR (it.ev Γ w) fun items w1 => if items.length ≤ 100000 then
      (match mapEv g.asg t.ev e.evD (wipeE Γ vs) items w1 with
      | some (ys, w2) => some (.ok (.new (.lst ys)) w2)
      | none => none)
    else none := rfl
@[simp] theorem iseq_ev : (SI.seq a).ev Γ w = bindR (a.evD Γ w) (evO seq?) := rfl
@[simp] theorem ienum_ev : (SI.enum a).ev Γ w = bindR (a.evD Γ w) (evO fun d => (seq? d).map enumD) := rfl
@[simp] theorem irange_ev : (SI.range a).ev Γ w = bindR (a.evV Γ w) (evO fun d => match d with
    | .int j => if j ≤ 100000 ∧ -100000 ≤ j then some (ranD 0 j.toNat) else none
    | _ => none) := rfl
@[simp] theorem gname_asg {i : Nat} {d : PyData} : (SG.name (C := C) i).asg d Γ = if i < Γ.length then some (Γ.set i (some (.dat d))) else none := rfl
@[simp] theorem gtup_asg {n : Nat} {gs : SGs C} {d : PyData} : (SG.tup n gs).asg d Γ = match d with
    | .tuple ds => if ds.length = n then gs.asg ds Γ else none
    | _ => none := rfl
@[simp] theorem gnil_asg : (SGs.nil (C := C)).asg [] Γ = some Γ := rfl
@[simp] theorem gcons_asg {g : SG C} {gs : SGs C} {d : PyData} {ds : List PyData} : (SGs.cons g gs).asg (d :: ds) Γ = (g.asg d Γ).bind fun Γ1 => gs.asg ds Γ1 := rfl
@[simp] theorem seq_ev : (SS.seq s1 s2).ev Γ w = bindS (s1.ev Γ w) s2.ev := rfl
@[simp] theorem nop_ev : (SS.nop (C := C)).ev Γ w = some (.nx Γ w) := rfl
@[simp] theorem brk_ev : (SS.brk (C := C)).ev Γ w = some (.bk Γ w) := rfl
@[simp] theorem cnt_ev : (SS.cnt (C := C)).ev Γ w = some (.ct Γ w) := rfl
@[simp] theorem site_ev : (SS.ite ta s1 s2).ev Γ w = bindF (ta.ev Γ w) fun x w1 => if x = true then s1.ev Γ w1 else s2.ev Γ w1 := rfl
@[simp] theorem drop_ev : (SS.drop a).ev Γ w = bindF (a.ev Γ w) fun _ w1 => some (.nx Γ w1) := rfl
@[simp] theorem ret_ev : (SS.ret a).ev Γ w = bindF (a.ev Γ w) fun r w1 => some (.rt r.out w1) := rfl
@[simp] theorem retN_ev : (SS.retN (C := C)).ev Γ w = some (.rt (.dat .none) w) := rfl
@[simp] theorem asg_ev {i : Nat} : (SS.asg i a).ev Γ w = bindF (a.ev Γ w) fun r w1 => if i < Γ.length then r.sv.map fun x => .nx (Γ.set i (some x)) w1 else none := rfl
@[simp] theorem asgD_ev {i : Nat} : (SS.asgD i a).ev Γ w = bindF (a.evD Γ w) fun d w1 => if i < Γ.length then some (.nx (Γ.set i (some (.dat d))) w1) else none := rfl
@[simp] theorem par2_ev {i j : Nat} {m : SM C} : (SS.par2 i j m).ev Γ w = bindF (m.ev Γ w) fun rs w1 => (putE [i, j] rs Γ).map fun Γ' => .nx Γ' w1 := rfl
@[simp] theorem par3_ev {i j k : Nat} {m : SM C} : (SS.par3 i j k m).ev Γ w = bindF (m.ev Γ w) fun rs w1 => (putE [i, j, k] rs Γ).map fun Γ' => .nx Γ' w1 := rfl
@[simp] theorem parT_ev {is : List Nat} {m : SM C} : (SS.parT is m).ev Γ w = if is.length ≤ 1000 then bindF (m.ev Γ w) fun rs w1 => (putE is rs Γ).map fun Γ' => .nx Γ' w1 else none := rfl
@[simp] theorem unp_ev {g : SG C} : (SS.unp g a).ev Γ w = bindF (a.evD Γ w) fun d w1 => (g.asg d Γ).map fun Γ' => .nx Γ' w1 := rfl
@[simp] theorem for_ev {it : SI C} {g : SG C} : (SS.for it g s1).ev Γ w = bindF (it.ev Γ w) fun items w1 => forEv g.asg s1.ev items Γ w1 := rfl
@[simp] theorem while_ev {n : Nat} : (SS.while n ta s1).ev Γ w = whileEv ta.ev s1.ev n Γ w := rfl
@[simp] theorem never_ev : (SS.never (C := C)).ev Γ w = none := rfl
end
@[simp] theorem putE_nil {Γ : Ev} : putE [] [] Γ = some Γ := rfl
@[simp] theorem putE_cons {i : Nat} {is : List Nat} {r : Rv} {rs : List Rv} {Γ : Ev} : putE (i :: is) (r :: rs) Γ = if i < Γ.length then r.sv.bind fun x => putE is rs (Γ.set i (some x)) else none := rfl
@[simp] theorem datsOf_nil : datsOf [] = some [] := rfl
@[simp] theorem datsOf_dat {d : PyData} {r : List Av} : datsOf (.dat d :: r) = (datsOf r).map (d :: ·) := rfl
@[simp] theorem dat?_dat {d : PyData} : Rv.dat? (.dat d) = some d := rfl
@[simp] theorem dat?_new {d : Ob} : Rv.dat? (.new d) = some d.dat := rfl
@[simp] theorem obdat_lst {d : List PyData} : Ob.dat (.lst d) = .list d := rfl
@[simp] theorem obdat_dic {d : List (Key × PyData)} : Ob.dat (.dic d) = .dict (dicD d) := rfl
@[simp] theorem view_dat {d : PyData} : Rv.view (.dat d) = some d := rfl
@[simp] theorem view_new {d : Ob} : Rv.view (.new d) = some d.dat := rfl
@[simp] theorem view_bor {i : Nat} {d : Ob} : Rv.view (.bor i d) = some d.dat := rfl
@[simp] theorem arg_dat {d : PyData} : Rv.arg (.dat d) = some (.dat d) := rfl
@[simp] theorem arg_new {d : Ob} : Rv.arg (.new d) = some (.dat d.dat) := rfl
@[simp] theorem arg_hd {n : Nat} : Rv.arg (.hd n) = some (.hd n) := rfl
@[simp] theorem sv_dat {d : PyData} : Rv.sv (.dat d) = some (.dat d) := rfl
@[simp] theorem sv_new {d : Ob} : Rv.sv (.new d) = some (.own d) := rfl
@[simp] theorem sv_hd {n : Nat} : Rv.sv (.hd n) = some (.hd n) := rfl
@[simp] theorem out_dat {d : PyData} : Rv.out (.dat d) = .dat d := rfl
@[simp] theorem out_new {d : Ob} : Rv.out (.new d) = .new d := rfl
@[simp] theorem out_bor {i : Nat} {d : Ob} : Rv.out (.bor i d) = .new d := rfl
@[simp] theorem out_hd {n : Nat} : Rv.out (.hd n) = .hd n := rfl
@[simp] theorem asv_dat {d : PyData} : Av.sv (.dat d) = .dat d := rfl
@[simp] theorem asv_hd {n : Nat} : Av.sv (.hd n) = .hd n := rfl
@[simp] theorem bool?_bool {b : Bool} : bool? (.bool b) = some b := rfl
theorem getV_0 {x : Option Sv} {r : Ev} : getV 0 (x :: r) = match x with
    | some (.dat d) => some (.dat d)
    | some (.own ds) => some (.bor 0 ds)
    | some (.hd n) => some (.hd n)
    | _ => none := by cases x with | none => rfl | some y => cases y <;> rfl
theorem getV_dat {i : Nat} {Γ : Ev} {d : PyData} (h : Γ[i]? = some (some (.dat d))) : getV i Γ = some (.dat d) := by unfold getV; rw [h]
theorem kit_NoneType_int : kitB "NoneType" "int" = some false := by decide +kernel
@[simp] theorem isi_none_int : isiF "int" (.none) = some (.dat (.bool false)) := by unfold isiF tyD; rw [kit_NoneType_int]; rfl
theorem kit_bool_int : kitB "bool" "int" = some true := by decide +kernel
@[simp] theorem isi_bool_int {x : Bool} : isiF "int" (.bool x) = some (.dat (.bool true)) := by unfold isiF tyD; rw [kit_bool_int]; rfl
theorem kit_int_int : kitB "int" "int" = some true := by decide +kernel
@[simp] theorem isi_int_int {x : Int} : isiF "int" (.int x) = some (.dat (.bool true)) := by unfold isiF tyD; rw [kit_int_int]; rfl
theorem kit_str_int : kitB "str" "int" = some false := by decide +kernel
@[simp] theorem isi_str_int {x : Str} : isiF "int" (.str x) = some (.dat (.bool false)) := by unfold isiF tyD; rw [kit_str_int]; rfl
theorem kit_list_int : kitB "list" "int" = some false := by decide +kernel
@[simp] theorem isi_list_int {x : List PyData} : isiF "int" (.list x) = some (.dat (.bool false)) := by unfold isiF tyD; rw [kit_list_int]; rfl
theorem kit_tuple_int : kitB "tuple" "int" = some false := by decide +kernel
@[simp] theorem isi_tuple_int {x : List PyData} : isiF "int" (.tuple x) = some (.dat (.bool false)) := by unfold isiF tyD; rw [kit_tuple_int]; rfl
theorem kit_dict_int : kitB "dict" "int" = some false := by decide +kernel
@[simp] theorem isi_dict_int {x : List (Key × PyData)} : isiF "int" (.dict (dicD x)) = some (.dat (.bool false)) := by unfold isiF; rw [if_neg (by cases x with | nil => simp [dicD, isObjD] | cons a r => obtain ⟨k, d⟩ := a; cases k <;> simp [dicD, keyD, isObjD])]; unfold tyD; rw [kit_dict_int]; rfl
theorem kit_NoneType_bool : kitB "NoneType" "bool" = some false := by decide +kernel
@[simp] theorem isi_none_bool : isiF "bool" (.none) = some (.dat (.bool false)) := by unfold isiF tyD; rw [kit_NoneType_bool]; rfl
theorem kit_bool_bool : kitB "bool" "bool" = some true := by decide +kernel
@[simp] theorem isi_bool_bool {x : Bool} : isiF "bool" (.bool x) = some (.dat (.bool true)) := by unfold isiF tyD; rw [kit_bool_bool]; rfl
theorem kit_int_bool : kitB "int" "bool" = some false := by decide +kernel
@[simp] theorem isi_int_bool {x : Int} : isiF "bool" (.int x) = some (.dat (.bool false)) := by unfold isiF tyD; rw [kit_int_bool]; rfl
theorem kit_str_bool : kitB "str" "bool" = some false := by decide +kernel
@[simp] theorem isi_str_bool {x : Str} : isiF "bool" (.str x) = some (.dat (.bool false)) := by unfold isiF tyD; rw [kit_str_bool]; rfl
theorem kit_list_bool : kitB "list" "bool" = some false := by decide +kernel
@[simp] theorem isi_list_bool {x : List PyData} : isiF "bool" (.list x) = some (.dat (.bool false)) := by unfold isiF tyD; rw [kit_list_bool]; rfl
theorem kit_tuple_bool : kitB "tuple" "bool" = some false := by decide +kernel
@[simp] theorem isi_tuple_bool {x : List PyData} : isiF "bool" (.tuple x) = some (.dat (.bool false)) := by unfold isiF tyD; rw [kit_tuple_bool]; rfl
theorem kit_dict_bool : kitB "dict" "bool" = some false := by decide +kernel
@[simp] theorem isi_dict_bool {x : List (Key × PyData)} : isiF "bool" (.dict (dicD x)) = some (.dat (.bool false)) := by unfold isiF; rw [if_neg (by cases x with | nil => simp [dicD, isObjD] | cons a r => obtain ⟨k, d⟩ := a; cases k <;> simp [dicD, keyD, isObjD])]; unfold tyD; rw [kit_dict_bool]; rfl
theorem kit_NoneType_str : kitB "NoneType" "str" = some false := by decide +kernel
@[simp] theorem isi_none_str : isiF "str" (.none) = some (.dat (.bool false)) := by unfold isiF tyD; rw [kit_NoneType_str]; rfl
theorem kit_bool_str : kitB "bool" "str" = some false := by decide +kernel
@[simp] theorem isi_bool_str {x : Bool} : isiF "str" (.bool x) = some (.dat (.bool false)) := by unfold isiF tyD; rw [kit_bool_str]; rfl
theorem kit_int_str : kitB "int" "str" = some false := by decide +kernel
@[simp] theorem isi_int_str {x : Int} : isiF "str" (.int x) = some (.dat (.bool false)) := by unfold isiF tyD; rw [kit_int_str]; rfl
theorem kit_str_str : kitB "str" "str" = some true := by decide +kernel
@[simp] theorem isi_str_str {x : Str} : isiF "str" (.str x) = some (.dat (.bool true)) := by unfold isiF tyD; rw [kit_str_str]; rfl
theorem kit_list_str : kitB "list" "str" = some false := by decide +kernel
@[simp] theorem isi_list_str {x : List PyData} : isiF "str" (.list x) = some (.dat (.bool false)) := by unfold isiF tyD; rw [kit_list_str]; rfl
theorem kit_tuple_str : kitB "tuple" "str" = some false := by decide +kernel
@[simp] theorem isi_tuple_str {x : List PyData} : isiF "str" (.tuple x) = some (.dat (.bool false)) := by unfold isiF tyD; rw [kit_tuple_str]; rfl
theorem kit_dict_str : kitB "dict" "str" = some false := by decide +kernel
@[simp] theorem isi_dict_str {x : List (Key × PyData)} : isiF "str" (.dict (dicD x)) = some (.dat (.bool false)) := by unfold isiF; rw [if_neg (by cases x with | nil => simp [dicD, isObjD] | cons a r => obtain ⟨k, d⟩ := a; cases k <;> simp [dicD, keyD, isObjD])]; unfold tyD; rw [kit_dict_str]; rfl
theorem kit_NoneType_list : kitB "NoneType" "list" = some false := by decide +kernel
@[simp] theorem isi_none_list : isiF "list" (.none) = some (.dat (.bool false)) := by unfold isiF tyD; rw [kit_NoneType_list]; rfl
theorem kit_bool_list : kitB "bool" "list" = some false := by decide +kernel
@[simp] theorem isi_bool_list {x : Bool} : isiF "list" (.bool x) = some (.dat (.bool false)) := by unfold isiF tyD; rw [kit_bool_list]; rfl
theorem kit_int_list : kitB "int" "list" = some false := by decide +kernel
@[simp] theorem isi_int_list {x : Int} : isiF "list" (.int x) = some (.dat (.bool false)) := by unfold isiF tyD; rw [kit_int_list]; rfl
theorem kit_str_list : kitB "str" "list" = some false := by decide +kernel
@[simp] theorem isi_str_list {x : Str} : isiF "list" (.str x) = some (.dat (.bool false)) := by unfold isiF tyD; rw [kit_str_list]; rfl
theorem kit_list_list : kitB "list" "list" = some true := by decide +kernel
@[simp] theorem isi_list_list {x : List PyData} : isiF "list" (.list x) = some (.dat (.bool true)) := by unfold isiF tyD; rw [kit_list_list]; rfl
theorem kit_tuple_list : kitB "tuple" "list" = some false := by decide +kernel
@[simp] theorem isi_tuple_list {x : List PyData} : isiF "list" (.tuple x) = some (.dat (.bool false)) := by unfold isiF tyD; rw [kit_tuple_list]; rfl
theorem kit_dict_list : kitB "dict" "list" = some false := by decide +kernel
@[simp] theorem isi_dict_list {x : List (Key × PyData)} : isiF "list" (.dict (dicD x)) = some (.dat (.bool false)) := by unfold isiF; rw [if_neg (by cases x with | nil => simp [dicD, isObjD] | cons a r => obtain ⟨k, d⟩ := a; cases k <;> simp [dicD, keyD, isObjD])]; unfold tyD; rw [kit_dict_list]; rfl
theorem kit_NoneType_tuple : kitB "NoneType" "tuple" = some false := by decide +kernel
@[simp] theorem isi_none_tuple : isiF "tuple" (.none) = some (.dat (.bool false)) := by unfold isiF tyD; rw [kit_NoneType_tuple]; rfl
theorem kit_bool_tuple : kitB "bool" "tuple" = some false := by decide +kernel
@[simp] theorem isi_bool_tuple {x : Bool} : isiF "tuple" (.bool x) = some (.dat (.bool false)) := by unfold isiF tyD; rw [kit_bool_tuple]; rfl
theorem kit_int_tuple : kitB "int" "tuple" = some false := by decide +kernel
@[simp] theorem isi_int_tuple {x : Int} : isiF "tuple" (.int x) = some (.dat (.bool false)) := by unfold isiF tyD; rw [kit_int_tuple]; rfl
theorem kit_str_tuple : kitB "str" "tuple" = some false := by decide +kernel
@[simp] theorem isi_str_tuple {x : Str} : isiF "tuple" (.str x) = some (.dat (.bool false)) := by unfold isiF tyD; rw [kit_str_tuple]; rfl
theorem kit_list_tuple : kitB "list" "tuple" = some false := by decide +kernel
@[simp] theorem isi_list_tuple {x : List PyData} : isiF "tuple" (.list x) = some (.dat (.bool false)) := by unfold isiF tyD; rw [kit_list_tuple]; rfl
theorem kit_tuple_tuple : kitB "tuple" "tuple" = some true := by decide +kernel
@[simp] theorem isi_tuple_tuple {x : List PyData} : isiF "tuple" (.tuple x) = some (.dat (.bool true)) := by unfold isiF tyD; rw [kit_tuple_tuple]; rfl
theorem kit_dict_tuple : kitB "dict" "tuple" = some false := by decide +kernel
@[simp] theorem isi_dict_tuple {x : List (Key × PyData)} : isiF "tuple" (.dict (dicD x)) = some (.dat (.bool false)) := by unfold isiF; rw [if_neg (by cases x with | nil => simp [dicD, isObjD] | cons a r => obtain ⟨k, d⟩ := a; cases k <;> simp [dicD, keyD, isObjD])]; unfold tyD; rw [kit_dict_tuple]; rfl
theorem kit_NoneType_dict : kitB "NoneType" "dict" = some false := by decide +kernel
@[simp] theorem isi_none_dict : isiF "dict" (.none) = some (.dat (.bool false)) := by unfold isiF tyD; rw [kit_NoneType_dict]; rfl
theorem kit_bool_dict : kitB "bool" "dict" = some false := by decide +kernel
@[simp] theorem isi_bool_dict {x : Bool} : isiF "dict" (.bool x) = some (.dat (.bool false)) := by unfold isiF tyD; rw [kit_bool_dict]; rfl
theorem kit_int_dict : kitB "int" "dict" = some false := by decide +kernel
@[simp] theorem isi_int_dict {x : Int} : isiF "dict" (.int x) = some (.dat (.bool false)) := by unfold isiF tyD; rw [kit_int_dict]; rfl
theorem kit_str_dict : kitB "str" "dict" = some false := by decide +kernel
@[simp] theorem isi_str_dict {x : Str} : isiF "dict" (.str x) = some (.dat (.bool false)) := by unfold isiF tyD; rw [kit_str_dict]; rfl
theorem kit_list_dict : kitB "list" "dict" = some false := by decide +kernel
@[simp] theorem isi_list_dict {x : List PyData} : isiF "dict" (.list x) = some (.dat (.bool false)) := by unfold isiF tyD; rw [kit_list_dict]; rfl
theorem kit_tuple_dict : kitB "tuple" "dict" = some false := by decide +kernel
@[simp] theorem isi_tuple_dict {x : List PyData} : isiF "dict" (.tuple x) = some (.dat (.bool false)) := by unfold isiF tyD; rw [kit_tuple_dict]; rfl
theorem kit_dict_dict : kitB "dict" "dict" = some true := by decide +kernel
@[simp] theorem isi_dict_dict {x : List (Key × PyData)} : isiF "dict" (.dict (dicD x)) = some (.dat (.bool true)) := by unfold isiF; rw [if_neg (by cases x with | nil => simp [dicD, isObjD] | cons a r => obtain ⟨k, d⟩ := a; cases k <;> simp [dicD, keyD, isObjD])]; unfold tyD; rw [kit_dict_dict]; rfl
end Cl

set_option Elab.async false
set_option linter.all false
set_option maxRecDepth 100000
set_option maxHeartbeats 4000000
namespace L2
open PySem PySem.Spec PyProof.Rows
/-! ### d.items() of a locked dict with tuple keys -/
section
variable {X : Cx} {pins : List (Addr × Obj)} {σ : St} {H : Hp} {s : Shared} {d : Addr} {o : Obj}
theorem Inv.frzT2 {kvs : List (List Key × V)} (I : Inv X pins σ H s) (h : H d = some (.frz o (.dT kvs))) :
    (d == sysModules) = false ∧ s.heap.get? d = some o ∧ o.ExactDict ∧ ∃ (es : Array DictEntry) (ep : Nat), o.data = .dict es ep ∧ es.size = kvs.length ∧
      ∀ (i : Nat) (k : List Key) (v : V), kvs[i]? = some (k, v) → ∃ (en : DictEntry) (q : Addr), es[i]? = some en ∧ en.key = .ref q ∧ H q = some (.tup (k.map kV)) ∧ RelV v en.val := by
  obtain ⟨hd, z, hs, xs, pr, o', es, ep, ho, hx, hdt, he, _⟩ := I.hok d _ h
  rw [hd] at ho
  cases ho
  refine ⟨hs, hd, hx, es, ep, hdt, ?_, fun i k v e => ?_⟩
  · have l1 : es.size = xs.length := size_of_entries he
    have l2 : kvs.length = xs.length := Paired.length pr
    omega
  · obtain ⟨b, hb, e1, e2, e3⟩ := paired_get pr e
    have q := entry_at he i
    rw [hb] at q
    exact ⟨_, b.2.1, q, rfl, e2, e3⟩
end
def Itit (d : Addr) (o : Obj) (kvs : List (List Key × V)) : It :=
  ⟨fun i H => H d = some (.frz o (.dT kvs)) ∧ i < kvs.length, fun i H x H' => ∃ T k v q, kvs[i]? = some (k, v) ∧ x = .ref T ∧ H T = none ∧ H q = some (.tup (k.map kV)) ∧ H' = upd H T (.tup [.ref q, v]), fun i H => H d = some (.frz o (.dT kvs)) ∧ kvs.length ≤ i⟩
theorem raw_of {h : Heap} {d : Addr} {o : Obj} {es : Array DictEntry} {ep : Nat} (h1 : h.get? d = some o) (h2 : o.ExactDict) (h3 : o.data = .dict es ep) : DT.Raw h d es ep := ⟨o, h1, h2, h3⟩
theorem turn_itemsT {P : Program} {w : World} {K : PySem.W.Frag} {d : Addr} {o : Obj} {es : Array DictEntry} {ep : Nat} {kvs : List (List Key × V)} {elts : List Expr} {kk : Nat} {tpos : Pos} (it : Addr) (hod : o.data = .dict es ep) :
    Turn P w K (.Tuple elts kk tpos) (Itit d o kvs) [it] it (fun i h => ∃ ok ov, IsItemIter h it d i kvs.length ep ok ov) where
  mem := by simp
  obj := fun i h st b hb => by
    have e : b = it := by simpa using hb
    subst e
    obtain ⟨ok, ov, e⟩ := st
    exact ⟨_, e, fun v z => nomatch z⟩
  keep := fun i h h' st k => let ⟨ok, ov, e⟩ := st; ⟨ok, ov, k it (by simp) _ e⟩
  item := by
    intro X hP hw hK hc i pins s σ H E I hf st hg
    subst hP hw hK
    obtain ⟨hd, hi⟩ := hg
    obtain ⟨hs, hgd, hx, es', ep', hdt, hsz, ent⟩ := I.frzT2 hd
    obtain ⟨rfl, rfl⟩ := dict_ep hod hdt
    obtain ⟨⟨k, v⟩, hkv⟩ : ∃ p, kvs[i]? = some p := ⟨kvs[i], List.getElem?_eq_getElem hi⟩
    obtain ⟨en, q, hen, hkey, hq, hv⟩ := ent i k v hkv
    obtain ⟨ok, ov, he⟩ := st
    have hlt : it < s.heap.objs.size := Heap.lt_size he
    have hi2 : i < es'.size := by omega
    have hen' : es'[i] = en := by
      rw [Array.getElem?_eq_getElem hi2] at hen
      exact Option.some.inj hen
    rw [← hsz] at he
    refine DT.nextI he (raw_of hgd hx hdt) hi2 fun h' ho hT hz hk => ?_
    rw [hen', hkey] at ho hT
    refine ⟨_, rfl, wpAny_letOwnedTupleGo_items (s := { s with heap := h' }) ho fun h'' he' sb => ?_⟩
    have hT2 : h''.get? s.heap.objs.size = some { cls := .type "tuple", data := .seq #[.ref q, en.val] } := (sb.2 _ (Nat.ne_of_gt hlt)).trans hT
    have new : ObjOk X.prog X.w (upd H s.heap.objs.size (.tup [.ref q, v])) h'' s.heap.objs.size (.tup [.ref q, v]) :=
      ⟨by show 2 ≤ sizeLine; decide, [.ref q, en.val], .cons rfl (.cons hv .nil), ⟨_, hT2, rfl, _, rfl⟩⟩
    have I1 : Inv X pins σ (upd H s.heap.objs.size (.tup [.ref q, v])) { s with heap := h'' } :=
      I.turnedNew (t' := s.toks) (ch := [it]) (fun b ob hb e => (sb.2 b (by simpa using hb)).trans (hk b ob (by simpa using hb) e)) hf (Nat.le_refl _) new
    refine ⟨.ref s.heap.objs.size, _, I1, rfl, ⟨_, k, v, q, hkv, rfl, I.hok.fresh (Nat.le_refl _), hq, rfl⟩, ⟨.ref q, en.val, ?_⟩, fun b hb => ?_⟩
    · rw [← hsz]; exact he'
    · have e : b = it := by simpa using hb
      rw [e, upd_ne (Nat.ne_of_lt hlt)]
      exact (hf it (by simp)).1
  done := by
    intro X hP hw hK hc i pins s σ H E I hf st hg
    subst hP hw hK
    obtain ⟨hd, hi⟩ := hg
    obtain ⟨f0, f1, f2, f3, f4, f5⟩ := hf it (by simp)
    obtain ⟨hs, hgd, hx, es', ep', hdt, hsz, ent⟩ := I.frzT2 hd
    obtain ⟨rfl, rfl⟩ := dict_ep hod hdt
    obtain ⟨ok, ov, he⟩ := st
    rw [← hsz] at he
    exact DT.endI (I.ok.hd hc) he (raw_of hgd hx hdt) (by omega) fun h' eb => ⟨rfl, I.turned (t' := s.toks) (fun b ob hb e => eb b ob hb e) f0 f1 f3 f4 f5⟩
  self := fun A i s Q E st h => let ⟨_, _, e⟩ := st; PySem.W.kcp_self e h
def iItemsT (td : TE) : TI := fun σ H R => td σ H fun x H1 => ∃ d o kvs, x = .ref d ∧ H1 d = some (.frz o (.dT kvs)) ∧ R (Itit d o kvs) H1
theorem pi_itemsT {X : Cx} {e : Expr} {td : TE} {apos cpos : Pos} {elts : List Expr} {kk : Nat} {tpos : Pos} (he : PE X e td) (hbase : attributeBase e "items" X.env (eval e X.env) = eval e X.env := by rfl) (hline : (apos.endLine == cpos.line) = true := by rfl) :
    PI X (.Tuple elts kk tpos) (.Call (.Attribute e "items" apos) [] [] cpos) (iItemsT td) := by
  refine ⟨fun pins s σ H R I h => ?_⟩
  refine wpAny_Call_method (T := "dict") (id := "dict.items") hbase rfl hline F.plainAttrs_dict F.slot_dict_items F.type_dict_items (thn (he.run pins s σ H _ I h) fun u s1 ⟨x, H1, I1, rx, d, o, kvs, ex, hd, q⟩ => ?_)
  subst ex
  obtain rfl : u = Value.ref d := rx
  obtain ⟨hs, hgd, hx, es, ep, hdt, hsz, ent⟩ := I1.frzT2 hd
  have hr : DT.Raw s1.heap d es ep := raw_of hgd hx hdt
  refine ⟨hr.typeIs, fun a ea => ?_, ?_⟩
  · cases ea
    exact ⟨o, hgd, hx.2.1⟩
  have I2 : Inv X pins σ H1 { s1 with heap := s1.heap.push { cls := .type "dict_items", data := .fields #[.ref d] } } := I1.kept (t' := s1.toks) fun b ob q => Heap.get?_push_of_some _ q
  have fin : wpAny (model X.prog X.w) X.A (pyIter (.ref s1.heap.objs.size)) (PIE X pins σ (.Tuple elts kk tpos) R) X.xe { s1 with heap := s1.heap.push { cls := .type "dict_items", data := .fields #[.ref d] } } := by
    refine DT.iterI (d := d) (es := es) (ep := ep) ⟨_, Heap.get?_push_size _ rfl, rfl, rfl⟩ (hr.push _) (pi_one (tk := s1.toks) I2 _ (turn_itemsT _ hdt) ⟨.none, .none, ?_⟩ q)
    rw [← hsz]
    exact Heap.get?_push_size _ rfl
  show wpAny _ _ (callWith cpos (.builtin "dict.items") [.ref d] [] []) _ X.xe s1
  exact method_meetsIn F.slot_dict_items F.entry_dict_items rfl (PySem.evalArgs_none ⟨rfl, hr.typeIs, F.args_dict_items_1 _, _, DT.meetsItems (es := es) (ep := ep) hs, ⟨hr, fin⟩⟩)
/-- the value's object is locked for good -/
def tKeep (t : TE) : TE := fun σ H Q => t σ H fun v H1 => ∃ d u, v = .ref d ∧ H1 d = some u ∧ Mut (some u) ∧ ∀ od, Q v (upd H1 d (.frz od u))
theorem pe_keep {X : Cx} {e : Expr} {t : TE} (h : PE X e t) : PE X e (tKeep t) := by
  refine ⟨fun pins s σ H Q I hw => ?_⟩
  refine thn (h.run pins s σ _ _ I hw) fun v s1 ⟨x, H1, I1, r, d, u, ex, hd, mu, q⟩ => ?_
  obtain ⟨od, I2⟩ := I1.lock hd mu
  exact ⟨x, _, I2, r, q od⟩
end L2

set_option Elab.async false
set_option linter.all false
set_option maxRecDepth 100000
set_option maxHeartbeats 4000000
namespace Cl
open PySem L2 PySem.Spec PyProof.Rows
/-! ### a dict of tuple keys, locked for good -/
def lockR : Rv → Option Rv
  | .new (.dicT kvs) => some (.dat (.dict ((.bool false, .none) :: dicTD kvs)))
  | _ => none
def SE.lockT {C : Cf} (a : SE C) : SE C where
  t := tKeep a.t
  ev := fun Γ w => bindR (a.ev Γ w) (evO lockR)
  ok := by
    intro sE HE s H σ Γ w res S h e Q q
    rcases bindR_cases e with ⟨r, w1, e1, e2⟩ | ⟨x, w1, e1, rfl⟩
    · obtain ⟨rv, e3, rfl⟩ := evO_inv e2
      refine a.ok S h e1 _ fun s1 H1 l1 h1 v hv => ?_
      unfold lockR at e3
      split at e3
      · cases e3
        obtain ⟨p, u, rfl, n, hp, n0, nw, xs, rfl, r⟩ := hv
        refine ⟨p, _, rfl, hp, trivial, fun od => ?_⟩
        have l2 : Le s H (s1.frz p (.frz od (.dT xs))) (upd H1 p (.frz od (.dT xs))) := (l1.mut n).frz n n0
        have h2 : HO' C.K C.Wd (s1.frz p (.frz od (.dT xs))) (upd H1 p (.frz od (.dT xs))) w1 := (h1.mut n0 nw).frz upd_same n0 nw
        exact q _ _ l2 h2 _ (.dicF upd_same (r.mono (Ex.new n0)).toT)
      · cases e3
    · exact a.ok S h e1 _ q.ex
theorem ce_lockT {X : Cx} {Wd : World} {a : Expr} {sa : SE (cf X Wd)} (h : CE X a sa) : CE X a (SE.lockT sa) := pe_keep h

theorem rp_key {K : PySem.W.Frag} {H : Hp} : ∀ k : Key, Rp K H (kV k) (keyD k)
  | .inl i => .int i
  | .inr x => .str x
theorem rpA_keys {K : PySem.W.Frag} {H : Hp} : ∀ k : List Key, RpA K H (k.map kV) (k.map keyD)
  | [] => .nil
  | k :: ks => .cons (rp_key k) (rpA_keys ks)
theorem RpT.length {K : PySem.W.Frag} {H : Hp} : ∀ {v : List (List Key × V)} {d : List (PyData × PyData)}, RpT K H v d → v.length = d.length
  | _, _, .nil => rfl
  | _, _, .cons _ r => by rw [List.length_cons, List.length_cons, r.length]
theorem RpT.get {K : PySem.W.Frag} {H : Hp} : ∀ {v : List (List Key × V)} {d : List (PyData × PyData)}, RpT K H v d → ∀ {i : Nat} {k : List Key} {x : V}, v[i]? = some (k, x) →
    ∃ y, d[i]? = some (.tuple (k.map keyD), y) ∧ Rp K H x y
  | _, _, .nil, i, k, x, e => by simp at e
  | _, _, .cons (d := d) h r, 0, k, x, e => by cases e; exact ⟨d, rfl, h⟩
  | _, _, .cons h r, i + 1, k, x, e => r.get (i := i) e
def itemsD (ds : List (PyData × PyData)) : List PyData := ds.map fun p => .tuple [p.1, p.2]
theorem wk_itemsF {C : Cf} {d : Addr} {od : Obj} {kvs : List (List Key × V)} {ds : List (PyData × PyData)} {H0 : Hp} (h : H0 d = some (.frz od (.dT kvs))) (r : RpT C.K H0 kvs ds) : Wk C (Itit d od kvs) H0 (itemsD ds) where
  go := by
    intro s H w i h' x hi
    exact ⟨h'.ex _ _ (x _ _ h), by simpa [itemsD, r.length] using hi⟩
  stop := by
    intro s H w h' x
    exact ⟨h'.ex _ _ (x _ _ h), by simp [itemsD, r.length]⟩
  yld := by
    intro s H w i v H' h' x hi y
    obtain ⟨T, k, u, q, hk, rfl, hT, hq, rfl⟩ := y
    obtain ⟨d', hd, rd⟩ := r.get hk
    have : ∃ s1, Le s H s1 H ∧ HO' C.K C.Wd s1 H w ∧ s1.H0 q = some (.tup (k.map kV)) := by
      cases e : s.H0 q with
      | none => exact ⟨s.frz q _, (Le.refl s H).frzT hq e, h'.frzT hq e, upd_same⟩
      | some o =>
        have := h'.ex _ _ e
        rw [hq] at this; cases this
        exact ⟨s, Le.refl _ _, h', e⟩
    obtain ⟨s1, l1, h1, e1⟩ := this
    have n0 := h1.none0 hT
    refine ⟨s1.frz T (.tup [.ref q, u]), .tuple [.tuple (k.map keyD), d'], ?_, l1.trans ((Le.new hT).frz hT n0), (h1.new hT).frz upd_same n0 (h1.noneW hT), .tup upd_same ((RpA.cons (.tup e1 (rpA_keys k)) (.cons (Rp.mono (x.trans l1.h0) rd) .nil)).mono (Ex.new n0))⟩
    unfold itemsD
    rw [List.getElem?_map, hd]
    rfl
theorem RpD.keyOf {K : PySem.W.Frag} {H : Hp} {kvs : List (Key × V)} {ds : List (PyData × PyData)} (h : RpD K H kvs ds) {p : PyData × PyData} {r : List (PyData × PyData)} (e : ds = p :: r) : ∃ k, p.1 = keyD k := by
  cases h with
  | nil => cases e
  | cons _ _ => cases e; exact ⟨_, rfl⟩
theorem Rp.dicF_inv {K : PySem.W.Frag} {H : Hp} {v : V} {ds : List (PyData × PyData)} (h : Rp K H v (.dict ((.bool false, .none) :: ds))) : ∃ a od kvs, v = .ref a ∧ H a = some (.frz od (.dT kvs)) ∧ RpT K H kvs ds := by
  generalize e : PyData.dict ((.bool false, .none) :: ds) = d at h
  cases h with
  | dicF ha r => cases e; exact ⟨_, _, _, rfl, ha, r⟩
  | dic ha r =>
    injection e with e
    obtain ⟨k, ek⟩ := r.keyOf e.symm
    cases k <;> cases ek
  | dicT ha r => cases e
  | ins ha r => cases e
  | non => cases e
  | bl b => cases e
  | int b => cases e
  | str b => cases e
  | lst _ _ => cases e
  | tup _ _ => cases e
def SI.itemsF {C : Cf} (a : SE C) : SI C where
  t := iItemsT a.t
  ev := fun Γ w => bindR (a.evD Γ w) (evO fun d => match d with
    | .dict ((.bool false, .none) :: ds) => some (itemsD ds)
    | _ => none)
  ok := by
    intro sE HE s H σ Γ w res S h e R q
    rcases bindR_cases e with ⟨d, w1, e1, e2⟩ | ⟨x, w1, e1, rfl⟩
    · obtain ⟨items, e3, rfl⟩ := evO_inv e2
      refine a.okD S h e1 _ fun s1 H1 l1 h1 v z => ?_
      split at e3
      · cases e3
        obtain ⟨p, od, kvs, rfl, hp, r⟩ := z.dicF_inv
        exact ⟨p, od, kvs, rfl, h1.ex _ _ hp, q s1 H1 l1 h1 _ (wk_itemsF hp r)⟩
      · cases e3
    · exact a.okD S h e1 _ q.ex

/-! ### fields, methods of instances that never change again -/
def fldD : List (PyData × PyData) → Str → Option PyData
  | [], _ => none
  | (.str x, d) :: r, f => if f = x then some d else fldD r f
  | _ :: r, f => fldD r f
theorem RpF.look {K : PySem.W.Frag} {H : Hp} {f : Str} : ∀ {v : List (Str × V)} {ds : List (PyData × PyData)}, RpF K H v ds → ∀ {d : PyData}, fldD ds f = some d → ∃ x, v.lookup f = some x ∧ Rp K H x d
  | _, _, .nil, d, e => by cases e
  | _, _, .cons (k := k) (v := v) h r, d, e => by
    unfold fldD at e
    by_cases hf : f = k
    · rw [if_pos hf] at e
      cases e
      exact ⟨v, by rw [List.lookup_cons, beq_iff_eq.mpr hf], h⟩
    · rw [if_neg hf] at e
      obtain ⟨x, e2, r2⟩ := r.look e
      exact ⟨x, by rw [List.lookup_cons, beq_eq_false_iff_ne.mpr hf]; exact e2, r2⟩
theorem RpF.lookN {K : PySem.W.Frag} {H : Hp} {f : Str} : ∀ {v : List (Str × V)} {ds : List (PyData × PyData)}, RpF K H v ds → fldD ds f = none → v.lookup f = none
  | _, _, .nil, e => rfl
  | _, _, .cons (k := k) (v := v) h r, e => by
    unfold fldD at e
    by_cases hf : f = k
    · rw [if_pos hf] at e; cases e
    · rw [if_neg hf] at e
      rw [List.lookup_cons, beq_eq_false_iff_ne.mpr hf]
      exact r.lookN e
theorem Rp.ins_inv {K : PySem.W.Frag} {H : Hp} {v : V} {c : Int} {ds : List (PyData × PyData)} (h : Rp K H v (.dict ((.none, .int c) :: ds))) : ∃ (a C dx : Addr) (fs : List (Str × V)), v = .ref a ∧ c = (C : Nat) ∧ H a = some (.ins C dx fs) ∧ RpF K H fs ds := by
  generalize e : PyData.dict ((.none, .int c) :: ds) = d at h
  cases h with
  | ins ha r => cases e; exact ⟨_, _, _, _, rfl, rfl, ha, r⟩
  | dic ha r =>
    injection e with e
    obtain ⟨k, ek⟩ := r.keyOf e.symm
    cases k <;> cases ek
  | dicT ha r => cases e
  | dicF ha r => cases e
  | non => cases e
  | bl b => cases e
  | int b => cases e
  | str b => cases e
  | lst _ _ => cases e
  | tup _ _ => cases e
def fldF (A : Addr) (f : Str) : PyData → Option PyData
  | .dict ((.none, .int c) :: ds) => if c = ((A : Nat) : Int) then fldD ds f else none
  | _ => none
theorem fldF_inv {K : PySem.W.Frag} {H : Hp} {A : Addr} {f : Str} {v : V} {d e : PyData} (h : Rp K H v d) (ef : fldF A f d = some e) : ∃ a dx fs u, v = .ref a ∧ H a = some (.ins A dx fs) ∧ fs.lookup f = some u ∧ Rp K H u e := by
  unfold fldF at ef
  split at ef
  · rename_i c ds
    split at ef
    · rename_i hc
      obtain ⟨a, C, dx, fs, rfl, ec, ha, r⟩ := h.ins_inv
      obtain ⟨x, e2, r2⟩ := r.look ef
      have : C = A := by
        rw [hc] at ec
        exact (Int.ofNat.inj ec).symm
      subst this
      exact ⟨a, dx, fs, x, rfl, ha, e2, r2⟩
    · cases ef
  · cases ef
def SE.fld {C : Cf} (A : Addr) (f : Str) (hc : Cls C.K A) (hn : NoAttr C.K A f) (a : SE C) : SE C where
  t := tFld C.K a.t f
  ev := fun Γ w => bindR (a.evD Γ w) (evO fun d => (fldF A f d).map Rv.dat)
  ok := by
    intro sE HE s H σ Γ w res S h e Q q
    rcases bindR_cases e with ⟨d, w1, e1, e2⟩ | ⟨x, w1, e1, rfl⟩
    · obtain ⟨rv, e3, rfl⟩ := evO_inv e2
      refine a.okD S h e1 _ fun s1 H1 l1 h1 v z => ?_
      cases e4 : fldF A f d with
      | none => rw [e4] at e3; cases e3
      | some y =>
        rw [e4] at e3; cases e3
        obtain ⟨p, dx, fs, u, rfl, hp, hl, r⟩ := fldF_inv z e4
        exact ⟨p, A, dx, fs, u, rfl, h1.ex _ _ hp, hc, hn, hl, q s1 H1 l1 h1 u r⟩
    · exact a.okD S h e1 _ q.ex
theorem ce_fld {X : Cx} {Wd : World} {a : Expr} {pos : Pos} {A : Addr} {f : Str} {hc : Cls X.K A} {hn : NoAttr X.K A f} {sa : SE (cf X Wd)} (h : CE X a sa) (hb : attributeBase a f X.env (eval a X.env) = eval a X.env := by rfl) :
    CE X (.Attribute a f pos) (SE.fld A f hc hn sa) := pe_fld h hb
def methF (A : Addr) (m : Str) : PyData → Bool
  | .dict ((.none, .int c) :: ds) => decide (c = ((A : Nat) : Int)) && (fldD ds m).isNone
  | _ => false
theorem methF_inv {K : PySem.W.Frag} {H : Hp} {A : Addr} {m : Str} {v : V} {d : PyData} (h : Rp K H v d) (ef : methF A m d = true) : ∃ a dx fs, v = .ref a ∧ H a = some (.ins A dx fs) ∧ fs.lookup m = none := by
  unfold methF at ef
  split at ef
  · rename_i c ds
    rw [Bool.and_eq_true] at ef
    obtain ⟨hc, hn⟩ := ef
    have hc := of_decide_eq_true hc
    obtain ⟨a, C, dx, fs, rfl, ec, ha, r⟩ := h.ins_inv
    have : C = A := by
      rw [hc] at ec
      exact (Int.ofNat.inj ec).symm
    subst this
    exact ⟨a, dx, fs, rfl, ha, r.lookN (by simpa using hn)⟩
  · cases ef
def SE.meth {C : Cf} (A : Addr) (m : Str) (n : Nat) (g : PF C.Wd) (o : SE C) (a : SA C) : SE C where
  t := tMeth A m (spF C.K C.mg C.Wd (n + 1) g) [] C.E o.t a.t
  ev := fun Γ w => bindR (o.evD Γ w) fun d w1 => if methF A m d = true then bindR (a.ev Γ w1) fun as w2 => if as.length = n then g (.dat d :: as) w2 else none else none
  ok := by
    intro sE HE s H σ Γ w res S h e Q q
    rcases bindR_cases e with ⟨d, w1, e1, e2⟩ | ⟨x, w1, e1, rfl⟩
    · refine o.okD S h e1 _ fun s1 H1 l1 h1 v z => ?_
      split at e2
      · rename_i hm
        obtain ⟨p, dx, fs, rfl, hp, hl⟩ := methF_inv z hm
        refine ⟨p, dx, fs, rfl, h1.ex _ _ hp, hl, ?_⟩
        rcases bindR_cases e2 with ⟨as, w2, e3, e4⟩ | ⟨x, w2, e3, rfl⟩
        · refine a.ok (S.le l1) h1 e3 _ fun s2 H2 l2 h2 vs z2 => ?_
          split at e4
          · rename_i hn
            refine ⟨by rw [List.append_nil, List.length_cons, z2.length, hn], s2, _, w2, res, h2, by rw [List.append_nil]; exact .cons (Rp.mono l2.h0 z) z2, e4, ?_⟩
            cases res with
            | ok r w3 => exact fun s3 H3 l3 h3 v r3 => q s3 H3 ((l1.trans l2).trans l3) h3 v (r3.start (l1.trans l2)).rv
            | ex x w3 => exact fun cls d s3 H3 l3 h3 r3 => q cls d s3 H3 ((l1.trans l2).trans l3) h3 r3
          · cases e4
        · exact a.ok (S.le l1) h1 e3 _ (q.ex.le l1)
      · cases e2
    · exact o.okD S h e1 _ q.ex
/-- a method of the class at A -/
structure FnM (P : Program) (w : PySem.World) (K : PySem.W.Frag) (mg : Str → Option Value) (base : Heap) (Wd : World) (k : Nat) (A : Addr) (m : Str) (n : Nat) (g : PF Wd) : Prop where
  ex : ∃ (f : Addr) (fd : FuncData) (ps : List Str), FnOk P w K mg base CX0 k f fd ps (spF K mg Wd (n + 1) g) ∧ Cls K A ∧ Meth K A m f ∧ Binds K fd ps []
theorem ce_meth0 {X : Cx} {Wd : World} {o : Expr} {so : SE (cf X Wd)} {k : Nat} {A : Addr} {m : Str} {g : PF Wd} {apos pos : Pos} {pl : Sem Bool} (F : FnM X.prog X.w X.K X.mg X.base Wd k A m 0 g) (hr : Room k X.A) (ho : CE X o so)
    (ht : eval (.Call (.Attribute o m apos) [] [] pos) X.env = (do
      let ov ← eval o X.env
      standAt apos.atName
      let (f, first) ← holding [ov] (getMethod ov m pl)
      callWith pos f first [] []) := by rfl) : CE X (.Call (.Attribute o m apos) [] [] pos) (SE.meth A m 0 g so SA.nil) := by
  obtain ⟨f, fd, ps, h1, h2, h3, h4⟩ := F.ex
  exact pe_meth0 ho h2 h3 h1 hr h4 .nil pass0 ht
theorem ce_meth {X : Cx} {Wd : World} {o e : Expr} {es : List Expr} {so : SE (cf X Wd)} {ss : SA (cf X Wd)} {k n : Nat} {A : Addr} {m : Str} {g : PF Wd} {apos pos : Pos} {pl : Sem Bool} (F : FnM X.prog X.w X.K X.mg X.base Wd k A m n g) (hr : Room k X.A) (ho : CE X o so) (ha : CA X (e :: es) ss)
    (hst : starEach (e :: es) X.env = (false, eval e X.env) :: starEach es X.env := by rfl) (hpl : (backTo pos (starEach es X.env)).any (·.1) = false := by rfl)
    (ht : eval (.Call (.Attribute o m apos) (e :: es) [] pos) X.env = (do
      let ov ← eval o X.env
      standAt apos.atName
      let (f, first) ← holding [ov] (getMethod ov m pl)
      callWith pos f first (backTo pos (starEach (e :: es) X.env)) (backToKw pos (keywordEach [] X.env))) := by rfl) : CE X (.Call (.Attribute o m apos) (e :: es) [] pos) (SE.meth A m n g so ss) := by
  obtain ⟨f, fd, ps, h1, h2, h3, h4⟩ := F.ex
  exact pe_meth ho h2 h3 h1 hr h4 .nil pass0 ha hst hpl ht
end Cl

set_option Elab.async false
set_option linter.all false
set_option maxRecDepth 100000
set_option maxHeartbeats 4000000
namespace Cl
open PySem L2 PySem.Spec PyProof.Rows
/-! ### looking into dicts -/
def plainD : List (PyData × PyData) → Bool
  | (.none, _) :: _ => false
  | (.bool _, _) :: _ => false
  | _ => true
theorem plainD_dicD (kvs : List (Key × PyData)) : plainD (dicD kvs) = true := by
  cases kvs with
  | nil => rfl
  | cons p r => obtain ⟨k, d⟩ := p; cases k <;> rfl
theorem Rp.dic_inv {K : PySem.W.Frag} {H : Hp} {v : V} {ds : List (PyData × PyData)} (h : Rp K H v (.dict ds)) (hp : plainD ds = true) : ∃ a kvs, v = .ref a ∧ H a = some (.dK kvs) ∧ RpD K H kvs ds := by
  generalize e : PyData.dict ds = d at h
  cases h with
  | dic ha r => cases e; exact ⟨_, _, rfl, ha, r⟩
  | dicT ha r => cases e; cases hp
  | dicF ha r => cases e; cases hp
  | ins ha r => cases e; cases hp
  | non => cases e
  | bl b => cases e
  | int b => cases e
  | str b => cases e
  | lst _ _ => cases e
  | tup _ _ => cases e
theorem View.dic_inv {K : PySem.W.Frag} {s : Sh} {H : Hp} {v : V} {ds : List (PyData × PyData)} (e : Ex s.H0 H) (h : View K s H v (.dict ds)) (hp : plainD ds = true) : ∃ a kvs, v = .ref a ∧ H a = some (.dK kvs) ∧ RpD K s.H0 kvs ds := by
  rcases h with h | ⟨p, u, o, rfl, hu, r, eo⟩
  · obtain ⟨a, kvs, rfl, ha, r⟩ := h.dic_inv hp
    exact ⟨a, kvs, rfl, e _ _ ha, r⟩
  · cases o with
    | lst _ => cases eo
    | dic ds' =>
      cases eo
      obtain ⟨xs, rfl, r⟩ := r
      exact ⟨p, xs, rfl, hu, r.toD⟩
    | dicT _ => cases eo; cases hp
    | ins _ _ => cases eo; cases hp
theorem View.dicF_inv {K : PySem.W.Frag} {s : Sh} {H : Hp} {v : V} {ds : List (PyData × PyData)} (e : Ex s.H0 H) (h : View K s H v (.dict ((.bool false, .none) :: ds))) : ∃ a od kvs, v = .ref a ∧ H a = some (.frz od (.dT kvs)) ∧ RpT K s.H0 kvs ds := by
  rcases h with h | ⟨p, u, o, rfl, hu, r, eo⟩
  · obtain ⟨a, od, kvs, rfl, ha, r⟩ := h.dicF_inv
    exact ⟨a, od, kvs, rfl, e _ _ ha, r⟩
  · cases o with
    | lst _ => cases eo
    | dic ds' =>
      have := plainD_dicD ds'
      have eo : PyData.dict (dicD ds') = _ := eo
      injection eo with eo
      rw [eo] at this; cases this
    | dicT _ => cases eo
    | ins _ _ => cases eo
def keyOkD : PyData → Option Key
  | .int i => some (.inl i)
  | .str x => some (.inr x)
  | _ => none
theorem keyOkD_inv : ∀ {d : PyData} {k : Key}, keyOkD d = some k → d = keyD k
  | .int i, k, e => by cases e; rfl
  | .str x, k, e => by cases e; rfl
  | .none, k, e => by cases e
  | .bool _, k, e => by cases e
  | .list _, k, e => by cases e
  | .tuple _, k, e => by cases e
  | .dict _, k, e => by cases e
theorem Rp.key {K : PySem.W.Frag} {H : Hp} {v : V} {k : Key} (h : Rp K H v (keyD k)) : v = kV k := by
  cases k with
  | inl i => have h : Rp K H v (.int i) := h; cases h; rfl
  | inr i => have h : Rp K H v (.str i) := h; cases h; rfl
theorem RpA.keys {K : PySem.W.Frag} {H : Hp} : ∀ {xs : List V} {k : List Key}, RpA K H xs (k.map keyD) → xs = k.map kV
  | _, [], .nil => rfl
  | _, k :: ks, .cons h r => by rw [List.map_cons, h.key, r.keys]
def keysOkD : List PyData → Option (List Key)
  | [] => some []
  | d :: r => (keyOkD d).bind fun k => (keysOkD r).map (k :: ·)
theorem keysOkD_inv : ∀ {ds : List PyData} {ks : List Key}, keysOkD ds = some ks → ds = ks.map keyD
  | [], _, e => by cases e; rfl
  | d :: r, ks, e => by
    unfold keysOkD at e
    cases e1 : keyOkD d with
    | none => rw [e1] at e; cases e
    | some k =>
      rw [e1] at e
      cases e2 : keysOkD r with
      | none => rw [e2] at e; cases e
      | some k2 => rw [e2] at e; cases e; rw [List.map_cons, keyOkD_inv e1, keysOkD_inv e2]
def valP {κ : Type} [DecidableEq κ] : List (κ × PyData) → κ → Option PyData
  | [], _ => none
  | (a, d) :: r, k => if a = k then some d else valP r k
/-- the dict of data as a table -/
def unD : List (PyData × PyData) → Option (List (Key × PyData))
  | [] => some []
  | (a, d) :: r => (keyOkD a).bind fun k => (unD r).map ((k, d) :: ·)
def unT : List (PyData × PyData) → Option (List (List Key × PyData))
  | [] => some []
  | (.tuple a, d) :: r => (keysOkD a).bind fun k => (unT r).map ((k, d) :: ·)
  | _ => none
theorem keyOkD_keyD : ∀ k : Key, keyOkD (keyD k) = some k
  | .inl _ => rfl
  | .inr _ => rfl
theorem keysOkD_keyD : ∀ k : List Key, keysOkD (k.map keyD) = some k
  | [] => rfl
  | k :: ks => by rw [List.map_cons]; unfold keysOkD; rw [keyOkD_keyD, Option.bind_some, keysOkD_keyD ks]; rfl
@[simp] theorem unD_dicD : ∀ kvs : List (Key × PyData), unD (dicD kvs) = some kvs
  | [] => rfl
  | (k, d) :: r => by
    have e : dicD ((k, d) :: r) = (keyD k, d) :: dicD r := rfl
    rw [e]; unfold unD; rw [keyOkD_keyD, Option.bind_some, unD_dicD r]; rfl
@[simp] theorem unT_dicTD : ∀ kvs : List (List Key × PyData), unT (dicTD kvs) = some kvs
  | [] => rfl
  | (k, d) :: r => by
    have e : dicTD ((k, d) :: r) = (.tuple (k.map keyD), d) :: dicTD r := rfl
    rw [e]; unfold unT; rw [keysOkD_keyD, Option.bind_some, unT_dicTD r]; rfl
theorem unD_inv : ∀ {ds : List (PyData × PyData)} {kvs : List (Key × PyData)}, unD ds = some kvs → ds = dicD kvs
  | [], _, e => by cases e; rfl
  | (a, d) :: r, kvs, e => by
    unfold unD at e
    cases e1 : keyOkD a with
    | none => rw [e1] at e; cases e
    | some k =>
      rw [e1] at e
      cases e2 : unD r with
      | none => rw [e2] at e; cases e
      | some k2 => rw [e2] at e; cases e; rw [keyOkD_inv e1, unD_inv e2]; rfl
theorem unT_inv : ∀ {ds : List (PyData × PyData)} {kvs : List (List Key × PyData)}, unT ds = some kvs → ds = dicTD kvs
  | [], _, e => by cases e; rfl
  | (a, d) :: r, kvs, e => by
    unfold unT at e
    split at e
    · rename_i e0; cases e0
    · rename_i e0
      cases e0
      rename_i a
      cases e1 : keysOkD a with
      | none => rw [e1] at e; cases e
      | some k =>
        rw [e1] at e
        cases e2 : unT r with
        | none => rw [e2] at e; cases e
        | some k2 => rw [e2] at e; cases e; rw [keysOkD_inv e1, unT_inv e2]; rfl
    · cases e
theorem RpG.val {κ : Type} [DecidableEq κ] {K : PySem.W.Frag} {H : Hp} (k : κ) : ∀ {v : List (κ × V)} {d : List (κ × PyData)}, RpG K H v d → (valP d k = none ∧ valV v k = none) ∨ ∃ y x, valP d k = some y ∧ valV v k = some x ∧ Rp K H x y
  | _, _, .nil => .inl ⟨rfl, rfl⟩
  | _, _, .cons (k := a) (v := v) (d := d) h r => by
    unfold valP
    by_cases ha : a = k
    · rw [if_pos ha, valV_pos (p := (a, v)) ha]
      exact .inr ⟨d, v, rfl, rfl, h⟩
    · rw [if_neg ha, valV_neg (p := (a, v)) ha]
      exact r.val k
theorem unD_plain {ds : List (PyData × PyData)} {kvs : List (Key × PyData)} (h : unD ds = some kvs) : plainD ds = true := by rw [unD_inv h]; exact plainD_dicD kvs
/-- what d holds at k; none: the reading does not cover it -/
def tagF : List (PyData × PyData) → Bool
  | (.bool false, .none) :: _ => true
  | _ => false
@[simp] theorem tagF_dicD (kvs : List (Key × PyData)) : tagF (dicD kvs) = false := by
  cases kvs with
  | nil => rfl
  | cons p r => obtain ⟨k, d⟩ := p; cases k <;> rfl
@[simp] theorem tagF_cons (ds : List (PyData × PyData)) : tagF ((.bool false, .none) :: ds) = true := rfl
theorem tagF_inv {ds : List (PyData × PyData)} (h : tagF ds = true) : ds = (.bool false, .none) :: ds.tail := by
  unfold tagF at h
  split at h
  · rfl
  · cases h
def lookF (d k : PyData) : Option (Option PyData) := match d with
  | .dict ds => if tagF ds = true then
      (match k with
      | .tuple ks => (unT ds.tail).bind fun kvs => (keysOkD ks).map fun k => valP kvs k
      | _ => none)
    else (unD ds).bind fun kvs => (keyOkD k).map fun k => valP kvs k
  | _ => none
@[simp] theorem lookF_dic (kvs : List (Key × PyData)) (k : PyData) : lookF (.dict (dicD kvs)) k = (keyOkD k).map fun k => valP kvs k := by
  unfold lookF
  simp
@[simp] theorem lookF_dicF (kvs : List (List Key × PyData)) (ks : List PyData) : lookF (.dict ((.bool false, .none) :: dicTD kvs)) (.tuple ks) = (keysOkD ks).map fun k => valP kvs k := by
  unfold lookF
  simp
theorem lookF_okT {K : PySem.W.Frag} {s : Sh} {H : Hp} {x y : V} {ds : List (PyData × PyData)} {ks : List PyData} {o : Option PyData} (ex : Ex s.H0 H) (vx : View K s H x (.dict ((.bool false, .none) :: ds))) (vy : View K s H y (.tuple ks))
    (e : ((unT ds).bind fun kvs => (keysOkD ks).map fun k => valP kvs k) = some o) :
    ∃ a r, x = .ref a ∧ DGet H a y r ∧ ((o = none ∧ r = none) ∨ ∃ z u, o = some z ∧ r = some u ∧ Rp K s.H0 u z) := by
  cases e1 : unT ds with
  | none => rw [e1] at e; cases e
  | some kvs =>
    rw [e1] at e
    cases e2 : keysOkD ks with
    | none => rw [e2] at e; cases e
    | some kk =>
      rw [e2] at e; cases e
      rw [keysOkD_inv e2] at vy
      rw [unT_inv e1] at vx
      obtain ⟨a, od, xs, rfl, ha, r⟩ := vx.dicF_inv ex
      have r := r.toK
      have vy : Rp K s.H0 y (.tuple (kk.map keyD)) := vy
      generalize ez : PyData.tuple (kk.map keyD) = z at vy
      cases vy with
      | tup hb rb =>
        cases ez
        have := rb.keys
        subst this
        refine ⟨a, _, rfl, .inr ⟨xs, kk, _, .inr ⟨od, ha⟩, rfl, ex _ _ hb, rfl⟩, ?_⟩
        rcases r.val kk with ⟨h1, h2⟩ | ⟨u, v, h1, h2, h3⟩
        · exact .inl ⟨h1, h2⟩
        · exact .inr ⟨u, v, h1, h2, h3⟩
      | _ => cases ez
theorem lookF_okK {K : PySem.W.Frag} {s : Sh} {H : Hp} {x y : V} {ds : List (PyData × PyData)} {k : PyData} {o : Option PyData} (ex : Ex s.H0 H) (vx : View K s H x (.dict ds)) (vy : View K s H y k)
    (e : ((unD ds).bind fun kvs => (keyOkD k).map fun k => valP kvs k) = some o) :
    ∃ a r, x = .ref a ∧ DGet H a y r ∧ ((o = none ∧ r = none) ∨ ∃ z u, o = some z ∧ r = some u ∧ Rp K s.H0 u z) := by
  cases e1 : unD ds with
  | none => rw [e1] at e; cases e
  | some kvs =>
    rw [e1] at e
    cases e2 : keyOkD k with
    | none => rw [e2] at e; cases e
    | some kk =>
      rw [e2] at e; cases e
      obtain ⟨a, xs, rfl, ha, r⟩ := vx.dic_inv ex (unD_plain e1)
      rw [unD_inv e1] at r
      have r := r.toK
      have ey : y = kV kk := by
        rw [keyOkD_inv e2] at vy
        have vy := vy.rp ex
        exact vy.key
      subst ey
      refine ⟨a, _, rfl, .inl ⟨xs, kk, .inl ha, rfl, rfl⟩, ?_⟩
      rcases r.val kk with ⟨h1, h2⟩ | ⟨u, v, h1, h2, h3⟩
      · exact .inl ⟨h1, h2⟩
      · exact .inr ⟨u, v, h1, h2, h3⟩
theorem lookF_ok {K : PySem.W.Frag} {s : Sh} {H : Hp} {x y : V} {d k : PyData} {o : Option PyData} (ex : Ex s.H0 H) (vx : View K s H x d) (vy : View K s H y k) (e : lookF d k = some o) :
    ∃ a r, x = .ref a ∧ DGet H a y r ∧ ((o = none ∧ r = none) ∨ ∃ z u, o = some z ∧ r = some u ∧ Rp K s.H0 u z) := by
  unfold lookF at e
  split at e
  · rename_i ds
    split at e
    · rename_i ht
      split at e
      · rename_i ks
        exact lookF_okT ex (tagF_inv ht ▸ vx) vy e
      · cases e
    · exact lookF_okK ex vx vy e
  · cases e
def rDGetA : R2 := fun x y H Q => ∃ a v, x = .ref a ∧ DGet H a y (some v) ∧ Q v H
def rDInA (neg : Bool) : R2 := fun y x H Q => ∃ a o, x = .ref a ∧ DGet H a y o ∧ Q (.bl (if neg then !o.isSome else o.isSome)) H
def dgetF (d k : PyData) : Option Rv := match lookF d k with
  | some (some z) => some (.dat z)
  | _ => none
def dinF (neg : Bool) (k d : PyData) : Option Rv := (lookF d k).map fun o => .dat (.bool (if neg then !o.isSome else o.isSome))
theorem dget_ok {C : Cf} : BinOk C rDGetA dgetF := by
  refine ⟨?_⟩
  intro s H w x y d e rv h vx vy ef Q q
  unfold dgetF at ef
  split at ef
  · rename_i z hz
    cases ef
    obtain ⟨a, r, rfl, g, hr⟩ := lookF_ok h.ex vx vy hz
    rcases hr with ⟨h1, _⟩ | ⟨z', u, h1, rfl, h3⟩
    · cases h1
    · cases h1
      exact ⟨a, u, rfl, g, q.val h h3⟩
  · cases ef
theorem din_ok {C : Cf} {neg : Bool} : BinOk C (rDInA neg) (dinF neg) := by
  refine ⟨?_⟩
  intro s H w y x e d rv h vy vx ef Q q
  unfold dinF at ef
  cases e1 : lookF d e with
  | none => rw [e1] at ef; cases ef
  | some o =>
    rw [e1] at ef; cases ef
    obtain ⟨a, r, rfl, g, hr⟩ := lookF_ok h.ex vx vy e1
    refine ⟨a, r, rfl, g, q.val h ?_⟩
    have : r.isSome = o.isSome := by
      rcases hr with ⟨rfl, rfl⟩ | ⟨z', u, rfl, rfl, h3⟩ <;> rfl
    rw [this]
    exact .bl _
theorem op_din {X : Cx} (hu : X.A.units + 1 < cLine) : OpR X (compareOp .In) (rDInA false) := by
  intro pins s σ H x y v u Q I rx ry h
  obtain ⟨a, o, rfl, g, q⟩ := h
  obtain rfl : u = Value.ref a := ry
  exact d_in hu I g rx fun s3 I3 => ⟨.bl o.isSome, H, I3, rfl, q⟩
theorem op_dnin {X : Cx} (hu : X.A.units + 1 < cLine) : OpR X (compareOp .NotIn) (rDInA true) := by
  intro pins s σ H x y v u Q I rx ry h
  obtain ⟨a, o, rfl, g, q⟩ := h
  obtain rfl : u = Value.ref a := ry
  exact d_notIn hu I g rx fun s3 I3 => ⟨.bl (!o.isSome), H, I3, rfl, q⟩
section
variable {C : Cf}
@[simp] abbrev SE.dget (a b : SE C) : SE C := .bin rDGetA dgetF dget_ok a b
@[simp] abbrev SE.din (a b : SE C) : SE C := .bin (rDInA false) (dinF false) din_ok a b
@[simp] abbrev SE.dnin (a b : SE C) : SE C := .bin (rDInA true) (dinF true) din_ok a b
end
section
variable {X : Cx} {Wd : World} {a b c : Expr} {sa sb sc : SE (cf X Wd)} {pos : Pos} {k : Nat}
theorem room1 {k : Nat} {A : Around} (hr : Room k A) : A.units + 1 < cLine := by have := hr.units; omega
theorem ce_dget (hr : Room k X.A) (ha : CE X a sa) (hb : CE X b sb) (hs : NoSl b := by exact fun _ _ => rfl) : CE X (.Subscript a b pos) (SE.dget sa sb) := pe_dget (room1 hr) ha hb hs
theorem ce_din (hr : Room k X.A) (ha : CE X a sa) (hb : CE X b sb) (hm : behindInMarks .In b = false := by rfl) : CE X (.Compare a [.In] [b] pos) (SE.din sa sb) := pe_cmpR (op_din (room1 hr)) ha hb hm
theorem ce_dnin (hr : Room k X.A) (ha : CE X a sa) (hb : CE X b sb) (hm : behindInMarks .NotIn b = false := by rfl) : CE X (.Compare a [.NotIn] [b] pos) (SE.dnin sa sb) := pe_cmpR (op_dnin (room1 hr)) ha hb hm
theorem ct_din (hr : Room k X.A) (ha : CE X a sa) (hb : CE X b sb) (hm : behindInMarks .In b = false := by rfl) : CT X (.Compare a [.In] [b] pos) (ST.of (SE.din sa sb)) := pt_cmpR (op_din (room1 hr)) ha hb hm
theorem ct_dnin (hr : Room k X.A) (ha : CE X a sa) (hb : CE X b sb) (hm : behindInMarks .NotIn b = false := by rfl) : CT X (.Compare a [.NotIn] [b] pos) (ST.of (SE.dnin sa sb)) := pt_cmpR (op_dnin (room1 hr)) ha hb hm
end
end Cl

set_option Elab.async false
set_option linter.all false
set_option maxRecDepth 100000
set_option maxHeartbeats 4000000
namespace L2
open PySem PySem.Spec PyProof.Rows
/-- d.update(o), both with keys of ints and texts -/
def rUpdA : V → List V → Hp → VK → Prop := fun x xs H Q => ∃ a b kvs more, x = .ref a ∧ xs = [.ref b] ∧ H a = some (.dK kvs) ∧ H b = some (.dK more) ∧ a ≠ b ∧ kvs.length + more.length ≤ sizeLine ∧ Q .non (upd H a (.dK (mergeK kvs more)))
theorem mt_updA {X : Cx} : MtR X "dict.update" rUpdA := by
  intro pins s σ H x xs v us Q I rx rv h
  obtain ⟨a, b, kvs, more, rfl, rfl, ha, hb, hab, hsz, q⟩ := h
  obtain rfl : v = Value.ref a := rx
  obtain ⟨u, rfl, ru⟩ := rv.one
  obtain rfl : u = Value.ref b := ru
  obtain ⟨z1, d1, vs1, k1, o1⟩ := dk_of I.hok ha
  obtain ⟨z2, d2, vs2, k2, o2⟩ := dk_of I.hok hb
  refine call_meetsIn PySem.F.slot_dict_update o1.typeIs PySem.F.entry_dict_update (PySem.F.args_dict_update_2 _ _) (meets_dict_update (mixKind X.prog X.w) a b hab d2)
    ⟨vs1, vs2, o1, o2, by rw [← k1.length, ← k2.length]; exact hsz, fun h' h1 h2 hs => ?_⟩
  have hk := k2.merge k1
  have hz : (mergeK kvs more).length ≤ sizeLine := by
    rw [hk.length]
    have := merged_length_le vs1 vs2
    rw [← k1.length, ← k2.length] at this
    omega
  have he : ∃ q, h'.get? a = some q := let ⟨q, _, _, hq, _⟩ := h1; ⟨q, hq⟩
  exact ⟨.non, _, d_write I (by rw [ha]; exact True.intro) hs he (dk_new hz d1 hk h1), rfl, q⟩
end L2
namespace Cl
open PySem L2 PySem.Spec PyProof.Rows
/-! ### dicts of one's own -/
def SE.dnewT {C : Cf} : SE C where
  t := tDNewT
  ev := fun _ w => some (.ok (.new (.dicT [])) w)
  ok := by
    intro sE HE s H σ Γ w res S h e Q q
    cases e
    intro p hp
    exact q s _ (Le.new hp) (h.new hp) _ ⟨p, _, rfl, hp, upd_same, h.none0 hp, h.noneW hp, [], rfl, .nil⟩
def SE.dnewK {C : Cf} : SE C where
  t := tDNewK
  ev := fun _ w => some (.ok (.new (.dic [])) w)
  ok := by
    intro sE HE s H σ Γ w res S h e Q q
    cases e
    intro p hp
    exact q s _ (Le.new hp) (h.new hp) _ ⟨p, _, rfl, hp, upd_same, h.none0 hp, h.noneW hp, [], rfl, .nil⟩
def putP {κ : Type} [DecidableEq κ] (kvs : List (κ × PyData)) (k : κ) (v : PyData) : List (κ × PyData) :=
  if (kvs.any fun kv => decide (kv.1 = k)) = true then kvs.map (fun kv => if kv.1 = k then (kv.1, v) else kv) else kvs ++ [(k, v)]
theorem RpG.any {κ : Type} [DecidableEq κ] {K : PySem.W.Frag} {H : Hp} (k : κ) : ∀ {v : List (κ × V)} {d : List (κ × PyData)}, RpG K H v d → (v.any fun kv => decide (kv.1 = k)) = (d.any fun kv => decide (kv.1 = k))
  | _, _, .nil => rfl
  | _, _, .cons h r => by rw [List.any_cons, List.any_cons, r.any k]
theorem RpG.repl {κ : Type} [DecidableEq κ] {K : PySem.W.Frag} {H : Hp} (k : κ) {x : V} {y : PyData} (z : Rp K H x y) : ∀ {v : List (κ × V)} {d : List (κ × PyData)}, RpG K H v d →
    RpG K H (v.map fun kv => if kv.1 = k then (kv.1, x) else kv) (d.map fun kv => if kv.1 = k then (kv.1, y) else kv)
  | _, _, .nil => .nil
  | _, _, .cons (k := a) h r => by
    rw [List.map_cons, List.map_cons]
    by_cases ha : a = k
    · rw [if_pos ha, if_pos ha]; exact .cons z (r.repl k z)
    · rw [if_neg ha, if_neg ha]; exact .cons h (r.repl k z)
theorem RpG.put {κ : Type} [DecidableEq κ] {K : PySem.W.Frag} {H : Hp} (k : κ) {x : V} {y : PyData} (z : Rp K H x y) {v : List (κ × V)} {d : List (κ × PyData)} (r : RpG K H v d) : RpG K H (putK v k x) (putP d k y) := by
  unfold putK putP
  rw [r.any k]
  split
  · exact r.repl k z
  · exact r.append (.cons z .nil)
theorem RpG.merge {K : PySem.W.Frag} {H : Hp} : ∀ {m : List (Key × V)} {e : List (Key × PyData)}, RpG K H m e → ∀ {v : List (Key × V)} {d : List (Key × PyData)}, RpG K H v d → RpG K H (mergeK v m) (e.foldl (fun acc kv => putP acc kv.1 kv.2) d)
  | _, _, .nil, _, _, r => r
  | _, _, .cons h m, _, _, r => m.merge (r.put _ h)
theorem NT.dK (xs : List (Key × V)) : NT (.dK xs) := fun _ e => nomatch e
theorem NT.dT (xs : List (List Key × V)) : NT (.dT xs) := fun _ e => nomatch e
/-- d[(.., ..)] = e -/
def SS.dputT {C : Cf} (i : Nat) (b : SA C) (a : SE C) : SS C where
  t := sDPut (tVar i) (tTup b.t) a.t
  ev := fun Γ w => match Γ[i]? with
    | some (some (.own (.dicT kvs))) => bindF (a.evD Γ w) fun d w1 => bindF (b.ev Γ w1) fun as w2 => if as.length ≤ 100000 ∧ kvs.length < 100000 then
        match (datsOf as).bind keysOkD with
        | some k => some (.nx (Γ.set i (some (.own (.dicT (putP kvs k d))))) w2)
        | none => none
      else none
    | _ => none
  ok := by
    intro sE HE s H σ Γ w fl S h e D q
    split at e
    · rename_i kvs g
      rcases bindF_cases e with ⟨d, w1, e1, e2⟩ | ⟨x, w1, e1, rfl⟩
      · refine a.okD S h e1 _ fun s1 H1 l1 h1 v hv => ?_
        have S1 := S.le l1
        obtain ⟨v', gv, p, u, rfl, a1, a2, a3, a4, r0⟩ := S1.sl i _ g
        obtain ⟨xs, rfl, r⟩ := r0
        refine ⟨_, gv, ?_⟩
        rcases bindF_cases e2 with ⟨as, w2, e3, e4⟩ | ⟨x, w2, e3, rfl⟩
        · refine b.ok S1 h1 e3 _ fun s2 H2 l2 h2 vs z2 => ?_
          split at e4
          · rename_i hl
            split at e4
            · rename_i k hk
              cases e4
              have S2 := S1.le l2
              refine ⟨by rw [z2.length]; exact Nat.le_trans hl.1 (by decide), fun b hb => ?_⟩
              obtain ⟨ds, hd, hk⟩ := Option.bind_eq_some_iff.mp hk
              have rk := z2.dats hd
              rw [keysOkD_inv hk] at rk
              have ek := rk.keys
              subst ek
              have b1 := l2.fr p _ a1 a3
              have pb : p ≠ b := ne_of_none b1 hb
              have l3 : Le s2 H2 s2 (upd H2 b (.tup (k.map kV))) := Le.new hb
              refine ⟨p, _, rfl, .inr ⟨xs, k, b, by rw [upd_ne pb]; exact b1, rfl, upd_same, by rw [r.length]; exact Nat.lt_of_lt_of_le hl.2 (by decide), rfl⟩, ?_⟩
              have n0 := l2.nf p _ a1 (NT.dT _) a2
              have nw := l2.nw p _ a1 a3
              refine q s2 _ σ (l1.h0.trans l2.h0) ((S2.le l3).mut g gv n0 nw a4 ⟨_, rfl, (r.mono l2.h0).put k (Rp.mono l2.h0 hv)⟩) ((h2.new hb).mut n0 nw)
            · cases e4
          · cases e4
        · exact b.ok S1 h1 e3 _ (exS S1 (SPost.le l1.h0 q))
      · exact a.okD S h e1 _ (exS S q)
    · cases e
/-- d.update(e) -/
def SS.dupd {C : Cf} (i : Nat) (a : SE C) : SS C where
  t := tDrop (tBM C.K "dict" rUpdA (tVar i) (tCons a.t tNil))
  ev := fun Γ w => match Γ[i]? with
    | some (some (.own (.dic kvs))) => bindF (a.evD Γ w) fun d w1 => match d with
      | .dict ds => match unD ds with
        | some m => if kvs.length + m.length ≤ 100000 then some (.nx (Γ.set i (some (.own (.dic (m.foldl (fun acc kv => putP acc kv.1 kv.2) kvs))))) w1) else none
        | none => none
      | _ => none
    | _ => none
  ok := by
    intro sE HE s H σ Γ w fl S h e D q
    split at e
    · rename_i kvs g
      obtain ⟨v, gv, p, u, rfl, a1, a2, a3, a4, r0⟩ := S.sl i _ g
      obtain ⟨xs, rfl, r⟩ := r0
      refine ⟨_, gv, .inr (.inr (.inl ⟨rfl, .inl ⟨xs, a1⟩⟩)), ?_⟩
      rcases bindF_cases e with ⟨d, w1, e1, e2⟩ | ⟨x, w1, e1, rfl⟩
      · refine a.okD S h e1 _ fun s1 H1 l1 h1 v hv => ?_
        split at e2
        · rename_i ds
          split at e2
          · rename_i m hm
            split at e2
            · rename_i hl
              cases e2
              have S1 := S.le l1
              obtain ⟨b, ys, rfl, hb, rb⟩ := hv.dic_inv (unD_plain hm)
              rw [unD_inv hm] at rb
              have rb := rb.toK
              have n0 := l1.nf p _ a1 (NT.dK _) a2
              have nw := l1.nw p _ a1 a3
              refine ⟨p, b, xs, ys, rfl, rfl, l1.fr p _ a1 a3, h1.ex _ _ hb, fun z => ?_, by rw [r.length, rb.length]; exact Nat.le_trans hl (by decide), ?_⟩
              · rw [z, hb] at n0; cases n0
              · exact q s1 _ σ l1.h0 (S1.mut g gv n0 nw a4 ⟨_, rfl, rb.merge (r.mono l1.h0)⟩) (h1.mut n0 nw)
            · cases e2
          · cases e2
        · cases e2
      · exact a.okD S h e1 _ (exS S q)
    · cases e
end Cl

set_option Elab.async false
set_option linter.all false
set_option maxRecDepth 100000
set_option maxHeartbeats 4000000
namespace Cl
open PySem L2 PySem.Spec PyProof.Rows
/-! ### tuples of ints by their order -/
def lexL : List Int → List Int → Bool
  | [], [] => false
  | [], _ :: _ => true
  | _ :: _, [] => false
  | a :: r, b :: q => if a = b then lexL r q else decide (a < b)
theorem lexL_asym : ∀ x y : List Int, lexL x y = true → lexL y x = false
  | [], [], h => by cases h
  | [], _ :: _, _ => rfl
  | _ :: _, [], h => by cases h
  | a :: r, b :: q, h => by
    unfold lexL at h ⊢
    by_cases e : a = b
    · rw [if_pos e] at h; rw [if_pos e.symm]; exact lexL_asym r q h
    · rw [if_neg e] at h; rw [if_neg (Ne.symm e)]
      have := of_decide_eq_true h
      exact decide_eq_false (by omega)
theorem lexL_tr : ∀ x y z : List Int, lexL y x = false → lexL z y = false → lexL z x = false
  | _, [], z :: zs, h, h2 => by
    rename_i x
    cases x with
    | nil => rfl
    | cons a r => cases h
  | x, _, [], h, h2 => by
    rename_i y
    cases y with
    | nil => exact h
    | cons b q => cases h2
  | [], _ :: _, _ :: _, _, _ => rfl
  | a :: r, b :: q, d :: p, h, h2 => by
    unfold lexL at h h2 ⊢
    by_cases e : b = a
    · subst e
      rw [if_pos rfl] at h
      by_cases e2 : d = b
      · subst e2
        rw [if_pos rfl] at h2 ⊢
        exact lexL_tr r q p h h2
      · rw [if_neg e2] at h2 ⊢
        exact h2
    · rw [if_neg e] at h
      have h := of_decide_eq_false h
      by_cases e2 : d = b
      · subst e2
        rw [if_neg e]
        exact decide_eq_false h
      · rw [if_neg e2] at h2
        have h2 := of_decide_eq_false h2
        by_cases e3 : d = a
        · omega
        · rw [if_neg e3]
          exact decide_eq_false (by omega)
theorem lexL_anti : ∀ x y : List Int, lexL x y = false → lexL y x = false → x = y
  | [], [], _, _ => rfl
  | [], _ :: _, h, _ => by cases h
  | _ :: _, [], _, h => by cases h
  | a :: r, b :: q, h, h2 => by
    unfold lexL at h h2
    by_cases e : a = b
    · subst e
      rw [if_pos rfl] at h h2
      rw [lexL_anti r q h h2]
    · rw [if_neg e] at h
      rw [if_neg (Ne.symm e)] at h2
      have := of_decide_eq_false h
      have := of_decide_eq_false h2
      omega
theorem swoL (f : Value → List Int) : SrtO.Swo fun v u => lexL (f v) (f u) :=
  ⟨fun x y => lexL_asym _ _, fun x y z => lexL_tr _ _ _⟩
section
variable {prog : Program} {w : PySem.World} {A : Around} {s : Shared}
theorem lexKat {b fin : Bool} {Q : Bool → Shared → Prop} {xs ys : List Value} {ns ms : List Int} (i : Nat) (h1 : IntsAre xs ns) (h2 : IntsAre ys ms) (hf : fin = decide (ns.length < ms.length)) (q : Q (lexL ns ms) s) :
    PySem.W.KatLex prog w A b fin Q (xs.zip ys) i s := by
  induction h1 generalizing ys ms i with
  | nil =>
    cases h2 with
    | nil => rw [hf]; exact PySem.W.kat_nil q
    | cons m u h2 =>
      have e : fin = true := by rw [hf]; simp
      rw [e]; exact PySem.W.kat_nil q
  | @cons n t xs ns h1 ih =>
    cases h2 with
    | nil =>
      have e : fin = false := by rw [hf]; simp
      rw [e]; exact PySem.W.kat_nil q
    | @cons m u ys ms h2 =>
      refine PySem.W.kat_cons (p := .int n t) (q := .int m u) (r := xs.zip ys) (wpAny_eqBool_int ?_)
      by_cases e : n = m
      · subst e
        have el : lexL (n :: ns) (n :: ms) = lexL ns ms := if_pos rfl
        rw [el] at q
        rw [beq_self_eq_true]
        exact PySem.W.kat_yes (ih (i + 1) h2 (by rw [hf]; simp) q)
      · have el : lexL (n :: ns) (m :: ms) = decide (n < m) := if_neg e
        rw [el] at q
        rw [beq_eq_false_iff_ne.mpr e]
        exact PySem.W.kat_no (TS.oneLt_ints _ q)
/-- ks says which ints stand in the tuples -/
def AreT (h : Heap) (ks : Value → List Int) (vs : List Value) : Prop := ∀ v ∈ vs, TS.TupInts h v (ks v) ∧ ks v ≠ []
theorem firstsL {h : Heap} {ks : Value → List Int} : ∀ {vs : List Value}, AreT h ks vs → ∃ fs, PySem.W.KatTups h vs fs ∧ fs.length = vs.length ∧ ∀ f ∈ fs, ∃ n t, f = Value.int n t
  | [], _ => ⟨[], PySem.W.KatTups.nil, rfl, fun f z => by cases z⟩
  | v :: r, x => by
    obtain ⟨fs, f1, f2, f3⟩ := firstsL (vs := r) fun u z => x u (List.mem_cons_of_mem _ z)
    obtain ⟨⟨a, its, rfl, ⟨o, g1, g2, n, g3⟩, ia⟩, ne⟩ := x v (by simp)
    obtain ⟨l⟩ := its
    generalize hk : ks (.ref a) = k at ia ne
    cases ia with
    | nil => exact absurd rfl ne
    | @cons m t l' k' ia =>
      refine ⟨.int m t :: fs, PySem.W.KatTups.cons g1 g2 g3 (by simp) f1, by simp [f2], fun f z => ?_⟩
      rcases List.mem_cons.mp z with e | z
      · exact ⟨m, t, e⟩
      · exact f3 f z
theorem cmpL {vs : List Value} {ks : Value → List Int} (x : AreT s.heap ks vs) : SrtO.Cmp prog w A s (tuples' true) (fun p => p.1 ∈ vs) (SrtO.lt2 fun v u => lexL (ks v) (ks u)) := by
  intro p q m1 m2
  show wpAny (model prog w) A (keyLt' (tuples' true) p.1 q.1) (fun r s' => s' = s ∧ r = lexL (ks p.1) (ks q.1)) (fun _ _ => False) s
  obtain ⟨⟨a, xs, e1, ⟨o, g1, g2, n, g3⟩, i1⟩, _⟩ := x _ m1
  obtain ⟨⟨a', ys, e2, ⟨o', k1, k2, n', k3⟩, i2⟩, _⟩ := x _ m2
  have j1 := i1.length
  have j2 := i2.length
  generalize ks p.1 = ns at i1 j1
  generalize ks q.1 = ms at i2 j2
  rw [e1, e2]
  refine PySem.W.kat_lt g1 g3 k1 k3 (lexKat 0 i1 i2 ?_ ⟨rfl, rfl⟩)
  rw [← j1, ← j2, Array.length_toList, Array.length_toList]
theorem sortableL {a : Addr} {vs : List Value} {ks : Value → List Int} (h0 : 0 < vs.length) (x : AreT s.heap ks vs) (ha : ∀ o, s.heap.get? a = some o → o.cls ≠ .type "tuple") :
    SrtO.SortableO prog w A s a vs fun v u => lexL (ks v) (ks u) := by
  intro h' keep
  have x' : AreT h' ks vs := fun v z => by
    obtain ⟨t, ne⟩ := x v z
    exact ⟨t.keeps fun b o e c => keep b o (fun y => ha o (y ▸ e) c) e, ne⟩
  obtain ⟨fs, f1, f2, f3⟩ := firstsL x'
  refine ⟨tuples' true, fun Q E q => ?_, cmpL x'⟩
  refine PySem.W.kat_kind (T := .type "int") f1 (by omega) (fun f z => ?_) (by rfl) ?_
  · obtain ⟨n, t, rfl⟩ := f3 f z
    exact PySem.W.Looks.now
  · rw [show (Value.type "int" != Value.type "tuple") = true by decide]
    exact q
end
/-- a list of tuples of ints, sorted -/
def rSortL (K : PySem.W.Frag) : List V → Hp → VK → Prop := fun vs H Q => ∃ (a : Addr) (xs : List V) (k : V → List Int), vs = [V.ref a] ∧ SqL K H a xs ∧ (∀ x ∈ xs, ∃ t, x = V.ref t ∧ H t = some (.tup ((k x).map V.int)) ∧ k x ≠ []) ∧
  ∀ ys p, SrtO.Srtd (fun x y => lexL (k x) (k y)) ys → ys.Perm xs → H p = none → Q (.ref p) (upd H p (.lst ys))
theorem cr_sortL {X : Cx} : CallR X (.builtin "sorted") (rSortL X.K) := by
  intro pins s σ H vs us Q I r h
  obtain ⟨a, xs, k, rfl, hs, hx, q⟩ := h
  obtain ⟨zs, rv, hl, hz⟩ := I.list hs
  rw [Vals.ref1 r]
  obtain ⟨e1, e2⟩ := refs_back rv fun x m => (hx x m).imp fun t z => z.1
  have hlen := rv.length
  refine SrtO.sorted_ord (swoL fun u => k (backV u)) hl.isList (hlen ▸ hz) (fun h2 h₁ a' g1 g2 => sortableL (by omega) (fun v hv => ?_) fun o e c => ?_) fun out h1 h2 => ?_
  · obtain ⟨t, rfl⟩ := e2 v hv
    obtain ⟨t', et, ht, ne⟩ := hx (V.ref t) (by rw [e1]; exact List.mem_map.mpr ⟨_, hv, rfl⟩)
    cases et
    refine ⟨TS.TupInts.keeps (h := s.heap) ?_ fun b o e _ => (g2 b o e).2, ne⟩
    obtain ⟨_, l2, r2, o, ho, hc, n, hd⟩ := I.hok _ _ ht
    exact ⟨t, l2.toArray, rfl, ⟨o, ho, hc, n, hd⟩, by simpa [backV] using r2.ints⟩
  · have e : some o = some (seqObj "list" zs.toArray 0) := e.symm.trans g1
    cases e
    exact absurd (Value.type.inj c) (by decide)
  · have h3 : ∀ u ∈ out, ∃ a, u = Value.ref a := fun u z => e2 u (h2.perm.mem_iff.mp z)
    have hp : (out.map backV).Perm xs := e1 ▸ h2.perm.map backV
    obtain ⟨ep, g⟩ := PyProof.Rows.sortedAll_at s.heap zs out.toArray
    exact ⟨.ref _, upd H (s.heap.objs.size + 1) (.lst (out.map backV)), I.laid (t' := s.toks) (fun _ _ => PyProof.Rows.sortedAll_old) (Nat.le_succ _) ⟨by rw [hp.length_eq]; exact hz, out, ep, vals_back h3, g⟩, rfl,
      q _ _ (List.pairwise_map.mpr h1) hp (I.hok.fresh (Nat.le_succ _))⟩
/-! ### in, among data of any depth -/
theorem _root_.L2.Room.units65 {k : Nat} {A : Around} (r : Room k A) : A.units + 65 < cLine := by have := r.un; omega
def rInDA (K : PySem.W.Frag) (neg : Bool) : R2 := fun x y H Q => ∃ d ds, Dp K H x d ∧ Dp K H y (.list ds) ∧ SeqAt.shaped d = true ∧ SeqAt.shaped (.list ds) = true ∧ Q (.bl (if neg then !ds.any (fun z => PyData.eqv z d) else ds.any fun z => PyData.eqv z d)) H
theorem op_inDA {X : Cx} (hu : X.A.units + 65 < cLine) : OpR X (compareOp .In) (rInDA X.K false) := op_inD hu
theorem op_ninDA {X : Cx} (hu : X.A.units + 65 < cLine) : OpR X (compareOp .NotIn) (rInDA X.K true) := op_notInD hu
def inDF (neg : Bool) (d e : PyData) : Option Rv := match e with
  | .list ds => if okEq d = true ∧ okEq (.list ds) = true then some (.dat (.bool (if neg then !ds.any (fun z => PyData.eqv z d) else ds.any fun z => PyData.eqv z d))) else none
  | _ => none
theorem inD_ok {C : Cf} {neg : Bool} : BinOk C (rInDA C.K neg) (inDF neg) := by
  refine ⟨?_⟩
  intro s H w x y d e rv h vx vy ef Q q
  cases e with
  | list ds =>
    by_cases hs : okEq d = true ∧ okEq (.list ds) = true
    · have e1 : inDF neg d (.list ds) = some (.dat (.bool (if neg then !ds.any (fun z => PyData.eqv z d) else ds.any fun z => PyData.eqv z d))) := if_pos hs
      rw [e1] at ef
      cases ef
      exact ⟨d, ds, (vx.rp h.ex).dp (SeqAt.canLay_of_shaped hs.1), (vy.rp h.ex).dp (SeqAt.canLay_of_shaped hs.2), hs.1, hs.2, q.val h (.bl _)⟩
    · have e1 : inDF neg d (.list ds) = none := if_neg hs
      rw [e1] at ef
      cases ef
  | _ => exact nomatch (show (none : Option Rv) = some rv from ef)
@[simp] abbrev SE.innD {C : Cf} (a b : SE C) : SE C := .bin (rInDA C.K false) (inDF false) inD_ok a b
@[simp] abbrev SE.ninD {C : Cf} (a b : SE C) : SE C := .bin (rInDA C.K true) (inDF true) inD_ok a b
section
variable {X : Cx} {Wd : World} {a b : Expr} {sa sb : SE (cf X Wd)} {pos : Pos}
theorem ce_innD {k : Nat} (hr : Room k X.A) (ha : CE X a sa) (hb : CE X b sb) (hm : behindInMarks .In b = false := by rfl) : CE X (.Compare a [.In] [b] pos) (SE.innD sa sb) := pe_cmpR (op_inDA hr.units65) ha hb hm
theorem ce_ninD {k : Nat} (hr : Room k X.A) (ha : CE X a sa) (hb : CE X b sb) (hm : behindInMarks .NotIn b = false := by rfl) : CE X (.Compare a [.NotIn] [b] pos) (SE.ninD sa sb) := pe_cmpR (op_ninDA hr.units65) ha hb hm
theorem ct_innD {k : Nat} (hr : Room k X.A) (ha : CE X a sa) (hb : CE X b sb) (hm : behindInMarks .In b = false := by rfl) : CT X (.Compare a [.In] [b] pos) (ST.of (SE.innD sa sb)) := pt_cmpR (op_inDA hr.units65) ha hb hm
theorem ct_ninD {k : Nat} (hr : Room k X.A) (ha : CE X a sa) (hb : CE X b sb) (hm : behindInMarks .NotIn b = false := by rfl) : CT X (.Compare a [.NotIn] [b] pos) (ST.of (SE.ninD sa sb)) := pt_cmpR (op_ninDA hr.units65) ha hb hm
end
end Cl

set_option Elab.async false
set_option linter.all false
set_option maxRecDepth 100000
set_option maxHeartbeats 4000000
namespace Cl
open PySem L2 PySem.Spec PyProof.Rows
/-! ### sorted -/
def insB {α : Type} (le : α → α → Bool) (a : α) : List α → List α
  | [] => [a]
  | b :: r => if le a b = true then a :: b :: r else b :: insB le a r
def sortB {α : Type} (le : α → α → Bool) : List α → List α
  | [] => []
  | a :: r => insB le a (sortB le r)
theorem insB_perm {α : Type} (le : α → α → Bool) (a : α) : ∀ l : List α, (insB le a l).Perm (a :: l)
  | [] => .refl _
  | b :: r => by
    unfold insB
    split
    · exact .refl _
    · exact ((insB_perm le a r).cons b).trans (.swap a b r)
theorem sortB_perm {α : Type} (le : α → α → Bool) : ∀ l : List α, (sortB le l).Perm l
  | [] => .refl _
  | a :: r => (insB_perm le a _).trans ((sortB_perm le r).cons a)
structure TotB {α : Type} (le : α → α → Bool) : Prop where
  tot : ∀ a b, le a b = false → le b a = true
  tr : ∀ a b c, le a b = true → le b c = true → le a c = true
  anti : ∀ a b, le a b = true → le b a = true → a = b
theorem insB_sorted {α : Type} {le : α → α → Bool} (T : TotB le) (a : α) : ∀ {l : List α}, l.Pairwise (fun x y => le x y = true) → (insB le a l).Pairwise (fun x y => le x y = true)
  | [], _ => List.pairwise_singleton _ _
  | b :: r, h => by
    unfold insB
    split
    · rename_i hab
      refine List.pairwise_cons.mpr ⟨fun y hy => ?_, h⟩
      rcases List.mem_cons.mp hy with e | hy
      · rw [e]; exact hab
      · exact T.tr _ _ _ hab ((List.pairwise_cons.mp h).1 y hy)
    · rename_i hab
      refine List.pairwise_cons.mpr ⟨fun y hy => ?_, insB_sorted T a (List.pairwise_cons.mp h).2⟩
      rcases List.mem_cons.mp ((insB_perm le a r).mem_iff.mp hy) with e | hy
      · rw [e]; exact T.tot _ _ (by simpa using hab)
      · exact (List.pairwise_cons.mp h).1 y hy
theorem sortB_sorted {α : Type} {le : α → α → Bool} (T : TotB le) : ∀ l : List α, (sortB le l).Pairwise (fun x y => le x y = true)
  | [] => .nil
  | a :: r => insB_sorted T a (sortB_sorted T r)
theorem sorted_unique {α : Type} {le : α → α → Bool} (T : TotB le) : ∀ {l m : List α}, l.Perm m → l.Pairwise (fun x y => le x y = true) → m.Pairwise (fun x y => le x y = true) → l = m
  | [], m, h, _, _ => h.nil_eq
  | a :: r, [], h, _, _ => nomatch h.symm.nil_eq
  | a :: r, b :: t, h, h1, h2 => by
    have e : a = b := by
      rcases List.mem_cons.mp (h.mem_iff.mp (List.mem_cons_self ..)) with e | ha
      · exact e
      · rcases List.mem_cons.mp (h.symm.mem_iff.mp (List.mem_cons_self ..)) with e | hb
        · exact e.symm
        · exact T.anti _ _ ((List.pairwise_cons.mp h1).1 b hb) ((List.pairwise_cons.mp h2).1 a ha)
    subst e
    rw [sorted_unique T ((List.perm_cons a).mp h) (List.pairwise_cons.mp h1).2 (List.pairwise_cons.mp h2).2]
theorem sortB_eq {α : Type} {le : α → α → Bool} (T : TotB le) {l m : List α} (h : m.Perm l) (hs : m.Pairwise (fun x y => le x y = true)) : m = sortB le l :=
  sorted_unique T (h.trans (sortB_perm le l).symm) hs (sortB_sorted T l)
def leI (a b : Int) : Bool := decide (a ≤ b)
theorem totI : TotB leI := ⟨fun a b h => by have := of_decide_eq_false h; exact decide_eq_true (by omega), fun a b c h1 h2 => by
  have := of_decide_eq_true h1; have := of_decide_eq_true h2; exact decide_eq_true (by omega), fun a b h1 h2 => by
  have := of_decide_eq_true h1; have := of_decide_eq_true h2; omega⟩
def leP (a b : Int × Int) : Bool := !SrtO.lexB b a
theorem leP_iff {a b : Int × Int} : leP a b = true ↔ a.1 < b.1 ∨ (a.1 = b.1 ∧ a.2 ≤ b.2) := by
  unfold leP
  rw [Bool.not_eq_true', SrtO.lexB_no]
  omega
theorem totP : TotB leP := ⟨fun a b h => by
  have h : ¬ (leP a b = true) := by rw [h]; decide
  rw [leP_iff] at h ⊢; omega, fun a b c h1 h2 => by rw [leP_iff] at *; omega, fun a b h1 h2 => by
  rw [leP_iff] at *
  exact Prod.ext (by omega) (by omega)⟩
def pairD (p : Int × Int) : PyData := .tuple [.int p.1, .int p.2]
def pairs? : List PyData → Option (List (Int × Int))
  | [] => some []
  | .tuple [.int a, .int b] :: r => (pairs? r).map ((a, b) :: ·)
  | _ => none
theorem pairs?_inv : ∀ {ds : List PyData} {ps : List (Int × Int)}, pairs? ds = some ps → ds = ps.map pairD
  | [], _, e => by cases e; rfl
  | d :: r, ps, e => by
    unfold pairs? at e
    split at e
    · rename_i e0; cases e0
    · rename_i e0
      cases e0
      cases e1 : pairs? r with
      | none => rw [e1] at e; cases e
      | some l => rw [e1] at e; cases e; rw [pairs?_inv e1]; rfl
    · cases e
@[simp] theorem pairs?_map : ∀ ps : List (Int × Int), pairs? (ps.map pairD) = some ps
  | [] => rfl
  | p :: r => by
    obtain ⟨a, b⟩ := p
    show (pairs? (r.map pairD)).map ((a, b) :: ·) = _
    rw [pairs?_map r]; rfl
def intKeys? : List (Key × PyData) → Option (List Int)
  | [] => some []
  | (.inl i, _) :: r => (intKeys? r).map (i :: ·)
  | (.inr _, _) :: _ => none
theorem intKeys?_inv : ∀ {kvs : List (Key × PyData)} {ks : List Int}, intKeys? kvs = some ks → kvs.map (·.1) = ks.map Sum.inl
  | [], _, e => by cases e; rfl
  | (.inl i, d) :: r, ks, e => by
    unfold intKeys? at e
    cases e1 : intKeys? r with
    | none => rw [e1] at e; cases e
    | some l => rw [e1] at e; cases e; rw [List.map_cons, List.map_cons, intKeys?_inv e1]
  | (.inr _, _) :: _, _, e => by cases e
theorem RpG.keysEq {κ : Type} {K : PySem.W.Frag} {H : Hp} : ∀ {v : List (κ × V)} {d : List (κ × PyData)}, RpG K H v d → v.map (·.1) = d.map (·.1)
  | _, _, .nil => rfl
  | _, _, .cons _ r => by rw [List.map_cons, List.map_cons, r.keysEq]
def leL (a b : List Int) : Bool := !lexL b a
theorem totL : TotB leL := ⟨fun a b h => by
  have h : lexL b a = true := by simpa [leL] using h
  have := lexL_asym _ _ h
  simp [leL, this], fun a b c h1 h2 => by
  have h1 : lexL b a = false := by simpa [leL] using h1
  have h2 : lexL c b = false := by simpa [leL] using h2
  have := lexL_tr a b c h1 h2
  simp [leL, this], fun a b h1 h2 => by
  have h1 : lexL b a = false := by simpa [leL] using h1
  have h2 : lexL a b = false := by simpa [leL] using h2
  exact lexL_anti a b h2 h1⟩
def tupD (ns : List Int) : PyData := .tuple (ns.map .int)
def tups? : List PyData → Option (List (List Int))
  | [] => some []
  | .tuple ds :: r => match ints? ds with
    | some (a :: q) => (tups? r).map ((a :: q) :: ·)
    | _ => none
  | _ => none
theorem tups?_inv : ∀ {ds : List PyData} {ps : List (List Int)}, tups? ds = some ps → ds = ps.map tupD ∧ ∀ p ∈ ps, p ≠ []
  | [], _, e => by cases e; exact ⟨rfl, fun p h => nomatch h⟩
  | d :: r, ps, e => by
    unfold tups? at e
    split at e
    · rename_i e0; cases e0
    · rename_i ds r' e0
      cases e0
      split at e
      · rename_i a q e2
        cases e1 : tups? r with
        | none => rw [e1] at e; cases e
        | some l =>
          rw [e1] at e; cases e
          obtain ⟨h1, h2⟩ := tups?_inv e1
          refine ⟨by rw [h1, ints?_inv e2]; rfl, fun p hp => ?_⟩
          rcases List.mem_cons.mp hp with e | hp
          · rw [e]; simp
          · exact h2 p hp
      · cases e
    · cases e
theorem tups?_map : ∀ {ps : List (List Int)}, (∀ p ∈ ps, p ≠ []) → tups? (ps.map tupD) = some ps
  | [], _ => rfl
  | [] :: _, h => absurd rfl (h [] (by simp))
  | (a :: q) :: r, h => by
    show (match ints? ((a :: q).map PyData.int) with
      | some (a :: q) => (tups? (r.map tupD)).map ((a :: q) :: ·)
      | _ => none) = _
    rw [ints?_map, tups?_map fun p hp => h p (List.mem_cons_of_mem _ hp)]
    rfl
def sortedF : PyData → Option Rv
  | .list ds => match ints? ds with
    | some ns => some (.new (.lst ((sortB leI ns).map .int)))
    | none => match pairs? ds with
      | some ps => some (.new (.lst ((sortB leP ps).map pairD)))
      | none => (tups? ds).map fun ls => .new (.lst ((sortB leL ls).map tupD))
  | .dict ds => (unD ds).bind fun kvs => (intKeys? kvs).bind fun ks => if ks.length < 64 then some (.new (.lst ((sortB leI ks).map .int))) else none
  | _ => none
def rSortDI : List V → Hp → VK → Prop := fun xs H Q => ∃ (a : Addr) (kvs : List (Key × V)) (ks : List Int), xs = [.ref a] ∧ Rd H a (.dK kvs) ∧ kvs.map (·.1) = ks.map Sum.inl ∧ ks.length < 64 ∧
    ∀ (ys : List Int) (p : Addr), ys.Perm ks → ys.Pairwise (· ≤ ·) → H p = none → Q (.ref p) (upd H p (.lst (ys.map V.int)))
def rSortedA (K : PySem.W.Frag) : List V → Hp → VK → Prop := fun xs H Q => rSortedI K xs H Q ∨ rSortedPO K xs H Q ∨ rSortDI xs H Q ∨ rSortL K xs H Q
theorem cr_sortedA {X : Cx} (hc : X.calm = true) : CallR X (.builtin "sorted") (rSortedA X.K) := by
  intro pins s σ H vs us Q I r h
  rcases h with h | h | h | h
  · exact cr_sortedI pins s σ H vs us Q I r h
  · exact cr_sortedPO pins s σ H vs us Q I r h
  · exact call_sortedDI hc pins s σ H vs us Q I r h
  · exact cr_sortL pins s σ H vs us Q I r h
def intV : V → Int
  | .int i => i
  | _ => 0
def keyL (H : Hp) : V → List Int
  | .ref t => match H t with
    | some (.tup ys) => ys.map intV
    | _ => []
  | _ => []
theorem intV_map {ns : List Int} : (ns.map V.int).map intV = ns := by
  rw [List.map_map]
  exact (List.map_congr_left fun _ _ => rfl).trans (List.map_id ns)
theorem RpA.tups {K : PySem.W.Frag} {H : Hp} : ∀ {xs : List V} {ps : List (List Int)}, RpA K H xs (ps.map tupD) → (xs.map (keyL H) = ps) ∧ ∀ x ∈ xs, ∃ t, x = .ref t ∧ H t = some (.tup ((keyL H x).map V.int))
  | _, [], .nil => ⟨rfl, fun x h => nomatch h⟩
  | _, p :: ps, .cons (v := v) (vs := vs) h r => by
    obtain ⟨e1, e2⟩ := r.tups
    have h : Rp K H v (.tuple (p.map .int)) := h
    obtain ⟨a, ys, rfl, ha, ry⟩ : ∃ a ys, v = .ref a ∧ H a = some (.tup ys) ∧ RpA K H ys (p.map .int) := by
      cases h with
      | tup ha r => exact ⟨_, _, rfl, ha, r⟩
    have ey := ry.ints
    subst ey
    have ek : keyL H (.ref a) = p := by
      show (match H a with | some (.tup ys) => ys.map intV | _ => []) = p
      rw [ha]
      exact intV_map
    refine ⟨by rw [List.map_cons, ek, e1], fun x hx => ?_⟩
    rcases List.mem_cons.mp hx with e | hx
    · subst e; rw [ek]; exact ⟨a, rfl, ha⟩
    · exact e2 x hx
theorem RpA.ofTups {K : PySem.W.Frag} {H : Hp} : ∀ {xs : List V}, (∀ x ∈ xs, ∃ t, x = .ref t ∧ H t = some (.tup ((keyL H x).map V.int))) → RpA K H xs ((xs.map (keyL H)).map tupD)
  | [], _ => .nil
  | x :: xs, h => by
    obtain ⟨t, e, ht⟩ := h x (List.mem_cons_self ..)
    refine .cons ?_ (RpA.ofTups fun y hy => h y (List.mem_cons_of_mem _ hy))
    have : Rp K H x (.tuple ((keyL H x).map .int)) := by
      generalize keyL H x = q at ht
      rw [e]
      exact .tup ht (RpA.ofInts _)
    exact this
def keyV (H : Hp) : V → Int × Int
  | .ref t => match H t with
    | some (.tup [.int a, .int b]) => (a, b)
    | _ => (0, 0)
  | _ => (0, 0)
theorem RpA.pairs {K : PySem.W.Frag} {H : Hp} : ∀ {xs : List V} {ps : List (Int × Int)}, RpA K H xs (ps.map pairD) → (xs.map (keyV H) = ps) ∧ ∀ x ∈ xs, ∃ t, x = .ref t ∧ H t = some (.tup [.int (keyV H x).1, .int (keyV H x).2])
  | _, [], .nil => ⟨rfl, fun x h => nomatch h⟩
  | _, p :: ps, .cons (v := v) (vs := vs) h r => by
    obtain ⟨e1, e2⟩ := r.pairs
    have h : Rp K H v (.tuple [.int p.1, .int p.2]) := h
    obtain ⟨a, ys, rfl, ha, ry⟩ : ∃ a ys, v = .ref a ∧ H a = some (.tup ys) ∧ RpA K H ys [.int p.1, .int p.2] := by
      cases h with
      | tup ha r => exact ⟨_, _, rfl, ha, r⟩
    have ey : ys = [.int p.1, .int p.2] := by
      cases ry with
      | cons h1 r1 => cases h1; cases r1 with
        | cons h2 r2 => cases h2; cases r2; rfl
    subst ey
    have ek : keyV H (.ref a) = p := by
      show (match H a with | some (.tup [.int a, .int b]) => (a, b) | _ => (0, 0)) = p
      rw [ha]
    refine ⟨by rw [List.map_cons, ek, e1], fun x hx => ?_⟩
    rcases List.mem_cons.mp hx with e | hx
    · subst e; rw [ek]; exact ⟨a, rfl, ha⟩
    · exact e2 x hx
theorem RpA.ofPairs {K : PySem.W.Frag} {H : Hp} : ∀ {xs : List V}, (∀ x ∈ xs, ∃ t, x = .ref t ∧ H t = some (.tup [.int (keyV H x).1, .int (keyV H x).2])) → RpA K H xs ((xs.map (keyV H)).map pairD)
  | [], _ => .nil
  | x :: xs, h => by
    obtain ⟨t, e, ht⟩ := h x (List.mem_cons_self ..)
    refine .cons ?_ (RpA.ofPairs fun y hy => h y (List.mem_cons_of_mem _ hy))
    have : Rp K H x (.tuple [.int (keyV H x).1, .int (keyV H x).2]) := by
      generalize keyV H x = q at ht
      rw [e]
      exact .tup ht (.cons (.int _) (.cons (.int _) .nil))
    exact this
theorem sorted_ok {C : Cf} : UnOk C (fun x => rSortedA C.K [x]) sortedF := by
  refine ⟨?_⟩
  intro s H w x d rv h vx ef Q q
  unfold sortedF at ef
  split at ef
  · rename_i ds
    obtain ⟨p, xs, rfl, hp, r⟩ := vx
    split at ef
    · rename_i ns hn
      cases ef
      rw [ints?_inv hn] at r
      have ex := r.ints
      subst ex
      refine .inl ⟨p, ns, rfl, .inl (.inl hp), fun ns' l h1 h2 hl => ?_⟩
      have : ns' = sortB leI ns := sortB_eq totI h1 (h2.imp fun h => decide_eq_true h)
      subst this
      exact q.new h (RpA.ofInts _) hl
    · cases e1 : pairs? ds with
      | none =>
        rw [e1] at ef
        cases e2 : tups? ds with
        | none => simp only [e2] at ef; cases ef
        | some ls =>
          simp only [e2] at ef; cases ef
          obtain ⟨d1, d2⟩ := tups?_inv e2
          rw [d1] at r
          obtain ⟨k1, k2⟩ := r.tups
          refine .inr (.inr (.inr ⟨p, xs, keyL s.H0, rfl, .inl (.inl hp), fun x hx => ?_, fun ys l h1 h2 hl => ?_⟩))
          · obtain ⟨t, e, ht⟩ := k2 x hx
            exact ⟨t, e, h.ex _ _ ht, d2 _ (by rw [← k1]; exact List.mem_map_of_mem hx)⟩
          · have ry := RpA.ofTups (K := C.K) fun y hy => k2 y (h2.mem_iff.mp hy)
            have : ys.map (keyL s.H0) = sortB leL ls := by
              refine sortB_eq totL ?_ ?_
              · rw [← k1]; exact h2.map _
              · rw [List.pairwise_map]
                exact h1.imp fun {a b} z => by
                  have z : lexL (keyL s.H0 b) (keyL s.H0 a) = false := z
                  show (!lexL (keyL s.H0 b) (keyL s.H0 a)) = true
                  rw [z]; rfl
            rw [this] at ry
            exact q.new h ry hl
      | some ps =>
        rw [e1] at ef; cases ef
        rw [pairs?_inv e1] at r
        obtain ⟨k1, k2⟩ := r.pairs
        refine .inr (.inl ⟨p, xs, keyV s.H0, rfl, .inl (.inl hp), fun x hx => ?_, fun ys l h1 h2 hl => ?_⟩)
        · obtain ⟨t, e, ht⟩ := k2 x hx
          exact ⟨t, e, h.ex _ _ ht⟩
        · have hk : ∀ y ∈ ys, ∃ t, y = .ref t ∧ s.H0 t = some (.tup [.int (keyV s.H0 y).1, .int (keyV s.H0 y).2]) := fun y hy => k2 y (h2.perm.mem_iff.mp hy)
          have ry := RpA.ofPairs (K := C.K) hk
          have : ys.map (keyV s.H0) = sortB leP ps := by
            refine sortB_eq totP ?_ ?_
            · rw [← k1]; exact h2.perm.map _
            · rw [List.pairwise_map]
              exact h1.imp fun {a b} z => by
                have z : SrtO.lexB (keyV s.H0 b) (keyV s.H0 a) = false := z
                show (!SrtO.lexB (keyV s.H0 b) (keyV s.H0 a)) = true
                rw [z]; rfl
          rw [this] at ry
          exact q.new h ry hl
  · rename_i ds
    cases e1 : unD ds with
    | none => rw [e1] at ef; cases ef
    | some kvs =>
      rw [e1] at ef
      cases e2 : intKeys? kvs with
      | none => rw [Option.bind_some, e2] at ef; cases ef
      | some ks =>
        rw [Option.bind_some, e2, Option.bind_some] at ef
        split at ef
        · rename_i hl
          cases ef
          obtain ⟨a, xs, rfl, ha, r⟩ := vx.dic_inv h.ex (unD_plain e1)
          rw [unD_inv e1] at r
          have r := r.toK
          refine .inr (.inr (.inl ⟨a, xs, ks, rfl, .inl ha, by rw [r.keysEq, intKeys?_inv e2], hl, fun ys l h1 h2 hl => ?_⟩))
          have : ys = sortB leI ks := sortB_eq totI h1 (h2.imp fun h => decide_eq_true h)
          subst this
          exact q.new h (RpA.ofInts _) hl
        · cases ef
  · cases ef
@[simp] abbrev SE.sorted {C : Cf} (a : SE C) : SE C := .cb1 (rSortedA C.K) sortedF sorted_ok a
end Cl

set_option Elab.async false
set_option linter.all false
set_option maxRecDepth 100000
set_option maxHeartbeats 4000000
namespace L2
open PySem PySem.Spec PyProof.Rows
/-! ### zip(list, tuple) -/
theorem apart_sep {z TI TO i1 i2 a b : Addr} (D : ZipApart z TI TO i1 i2 a b) : ZipSep2 z TI TO i1 i2 [i1, a] [i2, b] where
  TIz := D.TIz
  TOz := D.TOz
  TITO := D.TITO
  TIi1 := D.TIi1
  mem1 := by simp
  zf1 := by simp [D.i1z.symm, D.l1z.symm]
  Tf1 := by simp [D.TOi1, D.l1TO.symm]
  TIi2 := D.TIi2
  mem2 := by simp
  zf2 := by simp [D.i2z.symm, D.l2z.symm]
  Tf2 := by simp [D.TOi2, D.l2TO.symm]
  sep1_2 := by simp [D.i12, D.l2i1.symm]
  sep2_1 := by simp [D.i12.symm, D.l1i2.symm]
def ItzLT (K : PySem.W.Frag) (a b : Addr) : It :=
  ⟨fun i H => ∃ (xs ys : List V) (x y : V), SqL K H a xs ∧ SqT K H b ys ∧ xs[i]? = some x ∧ ys[i]? = some y,
    fun i H v H' => ∃ T x y, v = .ref T ∧ H T = none ∧ H' = upd H T (.tup [x, y]) ∧ (∀ xs, SqL K H a xs → xs[i]? = some x) ∧ ∀ ys, SqT K H b ys → ys[i]? = some y,
    fun i H => ∃ xs ys : List V, SqL K H a xs ∧ SqT K H b ys ∧ i ≤ xs.length ∧ i ≤ ys.length ∧ (i = xs.length ∨ i = ys.length)⟩
theorem turn_zipLT {P : Program} {w : World} {K : PySem.W.Frag} {elts : List Expr} {kk : Nat} {tpos : Pos} {a b z TI TO i1 i2 : Addr} (D : ZipApart z TI TO i1 i2 a b) :
    Turn P w K (.Tuple elts kk tpos) (ItzLT K a b) [z, TI, TO, i1, i2] z (fun i h => IsZip h z TI TO .none ∧ IsTupOf2 h TI (.ref i1) (.ref i2) ∧ (∃ x y, IsTupOf2 h TO x y) ∧ h.IsListIter i1 a i ∧ h.IsTupleIter i2 b i) where
  mem := by simp
  obj := fun i h st c hc => by
    obtain ⟨hz, hTI, ⟨x, y, hTO⟩, ⟨o1, e1, _, d1⟩, ⟨o2, e2, _, d2⟩⟩ := st
    have e' : c = z ∨ c = TI ∨ c = TO ∨ c = i1 ∨ c = i2 := by simpa using hc
    rcases e' with q | q | q | q | q
    · rw [q]; exact ⟨_, hz, fun v q => nomatch q⟩
    · rw [q]; exact ⟨_, hTI, fun v q => nomatch q⟩
    · rw [q]; exact ⟨_, hTO, fun v q => nomatch q⟩
    · rw [q]; exact ⟨o1, e1, fun v q => by rw [d1] at q; cases q⟩
    · rw [q]; exact ⟨o2, e2, fun v q => by rw [d2] at q; cases q⟩
  keep := fun i h h' st k => by
    obtain ⟨hz, hTI, ⟨x, y, hTO⟩, h1, h2⟩ := st
    exact ⟨k z (by simp) _ hz, k TI (by simp) _ hTI, ⟨x, y, k TO (by simp) _ hTO⟩, h1.at fun o q => k i1 (by simp) o q, h2.at fun o q => k i2 (by simp) o q⟩
  item := by
    intro X hP hw hK hc i pins s σ H E I hf st hg
    subst hP hw hK
    obtain ⟨hz, hTI, ⟨x0, y0, hTO⟩, h1, h2⟩ := st
    obtain ⟨xs, ys, x, y, hqx, hqy, hx, hy⟩ := hg
    obtain ⟨its, rv, p, _⟩ := I.list hqx
    obtain ⟨its2, rv2, p2, _⟩ := I.tuple hqy
    obtain ⟨u, hu, ru⟩ := rv.get hx
    obtain ⟨u2, hu2, ru2⟩ := rv2.get hy
    have hzl : z < s.heap.objs.size := Heap.lt_size hz
    have D1 := Draws.list (prog := X.prog) (w := X.w) (A := X.A.in1) (I.ok.hd hc) i1 a D.l1i1 its.toArray
    have D2 := Draws.tuple (prog := X.prog) (w := X.w) (A := X.A.in1) (I.ok.hd hc) i2 b D.l2i2 its2.toArray
    have hp1 : s.heap.IsList a its.toArray := p.isList
    have hp2 : s.heap.IsTuple b its2.toArray := p2
    have hu' : its.toArray[i]? = some u := by simpa using hu
    have hu2' : its2.toArray[i]? = some u2 := by simpa using hu2
    refine wpAny_pyNext_zipD2_item (apart_sep D) D1 D2 hz hTI hTO ⟨h1, hp1⟩ ⟨h2, hp2⟩ (Array.getElem?_eq_some_iff.mp hu').1 (Array.getElem?_eq_some_iff.mp hu2').1 fun v1 v2 h' tk y1 y2 z' TO' s1' s2' hT hsz hk => ?_
    have e1 : v1 = u := Option.some.inj ((show its.toArray[i]? = some v1 from y1).symm.trans hu')
    have e2 : v2 = u2 := Option.some.inj ((show its2.toArray[i]? = some v2 from y2).symm.trans hu2')
    subst e1 e2
    refine ⟨_, rfl, wpAny_letOwnedTupleGo_zip (s := { s with heap := h', toks := tk }) z' fun h'' z'' sb => ?_⟩
    have hT2 : h''.get? s.heap.objs.size = some { cls := .type "tuple", data := .seq #[v1, v2] } := (sb.2 _ (Nat.ne_of_gt hzl)).trans hT
    have new : ObjOk X.prog X.w (upd H s.heap.objs.size (.tup [x, y])) h'' s.heap.objs.size (.tup [x, y]) :=
      ⟨by show 2 ≤ sizeLine; decide, [v1, v2], .cons ru (.cons ru2 .nil), ⟨_, hT2, rfl, _, rfl⟩⟩
    have I1 : Inv X pins σ (upd H s.heap.objs.size (.tup [x, y])) { s with heap := h'', toks := tk } :=
      I.turnedNew (t' := tk) (ch := [z, TI, TO, i1, i2]) (fun c o hb q => (sb.2 c (fun q' => hb (by simp [q']))).trans (hk c o (fun q' => hb (by simp [q'])) (fun q' => hb (by simp [q'])) (fun q' => hb (by simp [q'])) (fun q' => hb (by simp [q'])) q)) hf (Nat.le_refl _) new
    refine ⟨.ref s.heap.objs.size, _, I1, rfl, ⟨_, x, y, rfl, I.hok.fresh (Nat.le_refl _), rfl, fun l hl => by rw [I.list_inj hl hqx]; exact hx, fun l hl => by rw [I.tuple_inj hl hqy]; exact hy⟩, ⟨z'', ?_, ⟨v1, v2, ?_⟩, ?_, ?_⟩, fun c hcm => ?_⟩
    · exact (sb.2 _ D.TIz).trans (hk _ _ D.TIz D.TITO D.TIi1 D.TIi2 hTI)
    · exact (sb.2 _ D.TOz).trans TO'
    · exact s1'.1.at fun o q => (sb.2 _ D.i1z).trans q
    · exact s2'.1.at fun o q => (sb.2 _ D.i2z).trans q
    · have hlt : c < s.heap.objs.size := by
        have e' : c = z ∨ c = TI ∨ c = TO ∨ c = i1 ∨ c = i2 := by simpa using hcm
        rcases e' with q | q | q | q | q
        · rw [q]; exact hzl
        · rw [q]; exact Heap.lt_size hTI
        · rw [q]; exact Heap.lt_size hTO
        · rw [q]; obtain ⟨_, e1, _⟩ := h1; exact Heap.lt_size e1
        · rw [q]; obtain ⟨_, e2, _⟩ := h2; exact Heap.lt_size e2
      rw [upd_ne (Nat.ne_of_lt hlt)]
      exact (hf c hcm).1
  done := by
    intro X hP hw hK hc i pins s σ H E I hf st hg
    subst hP hw hK
    obtain ⟨hz, hTI, ⟨x0, y0, hTO⟩, h1, h2⟩ := st
    obtain ⟨xs, ys, hqx, hqy, l1, l2, hend⟩ := hg
    obtain ⟨its, rv, p, _⟩ := I.list hqx
    obtain ⟨its2, rv2, p2, _⟩ := I.tuple hqy
    have e1 := rv.length
    have e2 := rv2.length
    have D1 := Draws.list (prog := X.prog) (w := X.w) (A := X.A.in1) (I.ok.hd hc) i1 a D.l1i1 its.toArray
    have D2 := Draws.tuple (prog := X.prog) (w := X.w) (A := X.A.in1) (I.ok.hd hc) i2 b D.l2i2 its2.toArray
    have hp1 : s.heap.IsList a its.toArray := p.isList
    have hp2 : s.heap.IsTuple b its2.toArray := p2
    refine wpAny_pyNext_zipD2_end (apart_sep D) D1 D2 hz hTI hTO ⟨h1, hp1⟩ ⟨h2, hp2⟩ (by rw [List.size_toArray]; omega) (by rw [List.size_toArray]; omega) (by rw [List.size_toArray, List.size_toArray]; omega) fun h' tk hk => ⟨rfl, I.turnedL (t' := tk) (ch := [z, TI, TO, i1, i2]) (fun c o hb q =>
      hk c o (fun q' => hb (by simp [q'])) (fun q' => hb (by simp [q'])) (fun q' => hb (by simp [q'])) (fun q' => hb (by simp [q'])) q) hf⟩
  self := fun A i s Q E st h => wpAny_pyIter_zip st.1 h
def iZipLT (K : PySem.W.Frag) (ta : TA) : TI := fun σ H R => ta σ H fun vs H1 => ∃ a b xs ys, vs = [.ref a, .ref b] ∧ ((SqL K H1 a xs ∧ SqL K H1 b ys ∧ R (Itz K a b) H1) ∨ (SqL K H1 a xs ∧ SqT K H1 b ys ∧ R (ItzLT K a b) H1))
theorem pi_zipLT {X : Cx} {e e2 : Expr} {ta : TA} {p pos tpos : Pos} {elts : List Expr} {kk : Nat} (hg : Gl X "zip") (hm : X.mg "zip" = none) (ha : PA X [e, e2] ta)
    (hs : starEach [e, e2] X.env = (false, eval e X.env) :: starEach [e2] X.env := by rfl) (hpl : (backTo pos (starEach [e2] X.env)).any (·.1) = false := by rfl) :
    PI X (.Tuple elts kk tpos) (.Call (.Name "zip" p) [e, e2] [] pos) (iZipLT X.K ta) := by
  refine ⟨fun pins s σ H R I h => ?_⟩
  refine Call_ (ld_blt I hg hm PyProof.Rows.boot_zip (PyProof.Rows.callWith_type1 (thn (ha.run pos pins s σ H _ I h) fun us s1 ⟨vs, H1, I1, r1, q1⟩ => ?_) hs hpl))
  obtain ⟨a, b, xs, ys, ex, q1⟩ := q1
  subst ex
  cases r1 with
  | cons r rr =>
    cases rr with
    | cons r' rr =>
      cases rr
      cases r
      cases r'
      have fresh5 : ∀ c, c ∈ [s1.heap.objs.size + 4, s1.heap.objs.size + 2, s1.heap.objs.size + 3, s1.heap.objs.size, s1.heap.objs.size + 1] → FpOk X pins H1 c := fun c hcm => by
        have e' : c = s1.heap.objs.size + 4 ∨ c = s1.heap.objs.size + 2 ∨ c = s1.heap.objs.size + 3 ∨ c = s1.heap.objs.size ∨ c = s1.heap.objs.size + 1 := by simpa using hcm
        have hle : s1.heap.objs.size ≤ c := by
          rcases e' with z | z | z | z | z
          · rw [z]; exact Nat.le_add_right _ _
          · rw [z]; exact Nat.le_add_right _ _
          · rw [z]; exact Nat.le_add_right _ _
          · rw [z]; exact Nat.le_refl _
          · rw [z]; exact Nat.le_add_right _ _
        exact I1.fpOk hle (I1.hok.fresh hle)
      rcases q1 with ⟨hqx, hqy, q⟩ | ⟨hqx, hqy, q⟩
      · obtain ⟨its, rv, p1, _⟩ := I1.list hqx
        obtain ⟨its2, rv2, p2, _⟩ := I1.list hqy
        refine call_zip_2 p1.isList p2.isList fun h' hz hTI hTO h1 h2 hsz hk => wpAny_pyIter_zip hz ?_
        have I2 : Inv X pins σ H1 { s1 with heap := h' } := I1.kept (t' := s1.toks) hk
        exact ⟨s1.heap.objs.size + 4, [s1.heap.objs.size + 4, s1.heap.objs.size + 2, s1.heap.objs.size + 3, s1.heap.objs.size, s1.heap.objs.size + 1], _, _, H1, rfl, I2, turn_zip (PySem.W.ktu_apart s1.heap.objs.size a b p1.lt p2.lt), ⟨hz, hTI, ⟨_, _, hTO⟩, h1, h2⟩, fresh5, q⟩
      · obtain ⟨its, rv, p1, _⟩ := I1.list hqx
        obtain ⟨its2, rv2, p2, _⟩ := I1.tuple hqy
        obtain ⟨o2, ho2, _⟩ := id p2
        refine zip_begins2 (begins_list a its.toArray) (begins_tuple b its2.toArray) p1.isList (show s1.heap.IsTuple b its2.toArray from p2) fun h' hz hTI hTO h1 h2 hsz hk => wpAny_pyIter_zip hz ?_
        have I2 : Inv X pins σ H1 { s1 with heap := h' } := I1.kept (t' := s1.toks) hk
        exact ⟨s1.heap.objs.size + 4, [s1.heap.objs.size + 4, s1.heap.objs.size + 2, s1.heap.objs.size + 3, s1.heap.objs.size, s1.heap.objs.size + 1], _, _, H1, rfl, I2, turn_zipLT (PySem.W.ktu_apart s1.heap.objs.size a b p1.lt (Heap.lt_size ho2)), ⟨hz, hTI, ⟨_, _, hTO⟩, ⟨_, h1, rfl, rfl⟩, ⟨_, h2, rfl, rfl⟩⟩, fresh5, q⟩
end L2

set_option Elab.async false
set_option linter.all false
set_option maxRecDepth 100000
set_option maxHeartbeats 4000000
namespace Cl
open PySem L2 PySem.Spec PyProof.Rows
/-! ### xs[::-1] -/
def rRevA (K : PySem.W.Frag) (x : V) (H : Hp) (Q : VK) : Prop := ∃ a xs, x = .ref a ∧ SqL K H a xs ∧ ∀ p, H p = none → Q (.ref p) (upd H p (.lst xs.reverse))
def revF : PyData → Option Rv
  | .list ds => some (.new (.lst ds.reverse))
  | _ => none
theorem rev_ok {C : Cf} : UnOk C (rRevA C.K) revF := by
  refine ⟨?_⟩
  intro s H w x d rv h vx ef Q q
  unfold revF at ef
  split at ef
  · cases ef
    obtain ⟨p, xs, rfl, hp, r⟩ := vx
    exact ⟨p, xs, rfl, .inl (.inl hp), fun l hl => q.new h r.reverse hl⟩
  · cases ef
@[simp] abbrev SE.rev {C : Cf} (a : SE C) : SE C := .un (rRevA C.K) revF rev_ok a
/-! ### xs.extend(e) -/
def SS.ext {C : Cf} (i : Nat) (a : SE C) : SS C where
  t := tDrop (tBM C.K "list" rExtend (tVar i) (tCons a.t tNil))
  ev := fun Γ w => match Γ[i]? with
    | some (some (.own (.lst ds))) => bindF (a.evD Γ w) fun d w1 => match d with
      | .list es => if ds.length + es.length ≤ 100000 then some (.nx (Γ.set i (some (.own (.lst (ds ++ es))))) w1) else none
      | _ => none
    | _ => none
  ok := by
    intro sE HE s H σ Γ w fl S h e D q
    split at e
    · rename_i ds g
      obtain ⟨v, gv, p, u, rfl, a1, a2, a3, a4, r0⟩ := S.sl i _ g
      obtain ⟨xs, rfl, r⟩ := r0.lst
      refine ⟨_, gv, .inl ⟨rfl, xs, .inl (.inl a1)⟩, ?_⟩
      rcases bindF_cases e with ⟨d, w1, e1, e2⟩ | ⟨x, w1, e1, rfl⟩
      · refine a.okD S h e1 _ fun s1 H1 l1 h1 v hv => ?_
        split at e2
        · rename_i es
          split at e2
          · rename_i hl
            cases e2
            have S1 := S.le l1
            obtain ⟨b, ys, rfl, hb, rb⟩ : ∃ b ys, v = .ref b ∧ s1.H0 b = some (.lst ys) ∧ RpA C.K s1.H0 ys es := by
              cases hv with
              | lst hb rb => exact ⟨_, _, rfl, hb, rb⟩
            refine ⟨p, b, xs, ys, rfl, rfl, l1.fr p _ a1 a3, h1.ex _ _ hb, by rw [r.length, rb.length]; exact Nat.le_trans hl (by decide), ?_⟩
            refine q s1 _ σ l1.h0 (S1.mut g gv (l1.nf p _ a1 (NT.lst _) a2) (l1.nw p _ a1 a3) a4 ⟨_, rfl, (r.mono l1.h0).append rb⟩) (h1.mut (l1.nf p _ a1 (NT.lst _) a2) (l1.nw p _ a1 a3))
          · cases e2
        · cases e2
      · exact a.okD S h e1 _ (exS S q)
    · cases e
/-! ### e or f, e an int or None -/
def truI : PyData → Option Bool
  | .none => some false
  | .bool b => some b
  | .int i => some (i != 0)
  | _ => none
def SE.orI {C : Cf} (a b : SE C) : SE C where
  t := tOrT C.K a.t b.t
  ev := fun Γ w => bindR (a.evD Γ w) fun d w1 => match truI d with
    | some true => some (.ok (.dat d) w1)
    | some false => b.ev Γ w1
    | none => none
  ok := by
    intro sE HE s H σ Γ w res S h e Q q
    rcases bindR_cases e with ⟨d, w1, e1, e2⟩ | ⟨x, w1, e1, rfl⟩
    · refine a.okD S h e1 _ fun s1 H1 l1 h1 v z => ?_
      have tr : ∀ k, truI d = some k → TruV C.K v H1 k := by
        intro k ek
        cases d with
        | none => cases ek; cases z; rfl
        | bool b => cases ek; cases z; rfl
        | int i => cases ek; cases z; rfl
        | _ => cases ek
      split at e2
      · rename_i ht
        cases e2
        exact ⟨true, tr _ ht, by rw [if_pos rfl]; exact q s1 H1 l1 h1 v z⟩
      · rename_i ht
        refine ⟨false, tr _ ht, ?_⟩
        rw [if_neg (by decide)]
        refine b.ok (S.le l1) h1 e2 Q ?_
        cases res with
        | ok r w2 =>
          intro s2 H2 l2 h2 v2 z2
          refine q s2 H2 (l1.trans l2) h2 v2 ?_
          cases r with
          | dat d => exact z2
          | new o =>
            obtain ⟨p, u, e, n, r⟩ := z2
            exact ⟨p, u, e, l1.none0 n, r⟩
          | bor i o => exact z2
          | hd n => exact z2
        | ex x w2 => exact (q.le l1)
      · cases e2
    · exact a.okD S h e1 _ q.ex
/-! ### zip -/
def zipD (xs ys : List PyData) : List PyData := (xs.zip ys).map fun p => .tuple [p.1, p.2]
theorem zip_take {α β : Type} : ∀ (xs : List α) (ys : List β), (xs.take (min xs.length ys.length)).zip (ys.take (min xs.length ys.length)) = xs.zip ys
  | [], ys => by simp
  | x :: xs, [] => by simp
  | x :: xs, y :: ys => by
    have : min (x :: xs).length (y :: ys).length = min xs.length ys.length + 1 := by simp [Nat.succ_min_succ]
    rw [this, List.take_succ_cons, List.take_succ_cons, List.zip_cons_cons, zip_take xs ys, List.zip_cons_cons]
theorem wk_zipL {C : Cf} {a b : Addr} {xs ys : List V} {ds es : List PyData} {H0 : Hp} (ha : H0 a = some (.lst xs)) (hb : H0 b = some (.lst ys)) (r : RpA C.K H0 xs ds) (r' : RpA C.K H0 ys es) : Wk C (Itz C.K a b) H0 (zipD ds es) := by
  have l1 := r.length
  have l2 := r'.length
  have W := wk_pair (C := C) (J := Itz C.K a b) (H0 := H0) (xs := ds.take (min ds.length es.length)) (ys := es.take (min ds.length es.length)) (fx := fun _ _ => none) (fy := fun _ _ => none) (by simp [List.length_take, Nat.min_comm]) ?_ ?_ ?_
  · rw [zip_take] at W; exact W
  · intro s H w i h' x hi
    have hi : i < ds.length ∧ i < es.length := by simp [List.length_take] at hi; omega
    exact ⟨xs, ys, xs[i]'(by omega), ys[i]'(by omega), .inl (.inl (h'.ex _ _ (x _ _ ha))), .inl (.inl (h'.ex _ _ (x _ _ hb))), List.getElem?_eq_getElem _, List.getElem?_eq_getElem _⟩
  · intro s H w h' x
    refine ⟨xs, ys, .inl (.inl (h'.ex _ _ (x _ _ ha))), .inl (.inl (h'.ex _ _ (x _ _ hb))), ?_⟩
    simp only [List.length_take]; omega
  · intro s H w i v H' h' x hi y
    have hi2 : i < ds.length ∧ i < es.length := by simp [List.length_take] at hi; omega
    have hi3 : i < min ds.length es.length := by omega
    obtain ⟨T, u, v', rfl, hT, rfl, k1, k2⟩ := y
    obtain ⟨d, hd, rd⟩ := r.getL i u (k1 xs (.inl (.inl (h'.ex _ _ (x _ _ ha)))))
    obtain ⟨e, he, re⟩ := r'.getL i v' (k2 ys (.inl (.inl (h'.ex _ _ (x _ _ hb)))))
    exact ⟨T, u, v', d, e, rfl, hT, rfl, by rw [List.getElem?_take_of_lt hi3]; exact hd, by rw [List.getElem?_take_of_lt hi3]; exact he, Rp.mono x rd, Rp.mono x re⟩
theorem wk_zipLT {C : Cf} {a b : Addr} {xs ys : List V} {ds es : List PyData} {H0 : Hp} (ha : H0 a = some (.lst xs)) (hb : H0 b = some (.tup ys)) (r : RpA C.K H0 xs ds) (r' : RpA C.K H0 ys es) : Wk C (ItzLT C.K a b) H0 (zipD ds es) := by
  have l1 := r.length
  have l2 := r'.length
  have W := wk_pair (C := C) (J := ItzLT C.K a b) (H0 := H0) (xs := ds.take (min ds.length es.length)) (ys := es.take (min ds.length es.length)) (fx := fun _ _ => none) (fy := fun _ _ => none) (by simp [List.length_take, Nat.min_comm]) ?_ ?_ ?_
  · rw [zip_take] at W; exact W
  · intro s H w i h' x hi
    have hi : i < ds.length ∧ i < es.length := by simp [List.length_take] at hi; omega
    exact ⟨xs, ys, xs[i]'(by omega), ys[i]'(by omega), .inl (.inl (h'.ex _ _ (x _ _ ha))), .inl (.inl (h'.ex _ _ (x _ _ hb))), List.getElem?_eq_getElem _, List.getElem?_eq_getElem _⟩
  · intro s H w h' x
    refine ⟨xs, ys, .inl (.inl (h'.ex _ _ (x _ _ ha))), .inl (.inl (h'.ex _ _ (x _ _ hb))), ?_⟩
    simp only [List.length_take]; omega
  · intro s H w i v H' h' x hi y
    have hi2 : i < ds.length ∧ i < es.length := by simp [List.length_take] at hi; omega
    have hi3 : i < min ds.length es.length := by omega
    obtain ⟨T, u, v', rfl, hT, rfl, k1, k2⟩ := y
    obtain ⟨d, hd, rd⟩ := r.getL i u (k1 xs (.inl (.inl (h'.ex _ _ (x _ _ ha)))))
    obtain ⟨e, he, re⟩ := r'.getL i v' (k2 ys (.inl (.inl (h'.ex _ _ (x _ _ hb)))))
    exact ⟨T, u, v', d, e, rfl, hT, rfl, by rw [List.getElem?_take_of_lt hi3]; exact hd, by rw [List.getElem?_take_of_lt hi3]; exact he, Rp.mono x rd, Rp.mono x re⟩
def zipF : PyData → PyData → Option (List PyData)
  | .list xs, .list ys => some (zipD xs ys)
  | .list xs, .tuple ys => some (zipD xs ys)
  | _, _ => none
def SI.zip {C : Cf} (a b : SE C) : SI C where
  t := iZipLT C.K (tCons a.t (tCons b.t tNil))
  ev := fun Γ w => bindR (a.evD Γ w) fun d w1 => bindR (b.evD Γ w1) (evO (zipF d))
  ok := by
    intro sE HE s H σ Γ w res S h e R q
    rcases bindR_cases e with ⟨d, w1, e1, e2⟩ | ⟨x, w1, e1, rfl⟩
    · refine a.okD S h e1 _ fun s1 H1 l1 h1 v z => ?_
      rcases bindR_cases e2 with ⟨d2, w2, e3, e4⟩ | ⟨x, w2, e3, rfl⟩
      · refine b.okD (S.le l1) h1 e3 _ fun s2 H2 l2 h2 v2 z2 => ?_
        obtain ⟨items, e5, rfl⟩ := evO_inv e4
        unfold zipF at e5
        have z := Rp.mono l2.h0 z
        split at e5
        · cases e5
          cases z with
          | lst ha r =>
            cases z2 with
            | lst hb r2 => exact ⟨_, _, _, _, rfl, .inl ⟨.inl (.inl (h2.ex _ _ ha)), .inl (.inl (h2.ex _ _ hb)), q s2 H2 (l1.trans l2) h2 _ (wk_zipL ha hb r r2)⟩⟩
        · cases e5
          cases z with
          | lst ha r =>
            cases z2 with
            | tup hb r2 => exact ⟨_, _, _, _, rfl, .inr ⟨.inl (.inl (h2.ex _ _ ha)), .inl (.inl (h2.ex _ _ hb)), q s2 H2 (l1.trans l2) h2 _ (wk_zipLT ha hb r r2)⟩⟩
        · cases e5
      · exact b.okD (S.le l1) h1 e3 _ (q.ex.le l1)
    · exact a.okD S h e1 _ q.ex
end Cl

set_option Elab.async false
set_option linter.all false
set_option maxRecDepth 100000
set_option maxHeartbeats 4000000
namespace Cl
open PySem L2 PySem.Spec PyProof.Rows
/-! ### {k: e} -/
def SE.disp1 {C : Cf} (j : Nat) (a : SE C) : SE C where
  t := tDisp [(tVar j, a.t)]
  ev := fun Γ w => match Γ[j]? with
    | some (some (.dat k)) => (keyOkD k).bind fun kk => bindR (a.evD Γ w) fun d w1 => some (.ok (.new (.dic [(kk, d)])) w1)
    | _ => none
  ok := by
    intro sE HE s H σ Γ w res S h e Q q
    split at e
    · rename_i k g
      cases e0 : keyOkD k with
      | none => rw [e0] at e; cases e
      | some kk =>
        rw [e0, Option.bind_some] at e
        intro p hp
        have l0 : Le s H s (upd H p (.dK [])) := Le.new hp
        have n0 := h.none0 hp
        have nw := h.noneW hp
        obtain ⟨v, gv, rk⟩ := (S.le l0).sl _ _ g
        refine ⟨v, gv, ?_⟩
        have rk : Rp C.K s.H0 v k := rk
        rw [keyOkD_inv e0] at rk
        have := rk.key
        subst this
        rcases bindR_cases e with ⟨d, w1, e1, e2⟩ | ⟨x, w1, e1, rfl⟩
        · cases e2
          refine a.okD (S.le l0) (h.new hp) e1 _ fun s1 H1 l1 h1 v2 r2 => ?_
          have m0 := l1.nf p _ upd_same (NT.dK _) n0
          have mw := l1.nw p _ upd_same nw
          refine ⟨l1.fr p _ upd_same nw, [(kk, v2)], rfl, (show 1 ≤ 15 by decide), ?_⟩
          exact q s1 _ ((l0.trans l1).mut hp) (h1.mut m0 mw) _ ⟨p, _, rfl, hp, upd_same, m0, mw, [(kk, v2)], rfl, .cons r2 .nil⟩
        · exact a.okD (S.le l0) (h.new hp) e1 _ (q.ex.le l0)
    · cases e

/-! ### an instance that is being made -/
inductive Fv where
  | dat (d : PyData)
  | dic (kvs : List (Key × PyData))
abbrev CSt := List (Str × Fv)
inductive FvA (K : PySem.W.Frag) (H0 HW : Hp) : List (Str × V) → CSt → List Addr → Prop
  | nil : FvA K H0 HW [] [] []
  | dat {k : Str} {v : V} {d : PyData} {xs : List (Str × V)} {fs : CSt} {ps : List Addr} : Rp K H0 v d → FvA K H0 HW xs fs ps → FvA K H0 HW ((k, v) :: xs) ((k, .dat d) :: fs) ps
  | dic {k : Str} {p : Addr} {kv : List (Key × V)} {ds : List (Key × PyData)} {xs : List (Str × V)} {fs : CSt} {ps : List Addr} : HW p = some (.dK kv) → RpG K H0 kv ds → FvA K H0 HW xs fs ps →
      FvA K H0 HW ((k, .ref p) :: xs) ((k, .dic ds) :: fs) (p :: ps)
section
variable {K : PySem.W.Frag} {H0 H0' HW HW' : Hp} {xs : List (Str × V)} {fs : CSt} {ps : List Addr}
theorem FvA.mono (e : Ex H0 H0') (r : FvA K H0 HW xs fs ps) : FvA K H0' HW xs fs ps := by
  induction r with
  | nil => exact .nil
  | dat h _ ih => exact .dat (Rp.mono e h) ih
  | dic h g _ ih => exact .dic h (g.mono e) ih
theorem FvA.atW (r : FvA K H0 HW xs fs ps) (h : ∀ p ∈ ps, HW' p = HW p) : FvA K H0 HW' xs fs ps := by
  induction r with
  | nil => exact .nil
  | dat g _ ih => exact .dat g (ih h)
  | dic g g2 _ ih => exact .dic ((h _ (List.mem_cons_self ..)).trans g) g2 (ih fun p hp => h p (List.mem_cons_of_mem _ hp))
theorem FvA.len (r : FvA K H0 HW xs fs ps) : xs.length = fs.length := by
  induction r with
  | nil => rfl
  | dat _ _ ih => rw [List.length_cons, List.length_cons, ih]
  | dic _ _ _ ih => rw [List.length_cons, List.length_cons, ih]
theorem FvA.mem (r : FvA K H0 HW xs fs ps) : ∀ p ∈ ps, ∃ kv, HW p = some (.dK kv) := by
  induction r with
  | nil => intro p hp; cases hp
  | dat _ _ ih => exact ih
  | dic h _ _ ih =>
    intro p hp
    rcases List.mem_cons.mp hp with e | hp
    · rw [e]; exact ⟨_, h⟩
    · exact ih p hp
theorem FvA.lookD {f : Str} {d : PyData} (r : FvA K H0 HW xs fs ps) (e : fs.lookup f = some (.dat d)) : ∃ v, xs.lookup f = some v ∧ Rp K H0 v d := by
  induction r with
  | nil => cases e
  | @dat k v d' xs fs ps h _ ih =>
    by_cases hf : f = k
    · rw [List.lookup_cons, beq_iff_eq.mpr hf] at e
      cases e
      exact ⟨v, by rw [List.lookup_cons, beq_iff_eq.mpr hf], h⟩
    · rw [List.lookup_cons, beq_eq_false_iff_ne.mpr hf] at e
      obtain ⟨x, e2, r2⟩ := ih e
      exact ⟨x, by rw [List.lookup_cons, beq_eq_false_iff_ne.mpr hf]; exact e2, r2⟩
  | @dic k p kv ds xs fs ps h g _ ih =>
    by_cases hf : f = k
    · rw [List.lookup_cons, beq_iff_eq.mpr hf] at e
      cases e
    · rw [List.lookup_cons, beq_eq_false_iff_ne.mpr hf] at e
      obtain ⟨x, e2, r2⟩ := ih e
      exact ⟨x, by rw [List.lookup_cons, beq_eq_false_iff_ne.mpr hf]; exact e2, r2⟩
theorem FvA.lookN {f : Str} (r : FvA K H0 HW xs fs ps) (e : fs.lookup f = none) : xs.lookup f = none := by
  induction r with
  | nil => rfl
  | @dat k v d' xs fs ps h _ ih =>
    by_cases hf : f = k
    · rw [List.lookup_cons, beq_iff_eq.mpr hf] at e; cases e
    · rw [List.lookup_cons, beq_eq_false_iff_ne.mpr hf] at e
      rw [List.lookup_cons, beq_eq_false_iff_ne.mpr hf]
      exact ih e
  | @dic k p kv ds xs fs ps h g _ ih =>
    by_cases hf : f = k
    · rw [List.lookup_cons, beq_iff_eq.mpr hf] at e; cases e
    · rw [List.lookup_cons, beq_eq_false_iff_ne.mpr hf] at e
      rw [List.lookup_cons, beq_eq_false_iff_ne.mpr hf]
      exact ih e
/-- a dict field's value is replaced, in the description -/
def putFv (f : Str) (x : Fv) : CSt → CSt
  | [] => [(f, x)]
  | (g, y) :: r => if g = f then (g, x) :: r else (g, y) :: putFv f x r
theorem FvA.lookO {f : Str} {ds : List (Key × PyData)} (r : FvA K H0 HW xs fs ps) (hn : ps.Nodup) (e : fs.lookup f = some (.dic ds)) : ∃ p kv, p ∈ ps ∧ xs.lookup f = some (.ref p) ∧ HW p = some (.dK kv) ∧ RpG K H0 kv ds ∧
    ∀ (kv' : List (Key × V)) (ds' : List (Key × PyData)) , RpG K H0 kv' ds' → FvA K H0 (upd HW p (.dK kv')) xs (putFv f (.dic ds') fs) ps := by
  induction r with
  | nil => cases e
  | @dat k v d' xs fs ps h _ ih =>
    by_cases hf : f = k
    · rw [List.lookup_cons, beq_iff_eq.mpr hf] at e
      cases e
    · rw [List.lookup_cons, beq_eq_false_iff_ne.mpr hf] at e
      obtain ⟨p, kv, hp, e2, h1, h2, h3⟩ := ih hn e
      refine ⟨p, kv, hp, by rw [List.lookup_cons, beq_eq_false_iff_ne.mpr hf]; exact e2, h1, h2, fun kv' ds' r' => ?_⟩
      unfold putFv
      rw [if_neg (Ne.symm hf)]
      exact .dat h (h3 kv' ds' r')
  | @dic k p kv ds0 xs fs ps h g r0 ih =>
    obtain ⟨hp1, hn2⟩ := List.nodup_cons.mp hn
    by_cases hf : f = k
    · rw [List.lookup_cons, beq_iff_eq.mpr hf] at e
      cases e
      refine ⟨p, kv, List.mem_cons_self .., by rw [List.lookup_cons, beq_iff_eq.mpr hf], h, g, fun kv' ds' r' => ?_⟩
      unfold putFv
      rw [if_pos hf.symm]
      exact .dic upd_same r' (r0.atW fun q hq => upd_ne fun z => hp1 (z ▸ hq))
    · rw [List.lookup_cons, beq_eq_false_iff_ne.mpr hf] at e
      obtain ⟨q, kv1, hq, e2, h1, h2, h3⟩ := ih hn2 e
      refine ⟨q, kv1, List.mem_cons_of_mem _ hq, by rw [List.lookup_cons, beq_eq_false_iff_ne.mpr hf]; exact e2, h1, h2, fun kv' ds' r' => ?_⟩
      unfold putFv
      rw [if_neg (Ne.symm hf)]
      exact .dic (by rw [upd_ne fun z => hp1 (by rw [z]; exact hq)]; exact h) g (h3 kv' ds' r')
/-- a datum is put: at a new name, or in a datum's place -/
theorem FvA.putD {f : Str} {v : V} {d : PyData} (z : Rp K H0 v d) (r : FvA K H0 HW xs fs ps) (hd : ∀ ds, fs.lookup f ≠ some (.dic ds)) : FvA K H0 HW (putF f v xs) (putFv f (.dat d) fs) ps := by
  induction r with
  | nil => exact .dat z .nil
  | @dat k v' d' xs fs ps h r0 ih =>
    unfold putF putFv
    by_cases hf : k = f
    · rw [if_pos hf, if_pos hf]; exact .dat z r0
    · rw [if_neg hf, if_neg hf]
      refine .dat h (ih fun ds e => hd ds ?_)
      rw [List.lookup_cons, beq_eq_false_iff_ne.mpr (Ne.symm hf)]; exact e
  | @dic k p kv ds0 xs fs ps h g r0 ih =>
    unfold putF putFv
    by_cases hf : k = f
    · exact absurd (by rw [List.lookup_cons, beq_iff_eq.mpr hf.symm]) (hd ds0)
    · rw [if_neg hf, if_neg hf]
      refine .dic h g (ih fun ds e => hd ds ?_)
      rw [List.lookup_cons, beq_eq_false_iff_ne.mpr (Ne.symm hf)]; exact e
/-- a dict of one's own at a new name -/
theorem FvA.putN {f : Str} {p : Addr} {kv : List (Key × V)} {ds : List (Key × PyData)} (hp : HW p = some (.dK kv)) (z : RpG K H0 kv ds) (r : FvA K H0 HW xs fs ps) (hd : fs.lookup f = none) : ∃ qs, FvA K H0 HW (putF f (.ref p) xs) (putFv f (.dic ds) fs) qs ∧ qs.Perm (p :: ps) := by
  induction r with
  | nil => exact ⟨[p], .dic hp z .nil, .refl _⟩
  | @dat k v' d' xs fs ps h r0 ih =>
    unfold putF putFv
    by_cases hf : k = f
    · rw [List.lookup_cons, beq_iff_eq.mpr hf.symm] at hd; cases hd
    · rw [if_neg hf, if_neg hf]
      rw [List.lookup_cons, beq_eq_false_iff_ne.mpr (Ne.symm hf)] at hd
      obtain ⟨qs, r1, r2⟩ := ih hd
      exact ⟨qs, .dat h r1, r2⟩
  | @dic k p' kv' ds0 xs fs ps h g r0 ih =>
    unfold putF putFv
    by_cases hf : k = f
    · rw [List.lookup_cons, beq_iff_eq.mpr hf.symm] at hd; cases hd
    · rw [if_neg hf, if_neg hf]
      rw [List.lookup_cons, beq_eq_false_iff_ne.mpr (Ne.symm hf)] at hd
      obtain ⟨qs, r1, r2⟩ := ih hd
      exact ⟨p' :: qs, .dic h g r1, (r2.cons p').trans (.swap ..)⟩
end
@[reducible] def Wc (A : Addr) : World where
  T := CSt
  rel := fun K H0 HW ad fs => ∃ p dx xs ps, ad[0]? = some p ∧ HW p = some (.ins A dx xs) ∧ FvA K H0 HW xs fs ps ∧ (p :: ps).Nodup
  mono := by
    intro K H0 H0' HW ad w e ⟨p, dx, xs, ps, h1, h2, h3, h4⟩
    exact ⟨p, dx, xs, ps, h1, h2, h3.mono e, h4⟩
/-- the world's own objects are changed -/
theorem Le.world {s : Sh} {H H' HW' : Hp} (h0 : ∀ a o, s.HW a = none → H a = some o → H' a = some o) (hd : ∀ a o, H a = some o → ∃ o', H' a = some o' ∧ (NT o → NT o')) (hw : ∀ a o, H a = some o → s.HW a = none → HW' a = none) : Le s H { s with HW := HW' } H' :=
  ⟨Ex.refl _, fun a o e n => h0 a o n e, hd, fun _ _ _ _ e => e, hw, ⟨[], by simp⟩, rfl⟩
end Cl

set_option Elab.async false
set_option linter.all false
set_option maxRecDepth 100000
set_option maxHeartbeats 4000000
namespace Cl
open PySem L2 PySem.Spec PyProof.Rows
abbrev cw (K : PySem.W.Frag) (mg : Str → Option Value) (A : Addr) (E : XK) : Cf := ⟨K, mg, Wc A, E⟩
section
variable {K : PySem.W.Frag} {mg : Str → Option Value} {A : Addr} {E : XK}
theorem self_at {sE s : Sh} {HE H : Hp} {σ : L2.St} {Γ : Ev} {w : CSt} {i : Nat} (S : Sl K sE HE s H σ Γ) (h : HO' K (Wc A) s H w) (g : Γ[i]? = some (some (.hd 0))) :
    ∃ p dx xs ps, σ[i]? = some (some (.ref p)) ∧ s.ad[0]? = some p ∧ s.HW p = some (.ins A dx xs) ∧ H p = some (.ins A dx xs) ∧ FvA K s.H0 s.HW xs w ps ∧ (p :: ps).Nodup := by
  obtain ⟨v, gv, a, ha, rfl⟩ := S.sl _ _ g
  obtain ⟨p, dx, xs, ps, h1, h2, h3, h4⟩ := h.rel
  rw [h1] at ha; cases ha
  exact ⟨_, dx, xs, ps, gv, h1, h2, h.exW _ _ h2, h3, h4⟩
/-- self.f -/
def SE.cfld (i : Nat) (f : Str) (hc : Cls K A) (hn : NoAttr K A f) : SE (cw K mg A E) where
  t := tFld K (tVar i) f
  ev := fun Γ w => match Γ[i]?, w.lookup f with
    | some (some (.hd 0)), some (.dat d) => some (.ok (.dat d) w)
    | _, _ => none
  ok := by
    intro sE HE s H σ Γ w res S h e Q q
    split at e
    · rename_i d g hl
      cases e
      obtain ⟨p, dx, xs, ps, gv, h1, h2, h3, h4, h5⟩ := self_at S h g
      obtain ⟨v, e1, r⟩ := h4.lookD hl
      exact ⟨_, gv, p, A, dx, xs, v, rfl, h3, hc, hn, e1, q s H (Le.refl _ _) h v r⟩
    · cases e
/-- self.f[x], f a dict -/
def SE.cget (i : Nat) (f : Str) (hc : Cls K A) (hn : NoAttr K A f) (j : Nat) : SE (cw K mg A E) where
  t := tDGet (tFld K (tVar i) f) (tVar j)
  ev := fun Γ w => match Γ[i]?, Γ[j]?, w.lookup f with
    | some (some (.hd 0)), some (some (.dat k)), some (.dic kvs) => (keyOkD k).bind fun kk => (valP kvs kk).map fun d => .ok (.dat d) w
    | _, _, _ => none
  ok := by
    intro sE HE s H σ Γ w res S h e Q q
    split at e
    · rename_i k kvs g gj hl
      cases e0 : keyOkD k with
      | none => rw [e0] at e; cases e
      | some kk =>
        rw [e0, Option.bind_some] at e
        cases e1 : valP kvs kk with
        | none => rw [e1] at e; cases e
        | some d =>
          rw [e1] at e; cases e
          obtain ⟨p, dx, xs, ps, gv, h1, h2, h3, h4, h5⟩ := self_at S h g
          obtain ⟨u, kv, hp, e2, h6, h7, _⟩ := h4.lookO (List.nodup_cons.mp h5).2 hl
          obtain ⟨v, gv2, rk⟩ := S.sl _ _ gj
          have rk : Rp K s.H0 v k := rk
          rw [keyOkD_inv e0] at rk
          have := rk.key
          subst this
          rcases h7.val kk with ⟨x1, _⟩ | ⟨y, x, x1, x2, x3⟩
          · rw [x1] at e1; cases e1
          · rw [x1] at e1; cases e1
            refine ⟨_, gv, p, A, dx, xs, .ref u, rfl, h3, hc, hn, e2, _, gv2, u, x, rfl, .inl ⟨kv, kk, .inl (h.exW _ _ h6), rfl, x2.symm⟩, q s H (Le.refl _ _) h x x3⟩
    · cases e
/-- x not in self.f -/
def SE.cnin (i : Nat) (f : Str) (hc : Cls K A) (hn : NoAttr K A f) (j : Nat) : SE (cw K mg A E) where
  t := tDNotIn (tVar j) (tFld K (tVar i) f)
  ev := fun Γ w => match Γ[i]?, Γ[j]?, w.lookup f with
    | some (some (.hd 0)), some (some (.dat k)), some (.dic kvs) => (keyOkD k).map fun kk => .ok (.dat (.bool (!(valP kvs kk).isSome))) w
    | _, _, _ => none
  ok := by
    intro sE HE s H σ Γ w res S h e Q q
    split at e
    · rename_i k kvs g gj hl
      cases e0 : keyOkD k with
      | none => rw [e0] at e; cases e
      | some kk =>
        rw [e0] at e; cases e
        obtain ⟨p, dx, xs, ps, gv, h1, h2, h3, h4, h5⟩ := self_at S h g
        obtain ⟨u, kv, hp, e2, h6, h7, _⟩ := h4.lookO (List.nodup_cons.mp h5).2 hl
        obtain ⟨v, gv2, rk⟩ := S.sl _ _ gj
        have rk : Rp K s.H0 v k := rk
        rw [keyOkD_inv e0] at rk
        have := rk.key
        subst this
        refine ⟨_, gv2, _, gv, p, A, dx, xs, .ref u, rfl, h3, hc, hn, e2, u, _, rfl, .inl ⟨kv, kk, .inl (h.exW _ _ h6), rfl, rfl⟩, ?_⟩
        have : (valV kv kk).isSome = (valP kvs kk).isSome := by
          rcases h7.val kk with ⟨x1, x2⟩ | ⟨y, x, x1, x2, x3⟩ <;> rw [x1, x2] <;> rfl
        rw [this]
        exact q s H (Le.refl _ _) h _ (.bl _)
    · cases e
theorem Le.at1 {s : Sh} {H : Hp} {p : Addr} {u u' : HO} (hp : s.HW p = some u) (he : H p = some u) (hu' : NT u') : Le s H { s with HW := upd s.HW p u' } (upd H p u') := by
  refine Le.world (fun a o n e => ?_) (fun a o e => ?_) fun a o e n => ?_
  · rw [upd_ne (fun z => by rw [z, hp] at n; cases n)]; exact e
  · by_cases ha : a = p
    · rw [ha, upd_same]; exact ⟨_, rfl, fun _ => hu'⟩
    · rw [upd_ne ha]; exact ⟨o, e, id⟩
  · rw [upd_ne (fun z => by rw [z, hp] at n; cases n)]; exact n
/-- what stands in the world is not frozen -/
theorem HO'.nof {Wd : World} {s : Sh} {H : Hp} {w : Wd.T} (h : HO' K Wd s H w) {p : Addr} {u : HO} (hp : s.HW p = some u) (hu : NT u) : s.H0 p = none := by
  cases e : s.H0 p with
  | none => rfl
  | some o =>
    have e1 := h.ex _ _ e
    rw [h.exW _ _ hp] at e1
    cases e1
    rw [h.dj _ _ e hu] at hp; cases hp
theorem HO'.at1 {Wd : World} {s : Sh} {H : Hp} {w w' : Wd.T} (h : HO' K Wd s H w) {p : Addr} {u u' : HO} (hp : s.HW p = some u) (hu : NT u) (hr : Wd.rel K s.H0 (upd s.HW p u') s.ad w') : HO' K Wd { s with HW := upd s.HW p u' } (upd H p u') w' := by
  have n0 := h.nof hp hu
  refine ⟨fun a o e => ?_, fun a o e => ?_, fun a o e t => ?_, hr⟩
  · rw [upd_ne (ne_of_none e n0)]; exact h.ex _ _ e
  · have e : upd s.HW p u' a = some o := e
    by_cases ha : a = p
    · rw [ha, upd_same] at e ⊢; exact e
    · rw [upd_ne ha] at e ⊢; exact h.exW _ _ e
  · show upd s.HW p u' a = none
    have : a ≠ p := ne_of_none (H := s.H0) e n0
    rw [upd_ne this]; exact h.dj _ _ e t
theorem NT.ins (C dx : Addr) (xs : List (Str × V)) : NT (.ins C dx xs) := fun _ e => nomatch e
/-- self.f = e -/
def SS.cset (i : Nat) (f : Str) (hc : Cls K A) (hn : NoAttr K A f) (a : SE (cw K mg A E)) : SS (cw K mg A E) where
  t := sFld K (tVar i) a.t f
  ev := fun Γ w => match Γ[i]? with
    | some (some (.hd 0)) => bindF (a.evD Γ w) fun d w1 => if w1.length < 1000 then (match w1.lookup f with
        | some (.dic _) => none
        | _ => some (.nx Γ (putFv f (.dat d) w1))) else none
    | _ => none
  ok := by
    intro sE HE s H σ Γ w fl S h e D q
    split at e
    · rename_i g
      rcases bindF_cases e with ⟨d, w1, e1, e2⟩ | ⟨x, w1, e1, rfl⟩
      · refine a.okD S h e1 _ fun s1 H1 l1 h1 v hv => ?_
        have S1 := S.le l1
        obtain ⟨p, dx, xs, ps, gv, k1, k2, k3, k4, k5⟩ := self_at S1 h1 g
        split at e2
        · rename_i hl
          refine ⟨_, gv, p, A, dx, xs, rfl, k3, hc, hn, by rw [k4.len]; exact hl, ?_⟩
          have hd : ∀ ds, w1.lookup f ≠ some (.dic ds) := fun ds z => by rw [z] at e2; cases e2
          have e3 : fl = .nx Γ (putFv f (.dat d) w1) := by
            split at e2
            · cases e2
            · exact (Option.some.inj e2).symm
          subst e3
          have ne : ∀ q ∈ ps, q ≠ p := fun q hq z => (List.nodup_cons.mp k5).1 (z ▸ hq)
          have l2 : Le s1 H1 { s1 with HW := upd s1.HW p (.ins A dx (putF f v xs)) } (upd H1 p (.ins A dx (putF f v xs))) := Le.at1 k2 k3 (NT.ins _ _ _)
          have h2 : HO' K (Wc A) { s1 with HW := upd s1.HW p (.ins A dx (putF f v xs)) } (upd H1 p (.ins A dx (putF f v xs))) (putFv f (.dat d) w1) :=
            h1.at1 k2 (NT.ins _ _ _) ⟨p, dx, _, ps, k1, upd_same, ((k4.putD hv hd).atW fun q hq => upd_ne (ne q hq)), k5⟩
          exact q { s1 with HW := upd s1.HW p (.ins A dx (putF f v xs)) } _ σ l1.h0 (S1.le l2) h2
        · cases e2
      · exact a.okD S h e1 _ (exS S q)
    · cases e
/-- self.f = {..} -/
def SS.csetO (i : Nat) (f : Str) (hc : Cls K A) (hn : NoAttr K A f) (a : SE (cw K mg A E)) : SS (cw K mg A E) where
  t := sFld K (tVar i) a.t f
  ev := fun Γ w => match Γ[i]? with
    | some (some (.hd 0)) => bindF (a.ev Γ w) fun r w1 => match r, w1.lookup f with
      | .new (.dic kvs), none => if w1.length < 1000 then some (.nx Γ (putFv f (.dic kvs) w1)) else none
      | _, _ => none
    | _ => none
  ok := by
    intro sE HE s H σ Γ w fl S h e D q
    split at e
    · rename_i g
      rcases bindF_cases e with ⟨r, w1, e1, e2⟩ | ⟨x, w1, e1, rfl⟩
      · refine a.ok S h e1 _ fun s1 H1 l1 h1 v hv => ?_
        have S1 := S.le l1
        obtain ⟨p, dx, xs, ps, gv, k1, k2, k3, k4, k5⟩ := self_at S1 h1 g
        split at e2
        · rename_i kvs hlk
          split at e2
          · rename_i hl
            cases e2
            obtain ⟨u, o, rfl, n, hu, m0, mw, kv, rfl, rg⟩ := hv
            refine ⟨_, gv, p, A, dx, xs, rfl, k3, hc, hn, by rw [k4.len]; exact hl, ?_⟩
            have ne : ∀ q ∈ ps, q ≠ p := fun q hq z => (List.nodup_cons.mp k5).1 (z ▸ hq)
            have pu : p ≠ u := fun z => by rw [z, mw] at k2; cases k2
            have nu : ∀ q ∈ ps, q ≠ u := fun q hq z => by
              obtain ⟨kv', hk⟩ := k4.mem q hq
              rw [z, mw] at hk; cases hk
            let HW2 : Hp := upd (upd s1.HW u (.dK kv)) p (.ins A dx (putF f (.ref u) xs))
            have eu : HW2 u = some (.dK kv) := by show upd _ _ _ _ = _; rw [upd_ne (Ne.symm pu), upd_same]
            obtain ⟨qs, f1, f2⟩ := (k4.atW (HW' := HW2) fun q hq => by show upd _ _ _ _ = _; rw [upd_ne (ne q hq), upd_ne (nu q hq)]).putN eu rg hlk
            have nd : (p :: qs).Nodup := by
              rw [List.nodup_cons]
              refine ⟨fun z => ?_, ?_⟩
              · rcases List.mem_cons.mp (f2.mem_iff.mp z) with z | z
                · exact pu z
                · exact (List.nodup_cons.mp k5).1 z
              · refine f2.nodup_iff.mpr (List.nodup_cons.mpr ⟨fun z => nu u z rfl, (List.nodup_cons.mp k5).2⟩)
            have n0 := h1.nof k2 (NT.ins _ _ _)
            have l2 : Le s H { s1 with HW := HW2 } (upd H1 p (.ins A dx (putF f (.ref u) xs))) := by
              refine ⟨l1.h0, fun a o e z => ?_, fun a o e => ?_, l1.nf, fun a o e z => ?_, l1.ad, l1.pt⟩
              · have z1 := l1.nw a o e z
                rw [upd_ne (fun q => by rw [q, k2] at z1; cases z1)]
                exact l1.fr a o e z
              · obtain ⟨o', e', k⟩ := l1.dom a o e
                by_cases ha : a = p
                · rw [ha, upd_same]; exact ⟨_, rfl, fun _ => NT.ins _ _ _⟩
                · rw [upd_ne ha]; exact ⟨o', e', k⟩
              · have z1 := l1.nw a o e z
                show upd _ _ _ _ = _
                rw [upd_ne (fun q => by rw [q, k2] at z1; cases z1), upd_ne (ne_of_none e n)]
                exact z1
            have h2 : HO' K (Wc A) { s1 with HW := HW2 } (upd H1 p (.ins A dx (putF f (.ref u) xs))) (putFv f (.dic kvs) w1) := by
              refine ⟨fun a o e => ?_, fun a o e => ?_, fun a o e t => ?_, ⟨p, dx, _, qs, k1, upd_same, f1, nd⟩⟩
              · rw [upd_ne (ne_of_none e n0)]; exact h1.ex _ _ e
              · have e : HW2 a = some o := e
                by_cases ha : a = p
                · have e' : upd (upd s1.HW u (.dK kv)) p (.ins A dx (putF f (.ref u) xs)) a = some o := e
                  rw [ha, upd_same] at e' ⊢; exact e'
                · have e' : upd (upd s1.HW u (.dK kv)) p (.ins A dx (putF f (.ref u) xs)) a = some o := e
                  rw [upd_ne ha] at e' ⊢
                  by_cases hb : a = u
                  · rw [hb, upd_same] at e'; cases e'; rw [hb]; exact hu
                  · rw [upd_ne hb] at e'; exact h1.exW _ _ e'
              · show upd _ _ _ _ = _
                rw [upd_ne (ne_of_none e n0), upd_ne (ne_of_none e m0)]
                exact h1.dj _ _ e t
            refine q { s1 with HW := HW2 } _ σ l1.h0 ⟨S.en.trans l2, S.len, fun i x g' => ?_, S.dj⟩ h2
            obtain ⟨v', e1', e2'⟩ := S.sl i x g'
            exact ⟨v', e1', e2'.le l2⟩
          · cases e2
        · cases e2
      · exact a.ok S h e1 _ (exS S q)
    · cases e
end
end Cl

set_option Elab.async false
set_option linter.all false
set_option maxRecDepth 100000
set_option maxHeartbeats 4000000
namespace Cl
open PySem L2 PySem.Spec PyProof.Rows
/-! ### x = xs.pop(0) -/
def SS.pop0 {C : Cf} (i j : Nat) : SS C where
  t := tAsg (tBM C.K "list" rPopAt (tVar j) (tCons (tC (.int 0)) tNil)) (gName i)
  ev := fun Γ w => match Γ[j]? with
    | some (some (.own (.lst (d :: ds)))) => if i < Γ.length then some (.nx ((Γ.set j (some (.own (.lst ds)))).set i (some (.dat d))) w) else none
    | _ => none
  ok := by
    intro sE HE s H σ Γ w fl S h e D q
    split at e
    · rename_i d ds g
      split at e
      · rename_i hi
        cases e
        obtain ⟨v, gv, p, u, rfl, a1, a2, a3, a4, r0⟩ := S.sl j _ g
        obtain ⟨xs, rfl, r⟩ := r0.lst
        cases r with
        | @cons y ys _ _ hy r =>
          refine ⟨_, gv, .inl ⟨rfl, _, .inl (.inl a1)⟩, p, _, 0, 0, y, rfl, rfl, a1, by decide, by decide, ?_, rfl, ?_⟩
          · unfold seqIndex?
            simp
          · have S1 := S.mut g gv a2 a3 a4 (ys := .lst ys) (es := .lst ds) ⟨_, rfl, r⟩
            refine q s _ _ (Ex.refl _) (S1.put (by rw [List.length_set]; exact hi) (x := .dat d) hy (fun es p z => by cases z)) (h.mut a2 a3)
      · cases e
    · cases e
section
variable {K : PySem.W.Frag} {mg : Str → Option Value} {A : Addr} {E : XK}
/-- self.f[x] = e -/
def SS.cput (i : Nat) (f : Str) (hc : Cls K A) (hn : NoAttr K A f) (j : Nat) (a : SE (cw K mg A E)) : SS (cw K mg A E) where
  t := sDPut (tFld K (tVar i) f) (tVar j) a.t
  ev := fun Γ w => bindF (a.evD Γ w) fun d w1 => match Γ[i]?, Γ[j]?, w1.lookup f with
    | some (some (.hd 0)), some (some (.dat k)), some (.dic kvs) => if kvs.length < 100000 then (keyOkD k).map fun kk => .nx Γ (putFv f (.dic (putP kvs kk d)) w1) else none
    | _, _, _ => none
  ok := by
    intro sE HE s H σ Γ w fl S h e D q
    rcases bindF_cases e with ⟨d, w1, e1, e2⟩ | ⟨x, w1, e1, rfl⟩
    · refine a.okD S h e1 _ fun s1 H1 l1 h1 v hv => ?_
      have S1 := S.le l1
      split at e2
      · rename_i k kvs g gj hl
        split at e2
        · rename_i hlen
          cases e0 : keyOkD k with
          | none => rw [e0] at e2; cases e2
          | some kk =>
            rw [e0] at e2; cases e2
            obtain ⟨p, dx, xs, ps, gv, h1', h2, h3, h4, h5⟩ := self_at S1 h1 g
            obtain ⟨u, kv, hp, e2, h6, h7, h8⟩ := h4.lookO (List.nodup_cons.mp h5).2 hl
            obtain ⟨v', gv2, rk⟩ := S1.sl _ _ gj
            have rk : Rp K s1.H0 v' k := rk
            rw [keyOkD_inv e0] at rk
            have := rk.key
            subst this
            have eu := h1.exW _ _ h6
            refine ⟨_, gv, p, A, dx, xs, .ref u, rfl, h3, hc, hn, e2, _, gv2, u, _, rfl, .inl ⟨kv, kk, eu, rfl, by rw [h7.length]; exact Nat.lt_of_lt_of_le hlen (by decide), rfl⟩, ?_⟩
            have pu : p ≠ u := fun z => (List.nodup_cons.mp h5).1 (z ▸ hp)
            have l2 := Le.at1 h6 eu (NT.dK (putK kv kk v))
            have h2' : HO' K (Wc A) { s1 with HW := upd s1.HW u (.dK (putK kv kk v)) } (upd H1 u (.dK (putK kv kk v))) (putFv f (.dic (putP kvs kk d)) w1) :=
              h1.at1 h6 (NT.dK _) ⟨p, dx, xs, ps, h1', by rw [upd_ne pu]; exact h2, h8 _ _ (h7.put kk hv), h5⟩
            exact q { s1 with HW := upd s1.HW u (.dK (putK kv kk v)) } _ σ l1.h0 (S1.le l2) h2'
        · cases e2
      · cases e2
    · exact a.okD S h e1 _ (exS S q)
/-- sorted(self.f), f a dict -/
def SE.csorted (i : Nat) (f : Str) (hc : Cls K A) (hn : NoAttr K A f) : SE (cw K mg A E) where
  t := tCB (rSortedA K) (tCons (tFld K (tVar i) f) tNil)
  ev := fun Γ w => match Γ[i]?, w.lookup f with
    | some (some (.hd 0)), some (.dic kvs) => (intKeys? kvs).bind fun ks => if ks.length < 64 then some (.ok (.new (.lst ((sortB leI ks).map .int))) w) else none
    | _, _ => none
  ok := by
    intro sE HE s H σ Γ w res S h e Q q
    split at e
    · rename_i kvs g hl
      cases e2 : intKeys? kvs with
      | none => rw [e2] at e; cases e
      | some ks =>
        rw [e2, Option.bind_some] at e
        split at e
        · rename_i hlen
          cases e
          obtain ⟨p, dx, xs, ps, gv, h1, h2, h3, h4, h5⟩ := self_at S h g
          obtain ⟨u, kv, hp, e3, h6, h7, _⟩ := h4.lookO (List.nodup_cons.mp h5).2 hl
          refine ⟨_, gv, p, A, dx, xs, .ref u, rfl, h3, hc, hn, e3, .inr (.inr (.inl ⟨u, kv, ks, rfl, .inl (h.exW _ _ h6), by rw [h7.keysEq, intKeys?_inv e2], hlen, fun ys l k1 k2 hl => ?_⟩))⟩
          have : ys = sortB leI ks := sortB_eq totI k1 (k2.imp fun h => decide_eq_true h)
          subst this
          exact Opd.new (C := cw K mg A E) h (fun s3 H3 v l3 h3 r3 => q s3 H3 l3 h3 v r3.rv) (RpA.ofInts _) hl
        · cases e
    · cases e
/-- self.m(..) -/
def SE.cmeth (i : Nat) (m : Str) (n : Nat) (g : PF (Wc A)) (a : SA (cw K mg A E)) : SE (cw K mg A E) where
  t := tMeth A m (spF K mg (Wc A) (n + 1) g) [] E (tVar i) a.t
  ev := fun Γ w => match Γ[i]? with
    | some (some (.hd 0)) => if (w.lookup m).isNone = true then bindR (a.ev Γ w) fun as w2 => if as.length = n then g (.hd 0 :: as) w2 else none else none
    | _ => none
  ok := by
    intro sE HE s H σ Γ w res S h e Q q
    split at e
    · rename_i gi
      split at e
      · rename_i hm
        obtain ⟨p, dx, xs, ps, gv, h1, h2, h3, h4, h5⟩ := self_at S h gi
        refine ⟨_, gv, p, dx, xs, rfl, h3, h4.lookN (by simpa using hm), ?_⟩
        rcases bindR_cases e with ⟨as, w2, e3, e4⟩ | ⟨x, w2, e3, rfl⟩
        · refine a.ok S h e3 _ fun s2 H2 l2 h2' vs z2 => ?_
          split at e4
          · rename_i hn
            have av : AvR K s2 (.ref p) (.hd 0) := AvR.le l2 (a := .hd 0) ⟨p, h1, rfl⟩
            refine ⟨by rw [List.append_nil, List.length_cons, z2.length, hn], s2, _, w2, res, h2', by rw [List.append_nil]; exact .cons av z2, e4, ?_⟩
            cases res with
            | ok r w3 => exact fun s3 H3 l3 h3 v r3 => q s3 H3 (l2.trans l3) h3 v (r3.start l2).rv
            | ex x w3 => exact fun cls d s3 H3 l3 h3 r3 => q cls d s3 H3 (l2.trans l3) h3 r3
          · cases e4
        · exact a.ok S h e3 _ q.ex
      · cases e
    · cases e
end
/-! ### a new instance -/
def Fv.data : Fv → PyData
  | .dat d => d
  | .dic kvs => .dict (dicD kvs)
def insF (A : Addr) (fs : CSt) : PyData := .dict ((.none, .int ((A : Nat) : Int)) :: fs.map fun p => (.str p.1, p.2.data))
theorem FvA.fin {K : PySem.W.Frag} {H0 HW H1 : Hp} {xs : List (Str × V)} {fs : CSt} {ps : List Addr} (r : FvA K H0 HW xs fs ps) (h0 : Ex H0 H1) (hw : ∀ p ∈ ps, ∀ o, HW p = some o → H1 p = some o) : RpF K H1 xs (fs.map fun p => (.str p.1, p.2.data)) := by
  induction r with
  | nil => exact .nil
  | dat h _ ih => exact .cons (Rp.mono h0 h) (ih hw)
  | dic h g _ ih => exact .cons (.dic (hw _ (List.mem_cons_self ..) _ h) (g.mono h0).toD) (ih fun p hp => hw p (List.mem_cons_of_mem _ hp))
def makeF (A : Addr) (n : Nat) (g : PF (Wc A)) (as : List Av) : Option PyData :=
  if as.length = n then (match datsOf as with
    | some _ => match g (.hd 0 :: as) ([] : CSt) with
      | some (.ok (.dat .none) fs) => some (insF A fs)
      | _ => none
    | none => none)
  else none
theorem AvA.pure {K : PySem.W.Frag} {s s' : Sh} (e : s.H0 = s'.H0) : ∀ {vs : List V} {as : List Av} {ds : List PyData}, AvA K s vs as → datsOf as = some ds → AvA K s' vs as
  | _, _, _, .nil, _ => .nil
  | _, _, _, .cons (a := .dat d) h r, ed => by
    unfold datsOf at ed
    cases e2 : datsOf _ with
    | none => rw [e2] at ed; cases ed
    | some ds => exact .cons (show Rp K s'.H0 _ d from e ▸ h) (r.pure e e2)
  | _, _, _, .cons (a := .hd n) h r, ed => by cases ed
def SE.make {C : Cf} (A : Addr) (n : Nat) (g : PF (Wc A)) (a : SA C) : SE C where
  t := tMake A (spF C.K C.mg (Wc A) (n + 1) g) [] C.E a.t
  ev := fun Γ w => bindR (a.ev Γ w) (evO fun as => (makeF A n g as).map .dat)
  ok := by
    intro sE HE s H σ Γ w res S h e Q q
    rcases bindR_cases e with ⟨as, w1, e1, e2⟩ | ⟨x, w1, e1, rfl⟩
    · refine a.ok S h e1 _ fun s1 H1 l1 h1 vs z1 => ?_
      obtain ⟨rv, e3, rfl⟩ := evO_inv e2
      cases e4 : makeF A n g as with
      | none => rw [e4] at e3; cases e3
      | some d =>
        rw [e4] at e3; cases e3
        unfold makeF at e4
        split at e4
        · rename_i hn
          split at e4
          · rename_i ds hds
            split at e4
            · rename_i fs eg
              cases e4
              intro x dx hx hdx hne
              have ox : upd (upd H1 dx (.own x)) x (.ins A dx []) x = some (.ins A dx []) := upd_same
              generalize hH2 : upd (upd H1 dx (.own x)) x (.ins A dx []) = H2 at ox
              have k12 : ∀ a o, H1 a = some o → H2 a = some o := fun a o e => by
                rw [← hH2, upd_ne (ne_of_none e hx), upd_ne (ne_of_none e hdx)]; exact e
              let s2 : Sh := ⟨s1.H0, fun a => if a = x then some (.ins A dx []) else none, [x], none⟩
              have sx : s2.HW x = some (.ins A dx []) := if_pos rfl
              have sn : ∀ a, a ≠ x → s2.HW a = none := fun a ha => if_neg ha
              have h2 : HO' C.K (Wc A) s2 H2 ([] : CSt) := by
                refine ⟨fun a o e => k12 a o (h1.ex _ _ e), fun a o e => ?_, fun a o e t => ?_, ⟨x, dx, [], [], rfl, sx, .nil, by simp⟩⟩
                · by_cases ha : a = x
                  · rw [ha] at e ⊢; rw [sx] at e; cases e; exact ox
                  · rw [sn a ha] at e; cases e
                · exact sn a fun z => by
                    have := h1.none0 hx
                    rw [← z] at this
                    have e : s1.H0 a = some o := e
                    rw [this] at e; cases e
              refine ⟨by rw [List.append_nil, List.length_cons, z1.length, hn], s2, _, ([] : CSt), _, h2, by rw [List.append_nil]; exact .cons ⟨x, rfl, rfl⟩ (AvA.pure (s := s1) (s' := s2) rfl z1 hds), eg, ?_⟩
              intro s3 H3 l3 h3 v rv
              have ev : v = .non := by
                have rv : Rp C.K s3.H0 v .none := rv
                cases rv; rfl
              refine ⟨ev, ?_⟩
              obtain ⟨p, dx', xs, ps, r1, r2, r3, r4⟩ := h3.rel
              have epx : p = x := by
                obtain ⟨m, em⟩ := l3.ad
                rw [em] at r1
                exact (Option.some.inj r1).symm
              subst epx
              -- what was there before
              have old : ∀ a o, H1 a = some o → H3 a = some o ∧ s3.HW a = none := fun a o e => by
                have ax : a ≠ p := ne_of_none e hx
                exact ⟨l3.fr a o (k12 a o e) (sn a ax), l3.nw a o (k12 a o e) (sn a ax)⟩
              let H4 : Hp := fun a => match s3.H0 a with
                | some o => some o
                | none => s3.HW a
              have i0 : Ex s3.H0 H4 := fun a o e => by
                show (match s3.H0 a with | some o => some o | none => s3.HW a) = some o
                rw [e]
              have iw : ∀ a o, s3.H0 a = none → s3.HW a = some o → H4 a = some o := fun a o e e' => by
                show (match s3.H0 a with | some o => some o | none => s3.HW a) = some o
                rw [e]; exact e'
              have i4 : ∀ a o, H4 a = some o → s3.H0 a = some o ∨ (s3.H0 a = none ∧ s3.HW a = some o) := fun a o e => by
                have e : (match s3.H0 a with | some o => some o | none => s3.HW a) = some o := e
                cases e5 : s3.H0 a with
                | none => rw [e5] at e; exact .inr ⟨rfl, e⟩
                | some o' => rw [e5] at e; exact .inl e
              let s4 : Sh := ⟨H4, s1.HW, s1.ad, s1.pt⟩
              have e14 : Ex s1.H0 H4 := Ex.trans (show Ex s1.H0 s3.H0 from l3.h0) i0
              have l4 : Le s H s4 H3 := by
                refine ⟨l1.h0.trans e14, fun a o e n => (old a o (l1.fr a o e n)).1, fun a o e => ?_, fun a o e t n => ?_, l1.nw, l1.ad, l1.pt⟩
                · obtain ⟨o', e', k⟩ := l1.dom a o e
                  exact ⟨o', (old a o' e').1, k⟩
                · obtain ⟨o', e', k⟩ := l1.dom a o e
                  have m1 := l1.nf a o e t n
                  have m3 : s3.H0 a = none := l3.nf a o' (k12 a o' e') (k t) m1
                  show (match s3.H0 a with | some o => some o | none => s3.HW a) = none
                  rw [m3]
                  exact (old a o' e').2
              have h4 : HO' C.K C.Wd s4 H3 w1 := by
                refine ⟨fun a o e => ?_, fun a o e => (old a o (h1.exW _ _ e)).1, fun a o e t => ?_, C.Wd.mono e14 h1.rel⟩
                · rcases i4 a o e with e | ⟨_, e⟩
                  · exact h3.ex _ _ e
                  · exact h3.exW _ _ e
                · show s1.HW a = none
                  cases e5 : s1.HW a with
                  | none => rfl
                  | some o1 =>
                    have o2 := old a o1 (h1.exW _ _ e5)
                    rcases i4 a o e with e | ⟨_, e⟩
                    · have o3 := h3.ex _ _ e
                      rw [o2.1] at o3
                      cases o3
                      have m1 : s1.H0 a = none := h1.nof e5 t
                      have m3 : s3.H0 a = none := l3.nf a _ (k12 a _ (h1.exW _ _ e5)) t m1
                      rw [m3] at e; cases e
                    · rw [o2.2] at e; cases e
              refine q s4 H3 l4 h4 (.ref p) ?_
              refine .ins (iw _ _ (h3.nof r2 (NT.ins _ _ _)) r2) (r3.fin i0 fun u hu o e => iw u o ?_ e)
              obtain ⟨kv, hk⟩ := r3.mem u hu
              exact h3.nof hk (NT.dK _)
            · cases e4
          · cases e4
        · cases e4
    · exact a.ok S h e1 _ q.ex
end Cl

set_option Elab.async false
set_option linter.all false
set_option maxRecDepth 100000
set_option maxHeartbeats 4000000
namespace Cl
open PySem L2 PySem.Spec PyProof.Rows
theorem bt_sorted : bootBuiltins "sorted" = some (.builtin "sorted") := by decide +kernel
section
variable {X : Cx} {Wd : World} {a b c : Expr} {sa sb sc : SE (cf X Wd)} {ta tb : ST (cf X Wd)} {pos spos : Pos} {k : Nat} {es : List Expr} {ss : SA (cf X Wd)} {tg : Expr}
theorem ce_sorted (T : Bts X.mg) (ha : CE X a sa) (hc : X.calm = true := by rfl) (hg : Gl X "sorted" := by rfl) (hs : starEach [a] X.env = (false, eval a X.env) :: starEach [] X.env := by rfl) {p : Pos} : CE X (.Call (.Name "sorted" p) [a] [] pos) (SE.sorted sa) := pe_callB (cr_sortedA hc) hg T.sorted bt_sorted (pa_cons ha pa_nil hs) (by decide) (by decide) hs
theorem ce_rev {k : Nat} {p1 p2 p3 : Pos} (ha : CE X a sa) : CE X (.Subscript a (.Slice none none (some (.UnaryOp .USub (.Constant (.int 1) k p1) p2)) p3) pos) (SE.rev sa) := pe_revL ha
theorem ce_dnewT : CE X (.Dict [] [] pos) (SE.dnewT (C := cf X Wd)) := pe_dnewT
theorem ce_dnewK : CE X (.Dict [] [] pos) (SE.dnewK (C := cf X Wd)) := pe_dnewK
theorem ce_orI {r : List Expr} (ha : CE X a sa) (hb : CE X (.BoolOp .Or (b :: r) pos) sb) : CE X (.BoolOp .Or (a :: b :: r) pos) (SE.orI sa sb) := pe_orT ha hb
theorem ci_zip {elts : List Expr} {kk : Nat} {tpos p : Pos} (T : Bts X.mg) (ha : CE X a sa) (hb : CE X b sb) (hg : Gl X "zip" := by rfl) (hs : starEach [a, b] X.env = (false, eval a X.env) :: starEach [b] X.env := by rfl) (hs2 : starEach [b] X.env = (false, eval b X.env) :: starEach [] X.env := by rfl)
    (hpl : (backTo pos (starEach [b] X.env)).any (·.1) = false := by rfl) : CI X (.Tuple elts kk tpos) (.Call (.Name "zip" p) [a, b] [] pos) (SI.zip sa sb) := pi_zipLT hg T.zip (pa_cons ha (pa_cons hb pa_nil hs2) hs) hs hpl
theorem ci_itemsF {elts : List Expr} {kk : Nat} {tpos apos : Pos} (ha : CE X a sa) (hbase : attributeBase a "items" X.env (eval a X.env) = eval a X.env := by rfl) (hline : (apos.endLine == pos.line) = true := by rfl) :
    CI X (.Tuple elts kk tpos) (.Call (.Attribute a "items" apos) [] [] pos) (SI.itemsF sa) := pi_itemsT ha hbase hline
theorem ce_disp1 (j : Nat) {x : Str} {p : Pos} (ha : CE X a sa) (hN : X.N[j]? = some x := by rfl) (hv : Vis X.env.scope x := by first | exact Or.inl rfl | exact Or.inr (Or.inl rfl) | exact Or.inr (Or.inr rfl)) (hd : (x == ("__debug__" : Str)) = false := by decide) (hcd : (x == ("__classdict__" : Str)) = false := by decide) :
    CE X (.Dict [some (.Name x p)] [a] pos) (SE.disp1 j sa) := pe_disp (pps_cons (pe_var hN hv hd hcd) ha pps_nil) rfl rfl (by simp) (show 1 ≤ 15 by decide)
theorem cs_ext (i : Nat) {x : Str} {p ap : Pos} (ha : CE X a sa) (hi : X.N[i]? = some x := by rfl) (hv : Vis X.env.scope x := by first | exact Or.inl rfl | exact Or.inr (Or.inl rfl) | exact Or.inr (Or.inr rfl)) (hd : (x == ("__debug__" : Str)) = false := by decide) (hcd : (x == ("__classdict__" : Str)) = false := by decide)
    (hbase : attributeBase (.Name x p) "extend" X.env (eval (.Name x p) X.env) = eval (.Name x p) X.env := by rfl)
    (hfew : ((backTo pos (starEach [a] X.env)).all (fun x => !x.1) && (backToKw pos (keywordEach [] X.env)).all (fun x => x.1.isSome) && decide ([a].length + ([] : List Keyword).length + (if ([] : List Keyword).isEmpty then 0 else 1) < 30)) = true := by rfl)
    (hline : (ap.endLine == pos.line) = true := by rfl) (hs : starEach [a] X.env = (false, eval a X.env) :: starEach [] X.env := by rfl) (hplain : (backTo pos (starEach [] X.env)).any (·.1) = false := by rfl)
    (hw : swapsWith (.Call (.Attribute (.Name x p) "extend" ap) [a] [] pos) none spos.line X.env = pure false := by rfl) :
    CS X (.Expr (.Call (.Attribute (.Name x p) "extend" ap) [a] [] pos) spos) (SS.ext i sa) :=
  ps_expr (pe_bm PySem.F.plainAttrs_list PySem.F.slot_list_extend PySem.F.type_list_extend mt_extend (pe_var hi hv hd hcd) (pa_cons ha pa_nil hs) hbase hfew hline hs hplain) hw
theorem cs_dupd (i : Nat) {x : Str} {p ap : Pos} (ha : CE X a sa) (hi : X.N[i]? = some x := by rfl) (hv : Vis X.env.scope x := by first | exact Or.inl rfl | exact Or.inr (Or.inl rfl) | exact Or.inr (Or.inr rfl)) (hd : (x == ("__debug__" : Str)) = false := by decide) (hcd : (x == ("__classdict__" : Str)) = false := by decide)
    (hbase : attributeBase (.Name x p) "update" X.env (eval (.Name x p) X.env) = eval (.Name x p) X.env := by rfl)
    (hfew : ((backTo pos (starEach [a] X.env)).all (fun x => !x.1) && (backToKw pos (keywordEach [] X.env)).all (fun x => x.1.isSome) && decide ([a].length + ([] : List Keyword).length + (if ([] : List Keyword).isEmpty then 0 else 1) < 30)) = true := by rfl)
    (hline : (ap.endLine == pos.line) = true := by rfl) (hs : starEach [a] X.env = (false, eval a X.env) :: starEach [] X.env := by rfl) (hplain : (backTo pos (starEach [] X.env)).any (·.1) = false := by rfl)
    (hw : swapsWith (.Call (.Attribute (.Name x p) "update" ap) [a] [] pos) none spos.line X.env = pure false := by rfl) :
    CS X (.Expr (.Call (.Attribute (.Name x p) "update" ap) [a] [] pos) spos) (SS.dupd i sa) :=
  ps_expr (pe_bm PySem.F.plainAttrs_dict PySem.F.slot_dict_update PySem.F.type_dict_update mt_updA (pe_var hi hv hd hcd) (pa_cons ha pa_nil hs) hbase hfew hline hs hplain) hw
theorem cs_dputT {kk : Nat} (i : Nat) {x : Str} {p tp pos' : Pos} (hr : Room k X.A) (hk : CA X es ss) (ha : CE X a sa) (hi : X.N[i]? = some x := by rfl) (hv : Vis X.env.scope x := by first | exact Or.inl rfl | exact Or.inr (Or.inl rfl) | exact Or.inr (Or.inr rfl)) (hd : (x == ("__debug__" : Str)) = false := by decide) (hcd : (x == ("__classdict__" : Str)) = false := by decide)
    (hs : swapsWith a (some (.Subscript (.Name x p) (.Tuple es kk tp) pos')) spos.line X.env = pure false := by rfl) :
    CS X (.Assign [.Subscript (.Name x p) (.Tuple es kk tp) pos'] a spos) (SS.dputT i ss sa) := ps_dput (room1 hr) (pe_var hi hv hd hcd) (pe_tup hk) ha hs
theorem cs_pop0 (i j : Nat) {x y : Str} {px py ap : Pos} {kz : Nat} {pz : Pos} (hN : X.N.Nodup) (hi : X.N[i]? = some x := by rfl) (hj : X.N[j]? = some y := by rfl) (hx : Loc X.env.scope x := by first | exact .inl rfl | exact .inr rfl) (hf : X.fn x = true ∨ X.env.scope.names.lookup x = some .local := by first | exact .inl rfl | exact .inr rfl)
    (hv : Vis X.env.scope y := by first | exact Or.inl rfl | exact Or.inr (Or.inl rfl) | exact Or.inr (Or.inr rfl)) (hd : (y == ("__debug__" : Str)) = false := by decide) (hcd : (y == ("__classdict__" : Str)) = false := by decide)
    (hbase : attributeBase (.Name y py) "pop" X.env (eval (.Name y py) X.env) = eval (.Name y py) X.env := by rfl)
    (hfew : ((backTo pos (starEach [.Constant (.int 0) kz pz] X.env)).all (fun x => !x.1) && (backToKw pos (keywordEach [] X.env)).all (fun x => x.1.isSome) && decide ([Expr.Constant (.int 0) kz pz].length + ([] : List Keyword).length + (if ([] : List Keyword).isEmpty then 0 else 1) < 30)) = true := by rfl)
    (hline : (ap.endLine == pos.line) = true := by rfl) (hs : starEach [.Constant (.int 0) kz pz] X.env = (false, eval (.Constant (.int 0) kz pz) X.env) :: starEach [] X.env := by rfl) (hplain : (backTo pos (starEach [] X.env)).any (·.1) = false := by rfl)
    (hw : swapsWith (.Call (.Attribute (.Name y py) "pop" ap) [.Constant (.int 0) kz pz] [] pos) (some (.Name x px)) spos.line X.env = pure false := by rfl) :
    CS X (.Assign [.Name x px] (.Call (.Attribute (.Name y py) "pop" ap) [.Constant (.int 0) kz pz] [] pos) spos) (SS.pop0 (C := cf X Wd) i j) :=
  ps_set hN hi hx (pe_bm PySem.F.plainAttrs_list PySem.F.slot_list_pop PySem.F.type_list_pop mt_popAt (pe_var hj hv hd hcd) (pa_cons pe_int pa_nil hs) hbase hfew hline hs hplain) hw hf
end
/-! ### while an instance is made -/
section
variable {X : Cx} {A : Addr} {a : Expr} {sa : SE (cf X (Wc A))} {pos spos p : Pos} {k : Nat} {f : Str} {hc : Cls X.K A} {hn : NoAttr X.K A f} {es : List Expr} {ss : SA (cf X (Wc A))}
theorem ce_cfld (i : Nat) {x : Str} (hi : X.N[i]? = some x := by rfl) (hv : Vis X.env.scope x := by first | exact Or.inl rfl | exact Or.inr (Or.inl rfl) | exact Or.inr (Or.inr rfl)) (hd : (x == ("__debug__" : Str)) = false := by decide) (hcd : (x == ("__classdict__" : Str)) = false := by decide)
    (hb : attributeBase (.Name x p) f X.env (eval (.Name x p) X.env) = eval (.Name x p) X.env := by rfl) :
    CE X (.Attribute (.Name x p) f pos) (SE.cfld (mg := X.mg) (E := E0) i f hc hn) := pe_fld (pe_var hi hv hd hcd) hb
theorem ce_cget (hr : Room k X.A) (i j : Nat) {x y : Str} {p2 fp : Pos} (hi : X.N[i]? = some x := by rfl) (hv : Vis X.env.scope x := by first | exact Or.inl rfl | exact Or.inr (Or.inl rfl) | exact Or.inr (Or.inr rfl)) (hd : (x == ("__debug__" : Str)) = false := by decide) (hcd : (x == ("__classdict__" : Str)) = false := by decide)
    (hj : X.N[j]? = some y := by rfl) (hv2 : Vis X.env.scope y := by first | exact Or.inl rfl | exact Or.inr (Or.inl rfl) | exact Or.inr (Or.inr rfl)) (hd2 : (y == ("__debug__" : Str)) = false := by decide) (hcd2 : (y == ("__classdict__" : Str)) = false := by decide)
    (hb : attributeBase (.Name x p) f X.env (eval (.Name x p) X.env) = eval (.Name x p) X.env := by rfl) :
    CE X (.Subscript (.Attribute (.Name x p) f fp) (.Name y p2) pos) (SE.cget (mg := X.mg) (E := E0) i f hc hn j) := pe_dget (room1 hr) (pe_fld (pe_var hi hv hd hcd) hb) (pe_var hj hv2 hd2 hcd2) (fun _ _ => rfl)
theorem ct_cnin (hr : Room k X.A) (i j : Nat) {x y : Str} {p2 fp : Pos} (hi : X.N[i]? = some x := by rfl) (hv : Vis X.env.scope x := by first | exact Or.inl rfl | exact Or.inr (Or.inl rfl) | exact Or.inr (Or.inr rfl)) (hd : (x == ("__debug__" : Str)) = false := by decide) (hcd : (x == ("__classdict__" : Str)) = false := by decide)
    (hj : X.N[j]? = some y := by rfl) (hv2 : Vis X.env.scope y := by first | exact Or.inl rfl | exact Or.inr (Or.inl rfl) | exact Or.inr (Or.inr rfl)) (hd2 : (y == ("__debug__" : Str)) = false := by decide) (hcd2 : (y == ("__classdict__" : Str)) = false := by decide)
    (hb : attributeBase (.Name x p) f X.env (eval (.Name x p) X.env) = eval (.Name x p) X.env := by rfl) (hm : behindInMarks .NotIn (.Attribute (.Name x p) f fp) = false := by rfl) :
    CT X (.Compare (.Name y p2) [.NotIn] [.Attribute (.Name x p) f fp] pos) (ST.of (SE.cnin (mg := X.mg) (E := E0) i f hc hn j)) := pt_cmp (pc_dnotin (room1 hr) (pe_var hj hv2 hd2 hcd2) (pe_fld (pe_var hi hv hd hcd) hb)) hm
theorem cs_cset (i : Nat) {x : Str} {fp : Pos} (ha : CE X a sa) (hi : X.N[i]? = some x := by rfl) (hv : Vis X.env.scope x := by first | exact Or.inl rfl | exact Or.inr (Or.inl rfl) | exact Or.inr (Or.inr rfl)) (hd : (x == ("__debug__" : Str)) = false := by decide) (hcd : (x == ("__classdict__" : Str)) = false := by decide)
    (hs : swapsWith a (some (.Attribute (.Name x p) f fp)) pos.line X.env = pure false := by rfl) :
    CS X (.Assign [.Attribute (.Name x p) f fp] a pos) (SS.cset i f hc hn sa) := ps_fld (pe_var hi hv hd hcd) ha hs
theorem cs_csetO (i : Nat) {x : Str} {fp : Pos} (ha : CE X a sa) (hi : X.N[i]? = some x := by rfl) (hv : Vis X.env.scope x := by first | exact Or.inl rfl | exact Or.inr (Or.inl rfl) | exact Or.inr (Or.inr rfl)) (hd : (x == ("__debug__" : Str)) = false := by decide) (hcd : (x == ("__classdict__" : Str)) = false := by decide)
    (hs : swapsWith a (some (.Attribute (.Name x p) f fp)) pos.line X.env = pure false := by rfl) :
    CS X (.Assign [.Attribute (.Name x p) f fp] a pos) (SS.csetO i f hc hn sa) := ps_fld (pe_var hi hv hd hcd) ha hs
theorem cs_cput (hr : Room k X.A) (i j : Nat) {x y : Str} {p2 fp sp : Pos} (ha : CE X a sa) (hi : X.N[i]? = some x := by rfl) (hv : Vis X.env.scope x := by first | exact Or.inl rfl | exact Or.inr (Or.inl rfl) | exact Or.inr (Or.inr rfl)) (hd : (x == ("__debug__" : Str)) = false := by decide) (hcd : (x == ("__classdict__" : Str)) = false := by decide)
    (hj : X.N[j]? = some y := by rfl) (hv2 : Vis X.env.scope y := by first | exact Or.inl rfl | exact Or.inr (Or.inl rfl) | exact Or.inr (Or.inr rfl)) (hd2 : (y == ("__debug__" : Str)) = false := by decide) (hcd2 : (y == ("__classdict__" : Str)) = false := by decide)
    (hb : attributeBase (.Name x p) f X.env (eval (.Name x p) X.env) = eval (.Name x p) X.env := by rfl)
    (hs : swapsWith a (some (.Subscript (.Attribute (.Name x p) f fp) (.Name y p2) sp)) pos.line X.env = pure false := by rfl) :
    CS X (.Assign [.Subscript (.Attribute (.Name x p) f fp) (.Name y p2) sp] a pos) (SS.cput i f hc hn j sa) := ps_dput (room1 hr) (pe_fld (pe_var hi hv hd hcd) hb) (pe_var hj hv2 hd2 hcd2) ha hs
theorem ce_csorted (T : Bts X.mg) (i : Nat) {x : Str} {fp q : Pos} (hi : X.N[i]? = some x := by rfl) (hv : Vis X.env.scope x := by first | exact Or.inl rfl | exact Or.inr (Or.inl rfl) | exact Or.inr (Or.inr rfl)) (hd : (x == ("__debug__" : Str)) = false := by decide) (hcd : (x == ("__classdict__" : Str)) = false := by decide)
    (hb : attributeBase (.Name x p) f X.env (eval (.Name x p) X.env) = eval (.Name x p) X.env := by rfl) (hcm : X.calm = true := by rfl) (hg : Gl X "sorted" := by rfl) (hs : starEach [.Attribute (.Name x p) f fp] X.env = (false, eval (.Attribute (.Name x p) f fp) X.env) :: starEach [] X.env := by rfl) :
    CE X (.Call (.Name "sorted" q) [.Attribute (.Name x p) f fp] [] pos) (SE.csorted (mg := X.mg) (E := E0) i f hc hn) := pe_callB (cr_sortedA hcm) hg T.sorted bt_sorted (pa_cons (pe_fld (pe_var hi hv hd hcd) hb) pa_nil hs) (by decide) (by decide) hs
theorem ce_cmeth {e : Expr} {n : Nat} {m : Str} {g : PF (Wc A)} {apos : Pos} {pl : Sem Bool} (i : Nat) {x : Str} (F : FnM X.prog X.w X.K X.mg X.base (Wc A) k A m n g) (hr : Room k X.A) (ha : CA X (e :: es) ss) (hi : X.N[i]? = some x := by rfl) (hv : Vis X.env.scope x := by first | exact Or.inl rfl | exact Or.inr (Or.inl rfl) | exact Or.inr (Or.inr rfl)) (hd : (x == ("__debug__" : Str)) = false := by decide) (hcd : (x == ("__classdict__" : Str)) = false := by decide)
    (hst : starEach (e :: es) X.env = (false, eval e X.env) :: starEach es X.env := by rfl) (hpl : (backTo pos (starEach es X.env)).any (·.1) = false := by rfl)
    (ht : eval (.Call (.Attribute (.Name x p) m apos) (e :: es) [] pos) X.env = (do
      let ov ← eval (.Name x p) X.env
      standAt apos.atName
      let (f, first) ← holding [ov] (getMethod ov m pl)
      callWith pos f first (backTo pos (starEach (e :: es) X.env)) (backToKw pos (keywordEach [] X.env))) := by rfl) : CE X (.Call (.Attribute (.Name x p) m apos) (e :: es) [] pos) (SE.cmeth i m n g ss) := by
  obtain ⟨f, fd, ps, h1, h2, h3, h4⟩ := F.ex
  exact pe_meth (pe_var hi hv hd hcd) h2 h3 h1 hr h4 .nil pass0 ha hst hpl ht
end
/-- C(..): the class at A under the name x -/
structure FnI (P : Program) (w : PySem.World) (K : PySem.W.Frag) (mg : Str → Option Value) (base : Heap) (k : Nat) (A : Addr) (x : Str) (n : Nat) (g : PF (Wc A)) : Prop where
  ex : ∃ (f : Addr) (fd : FuncData) (ps : List Str) (j : Nat), j + 1 ≤ k ∧ FnOk P w K mg base CX0 j f fd ps (spF K mg (Wc A) (n + 1) g) ∧ Mk K A f ∧ mg x = some (.ref A) ∧ Binds K fd ps []
theorem ce_make {X : Cx} {Wd : World} {e : Expr} {es : List Expr} {ss : SA (cf X Wd)} {k n : Nat} {A : Addr} {x : Str} {g : PF (Wc A)} {p pos : Pos} (F : FnI X.prog X.w X.K X.mg X.base k A x n g) (hr : Room k X.A) (ha : CA X (e :: es) ss) (hg : Gl X x := by rfl) (hdb : (x == ("__debug__" : Str)) = false := by decide)
    (he : starEach (e :: es) X.env = (false, eval e X.env) :: starEach es X.env := by rfl) (hpl : (backTo pos (starEach es X.env)).any (·.1) = false := by rfl) : CE X (.Call (.Name x p) (e :: es) [] pos) (SE.make A n g ss) := by
  obtain ⟨f, fd, ps, j, hj, h1, h2, h3, h4⟩ := F.ex
  exact pe_make h2 h1 (hr.mono hj) hg h3 h4 .nil pass0 ha hdb he hpl
end Cl

set_option Elab.async false
set_option linter.all false
set_option maxRecDepth 100000
set_option maxHeartbeats 4000000
namespace Cl
open PySem L2 PySem.Spec PyProof.Rows
/-! ### a list of lists of one's own, worked on in a stretch of a def -/
inductive RowsR (K : PySem.W.Frag) (H0 H : Hp) : List Addr → List (List PyData) → Prop
  | nil : RowsR K H0 H [] []
  | cons {q : Addr} {xs : List V} {row : List PyData} {qs : List Addr} {rows : List (List PyData)} : H q = some (.lst xs) → RpA K H0 xs row → RowsR K H0 H qs rows → RowsR K H0 H (q :: qs) (row :: rows)
theorem RowsR.len {K : PySem.W.Frag} {H0 H : Hp} {qs : List Addr} {rows : List (List PyData)} (r : RowsR K H0 H qs rows) : qs.length = rows.length := by
  induction r with
  | nil => rfl
  | cons _ _ _ ih => rw [List.length_cons, List.length_cons, ih]
theorem RowsR.mono {K : PySem.W.Frag} {H0 H H0' H' : Hp} {qs : List Addr} {rows : List (List PyData)} (r : RowsR K H0 H qs rows) (e : Ex H0 H0') (h : ∀ q ∈ qs, H' q = H q) : RowsR K H0' H' qs rows := by
  induction r with
  | nil => exact .nil
  | cons a b _ ih => exact .cons ((h _ (List.mem_cons_self ..)).trans a) (RpA.mono e b) (ih fun q hq => h q (List.mem_cons_of_mem _ hq))
theorem RowsR.get {K : PySem.W.Frag} {H0 H : Hp} {qs : List Addr} {rows : List (List PyData)} (r : RowsR K H0 H qs rows) : ∀ {j : Nat} {row : List PyData}, rows[j]? = some row → ∃ q xs, qs[j]? = some q ∧ H q = some (.lst xs) ∧ RpA K H0 xs row := by
  induction r with
  | nil => intro j row e; simp at e
  | @cons q xs row qs rows a b _ ih =>
    intro j row' e
    cases j with
    | zero => cases e; exact ⟨q, xs, rfl, a, b⟩
    | succ j => exact ih (j := j) e
theorem RowsR.set {K : PySem.W.Frag} {H0 H : Hp} {qs : List Addr} {rows : List (List PyData)} (r : RowsR K H0 H qs rows) : ∀ {j : Nat} {q : Addr} {ys : List V} {row : List PyData}, qs[j]? = some q → qs.Nodup → RpA K H0 ys row → RowsR K H0 (upd H q (.lst ys)) qs (rows.set j row) := by
  induction r with
  | nil => intro j q ys row e; simp at e
  | @cons q0 xs row0 qs rows a b r ih =>
    intro j q ys row e nd z
    obtain ⟨n1, n2⟩ := List.nodup_cons.mp nd
    cases j with
    | zero =>
      cases e
      exact .cons upd_same z (r.mono (Ex.refl _) fun p hp => upd_ne fun c => n1 (c ▸ hp))
    | succ j =>
      have hq : q ∈ qs := List.mem_of_getElem? e
      exact .cons (by rw [upd_ne fun c => n1 (by rw [c]; exact hq)]; exact a) b (ih e n2 z)
theorem RowsR.mem {K : PySem.W.Frag} {H0 H : Hp} {qs : List Addr} {rows : List (List PyData)} (r : RowsR K H0 H qs rows) : ∀ q ∈ qs, ∃ xs, H q = some (.lst xs) := by
  induction r with
  | nil => intro q hq; cases hq
  | cons a _ _ ih =>
    intro p hp
    rcases List.mem_cons.mp hp with e | hp
    · rw [e]; exact ⟨_, a⟩
    · exact ih p hp
theorem RowsR.snoc {K : PySem.W.Frag} {H0 H : Hp} {qs : List Addr} {rows : List (List PyData)} {q : Addr} {xs : List V} {row : List PyData} (r : RowsR K H0 H qs rows) (h : H q = some (.lst xs)) (z : RpA K H0 xs row) : RowsR K H0 H (qs ++ [q]) (rows ++ [row]) := by
  induction r with
  | nil => exact .cons h z .nil
  | cons a b _ ih => exact .cons a b ih
theorem RowsR.rp {K : PySem.W.Frag} {H0 H H1 : Hp} {qs : List Addr} {rows : List (List PyData)} (r : RowsR K H0 H qs rows) (e : Ex H0 H1) (h : ∀ q ∈ qs, H1 q = H q) : RpA K H1 (qs.map .ref) (rows.map .list) := by
  induction r with
  | nil => exact .nil
  | cons a b _ ih => exact .cons (.lst ((h _ (List.mem_cons_self ..)).trans a) (RpA.mono e b)) (ih fun q hq => h q (List.mem_cons_of_mem _ hq))
open Classical in
noncomputable def ov (HB H : Hp) (as : List Addr) : Hp := fun a => if a ∈ as then H a else HB a
theorem ov_in {HB H : Hp} {as : List Addr} {a : Addr} (h : a ∈ as) : ov HB H as a = H a := if_pos h
theorem ov_out {HB H : Hp} {as : List Addr} {a : Addr} (h : a ∉ as) : ov HB H as a = HB a := if_neg h
structure MxR (K : PySem.W.Frag) (sM : Sh) (HB : Hp) (i : Nat) (s : Sh) (H : Hp) (σ : L2.St) (Γ : Ev) (rows : List (List PyData)) (p : Addr) (qs : List Addr) : Prop where
  g : Γ[i]? = some (some .pt)
  pt : sM.pt = some p
  lp : H p = some (.lst (qs.map .ref))
  rr : RowsR K s.H0 H qs rows
  nd : (p :: qs).Nodup
  own : ∀ a ∈ p :: qs, HB a = none ∧ s.H0 a = none ∧ s.HW a = none ∧ sM.HW a = none
  hw : ∀ a o, sM.HW a = some o → ∃ o', HB a = some o'
  S : Sl K sM (ov HB H (p :: qs)) s H σ Γ
section
variable {K : PySem.W.Frag} {sM : Sh} {HB : Hp} {i : Nat} {s s' : Sh} {H H' : Hp} {σ σ' : L2.St} {Γ Γ' : Ev} {rows : List (List PyData)} {p : Addr} {qs : List Addr}
theorem MxR.at (M : MxR K sM HB i s H σ Γ rows p qs) : σ[i]? = some (some (.ref p)) := by
  obtain ⟨v, gv, a, ha, rfl⟩ := M.S.sl _ _ M.g
  rw [M.S.en.pt, M.pt] at ha
  cases ha
  exact gv
theorem MxR.lst (M : MxR K sM HB i s H σ Γ rows p qs) : ∀ a ∈ p :: qs, ∃ xs, H a = some (.lst xs) := fun a ha => by
  rcases List.mem_cons.mp ha with e | ha
  · rw [e]; exact ⟨_, M.lp⟩
  · exact M.rr.mem a ha
/-- nothing of it has changed -/
theorem MxR.step (M : MxR K sM HB i s H σ Γ rows p qs) (g : Γ'[i]? = some (some .pt)) (e0 : Ex s.H0 s'.H0) (eH : ∀ a ∈ p :: qs, H' a = H a) (n0 : ∀ a ∈ p :: qs, s'.H0 a = none) (nw : ∀ a ∈ p :: qs, s'.HW a = none) (S' : Sl K sM (ov HB H (p :: qs)) s' H' σ' Γ') : MxR K sM HB i s' H' σ' Γ' rows p qs := by
  have eo : ov HB H' (p :: qs) = ov HB H (p :: qs) := by
    funext a
    by_cases ha : a ∈ p :: qs
    · rw [ov_in ha, ov_in ha, eH a ha]
    · rw [ov_out ha, ov_out ha]
  exact ⟨g, M.pt, (eH p (List.mem_cons_self ..)).trans M.lp, M.rr.mono e0 fun q hq => eH q (List.mem_cons_of_mem _ hq), M.nd,
    fun a ha => ⟨(M.own a ha).1, n0 a ha, nw a ha, (M.own a ha).2.2.2⟩, M.hw, eo ▸ S'⟩
theorem MxR.le (M : MxR K sM HB i s H σ Γ rows p qs) (l : Le s H s' H') : MxR K sM HB i s' H' σ Γ rows p qs := by
  refine M.step M.g l.h0 (fun a ha => ?_) (fun a ha => ?_) (fun a ha => ?_) (M.S.le l)
  · obtain ⟨xs, e⟩ := M.lst a ha
    rw [e]; exact l.fr a _ e (M.own a ha).2.2.1
  · obtain ⟨xs, e⟩ := M.lst a ha
    exact l.nf a _ e (NT.lst _) (M.own a ha).2.1
  · obtain ⟨xs, e⟩ := M.lst a ha
    exact l.nw a _ e (M.own a ha).2.2.1
/-- after a statement that leaves it alone -/
theorem MxR.after (M : MxR K sM HB i s H σ Γ rows p qs) (g : Γ'[i]? = some (some .pt)) (e0 : Ex s.H0 s'.H0) (S' : Sl K sM (ov HB H (p :: qs)) s' H' σ' Γ') : MxR K sM HB i s' H' σ' Γ' rows p qs := by
  have l := S'.en
  have m0 : ∀ a ∈ p :: qs, sM.H0 a = none := fun a ha => M.S.en.h0.none (M.own a ha).2.1
  refine M.step g e0 (fun a ha => ?_) (fun a ha => ?_) (fun a ha => ?_) S'
  · obtain ⟨xs, e⟩ := M.lst a ha
    rw [e]; exact l.fr a _ (by rw [ov_in ha]; exact e) (M.own a ha).2.2.2
  · obtain ⟨xs, e⟩ := M.lst a ha
    exact l.nf a _ (by rw [ov_in ha]; exact e) (NT.lst _) (m0 a ha)
  · obtain ⟨xs, e⟩ := M.lst a ha
    exact l.nw a _ (by rw [ov_in ha]; exact e) (M.own a ha).2.2.2
end
def isPt : Option (Option Sv) → Bool
  | some (some .pt) => true
  | _ => false
theorem isPt_inv {x : Option (Option Sv)} (h : isPt x = true) : x = some (some .pt) := by
  unfold isPt at h
  split at h
  · rfl
  · cases h
abbrev Rows := List (List PyData)
structure MS (C : Cf) (i : Nat) where
  t : TS
  ev : Rows → Ev → C.T → Option (Rows × Ev × C.T)
  ok : ∀ {sM : Sh} {HB : Hp} {s : Sh} {H : Hp} {σ : L2.St} {Γ : Ev} {w : C.T} {rows : Rows} {p : Addr} {qs : List Addr} {r : Rows × Ev × C.T}, MxR C.K sM HB i s H σ Γ rows p qs → HO' C.K C.Wd s H w → ev rows Γ w = some r →
    ∀ D : Ends, (∀ s' H' σ' qs', Ex s.H0 s'.H0 → MxR C.K sM HB i s' H' σ' r.2.1 r.1 p qs' → HO' C.K C.Wd s' H' r.2.2 → D.nx σ' H') → t D σ H
def MS.lift {C : Cf} {i : Nat} (b : SS C) : MS C i where
  t := b.t
  ev := fun rows Γ w => match b.ev Γ w with
    | some (.nx Γ' w') => if isPt Γ'[i]? = true then some (rows, Γ', w') else none
    | _ => none
  ok := by
    intro sM HB s H σ Γ w rows p qs r M h e D q
    split at e
    · rename_i Γ' w' eb
      split at e
      · rename_i hp
        cases e
        exact b.ok M.S h eb D fun s' H' σ' x S' h' => q s' H' σ' qs x (M.after (isPt_inv hp) x S') h'
      · cases e
    · cases e
def MS.seq {C : Cf} {i : Nat} (a b : MS C i) : MS C i where
  t := tSeq a.t b.t
  ev := fun rows Γ w => (a.ev rows Γ w).bind fun r => b.ev r.1 r.2.1 r.2.2
  ok := by
    intro sM HB s H σ Γ w rows p qs r M h e D q
    cases e1 : a.ev rows Γ w with
    | none => rw [e1] at e; cases e
    | some r1 =>
      rw [e1] at e
      exact a.ok M h e1 { D with nx := b.t D } fun s1 H1 σ1 qs1 x1 M1 h1 => b.ok M1 h1 e D fun s2 H2 σ2 qs2 x2 M2 h2 => q s2 H2 σ2 qs2 (x1.trans x2) M2 h2
def MS.ite {C : Cf} {i : Nat} (c : ST C) (a b : MS C i) : MS C i where
  t := tIfS c.t a.t b.t
  ev := fun rows Γ w => match c.ev Γ w with
    | some (.ok true w1) => a.ev rows Γ w1
    | some (.ok false w1) => b.ev rows Γ w1
    | _ => none
  ok := by
    intro sM HB s H σ Γ w rows p qs r M h e D q
    split at e
    · rename_i w1 e1
      exact c.ok M.S h e1 _ fun s1 H1 l1 h1 => iteT (a.ok (M.le l1) h1 e D fun s2 H2 σ2 qs2 x2 => q s2 H2 σ2 qs2 (l1.h0.trans x2))
    · rename_i w1 e1
      exact c.ok M.S h e1 _ fun s1 H1 l1 h1 => iteF (b.ok (M.le l1) h1 e D fun s2 H2 σ2 qs2 x2 => q s2 H2 σ2 qs2 (l1.h0.trans x2))
    · cases e
def forM {T : Type} (i : Nat) (g : PyData → Ev → Option Ev) (b : Rows → Ev → T → Option (Rows × Ev × T)) : List PyData → Rows → Ev → T → Option (Rows × Ev × T)
  | [], rows, Γ, w => some (rows, Γ, w)
  | d :: ds, rows, Γ, w => (g d Γ).bind fun Γ1 => if isPt Γ1[i]? = true then (b rows Γ1 w).bind fun r => forM i g b ds r.1 r.2.1 r.2.2 else none
/-- the loop, once its iterator is there -/
theorem forM_ok {C : Cf} {i : Nat} (g : SG C) (b : MS C i) {J : It} {H0 : Hp} {items : List PyData} (wk : Wk C J H0 items) {sM : Sh} {HB : Hp} {s : Sh} {H : Hp} {σ : L2.St} {Γ : Ev} {w : C.T} {rows : Rows} {p : Addr} {qs : List Addr} {r : Rows × Ev × C.T}
    (x : Ex H0 s.H0) (M : MxR C.K sM HB i s H σ Γ rows p qs) (h : HO' C.K C.Wd s H w) (e : forM i g.asg b.ev items rows Γ w = some r) (D : Ends)
    (q : ∀ s' H' σ' qs', Ex s.H0 s'.H0 → MxR C.K sM HB i s' H' σ' r.2.1 r.1 p qs' → HO' C.K C.Wd s' H' r.2.2 → D.nx σ' H') : tFor (fun σ H R => R J H) g.t b.t D σ H := by
  refine ⟨fun j m σ H => m = items.length - j ∧ j ≤ items.length ∧ ∃ s2 Γ2 w2 rows2 qs2, Ex H0 s2.H0 ∧ Ex s.H0 s2.H0 ∧ MxR C.K sM HB i s2 H σ Γ2 rows2 p qs2 ∧ HO' C.K C.Wd s2 H w2 ∧ forM i g.asg b.ev (items.drop j) rows2 Γ2 w2 = some r,
    ⟨_, rfl, Nat.zero_le _, s, Γ, w, rows, qs, x, Ex.refl _, M, h, e⟩, ?_⟩
  rintro j m σ2 H2 ⟨rfl, hj, s2, Γ2, w2, rows2, qs2, x2, y2, M2, h2, e3⟩
  by_cases hlt : j < items.length
  · refine .inr ⟨wk.go h2 x2 hlt, fun σ' H' => ∃ s3 Γ3 w3 rows3 qs3, Ex H0 s3.H0 ∧ Ex s.H0 s3.H0 ∧ MxR C.K sM HB i s3 H' σ' Γ3 rows3 p qs3 ∧ HO' C.K C.Wd s3 H' w3 ∧ forM i g.asg b.ev (items.drop (j + 1)) rows3 Γ3 w3 = some r,
      fun σ' H' z => ⟨_, by omega, rfl, hlt, z⟩, fun v H' y => ?_⟩
    obtain ⟨s3, d, hd, l3, h3, r3⟩ := wk.yld h2 x2 hlt y
    have ed : items.drop j = d :: items.drop (j + 1) := by
      obtain ⟨_, e⟩ := List.getElem?_eq_some_iff.mp hd
      rw [List.drop_eq_getElem_cons hlt, e]
    rw [ed] at e3
    unfold forM at e3
    have M3 := M2.le l3
    cases e4 : g.asg d Γ2 with
    | none => rw [e4] at e3; cases e3
    | some Γ3 =>
      rw [e4, Option.bind_some] at e3
      split at e3
      · rename_i hp
        refine g.ok M3.S h3.ex r3 e4 _ fun σ3 S3 _ => ?_
        have M4 : MxR C.K sM HB i s3 H' σ3 Γ3 rows2 p qs2 := M3.step (isPt_inv hp) (Ex.refl _) (fun _ _ => rfl) (fun a ha => (M3.own a ha).2.1) (fun a ha => (M3.own a ha).2.2.1) S3
        cases e5 : b.ev rows2 Γ3 w2 with
        | none => rw [e5] at e3; cases e3
        | some r5 =>
          rw [e5, Option.bind_some] at e3
          exact b.ok M4 h3 e5 _ fun s5 H5 σ5 qs5 x5 M5 h5 => ⟨s5, _, _, _, qs5, (x2.trans l3.h0).trans x5, (y2.trans l3.h0).trans x5, M5, h5, e3⟩
      · cases e3
  · have ej : j = items.length := by omega
    subst ej
    rw [List.drop_length] at e3
    cases e3
    exact .inl ⟨wk.stop h2 x2, q s2 H2 σ2 qs2 y2 M2 h2⟩
def MS.for {C : Cf} {i : Nat} (it : SI C) (g : SG C) (b : MS C i) : MS C i where
  t := tFor it.t g.t b.t
  ev := fun rows Γ w => match it.ev Γ w with
    | some (.ok items w1) => forM i g.asg b.ev items rows Γ w1
    | _ => none
  ok := by
    intro sM HB s H σ Γ w rows p qs r M h e D q
    split at e
    · rename_i items w1 e1
      exact it.ok M.S h e1 _ fun s1 H1 l1 h1 J wk => forM_ok g b wk (Ex.refl _) (M.le l1) h1 e D fun s2 H2 σ2 qs2 x2 => q s2 H2 σ2 qs2 (l1.h0.trans x2)
    · cases e
end Cl

set_option Elab.async false
set_option linter.all false
set_option maxRecDepth 100000
set_option maxHeartbeats 4000000
namespace Cl
open PySem L2 PySem.Spec PyProof.Rows
def intAt (Γ : Ev) (j : Nat) : Option Int := match Γ[j]? with
  | some (some (.dat (.int k))) => some k
  | _ => none
theorem intAt_inv {K : PySem.W.Frag} {sE s : Sh} {HE H : Hp} {σ : L2.St} {Γ : Ev} {j : Nat} {k : Int} (S : Sl K sE HE s H σ Γ) (h : intAt Γ j = some k) : σ[j]? = some (some (.int k)) := by
  unfold intAt at h
  split at h
  · rename_i k' g
    cases h
    obtain ⟨v, gv, r⟩ := S.sl _ _ g
    have r : Rp K s.H0 v (.int k) := r
    cases r
    exact gv
  · cases h
def MS.forLen {C : Cf} {i : Nat} (g : SG C) (b : MS C i) : MS C i where
  t := tFor (iRng1 (tCons (tCB (rLenA C.K) (tCons (tVar i) tNil)) tNil)) g.t b.t
  ev := fun rows Γ w => if rows.length ≤ 100000 then forM i g.asg b.ev (ranD 0 rows.length) rows Γ w else none
  ok := by
    intro sM HB s H σ Γ w rows p qs r M h e D q
    split at e
    · rename_i hl
      have en : (((qs.map V.ref).length : Nat) : Int).toNat = rows.length := by rw [Int.toNat_natCast, List.length_map, M.rr.len]
      rw [← en] at e
      have el : (qs.map V.ref).length = rows.length := by rw [List.length_map, M.rr.len]
      exact ⟨_, M.at, p, _, rfl, .inl (.inl (.inl M.lp)), _, rfl, by omega, by omega, forM_ok g b wk_range (Ex.refl _) M h e D q⟩
    · cases e
def MS.forRow {C : Cf} {i : Nat} (j : Nat) (g : SG C) (b : MS C i) : MS C i where
  t := tFor (iRng1 (tCons (tCB (rLenA C.K) (tCons (tOp (rIxA C.K) (tVar i) (tVar j)) tNil)) tNil)) g.t b.t
  ev := fun rows Γ w => (intAt Γ j).bind fun k => (atI rows k).bind fun row => if row.length ≤ 100000 then forM i g.asg b.ev (ranD 0 row.length) rows Γ w else none
  ok := by
    intro sM HB s H σ Γ w rows p qs r M h e D q
    cases e1 : intAt Γ j with
    | none => rw [e1] at e; cases e
    | some k =>
      rw [e1, Option.bind_some] at e
      cases e2 : atI rows k with
      | none => rw [e2] at e; cases e
      | some row =>
        rw [e2, Option.bind_some] at e
        split at e
        · rename_i hl
          unfold atI at e2
          obtain ⟨a, e3, e4⟩ := Option.bind_eq_some_iff.mp e2
          obtain ⟨u, xs, hu, hx, rx⟩ := M.rr.get e4
          have at1 : atI (qs.map V.ref) k = some (.ref u) := by
            unfold atI
            rw [List.length_map, M.rr.len, e3, Option.bind_some, List.getElem?_map, hu]
            rfl
          have en : ((xs.length : Nat) : Int).toNat = row.length := by rw [Int.toNat_natCast, rx.length]
          rw [← en] at e
          have el := rx.length
          exact ⟨_, M.at, _, intAt_inv M.S e1, .inl ⟨p, _, k, _, rfl, rfl, .inl (.inl M.lp), at1, u, _, rfl, .inl (.inl (.inl hx)), _, rfl, by omega, by omega, forM_ok g b wk_range (Ex.refl _) M h e D q⟩⟩
        · cases e
/-- one row changed -/
theorem MxR.set {K : PySem.W.Frag} {sM : Sh} {HB : Hp} {i : Nat} {s : Sh} {H : Hp} {σ : L2.St} {Γ : Ev} {rows : Rows} {p u : Addr} {qs : List Addr} {a : Nat} {ys : List V} {row : List PyData} {Wd : World} {w : Wd.T}
    (M : MxR K sM HB i s H σ Γ rows p qs) (h : HO' K Wd s H w) (hu : qs[a]? = some u) (z : RpA K s.H0 ys row) :
    MxR K sM HB i s (upd H u (.lst ys)) σ Γ (rows.set a row) p qs ∧ HO' K Wd s (upd H u (.lst ys)) w := by
  have mu : u ∈ qs := List.mem_of_getElem? hu
  have mu2 : u ∈ p :: qs := List.mem_cons_of_mem _ mu
  have nd := List.nodup_cons.mp M.nd
  have pu : p ≠ u := fun c => nd.1 (c ▸ mu)
  obtain ⟨o1, o2, o3, o4⟩ := M.own u mu2
  obtain ⟨xs, hx⟩ := M.rr.mem u mu
  have en := M.S.en
  refine ⟨⟨M.g, M.pt, by rw [upd_ne pu]; exact M.lp, M.rr.set hu nd.2 z, M.nd, M.own, M.hw, ⟨?_, M.S.len, fun j x g => ?_, M.S.dj⟩⟩, h.mut o2 o3⟩
  · refine ⟨en.h0, fun b o e n => ?_, fun b o e => ?_, fun b o e t n => ?_, fun b o e n => ?_, en.ad, en.pt⟩
    · by_cases hb : b ∈ p :: qs
      · rw [ov_in hb] at e; exact e
      · rw [ov_out hb] at e
        rw [upd_ne (show b ≠ u from fun c => hb (by rw [c]; exact mu2))]
        exact en.fr b o (by rw [ov_out hb]; exact e) n
    · by_cases hb : b ∈ p :: qs
      · rw [ov_in hb] at e; exact ⟨o, e, id⟩
      · rw [ov_out hb] at e
        rw [upd_ne (show b ≠ u from fun c => hb (by rw [c]; exact mu2))]
        exact en.dom b o (by rw [ov_out hb]; exact e)
    · by_cases hb : b ∈ p :: qs
      · exact (M.own b hb).2.1
      · rw [ov_out hb] at e
        exact en.nf b o (by rw [ov_out hb]; exact e) t n
    · by_cases hb : b ∈ p :: qs
      · exact (M.own b hb).2.2.1
      · rw [ov_out hb] at e
        exact en.nw b o (by rw [ov_out hb]; exact e) n
  · obtain ⟨v, gv, r⟩ := M.S.sl j x g
    refine ⟨v, gv, ?_⟩
    cases x with
    | dat d => exact r
    | hd n => exact r
    | pt => exact r
    | own o =>
      obtain ⟨p', u', e, a1, a2, a3, a4, r'⟩ := r
      have hb : p' ∉ p :: qs := fun c => by
        rw [ov_in c, a1] at a4; cases a4
      exact ⟨p', u', e, by rw [upd_ne (show p' ≠ u from fun c => hb (by rw [c]; exact mu2))]; exact a1, a2, a3, by rw [ov_out hb] at a4 ⊢; exact a4, r'⟩
/-- m[x][y] = e -/
def MS.put {C : Cf} {i : Nat} (j k : Nat) (a : SE C) : MS C i where
  t := tAsg a.t (gSub (tOp (rIxA C.K) (tVar i) (tVar j)) (tVar k) rSetL)
  ev := fun rows Γ w => match a.evD Γ w with
    | some (.ok d w1) => (intAt Γ j).bind fun x => (intAt Γ k).bind fun y => (ixN rows.length x).bind fun m => (rows[m]?).bind fun row => (ixN row.length y).map fun n => (rows.set m (row.set n d), Γ, w1)
    | _ => none
  ok := by
    intro sM HB s H σ Γ w rows p qs r M h e D q
    split at e
    · rename_i d w1 e1
      obtain ⟨x, ex, e⟩ := Option.bind_eq_some_iff.mp e
      obtain ⟨y, ey, e⟩ := Option.bind_eq_some_iff.mp e
      obtain ⟨m, em, e⟩ := Option.bind_eq_some_iff.mp e
      obtain ⟨row, er, e⟩ := Option.bind_eq_some_iff.mp e
      obtain ⟨n, en, e⟩ := Option.map_eq_some_iff.mp e
      subst e
      refine a.okD M.S h e1 _ fun s1 H1 l1 h1 v hv => ?_
      have M1 := M.le l1
      obtain ⟨u, xs, hu, hx, rx⟩ := M1.rr.get er
      have at1 : atI (qs.map V.ref) x = some (.ref u) := by
        unfold atI
        rw [List.length_map, M1.rr.len, em, Option.bind_some, List.getElem?_map, hu]
        rfl
      refine ⟨_, M1.at, _, intAt_inv M1.S ex, .inl ⟨p, _, x, _, rfl, rfl, .inl (.inl M1.lp), at1, _, intAt_inv M1.S ey, u, xs, y, n, rfl, rfl, hx, by rw [rx.length]; exact en, ?_⟩⟩
      obtain ⟨M2, h2⟩ := M1.set h1 hu (rx.set n hv)
      exact q s1 _ σ qs l1.h0 M2 h2
    · cases e
/-- m[x][y] = m[x][y] + 1 + e, ints -/
def MS.put1 {C : Cf} {i : Nat} (j k : Nat) (a : SE C) : MS C i where
  t := tAsg (tOp (rAddA C.K) (tOp (rAddA C.K) (tOp (rIxA C.K) (tOp (rIxA C.K) (tVar i) (tVar j)) (tVar k)) (tC (.int 1))) a.t) (gSub (tOp (rIxA C.K) (tVar i) (tVar j)) (tVar k) rSetL)
  ev := fun rows Γ w => (intAt Γ j).bind fun x => (intAt Γ k).bind fun y => (ixN rows.length x).bind fun m => (rows[m]?).bind fun row => (ixN row.length y).bind fun n => match row[n]? with
    | some (.int z) => (match a.evV Γ w with
      | some (.ok (.int d) w1) => some (rows.set m (row.set n (.int (z + 1 + d))), Γ, w1)
      | _ => none)
    | _ => none
  ok := by
    intro sM HB s H σ Γ w rows p qs r M h e D q
    obtain ⟨x, ex, e⟩ := Option.bind_eq_some_iff.mp e
    obtain ⟨y, ey, e⟩ := Option.bind_eq_some_iff.mp e
    obtain ⟨m, em, e⟩ := Option.bind_eq_some_iff.mp e
    obtain ⟨row, er, e⟩ := Option.bind_eq_some_iff.mp e
    obtain ⟨n, en, e⟩ := Option.bind_eq_some_iff.mp e
    split at e
    · rename_i z ez
      split at e
      · rename_i d w1 e1
        cases e
        obtain ⟨u, xs, hu, hx, rx⟩ := M.rr.get er
        have at1 : atI (qs.map V.ref) x = some (.ref u) := by
          unfold atI
          rw [List.length_map, M.rr.len, em, Option.bind_some, List.getElem?_map, hu]
          rfl
        obtain ⟨v0, hv0, rv0⟩ := rx.get n _ ez
        cases rv0
        have at2 : atI xs y = some (.int z) := by
          unfold atI
          rw [rx.length, en, Option.bind_some]; exact hv0
        refine ⟨_, M.at, _, intAt_inv M.S ex, .inl ⟨p, _, x, _, rfl, rfl, .inl (.inl M.lp), at1, _, intAt_inv M.S ey, .inl ⟨u, xs, y, _, rfl, rfl, .inl (.inl hx), at2, .inl ⟨z, 1, rfl, rfl, ?_⟩⟩⟩⟩
        refine a.okV M.S h e1 _ fun s1 H1 l1 h1 v hv => ?_
        have z1 := hv.now h1.ex
        cases z1
        have M1 := M.le l1
        obtain ⟨u1, xs1, hu1, hx1, rx1⟩ := M1.rr.get er
        rw [hu] at hu1; cases hu1
        refine .inl ⟨z + 1, d, rfl, rfl, ?_⟩
        refine ⟨_, M1.at, _, intAt_inv M1.S ex, .inl ⟨p, _, x, _, rfl, rfl, .inl (.inl M1.lp), at1, _, intAt_inv M1.S ey, u, xs1, y, n, rfl, rfl, hx1, by rw [rx1.length]; exact en, ?_⟩⟩
        obtain ⟨M2, h2⟩ := M1.set h1 hu (rx1.set n (.int (z + 1 + d)))
        exact q s1 _ σ qs l1.h0 M2 h2
      · cases e
    · cases e
end Cl

set_option Elab.async false
set_option linter.all false
set_option maxRecDepth 100000
set_option maxHeartbeats 4000000
namespace Cl
open PySem L2 PySem.Spec PyProof.Rows
open Classical in
noncomputable def HBof (HE : Hp) (s : Sh) (H : Hp) : Hp := fun a => if HE a ≠ none ∨ s.HW a ≠ none then H a else none
theorem HBof_e {HE H : Hp} {s : Sh} {a : Addr} (h : HE a ≠ none) : HBof HE s H a = H a := if_pos (.inl h)
theorem HBof_w {HE H : Hp} {s : Sh} {a : Addr} (h : s.HW a ≠ none) : HBof HE s H a = H a := if_pos (.inr h)
theorem HBof_n {HE H : Hp} {s : Sh} {a : Addr} (h : HE a = none) (h2 : s.HW a = none) : HBof HE s H a = none := if_neg (by rw [h, h2]; simp)
theorem HBof_some {HE H : Hp} {s : Sh} {a : Addr} {o : HO} (h : HBof HE s H a = some o) : H a = some o := by
  unfold HBof at h
  split at h
  · exact h
  · cases h
def notPt : Option Sv → Bool
  | some .pt => false
  | _ => true
theorem noPt {Γ : Ev} (h : Γ.all notPt = true) {j : Nat} (g : Γ[j]? = some (some .pt)) : False := by
  have := List.all_eq_true.mp h _ (List.mem_of_getElem? g)
  cases this
theorem mxStart {K : PySem.W.Frag} {Wd : World} {sE s s1 : Sh} {HE H H1 : Hp} {σ : L2.St} {Γ : Ev} {w : Wd.T} {i : Nat} {p : Addr} {qs : List Addr} {rows : Rows} (S : Sl K sE HE s H σ Γ) (l : Le s H s1 H1) (h1 : HO' K Wd s1 H1 w) (hi : i < Γ.length) (hn : Γ.all notPt = true)
    (lp : H1 p = some (.lst (qs.map .ref))) (rr : RowsR K s1.H0 H1 qs rows) (nd : (p :: qs).Nodup) (fresh : ∀ a ∈ p :: qs, H a = none ∧ s1.H0 a = none ∧ s1.HW a = none) :
    MxR K { s1 with pt := some p } (HBof HE s1 H1) i { s1 with pt := some p } H1 (σ.set i (some (.ref p))) (Γ.set i (some .pt)) rows p qs ∧ HO' K Wd { s1 with pt := some p } H1 w := by
  have hi' : i < σ.length := by rw [← S.len]; exact hi
  have hb : ∀ a ∈ p :: qs, HBof HE s1 H1 a = none := fun a ha => HBof_n (S.en.none0 (fresh a ha).1) (fresh a ha).2.2
  refine ⟨⟨by rw [List.getElem?_set_self hi], rfl, lp, rr, nd, fun a ha => ⟨hb a ha, (fresh a ha).2.1, (fresh a ha).2.2, (fresh a ha).2.2⟩, fun a o e => ?_, ⟨?_, by rw [List.length_set, List.length_set]; exact S.len, fun j x g => ?_, fun j k p' ds es hjk g1 g2 a b => ?_⟩⟩, ⟨h1.ex, h1.exW, h1.dj, h1.rel⟩⟩
  · have e : s1.HW a = some o := e
    exact ⟨o, by rw [HBof_w (by rw [e]; simp)]; exact h1.exW _ _ e⟩
  · refine ⟨Ex.refl _, fun a o e _ => ?_, fun a o e => ⟨o, ?_, id⟩, fun a o _ _ e => e, fun a o _ e => e, ⟨[], by simp⟩, rfl⟩
    · by_cases ha : a ∈ p :: qs
      · rw [ov_in ha] at e; exact e
      · rw [ov_out ha] at e; exact HBof_some e
    · by_cases ha : a ∈ p :: qs
      · rw [ov_in ha] at e; exact e
      · rw [ov_out ha] at e; exact HBof_some e
  · by_cases hj : i = j
    · subst hj
      rw [List.getElem?_set_self hi] at g
      cases g
      exact ⟨_, by rw [List.getElem?_set_self hi'], p, rfl, rfl⟩
    · rw [List.getElem?_set_ne hj] at g ⊢
      obtain ⟨v, gv, r⟩ := S.sl j x g
      refine ⟨v, gv, ?_⟩
      have r1 := r.le l
      cases x with
      | dat d => exact r1
      | hd n => exact r1
      | pt => exact (noPt hn g).elim
      | own o =>
        obtain ⟨p', u', e, a1, a2, a3, a4, r'⟩ := r
        obtain ⟨p2, u2, e2, b1, b2, b3, b4, r2⟩ := r1
        rw [e] at e2; cases e2
        have hm : p' ∉ p :: qs := fun c => by rw [(fresh p' c).1] at a1; cases a1
        exact ⟨p', u2, e, b1, b2, b3, by rw [ov_out hm]; exact HBof_n b4 b3, r2⟩
  · have k1 : i ≠ j := fun z => by subst z; rw [List.getElem?_set_self hi] at g1; cases g1
    have k2 : i ≠ k := fun z => by subst z; rw [List.getElem?_set_self hi] at g2; cases g2
    rw [List.getElem?_set_ne k1] at g1 a
    rw [List.getElem?_set_ne k2] at g2 b
    exact S.dj j k p' ds es hjk g1 g2 a b
theorem mxEnd {K : PySem.W.Frag} {Wd : World} {sE s1 s' : Sh} {HE H1 H' : Hp} {σ σ' : L2.St} {Γ Γ' : Ev} {w' : Wd.T} {i : Nat} {p : Addr} {qs : List Addr} {rows : Rows} (S : Sl K sE HE s1 H1 σ Γ)
    (M : MxR K { s1 with pt := some p } (HBof HE s1 H1) i s' H' σ' Γ' rows p qs) (h : HO' K Wd s' H' w') (hn : (Γ'.set i none).all notPt = true) :
    ∃ s2, Ex s'.H0 s2.H0 ∧ Ex s1.H0 s2.H0 ∧ Sl K sE HE s2 H' σ' (Γ'.set i (some (.dat (.list (rows.map .list))))) ∧ HO' K Wd s2 H' w' := by
  have hi : i < Γ'.length := (List.getElem?_eq_some_iff.mp M.g).1
  have hi' : i < σ'.length := by rw [← M.S.len]; exact hi
  let H2 : Hp := ov s'.H0 H' (p :: qs)
  have e2 : Ex s'.H0 H2 := fun a o e => by
    have : a ∉ p :: qs := fun c => by rw [(M.own a c).2.1] at e; cases e
    show ov _ _ _ a = _
    rw [ov_out this]; exact e
  have e3 : Ex H2 H' := fun a o e => by
    have e : ov s'.H0 H' (p :: qs) a = some o := e
    by_cases ha : a ∈ p :: qs
    · rw [ov_in ha] at e; exact e
    · rw [ov_out ha] at e; exact h.ex _ _ e
  have he : ∀ a, HE a ≠ none → a ∉ p :: qs := fun a n c => by
    have z := (M.own a c).1
    rw [HBof_e n] at z
    cases e : HE a with
    | none => exact n e
    | some o =>
      obtain ⟨o', e', _⟩ := S.en.dom a o e
      rw [e'] at z; cases z
  have ov1 : ∀ a o o', HE a = some o' → H1 a = some o → ov (HBof HE s1 H1) H' (p :: qs) a = some o := fun a o o' e e' => by
    have n : HE a ≠ none := by rw [e]; simp
    rw [ov_out (he a n), HBof_e n]; exact e'
  have en := M.S.en
  have e1 : Ex s1.H0 H2 := Ex.trans (show Ex s1.H0 s'.H0 from en.h0) e2
  refine ⟨⟨H2, s'.HW, s'.ad, s1.pt⟩, e2, e1, ⟨⟨S.en.h0.trans e1, fun a o e n => ?_, fun a o e => ?_, fun a o e t n => ?_, fun a o e n => ?_, ?_, S.en.pt⟩, by rw [List.length_set]; exact M.S.len, fun j x g => ?_, fun j k p' ds es hjk g1 g2 a b => ?_⟩, ⟨e3, h.exW, fun a o e t => ?_, Wd.mono e2 h.rel⟩⟩
  · exact en.fr a o (ov1 a o o e (S.en.fr a o e n)) (S.en.nw a o e n)
  · obtain ⟨o', e', k⟩ := S.en.dom a o e
    obtain ⟨o2, e2', k2⟩ := en.dom a o' (ov1 a o' o e e')
    exact ⟨o2, e2', fun z => k2 (k z)⟩
  · obtain ⟨o', e', k⟩ := S.en.dom a o e
    show ov _ _ _ a = none
    rw [ov_out (he a (by rw [e]; simp))]
    exact en.nf a o' (ov1 a o' o e e') (k t) (S.en.nf a o e t n)
  · obtain ⟨o', e', k⟩ := S.en.dom a o e
    exact en.nw a o' (ov1 a o' o e e') (S.en.nw a o e n)
  · obtain ⟨m, em⟩ := S.en.ad
    obtain ⟨m2, em2⟩ := en.ad
    refine ⟨m ++ m2, ?_⟩
    show s'.ad = _
    rw [em2]
    show s1.ad ++ m2 = _
    rw [em, List.append_assoc]
  · by_cases hj : i = j
    · subst hj
      rw [List.getElem?_set_self hi] at g
      cases g
      refine ⟨_, M.at, ?_⟩
      refine Rp.lst (show H2 p = _ from by show ov _ _ _ p = _; rw [ov_in (List.mem_cons_self ..)]; exact M.lp) ?_
      exact M.rr.rp e2 fun q hq => by show ov _ _ _ q = _; rw [ov_in (List.mem_cons_of_mem _ hq)]
    · rw [List.getElem?_set_ne hj] at g
      obtain ⟨v, gv, r⟩ := M.S.sl j x g
      refine ⟨v, gv, ?_⟩
      cases x with
      | dat d => exact Rp.mono e2 r
      | hd n => exact r
      | pt => exact (noPt hn (j := j) (by rw [List.getElem?_set_ne hj]; exact g)).elim
      | own o =>
        obtain ⟨p', u', e, a1, a2, a3, a4, r'⟩ := r
        have hm : p' ∉ p :: qs := fun c => by rw [ov_in c, a1] at a4; cases a4
        refine ⟨p', u', e, a1, by show ov _ _ _ p' = _; rw [ov_out hm]; exact a2, a3, ?_, r'.mono e2⟩
        rw [ov_out hm] at a4
        cases e5 : HE p' with
        | none => rfl
        | some o5 =>
          rw [HBof_e (by rw [e5]; simp)] at a4
          obtain ⟨o', e', _⟩ := S.en.dom p' o5 e5
          rw [e'] at a4; cases a4
  · have k1 : i ≠ j := fun z => by subst z; rw [List.getElem?_set_self hi] at g1; cases g1
    have k2 : i ≠ k := fun z => by subst z; rw [List.getElem?_set_self hi] at g2; cases g2
    rw [List.getElem?_set_ne k1] at g1
    rw [List.getElem?_set_ne k2] at g2
    exact M.S.dj j k p' ds es hjk g1 g2 a b
  · have e : ov s'.H0 H' (p :: qs) a = some o := e
    by_cases ha : a ∈ p :: qs
    · exact (M.own a ha).2.2.1
    · rw [ov_out ha] at e; exact h.dj _ _ e t
/-- m = [], then a stretch that works on it; behind it, it stays as it is -/
def SS.mxE {C : Cf} (i : Nat) (b : MS C i) : SS C where
  t := tSeq (tAsg (tLst tNil) (gName i)) b.t
  ev := fun Γ w => if i < Γ.length ∧ Γ.all notPt = true then (match b.ev [] (Γ.set i (some .pt)) w with
      | some (rows, Γ', w') => if (Γ'.set i none).all notPt = true then some (.nx (Γ'.set i (some (.dat (.list (rows.map .list))))) w') else none
      | none => none)
    else none
  ok := by
    intro sE HE s H σ Γ w fl S h e D q
    split at e
    · rename_i hc
      split at e
      · rename_i rows Γ' w' eb
        split at e
        · rename_i hn
          cases e
          refine ⟨by decide, fun p hp => ?_⟩
          have l : Le s H s (upd H p (.lst [])) := Le.new hp
          obtain ⟨M, hM⟩ := mxStart (qs := []) (rows := []) S l (h.new hp) hc.1 hc.2 upd_same .nil (by simp) fun a ha => by
            have : a = p := by simpa using ha
            subst this
            exact ⟨hp, h.none0 hp, h.noneW hp⟩
          refine b.ok M hM eb D fun s' H' σ' qs' x' M' h' => ?_
          obtain ⟨s2, x2, x3, S2, h2⟩ := mxEnd (S.le l) M' h' hn
          exact q s2 H' σ' x3 S2 h2
        · cases e
      · cases e
    · cases e
/-- m.append(e), e a new list -/
def MS.app {C : Cf} {i : Nat} (a : SE C) : MS C i where
  t := tDrop (tBM C.K "list" rAppend (tVar i) (tCons a.t tNil))
  ev := fun rows Γ w => match a.ev Γ w with
    | some (.ok (.new (.lst row)) w1) => if rows.length < 100000 then some (rows ++ [row], Γ, w1) else none
    | _ => none
  ok := by
    intro sM HB s H σ Γ w rows p qs r M h e D q
    split at e
    · rename_i row w1 e1
      split at e
      · rename_i hl
        cases e
        refine ⟨_, M.at, .inl ⟨rfl, _, .inl (.inl M.lp)⟩, ?_⟩
        refine a.ok M.S h e1 _ fun s1 H1 l1 h1 v hv => ?_
        obtain ⟨u, o, rfl, n, hu, m0, mw, xs, rfl, rx⟩ := hv
        have M1 := M.le l1
        refine ⟨p, _, _, rfl, rfl, M1.lp, by rw [List.length_map, M1.rr.len]; exact Nat.lt_of_lt_of_le hl (by decide), ?_⟩
        have en := M.S.en
        have hbu : HB u = none := by
          cases e5 : HB u with
          | none => rfl
          | some o5 =>
            have hm : u ∉ p :: qs := fun c => by
              obtain ⟨z, hz⟩ := M.lst u c
              rw [n] at hz; cases hz
            obtain ⟨o', e', _⟩ := en.dom u o5 (by rw [ov_out hm]; exact e5)
            rw [n] at e'; cases e'
        have hwu : sM.HW u = none := by
          cases e5 : sM.HW u with
          | none => rfl
          | some o5 =>
            obtain ⟨o', e'⟩ := M.hw u o5 e5
            rw [hbu] at e'; cases e'
        have nm : u ∉ p :: qs := fun c => by
          obtain ⟨z, hz⟩ := M.lst u c
          rw [n] at hz; cases hz
        have pu : p ≠ u := fun c => nm (by rw [c]; exact List.mem_cons_self ..)
        have ep : qs.map V.ref ++ [V.ref u] = (qs ++ [u]).map .ref := by simp
        rw [ep]
        have hp0 := M1.own p (List.mem_cons_self ..)
        have en1 := M1.S.en
        have M2 : MxR C.K sM HB i s1 (upd H1 p (.lst ((qs ++ [u]).map .ref))) σ Γ (rows ++ [row]) p (qs ++ [u]) := by
          refine ⟨M1.g, M1.pt, upd_same, ?_, ?_, fun a ha => ?_, M1.hw, ⟨⟨en1.h0, fun b o e nn => ?_, fun b o e => ?_, fun b o e t nn => ?_, fun b o e nn => ?_, en1.ad, en1.pt⟩, M1.S.len, fun j x g => ?_, M1.S.dj⟩⟩
          · refine RowsR.mono (H := H1) (M1.rr.snoc hu rx) (Ex.refl _) fun b hb => upd_ne fun c => ?_
            rw [c] at hb
            rcases List.mem_append.mp hb with hb | hb
            · exact (List.nodup_cons.mp M1.nd).1 hb
            · exact pu (by simpa using hb)
          · have nd := List.nodup_cons.mp M1.nd
            refine List.nodup_cons.mpr ⟨fun c => ?_, ?_⟩
            · rcases List.mem_append.mp c with c | c
              · exact nd.1 c
              · exact pu (by simpa using c)
            · refine List.nodup_append.mpr ⟨nd.2, by simp, fun b hb c hc z => ?_⟩
              have : c = u := by simpa using hc
              subst this
              subst z
              exact nm (List.mem_cons_of_mem _ hb)
          · have : a ∈ p :: qs ∨ a = u := by
              rcases List.mem_cons.mp ha with c | c
              · exact .inl (by rw [c]; exact List.mem_cons_self ..)
              · rcases List.mem_append.mp c with c | c
                · exact .inl (List.mem_cons_of_mem _ c)
                · exact .inr (by simpa using c)
            rcases this with c | c
            · exact M1.own a c
            · rw [c]; exact ⟨hbu, m0, mw, hwu⟩
          · by_cases hb : b ∈ p :: (qs ++ [u])
            · rw [ov_in hb] at e; exact e
            · have hb2 : b ∉ p :: qs := fun c => hb (by
                rcases List.mem_cons.mp c with c | c
                · rw [c]; exact List.mem_cons_self ..
                · exact List.mem_cons_of_mem _ (List.mem_append_left _ c))
              rw [ov_out hb] at e
              rw [upd_ne (show b ≠ p from fun c => hb (by rw [c]; exact List.mem_cons_self ..))]
              exact en1.fr b o (by rw [ov_out hb2]; exact e) nn
          · by_cases hb : b ∈ p :: (qs ++ [u])
            · rw [ov_in hb] at e; exact ⟨o, e, id⟩
            · have hb2 : b ∉ p :: qs := fun c => hb (by
                rcases List.mem_cons.mp c with c | c
                · rw [c]; exact List.mem_cons_self ..
                · exact List.mem_cons_of_mem _ (List.mem_append_left _ c))
              rw [ov_out hb] at e
              rw [upd_ne (show b ≠ p from fun c => hb (by rw [c]; exact List.mem_cons_self ..))]
              exact en1.dom b o (by rw [ov_out hb2]; exact e)
          · by_cases hb : b ∈ p :: (qs ++ [u])
            · rcases List.mem_cons.mp hb with c | c
              · rw [c]; exact hp0.2.1
              · rcases List.mem_append.mp c with c | c
                · exact (M1.own b (List.mem_cons_of_mem _ c)).2.1
                · rw [show b = u by simpa using c]; exact m0
            · have hb2 : b ∉ p :: qs := fun c => hb (by
                rcases List.mem_cons.mp c with c | c
                · rw [c]; exact List.mem_cons_self ..
                · exact List.mem_cons_of_mem _ (List.mem_append_left _ c))
              rw [ov_out hb] at e
              exact en1.nf b o (by rw [ov_out hb2]; exact e) t nn
          · by_cases hb : b ∈ p :: (qs ++ [u])
            · rcases List.mem_cons.mp hb with c | c
              · rw [c]; exact hp0.2.2.1
              · rcases List.mem_append.mp c with c | c
                · exact (M1.own b (List.mem_cons_of_mem _ c)).2.2.1
                · rw [show b = u by simpa using c]; exact mw
            · have hb2 : b ∉ p :: qs := fun c => hb (by
                rcases List.mem_cons.mp c with c | c
                · rw [c]; exact List.mem_cons_self ..
                · exact List.mem_cons_of_mem _ (List.mem_append_left _ c))
              rw [ov_out hb] at e
              exact en1.nw b o (by rw [ov_out hb2]; exact e) nn
          · obtain ⟨v, gv, r0⟩ := M.S.sl j x g
            obtain ⟨v1, gv1, r1⟩ := M1.S.sl j x g
            rw [gv] at gv1; cases gv1
            refine ⟨v, gv, ?_⟩
            cases x with
            | dat d => exact r1
            | hd n => exact r1
            | pt => exact r1
            | own o =>
              obtain ⟨p', u', e, a1, a2, a3, a4, r'⟩ := r1
              obtain ⟨p2, u2, e2, b1, _⟩ := r0
              rw [e] at e2; cases e2
              have hb : p' ∉ p :: qs := fun c => by rw [ov_in c, a1] at a4; cases a4
              have hu' : p' ≠ u := fun c => by rw [c, n] at b1; cases b1
              have hb3 : p' ∉ p :: (qs ++ [u]) := fun c => by
                rcases List.mem_cons.mp c with c | c
                · exact hb (by rw [c]; exact List.mem_cons_self ..)
                · rcases List.mem_append.mp c with c | c
                  · exact hb (List.mem_cons_of_mem _ c)
                  · exact hu' (by simpa using c)
              exact ⟨p', u', e, by rw [upd_ne (show p' ≠ p from fun c => hb (by rw [c]; exact List.mem_cons_self ..))]; exact a1, a2, a3, by rw [ov_out hb] at a4; rw [ov_out hb3]; exact a4, r'⟩
        exact q s1 _ σ _ l1.h0 M2 (h1.mut hp0.2.1 hp0.2.2.1)
      · cases e
    · cases e
end Cl

set_option Elab.async false
set_option linter.all false
set_option maxRecDepth 100000
set_option maxHeartbeats 4000000
namespace Cl
open PySem L2 PySem.Spec PyProof.Rows
def rowOf : PyData → Option (List PyData)
  | .tuple ds => some ds
  | .list ds => some ds
  | _ => none
def rowsOf : List PyData → Option Rows
  | [] => some []
  | d :: r => (rowOf d).bind fun x => (rowsOf r).map (x :: ·)
theorem rowsOf_get : ∀ {ds : List PyData} {rows : Rows}, rowsOf ds = some rows → ds.length = rows.length ∧ ∀ (j : Nat) (d : PyData), ds[j]? = some d → ∃ row, rows[j]? = some row ∧ rowOf d = some row
  | [], _, e => by cases e; exact ⟨rfl, fun j d h => by simp at h⟩
  | d :: r, rows, e => by
    unfold rowsOf at e
    cases e1 : rowOf d with
    | none => rw [e1] at e; cases e
    | some x =>
      rw [e1, Option.bind_some] at e
      cases e2 : rowsOf r with
      | none => rw [e2] at e; cases e
      | some l =>
        rw [e2] at e; cases e
        obtain ⟨h1, h2⟩ := rowsOf_get e2
        refine ⟨by rw [List.length_cons, List.length_cons, h1], fun j y h => ?_⟩
        cases j with
        | zero => cases h; exact ⟨x, rfl, e1⟩
        | succ j => exact h2 j y h
/-- [list(x) for x in e] -/
theorem mxL_ok {C : Cf} (k : Nat) {J : It} {items : List PyData} {rows : Rows} {sE s1 : Sh} {HE H1 : Hp} {σ : L2.St} {Γ : Ev} {w : C.T} (S : Sl C.K sE HE s1 H1 σ Γ) (h1 : HO' C.K C.Wd s1 H1 w) (wk : Wk C J s1.H0 items) (hr : rowsOf items = some rows) (hl : items.length ≤ 100000) (hk : k < Γ.length)
    (Q : VK) (q : ∀ s' H' D qs, Le s1 H1 s' H' → HO' C.K C.Wd s' H' w → H' D = some (.lst (qs.map .ref)) → RowsR C.K s'.H0 H' qs rows → (D :: qs).Nodup → (∀ a ∈ D :: qs, H1 a = none ∧ s'.H0 a = none ∧ s'.HW a = none) → Q (.ref D) H') :
    tLc (fun σ H R => R J H) (gName k) tYes (tCB (rListA C.K) (tCons (tVar k) tNil)) [k] σ H1 Q := by
  obtain ⟨hlen, hget⟩ := rowsOf_get hr
  intro D hD
  refine ⟨fun j m H2 => m = items.length - j ∧ j ≤ items.length ∧ ∃ s2 qs, Le s1 H1 s2 H2 ∧ HO' C.K C.Wd s2 H2 w ∧ H2 D = some (.lst (qs.map .ref)) ∧ RowsR C.K s2.H0 H2 qs (rows.take j) ∧ (D :: qs).Nodup ∧ (∀ a ∈ D :: qs, H1 a = none ∧ s2.H0 a = none ∧ s2.HW a = none),
    ⟨_, rfl, Nat.zero_le _, s1, [], Le.new hD, h1.new hD, upd_same, .nil, by simp, fun a ha => by
      have : a = D := by simpa using ha
      subst this
      exact ⟨hD, h1.none0 hD, h1.noneW hD⟩⟩, ?_⟩
  rintro j m H2 ⟨rfl, hj, s2, qs, l2, h2, eD, rr, nd, own⟩
  by_cases hlt : j < items.length
  · refine .inr ⟨wk.go h2 l2.h0 hlt, fun H' => ∃ s2 qs, Le s1 H1 s2 H' ∧ HO' C.K C.Wd s2 H' w ∧ H' D = some (.lst (qs.map .ref)) ∧ RowsR C.K s2.H0 H' qs (rows.take (j + 1)) ∧ (D :: qs).Nodup ∧ (∀ a ∈ D :: qs, H1 a = none ∧ s2.H0 a = none ∧ s2.HW a = none),
      fun H' z => ⟨_, by omega, rfl, hlt, z⟩, fun x H' y => ?_⟩
    obtain ⟨s3, d, hd, l3, h3, r3⟩ := wk.yld h2 l2.h0 hlt y
    obtain ⟨row, hrow, hro⟩ := hget j d hd
    have S3 := (S.le (l2.trans l3)).wipe [k]
    have ek : (SG.name (C := C) k).asg d (wipeE Γ [k]) = some ((wipeE Γ [k]).set k (some (.dat d))) := if_pos (by rw [wipeE_length]; exact hk)
    rw [show gName k = (SG.name (C := C) k).t from rfl]
    refine (SG.name (C := C) k).ok S3 h3.ex r3 ek _ fun σ3 S4 wp => ⟨?_, ?_⟩
    · rw [wp [k] (by intro i hi; exact hi)]
      have : ∀ τ : L2.St, wipe (wipe τ [k]) [k] = wipe τ [k] := fun τ => by
        show ((τ.set k none).set k none) = τ.set k none
        rw [List.set_set]
      exact this σ
    · unfold tYes
      simp only []
      rw [if_pos trivial]
      have g4 : ((wipeE Γ [k]).set k (some (.dat d)))[k]? = some (some (.dat d)) := by rw [List.getElem?_set_self (by rw [wipeE_length]; exact hk)]
      obtain ⟨v, gv, rv⟩ := S4.sl _ _ g4
      have rv : Rp C.K s3.H0 v d := rv
      have keyf : ∃ p ys, v = .ref p ∧ (SqL C.K H' p ys ∨ SqT C.K H' p ys) ∧ RpA C.K s3.H0 ys row := by
        cases d with
        | tuple ds =>
          cases hro
          cases rv with
          | tup hp ry => exact ⟨_, _, rfl, .inr (h3.ex.t hp), ry⟩
        | list ds =>
          cases hro
          cases rv with
          | lst hp ry => exact ⟨_, _, rfl, .inl (.inl (.inl (h3.ex _ _ hp))), ry⟩
        | none => cases hro
        | bool _ => cases hro
        | int _ => cases hro
        | str _ => cases hro
        | dict _ => cases hro
      obtain ⟨p, ys, rfl, hs, ry⟩ := keyf
      refine ⟨_, gv, p, ys, rfl, hs, fun u hu => ?_⟩
      have fr3 : ∀ a ∈ D :: qs, ∃ zs, H2 a = some (.lst zs) := fun a ha => by
        rcases List.mem_cons.mp ha with c | c
        · rw [c]; exact ⟨_, eD⟩
        · exact rr.mem a c
      have own3 : ∀ a ∈ D :: qs, H' a = H2 a ∧ s3.H0 a = none ∧ s3.HW a = none := fun a ha => by
        obtain ⟨zs, hz⟩ := fr3 a ha
        obtain ⟨k1, k2, k3⟩ := own a ha
        exact ⟨by rw [hz]; exact l3.fr a _ hz k3, l3.nf a _ hz (NT.lst _) k2, l3.nw a _ hz k3⟩
      have nu : u ∉ D :: qs := fun c => by
        obtain ⟨zs, hz⟩ := fr3 u c
        rw [← (own3 u c).1, hu] at hz; cases hz
      have Du : D ≠ u := fun c => nu (by rw [c]; exact List.mem_cons_self ..)
      have nd' := List.nodup_cons.mp nd
      have eD5 : upd H' u (.lst ys) D = some (.lst (qs.map .ref)) := by rw [upd_ne Du, (own3 D (List.mem_cons_self ..)).1]; exact eD
      refine ⟨_, eD5, ?_, s3, qs ++ [u], ((l2.trans l3).trans (Le.new hu)).mut hD, (h3.new hu).mut (own3 D (List.mem_cons_self ..)).2.1 (own3 D (List.mem_cons_self ..)).2.2, ?_, ?_, ?_, fun a ha => ?_⟩
      · rw [List.length_map, rr.len, List.length_take]
        have : (100000 : Nat) ≤ sizeLine := by decide
        omega
      · rw [upd_same]; simp
      · have e1 : rows.take (j + 1) = rows.take j ++ [row] := by
          rw [List.take_succ, hrow]; rfl
        rw [e1]
        have r5 : RowsR C.K s3.H0 (upd H' u (.lst ys)) qs (rows.take j) := rr.mono l3.h0 fun b hb => by
          rw [upd_ne fun c => nu (by rw [← c]; exact List.mem_cons_of_mem _ hb)]
          exact (own3 b (List.mem_cons_of_mem _ hb)).1
        refine (r5.snoc upd_same ry).mono (Ex.refl _) fun b hb => upd_ne fun c => ?_
        rw [c] at hb
        rcases List.mem_append.mp hb with hb | hb
        · exact nd'.1 hb
        · exact Du (by simpa using hb)
      · refine List.nodup_cons.mpr ⟨fun c => ?_, List.nodup_append.mpr ⟨nd'.2, by simp, fun b hb c hc z => ?_⟩⟩
        · rcases List.mem_append.mp c with c | c
          · exact nd'.1 c
          · exact Du (by simpa using c)
        · have : c = u := by simpa using hc
          subst this
          subst z
          exact nu (List.mem_cons_of_mem _ hb)
      · have : a ∈ D :: qs ∨ a = u := by
          rcases List.mem_cons.mp ha with c | c
          · exact .inl (by rw [c]; exact List.mem_cons_self ..)
          · rcases List.mem_append.mp c with c | c
            · exact .inl (List.mem_cons_of_mem _ c)
            · exact .inr (by simpa using c)
        rcases this with c | c
        · exact ⟨(own a c).1, (own3 a c).2.1, (own3 a c).2.2⟩
        · rw [c]
          exact ⟨(l2.trans l3).none0 hu, h3.none0 hu, h3.noneW hu⟩
  · have ej : j = items.length := by omega
    subst ej
    rw [hlen, List.take_length] at rr
    exact .inl ⟨wk.stop h2 l2.h0, q s2 H2 D qs l2 h2 eD rr nd own⟩
def SS.mxL {C : Cf} (i k : Nat) (it : SI C) (b : MS C i) : SS C where
  t := tSeq (tAsg (tLc it.t (gName k) tYes (tCB (rListA C.K) (tCons (tVar k) tNil)) [k]) (gName i)) b.t
  ev := fun Γ w => if i < Γ.length ∧ k < Γ.length ∧ Γ.all notPt = true then (match it.ev Γ w with
      | some (.ok items w1) => if items.length ≤ 100000 then (match rowsOf items with
          | some rows0 => (match b.ev rows0 (Γ.set i (some .pt)) w1 with
            | some (rows, Γ', w') => if (Γ'.set i none).all notPt = true then some (.nx (Γ'.set i (some (.dat (.list (rows.map .list))))) w') else none
            | none => none)
          | none => none) else none
      | _ => none)
    else none
  ok := by
    intro sE HE s H σ Γ w fl S h e D q
    split at e
    · rename_i hc
      split at e
      · rename_i items w1 e1
        split at e
        · rename_i hl
          split at e
          · rename_i rows0 hr
            split at e
            · rename_i rows Γ' w' eb
              split at e
              · rename_i hn
                cases e
                refine it.ok S h e1 _ fun s1 H1 l1 h1 J wk => ?_
                refine mxL_ok k (S.le l1) h1 wk hr hl hc.2.1 (fun x H1 => gName i x σ H1 (b.t D)) fun s2 H2 Dd qs l2 h2 eD rr nd own => ?_
                obtain ⟨M, hM⟩ := mxStart (S.le l1) l2 h2 hc.1 hc.2.2 eD rr nd own
                refine b.ok M hM eb D fun s' H' σ' qs' x' M' h' => ?_
                obtain ⟨s3, x2, x3, S2, h3⟩ := mxEnd ((S.le l1).le l2) M' h' hn
                exact q s3 H' σ' ((l1.h0.trans l2.h0).trans x3) S2 h3
              · cases e
            · cases e
          · cases e
        · cases e
      · cases e
    · cases e
end Cl

set_option Elab.async false
set_option linter.all false
set_option maxRecDepth 100000
set_option maxHeartbeats 4000000
namespace Cl
open PySem L2 PySem.Spec PyProof.Rows
def CMS {C : Cf} {i : Nat} (X : Cx) (st : Stmt) (a : MS C i) : Prop := PS X st a.t
def CMSs {C : Cf} {i : Nat} (X : Cx) (sts : List Stmt) (a : MS C i) : Prop := PSs X sts a.t
section
variable {X : Cx} {Wd : World} {i : Nat} {a b c tg iter : Expr} {sa : SE (cf X Wd)} {ta : ST (cf X Wd)} {sg : SG (cf X Wd)} {s1 : SS (cf X Wd)} {m1 m2 : MS (cf X Wd) i} {st st2 : Stmt} {r : List Stmt} {pos spos : Pos}
theorem cms_lift (h : CS X st s1) : CMS X st (MS.lift (i := i) s1) := h
theorem cmss_lift (h : CSs X r s1) : CMSs X r (MS.lift (i := i) s1) := h
theorem cmss_one (h : CMS X st m1) : CMSs X [st] m1 := pss_one h
theorem cmss_cons (h : CMS X st m1) (h2 : CMSs X r m2) : CMSs X (st :: r) (MS.seq m1 m2) := show PSs X (st :: r) (tSeq m1.t m2.t) from pss_cons h h2
theorem cms_if {es' sts : List Stmt} (hc : CT X c ta) (h1 : CMSs X sts m1) (h2 : CMSs X es' m2) : CMS X (.If c sts es' pos) (MS.ite ta m1 m2) := ps_if hc h1 h2
theorem cms_for {body : List Stmt} {it : SI (cf X Wd)} (hp : PassesOwn (model X.prog X.w) X.A X.env X.xe) (hi : CI X tg iter it) (hg : CG X tg sg) (hb : CMSs X body m1) (hc : X.calm = true := by rfl) (hs : ∀ x, foldedSetIterable iter X.env x = pure x := by intro _; rfl) :
    CMS X (.For tg iter body [] pos) (MS.for it sg m1) := ps_for hp hc hi hg hb hs
theorem cms_forLen {body : List Stmt} {x : Str} {p p2 p3 q q2 : Pos} (T : Bts X.mg) (hp : PassesOwn (model X.prog X.w) X.A X.env X.xe) (hg : CG X tg sg) (hb : CMSs X body m1)
    (hi : X.N[i]? = some x := by rfl) (hv : Vis X.env.scope x := by first | exact Or.inl rfl | exact Or.inr (Or.inl rfl) | exact Or.inr (Or.inr rfl)) (hd : (x == ("__debug__" : Str)) = false := by decide) (hcd : (x == ("__classdict__" : Str)) = false := by decide)
    (hgr : Gl X "range" := by rfl) (hgl : Gl X "len" := by rfl)
    (hs1 : starEach [.Name x p3] X.env = (false, eval (.Name x p3) X.env) :: starEach [] X.env := by rfl)
    (hs2 : starEach [.Call (.Name "len" p2) [.Name x p3] [] q2] X.env = [(false, eval (.Call (.Name "len" p2) [.Name x p3] [] q2) X.env)] := by rfl)
    (hc : X.calm = true := by rfl) (hs : ∀ x', foldedSetIterable (.Call (.Name "range" p) [.Call (.Name "len" p2) [.Name x p3] [] q2] [] q) X.env x' = pure x' := by intro _; rfl) :
    CMS X (.For tg (.Call (.Name "range" p) [.Call (.Name "len" p2) [.Name x p3] [] q2] [] q) body [] pos) (MS.forLen sg m1) :=
  ps_for hp hc (pi_range1 hgr T.range (pa_cons (pe_callB cr_lenA hgl T.len bt_len (pa_cons (pe_var hi hv hd hcd) pa_nil hs1) (by decide) (by decide) hs1) pa_nil hs2) hs2) hg hb hs
theorem cms_forRow {body : List Stmt} (j : Nat) {x y : Str} {p p2 p3 p4 p5 q q2 : Pos} (T : Bts X.mg) (hp : PassesOwn (model X.prog X.w) X.A X.env X.xe) (hg : CG X tg sg) (hb : CMSs X body m1)
    (hi : X.N[i]? = some x := by rfl) (hv : Vis X.env.scope x := by first | exact Or.inl rfl | exact Or.inr (Or.inl rfl) | exact Or.inr (Or.inr rfl)) (hd : (x == ("__debug__" : Str)) = false := by decide) (hcd : (x == ("__classdict__" : Str)) = false := by decide)
    (hj : X.N[j]? = some y := by rfl) (hv2 : Vis X.env.scope y := by first | exact Or.inl rfl | exact Or.inr (Or.inl rfl) | exact Or.inr (Or.inr rfl)) (hd2 : (y == ("__debug__" : Str)) = false := by decide) (hcd2 : (y == ("__classdict__" : Str)) = false := by decide)
    (hgr : Gl X "range" := by rfl) (hgl : Gl X "len" := by rfl)
    (hs1 : starEach [.Subscript (.Name x p3) (.Name y p4) p5] X.env = (false, eval (.Subscript (.Name x p3) (.Name y p4) p5) X.env) :: starEach [] X.env := by rfl)
    (hs2 : starEach [.Call (.Name "len" p2) [.Subscript (.Name x p3) (.Name y p4) p5] [] q2] X.env = [(false, eval (.Call (.Name "len" p2) [.Subscript (.Name x p3) (.Name y p4) p5] [] q2) X.env)] := by rfl)
    (hc : X.calm = true := by rfl) (hs : ∀ x', foldedSetIterable (.Call (.Name "range" p) [.Call (.Name "len" p2) [.Subscript (.Name x p3) (.Name y p4) p5] [] q2] [] q) X.env x' = pure x' := by intro _; rfl) :
    CMS X (.For tg (.Call (.Name "range" p) [.Call (.Name "len" p2) [.Subscript (.Name x p3) (.Name y p4) p5] [] q2] [] q) body [] pos) (MS.forRow j sg m1) :=
  ps_for hp hc (pi_range1 hgr T.range (pa_cons (pe_callB cr_lenA hgl T.len bt_len (pa_cons (pe_ix ix_A (pe_var hi hv hd hcd) (pe_var hj hv2 hd2 hcd2) (fun _ _ => rfl)) pa_nil hs1) (by decide) (by decide) hs1) pa_nil hs2) hs2) hg hb hs
theorem cms_put (j k : Nat) {x y z : Str} {p p2 p3 p4 p5 : Pos} (ha : CE X a sa)
    (hi : X.N[i]? = some x := by rfl) (hv : Vis X.env.scope x := by first | exact Or.inl rfl | exact Or.inr (Or.inl rfl) | exact Or.inr (Or.inr rfl)) (hd : (x == ("__debug__" : Str)) = false := by decide) (hcd : (x == ("__classdict__" : Str)) = false := by decide)
    (hj : X.N[j]? = some y := by rfl) (hv2 : Vis X.env.scope y := by first | exact Or.inl rfl | exact Or.inr (Or.inl rfl) | exact Or.inr (Or.inr rfl)) (hd2 : (y == ("__debug__" : Str)) = false := by decide) (hcd2 : (y == ("__classdict__" : Str)) = false := by decide)
    (hk : X.N[k]? = some z := by rfl) (hv3 : Vis X.env.scope z := by first | exact Or.inl rfl | exact Or.inr (Or.inl rfl) | exact Or.inr (Or.inr rfl)) (hd3 : (z == ("__debug__" : Str)) = false := by decide) (hcd3 : (z == ("__classdict__" : Str)) = false := by decide)
    (hq : ∀ v, assign (.Subscript (.Subscript (.Name x p) (.Name y p2) p3) (.Name z p4) p5) X.env v = (do
      let ov ← holding [v] (eval (.Subscript (.Name x p) (.Name y p2) p3) X.env)
      let iv ← holding [v, ov] (eval (.Name z p4) X.env)
      standAt p5
      holding [v, ov, iv] (setItem ov iv v)
      release [v, ov, iv] []) := by intro _; rfl)
    (hs : swapsWithSole [.Subscript (.Subscript (.Name x p) (.Name y p2) p3) (.Name z p4) p5] a pos.line X.env = pure false := by rfl) (hw : swappedStores [.Subscript (.Subscript (.Name x p) (.Name y p2) p3) (.Name z p4) p5] a X.env = pure none := by rfl)
    (h1 : (assignEach [.Subscript (.Subscript (.Name x p) (.Name y p2) p3) (.Name z p4) p5] X.env).map (·.2) = [assign (.Subscript (.Subscript (.Name x p) (.Name y p2) p3) (.Name z p4) p5) X.env] := by rfl) :
    CMS X (.Assign [.Subscript (.Subscript (.Name x p) (.Name y p2) p3) (.Name z p4) p5] a pos) (MS.put (i := i) j k sa) :=
  ps_asg ha (pg_sub (pe_ix ix_A (pe_var hi hv hd hcd) (pe_var hj hv2 hd2 hcd2) (fun _ _ => rfl)) (pe_var hk hv3 hd3 hcd3) set_list hq) hs hw h1
theorem cms_put1 (j k : Nat) {x y z : Str} {p p2 p3 p4 p5 q1 q2 q3 q4 q5 q6 q7 q8 : Pos} {kc : Nat} (ha : CE X a sa)
    (hi : X.N[i]? = some x := by rfl) (hv : Vis X.env.scope x := by first | exact Or.inl rfl | exact Or.inr (Or.inl rfl) | exact Or.inr (Or.inr rfl)) (hd : (x == ("__debug__" : Str)) = false := by decide) (hcd : (x == ("__classdict__" : Str)) = false := by decide)
    (hj : X.N[j]? = some y := by rfl) (hv2 : Vis X.env.scope y := by first | exact Or.inl rfl | exact Or.inr (Or.inl rfl) | exact Or.inr (Or.inr rfl)) (hd2 : (y == ("__debug__" : Str)) = false := by decide) (hcd2 : (y == ("__classdict__" : Str)) = false := by decide)
    (hk : X.N[k]? = some z := by rfl) (hv3 : Vis X.env.scope z := by first | exact Or.inl rfl | exact Or.inr (Or.inl rfl) | exact Or.inr (Or.inr rfl)) (hd3 : (z == ("__debug__" : Str)) = false := by decide) (hcd3 : (z == ("__classdict__" : Str)) = false := by decide)
    (hq : ∀ v, assign (.Subscript (.Subscript (.Name x p) (.Name y p2) p3) (.Name z p4) p5) X.env v = (do
      let ov ← holding [v] (eval (.Subscript (.Name x p) (.Name y p2) p3) X.env)
      let iv ← holding [v, ov] (eval (.Name z p4) X.env)
      standAt p5
      holding [v, ov, iv] (setItem ov iv v)
      release [v, ov, iv] []) := by intro _; rfl)
    (hs : swapsWithSole [.Subscript (.Subscript (.Name x p) (.Name y p2) p3) (.Name z p4) p5] (.BinOp (.BinOp (.Subscript (.Subscript (.Name x q1) (.Name y q2) q3) (.Name z q4) q5) .Add (.Constant (.int 1) kc q6) q7) .Add a q8) pos.line X.env = pure false := by rfl)
    (hw : swappedStores [.Subscript (.Subscript (.Name x p) (.Name y p2) p3) (.Name z p4) p5] (.BinOp (.BinOp (.Subscript (.Subscript (.Name x q1) (.Name y q2) q3) (.Name z q4) q5) .Add (.Constant (.int 1) kc q6) q7) .Add a q8) X.env = pure none := by rfl)
    (h1 : (assignEach [.Subscript (.Subscript (.Name x p) (.Name y p2) p3) (.Name z p4) p5] X.env).map (·.2) = [assign (.Subscript (.Subscript (.Name x p) (.Name y p2) p3) (.Name z p4) p5) X.env] := by rfl) :
    CMS X (.Assign [.Subscript (.Subscript (.Name x p) (.Name y p2) p3) (.Name z p4) p5] (.BinOp (.BinOp (.Subscript (.Subscript (.Name x q1) (.Name y q2) q3) (.Name z q4) q5) .Add (.Constant (.int 1) kc q6) q7) .Add a q8) pos) (MS.put1 (i := i) j k sa) :=
  ps_asg (pe_op op_addA (pe_op op_addA (pe_ix ix_A (pe_ix ix_A (pe_var hi hv hd hcd) (pe_var hj hv2 hd2 hcd2) (fun _ _ => rfl)) (pe_var hk hv3 hd3 hcd3) (fun _ _ => rfl)) pe_int) ha) (pg_sub (pe_ix ix_A (pe_var hi hv hd hcd) (pe_var hj hv2 hd2 hcd2) (fun _ _ => rfl)) (pe_var hk hv3 hd3 hcd3) set_list hq) hs hw h1
theorem cms_app {x : Str} {p ap : Pos} (ha : CE X a sa) (hi : X.N[i]? = some x := by rfl) (hv : Vis X.env.scope x := by first | exact Or.inl rfl | exact Or.inr (Or.inl rfl) | exact Or.inr (Or.inr rfl)) (hd : (x == ("__debug__" : Str)) = false := by decide) (hcd : (x == ("__classdict__" : Str)) = false := by decide)
    (hbase : attributeBase (.Name x p) "append" X.env (eval (.Name x p) X.env) = eval (.Name x p) X.env := by rfl)
    (hfew : ((backTo pos (starEach [a] X.env)).all (fun x => !x.1) && (backToKw pos (keywordEach [] X.env)).all (fun x => x.1.isSome) && decide ([a].length + ([] : List Keyword).length + (if ([] : List Keyword).isEmpty then 0 else 1) < 30)) = true := by rfl)
    (hline : (ap.endLine == pos.line) = true := by rfl) (hs : starEach [a] X.env = (false, eval a X.env) :: starEach [] X.env := by rfl) (hplain : (backTo pos (starEach [] X.env)).any (·.1) = false := by rfl)
    (hw : swapsWith (.Call (.Attribute (.Name x p) "append" ap) [a] [] pos) none spos.line X.env = pure false := by rfl) :
    CMS X (.Expr (.Call (.Attribute (.Name x p) "append" ap) [a] [] pos) spos) (MS.app (i := i) sa) :=
  ps_expr (pe_bm PySem.F.plainAttrs_list PySem.F.slot_list_append PySem.F.type_list_append mt_append (pe_var hi hv hd hcd) (pa_cons ha pa_nil hs) hbase hfew hline hs hplain) hw
/-- m = [], one statement or two that work on it -/
theorem css_mxE1 {x : Str} {p lp : Pos} {rs : SS (cf X Wd)} (hN : X.N.Nodup) (h1 : CMS X st m1) (h : CSs X r rs) (hi : X.N[i]? = some x := by rfl) (hx : Loc X.env.scope x := by first | exact .inl rfl | exact .inr rfl) (hs : swapsWith (.List [] lp) (some (.Name x p)) pos.line X.env = pure false := by rfl) (hf : X.fn x = true ∨ X.env.scope.names.lookup x = some .local := by first | exact .inl rfl | exact .inr rfl) :
    CSs X (.Assign [.Name x p] (.List [] lp) pos :: st :: r) (SS.seq (SS.mxE i m1) rs) :=
  show PSs X _ (tSeq (tAsg (tLst tNil) (gName i)) (tSeq m1.t rs.t)) from pss_cons (ps_set hN hi hx (pe_lst pa_nil) hs hf) (pss_cons h1 h)
theorem css_mxE2 {x : Str} {p lp : Pos} {rs : SS (cf X Wd)} (hN : X.N.Nodup) (h1 : CMS X st m1) (h2 : CMS X st2 m2) (h : CSs X r rs) (hi : X.N[i]? = some x := by rfl) (hx : Loc X.env.scope x := by first | exact .inl rfl | exact .inr rfl) (hs : swapsWith (.List [] lp) (some (.Name x p)) pos.line X.env = pure false := by rfl) (hf : X.fn x = true ∨ X.env.scope.names.lookup x = some .local := by first | exact .inl rfl | exact .inr rfl) :
    CSs X (.Assign [.Name x p] (.List [] lp) pos :: st :: st2 :: r) (SS.seq (SS.mxE i (MS.seq m1 m2)) rs) :=
  show PSs X _ (tSeq (tAsg (tLst tNil) (gName i)) (tSeq m1.t (tSeq m2.t rs.t))) from pss_cons (ps_set hN hi hx (pe_lst pa_nil) hs hf) (pss_cons h1 (pss_cons h2 h))
/-- m = [list(v) for v in e], one statement that works on it -/
theorem css_mxL1 (k : Nat) {iter : Expr} {scope : Scope} {it : SI (cf X Wd)} {v y : Str} {pv pc pl pn py spos : Pos} {rs : SS (cf X Wd)} (T : Bts X.mg) (own : List (Str × Nat)) (hown : own = [(v, k)]) (hN : X.N.Nodup) (hi : CI X (.Name v pv) iter it) (ok : BlkOk X.N X.env.scope scope own)
    (h1 : CMS X st m1) (h : CSs X r rs)
    (hk : X.N[k]? = some v := by rfl) (hy : X.N[i]? = some y := by rfl) (hyl : X.env.scope.names.lookup y = some .local := by rfl) (hkf : X.env.scope.kind = .function := by rfl) (hl : (py.line == pos.line) = true := by rfl)
    (hn : (scope.names.any fun (n, k) => n == y && (k == .local || k == .cell)) = false := by decide +kernel) (hc : X.calm = true := by rfl) (hs : ∀ x, foldedSetIterable iter X.env x = pure x := by intro _; rfl)
    (hg : ∀ (s : Shared) (H : Hp) (C : Addr) (cl : List (Str × Addr)) (fp : List Addr), PG (X.blk s H scope (compEnvC scope cl C X.env) fp) (.Name v pv) (gName k))
    (he : ∀ (s : Shared) (H : Hp) (C : Addr) (cl : List (Str × Addr)) (fp : List Addr), PE (X.blk s H scope (compEnvC scope cl C X.env) fp) (.Call (.Name "list" pl) [.Name v pn] [] pc) (tCB (rListA X.K) (tCons (tVar k) tNil))) :
    CSs X (.Assign [.Name y py] (.ListComp (.Call (.Name "list" pl) [.Name v pn] [] pc) [⟨.Name v pv, iter, [], 0⟩] scope pos) spos :: st :: r) (SS.seq (SS.mxL i k it m1) rs) := by
  subst hown
  exact show PSs X _ (tSeq (tAsg (tLc it.t (gName k) tYes (tCB (rListA X.K) (tCons (tVar k) tNil)) [k]) (gName i)) (tSeq m1.t rs.t)) from
    pss_cons (ps_setLc hc hN hy hyl (sw_true hkf hyl hl hn) hi ok hg (fun _ _ _ _ _ => pts_nil) he hs) (pss_cons h1 h)
end
end Cl

set_option Elab.async false
set_option linter.all false
set_option maxRecDepth 100000
set_option maxHeartbeats 4000000
namespace Cl
open PySem L2 PySem.Spec PyProof.Rows
/-! ### the world of draws: [script, position, seed, rest] -/
abbrev Dr := List Int × Int × Int × Int
@[reducible] def Ws : World where
  T := Option Dr
  rel := fun K H0 HW ad w => match w with
    | none => ad = []
    | some (ns, i, m, r) => ∃ p q, ad[0]? = some p ∧ ad[1]? = some q ∧ HW p = some (.lst [.ref q, .int i, .int m, .int r]) ∧ SqL K H0 q (ns.map .int)
  mono := by
    intro K H0 H0' HW ad w e h
    match w, h with
    | none, h => exact h
    | some (ns, i, m, r), ⟨p, q, h1, h2, h3, h4⟩ => exact ⟨p, q, h1, h2, h3, e.l h4⟩
abbrev cs (K : PySem.W.Frag) (mg : Str → Option Value) (E : XK) : Cf := ⟨K, mg, Ws, E⟩
def drAt : Dr → Nat → Option PyData
  | (_, i, _, _), 1 => some (.int i)
  | (_, _, m, _), 2 => some (.int m)
  | (_, _, _, r), 3 => some (.int r)
  | _, _ => none
def drSet : Dr → Nat → Int → Option Dr
  | (ns, _, m, r), 1, x => some (ns, x, m, r)
  | (ns, i, _, r), 2, x => some (ns, i, x, r)
  | (ns, i, m, _), 3, x => some (ns, i, m, x)
  | _, _, _ => none
section
variable {K : PySem.W.Frag} {mg : Str → Option Value} {E : XK}
theorem dr_at {sE s : Sh} {HE H : Hp} {σ : L2.St} {Γ : Ev} {ns : List Int} {a m r : Int} {i : Nat} (S : Sl K sE HE s H σ Γ) (h : HO' K Ws s H (some (ns, a, m, r))) (g : Γ[i]? = some (some (.hd 0))) :
    ∃ p q, σ[i]? = some (some (.ref p)) ∧ s.ad[0]? = some p ∧ s.ad[1]? = some q ∧ s.HW p = some (.lst [.ref q, .int a, .int m, .int r]) ∧ SqL K s.H0 q (ns.map .int) := by
  obtain ⟨v, gv, b, hb, rfl⟩ := S.sl _ _ g
  obtain ⟨p, q, h1, h2, h3, h4⟩ := h.rel
  rw [h1] at hb; cases hb
  exact ⟨_, q, gv, h1, h2, h3, h4⟩
def wixK (k : Nat) (g : Option (Option Sv)) (w : Option Dr) : Option (Rs (Option Dr) Rv) := match g, w with
  | some (some (.hd 0)), some d => (drAt d k).map fun x => .ok (.dat x) (some d)
  | _, _ => none
def wsetK (k : Nat) (Γ : Ev) (g : Option (Option Sv)) (w : Option Dr) (d : PyData) : Option (Fl (Option Dr)) := match g, w, d with
  | some (some (.hd 0)), some x, .int z => (drSet x k z).map fun y => .nx Γ (some y)
  | _, _, _ => none
theorem wixK_inv {k : Nat} {g : Option (Option Sv)} {w : Option Dr} {res : Rs (Option Dr) Rv} (h : wixK k g w = some res) : ∃ d x, g = some (some (.hd 0)) ∧ w = some d ∧ drAt d k = some x ∧ res = .ok (.dat x) (some d) := by
  unfold wixK at h
  split at h
  · rename_i d
    cases e : drAt d k with
    | none => rw [e] at h; cases h
    | some x => rw [e] at h; cases h; exact ⟨_, x, rfl, rfl, e, rfl⟩
  · cases h
theorem wsetK_inv {k : Nat} {Γ : Ev} {g : Option (Option Sv)} {w : Option Dr} {d : PyData} {fl : Fl (Option Dr)} (h : wsetK k Γ g w d = some fl) : ∃ x z y, g = some (some (.hd 0)) ∧ w = some x ∧ d = .int z ∧ drSet x k z = some y ∧ fl = .nx Γ (some y) := by
  unfold wsetK at h
  split at h
  · rename_i x z
    cases e : drSet x k z with
    | none => rw [e] at h; cases h
    | some y => rw [e] at h; cases h; exact ⟨x, z, y, rfl, rfl, rfl, e, rfl⟩
  · cases h
/-- state[k] -/
def SE.wix (i k : Nat) : SE (cs K mg E) where
  t := tOp (rIxA K) (tVar i) (tC (.int (k : Nat)))
  ev := fun Γ w => wixK k Γ[i]? w
  ok := by
    intro sE HE s H σ Γ w res S h e Q q
    obtain ⟨d, x, g, ew, e1, rfl⟩ := wixK_inv (show wixK k Γ[i]? w = some res from e)
    have ew : w = some d := ew
    subst ew
    obtain ⟨ns, a, m, r⟩ := d
    obtain ⟨p, u, gv, h1, h2, h3, h4⟩ := dr_at S h g
    have hp := h.exW _ _ h3
    have key : ∃ v, atI [V.ref u, .int a, .int m, .int r] (k : Nat) = some v ∧ Rp K s.H0 v x := by
      unfold drAt at e1
      split at e1
      · rename_i e0; cases e0; cases e1; exact ⟨_, rfl, .int _⟩
      · rename_i e0; cases e0; cases e1; exact ⟨_, rfl, .int _⟩
      · rename_i e0; cases e0; cases e1; exact ⟨_, rfl, .int _⟩
      · cases e1
    obtain ⟨v, ev, rv⟩ := key
    exact ⟨_, gv, .inl ⟨p, _, _, v, rfl, rfl, .inl (.inl hp), ev, q s H (Le.refl _ _) h v rv⟩⟩
/-- state[k] = e -/
def SS.wset (i k : Nat) (a : SE (cs K mg E)) : SS (cs K mg E) where
  t := tAsg a.t (gSub (tVar i) (tC (.int (k : Nat))) rSetL)
  ev := fun Γ w => bindF (a.evD Γ w) fun d w1 => wsetK k Γ Γ[i]? w1 d
  ok := by
    intro sE HE s H σ Γ w fl S h e D q
    rcases bindF_cases e with ⟨d, w1, e1, e2⟩ | ⟨x, w1, e1, rfl⟩
    · refine a.okD S h e1 _ fun s1 H1 l1 h1 v hv => ?_
      have S1 := S.le l1
      obtain ⟨x, z, y, g, ew, rfl, e3, rfl⟩ := wsetK_inv (show wsetK k Γ Γ[i]? w1 d = some fl from e2)
      have ew : w1 = some x := ew
      subst ew
      obtain ⟨ns, b, m, r⟩ := x
      obtain ⟨p, u, gv, h1', h2, h3, h4⟩ := dr_at S1 h1 g
      have hp := h1.exW _ _ h3
      cases hv
      have key : ∃ j, ixN 4 ((k : Nat) : Int) = some j ∧ ∃ b' m' r', y = (ns, b', m', r') ∧ [V.ref u, .int b, .int m, .int r].set j (.int z) = [V.ref u, .int b', .int m', .int r'] := by
        unfold drSet at e3
        split at e3
        · rename_i e0; cases e0; cases e3; exact ⟨1, rfl, _, _, _, rfl, rfl⟩
        · rename_i e0; cases e0; cases e3; exact ⟨2, rfl, _, _, _, rfl, rfl⟩
        · rename_i e0; cases e0; cases e3; exact ⟨3, rfl, _, _, _, rfl, rfl⟩
        · cases e3
      obtain ⟨j, ej, b', m', r', rfl, es⟩ := key
      refine ⟨_, gv, p, _, _, j, rfl, rfl, hp, ej, ?_⟩
      rw [es]
      have h2' : HO' K Ws { s1 with HW := upd s1.HW p (.lst [.ref u, .int b', .int m', .int r']) } (upd H1 p (.lst [.ref u, .int b', .int m', .int r'])) (some (ns, b', m', r')) :=
        h1.at1 h3 (NT.lst _) ⟨p, u, h1', h2, upd_same, h4⟩
      exact q { s1 with HW := upd s1.HW p (.lst [.ref u, .int b', .int m', .int r']) } _ σ l1.h0 (S1.le (Le.at1 h3 hp (NT.lst _))) h2'
    · exact a.okD S h e1 _ (exS S q)
/-- len(state[0]) -/
def wlenK (g : Option (Option Sv)) (w : Option Dr) : Option (Rs (Option Dr) Rv) := match g, w with
  | some (some (.hd 0)), some (ns, a, m, r) => some (.ok (.dat (.int (ns.length : Nat))) (some (ns, a, m, r)))
  | _, _ => none
theorem wlenK_inv {g : Option (Option Sv)} {w : Option Dr} {res : Rs (Option Dr) Rv} (h : wlenK g w = some res) : ∃ ns a m r, g = some (some (.hd 0)) ∧ w = some (ns, a, m, r) ∧ res = .ok (.dat (.int (ns.length : Nat))) (some (ns, a, m, r)) := by
  unfold wlenK at h
  split at h
  · cases h; exact ⟨_, _, _, _, rfl, rfl, rfl⟩
  · cases h
def SE.wlen (i : Nat) : SE (cs K mg E) where
  t := tCB (rLenA K) (tCons (tOp (rIxA K) (tVar i) (tC (.int ((0 : Nat) : Int)))) tNil)
  ev := fun Γ w => wlenK Γ[i]? w
  ok := by
    intro sE HE s H σ Γ w res S h e Q q
    obtain ⟨ns, a, m, r, g, ew, rfl⟩ := wlenK_inv (show wlenK Γ[i]? w = some res from e)
    have ew : w = some (ns, a, m, r) := ew
    subst ew
    obtain ⟨p, u, gv, h1, h2, h3, h4⟩ := dr_at S h g
    have hp := h.exW _ _ h3
    refine ⟨_, gv, .inl ⟨p, _, _, .ref u, rfl, rfl, .inl (.inl hp), rfl, ?_⟩⟩
    refine ⟨u, ns.map .int, rfl, .inl (h.ex.l h4), ?_⟩
    rw [List.length_map]
    exact q s H (Le.refl _ _) h (.int ns.length) (.int (ns.length : Nat))
/-- state[0][e] -/
def watK (g : Option (Option Sv)) (w : Option Dr) (d : PyData) (w1 : Option Dr) : Option (Rs (Option Dr) Rv) := match g, w, d with
  | some (some (.hd 0)), some (ns, _, _, _), .int k => (atI ns k).map fun x => .ok (.dat (.int x)) w1
  | _, _, _ => none
theorem watK_inv {g : Option (Option Sv)} {w w1 : Option Dr} {d : PyData} {res : Rs (Option Dr) Rv} (h : watK g w d w1 = some res) : ∃ ns a m r k x, g = some (some (.hd 0)) ∧ w = some (ns, a, m, r) ∧ d = .int k ∧ atI ns k = some x ∧ res = .ok (.dat (.int x)) w1 := by
  unfold watK at h
  split at h
  · rename_i ns a m r k
    cases e : atI ns k with
    | none => rw [e] at h; cases h
    | some x => rw [e] at h; cases h; exact ⟨_, _, _, _, k, x, rfl, rfl, rfl, e, rfl⟩
  · cases h
theorem atI_ints {ns : List Int} {k x : Int} (h : atI ns k = some x) : atI (ns.map V.int) k = some (V.int x) := by
  unfold L2.atI at h ⊢
  rw [List.length_map]
  cases e : ixN ns.length k with
  | none => rw [e] at h; cases h
  | some j =>
    rw [e] at h
    show (ns.map V.int)[j]? = _
    have h : ns[j]? = some x := h
    rw [List.getElem?_map, h]; rfl
def hd0 (g : Option (Option Sv)) (w : Option Dr) : Bool := match g, w with
  | some (some (.hd 0)), some _ => true
  | _, _ => false
theorem hd0_inv {g : Option (Option Sv)} {w : Option Dr} (h : hd0 g w = true) : ∃ ns a m r, g = some (some (.hd 0)) ∧ w = some (ns, a, m, r) := by
  unfold hd0 at h
  split at h
  · rename_i d; exact ⟨d.1, d.2.1, d.2.2.1, d.2.2.2, rfl, rfl⟩
  · cases h
def SE.wat (i : Nat) (a : SE (cs K mg E)) : SE (cs K mg E) where
  t := tOp (rIxA K) (tOp (rIxA K) (tVar i) (tC (.int ((0 : Nat) : Int)))) a.t
  ev := fun Γ w => if hd0 Γ[i]? w = true then bindR (a.evV Γ w) fun d w1 => watK Γ[i]? w d w1 else none
  ok := by
    intro sE HE s H σ Γ w res S h e Q q
    split at e
    · rename_i hh
      obtain ⟨ns, b, m, r, g, ew⟩ := hd0_inv hh
      have ew : w = some (ns, b, m, r) := ew
      subst ew
      obtain ⟨p, u, gv, h1, h2, h3, h4⟩ := dr_at S h g
      have hp := h.exW _ _ h3
      refine ⟨_, gv, .inl ⟨p, _, _, .ref u, rfl, rfl, .inl (.inl hp), rfl, ?_⟩⟩
      rcases bindR_cases e with ⟨d, w1, e1, e2⟩ | ⟨x, w1, e1, rfl⟩
      · obtain ⟨ns', b', m', r', k, x, g', ew, rfl, e3, rfl⟩ := watK_inv (show watK Γ[i]? _ d w1 = some res from e2)
        cases ew
        refine a.okV S h e1 _ fun s1 H1 l1 h1' v hv => ?_
        have z := hv.now h1'.ex
        have ez : v = .int k := by
          have z : Rp K s1.H0 v (.int k) := z
          cases z; rfl
        subst ez
        exact .inl ⟨u, ns.map .int, k, _, rfl, rfl, h1'.ex.l (Ex.l l1.h0 h4), atI_ints e3, q s1 H1 l1 h1' (.int x) (.int x)⟩
      · exact a.okV S h e1 _ q.ex
    · cases e
end
section
variable {X : Cx} {a : Expr} {sa : SE (cf X Ws)} {pos : Pos}
theorem ce_wix (i k : Nat) {x : Str} {p : Pos} {kc : Nat} {pc : Pos} (hi : X.N[i]? = some x := by rfl) (hv : Vis X.env.scope x := by first | exact Or.inl rfl | exact Or.inr (Or.inl rfl) | exact Or.inr (Or.inr rfl)) (hd : (x == ("__debug__" : Str)) = false := by decide) (hcd : (x == ("__classdict__" : Str)) = false := by decide) :
    CE X (.Subscript (.Name x p) (.Constant (.int (k : Nat)) kc pc) pos) (SE.wix (K := X.K) (mg := X.mg) (E := E0) i k) := pe_ix ix_A (pe_var hi hv hd hcd) pe_int (fun _ _ => rfl)
theorem cs_wset (i k : Nat) {x : Str} {p tp pc : Pos} {kc : Nat} (ha : CE X a sa) (hi : X.N[i]? = some x := by rfl) (hv : Vis X.env.scope x := by first | exact Or.inl rfl | exact Or.inr (Or.inl rfl) | exact Or.inr (Or.inr rfl)) (hd : (x == ("__debug__" : Str)) = false := by decide) (hcd : (x == ("__classdict__" : Str)) = false := by decide)
    (hq : ∀ v, assign (.Subscript (.Name x p) (.Constant (.int (k : Nat)) kc pc) tp) X.env v = (do
      let ov ← holding [v] (eval (.Name x p) X.env)
      let iv ← holding [v, ov] (eval (.Constant (.int (k : Nat)) kc pc) X.env)
      standAt tp
      holding [v, ov, iv] (setItem ov iv v)
      release [v, ov, iv] []) := by intro _; rfl)
    (hs : swapsWithSole [.Subscript (.Name x p) (.Constant (.int (k : Nat)) kc pc) tp] a pos.line X.env = pure false := by rfl) (hw : swappedStores [.Subscript (.Name x p) (.Constant (.int (k : Nat)) kc pc) tp] a X.env = pure none := by rfl)
    (h1 : (assignEach [.Subscript (.Name x p) (.Constant (.int (k : Nat)) kc pc) tp] X.env).map (·.2) = [assign (.Subscript (.Name x p) (.Constant (.int (k : Nat)) kc pc) tp) X.env] := by rfl) :
    CS X (.Assign [.Subscript (.Name x p) (.Constant (.int (k : Nat)) kc pc) tp] a pos) (SS.wset i k sa) := ps_asg ha (pg_sub (pe_var hi hv hd hcd) pe_int set_list hq) hs hw h1
theorem ce_wlen (T : Bts X.mg) {i : Nat} (ha : CE X a (SE.wix (K := X.K) (mg := X.mg) (E := E0) i 0)) (hg : Gl X "len" := by rfl) (hs : starEach [a] X.env = (false, eval a X.env) :: starEach [] X.env := by rfl) {p : Pos} : CE X (.Call (.Name "len" p) [a] [] pos) (SE.wlen (K := X.K) (mg := X.mg) (E := E0) i) := pe_callB cr_lenA hg T.len bt_len (pa_cons ha pa_nil hs) (by decide) (by decide) hs
theorem ce_wat {b : Expr} {i : Nat} (ha : CE X a (SE.wix (K := X.K) (mg := X.mg) (E := E0) i 0)) (hb : CE X b sa) (hs : PlainIx b := by exact fun _ _ => rfl) : CE X (.Subscript a b pos) (SE.wat i sa) := pe_ix ix_A ha hb hs
end
end Cl

set_option Elab.async false
set_option linter.all false
set_option maxRecDepth 100000
set_option maxHeartbeats 4000000
namespace Cl
open PySem L2 PySem.Spec PyProof.Rows
/-! ### isinstance(e, (tuple, list)) -/
def isiTLF (d : PyData) : Option Rv := if isObjD d = true then none else match kitB (tyD d) "tuple", kitB (tyD d) "list" with
  | some b, some c => some (.dat (.bool (b || c)))
  | _, _ => none
def SE.isiTL {C : Cf} (a : SE C) : SE C where
  t := tCB (rIsiT C.K) (tCons a.t (tCons (tTup (tCons (tC (.ty "tuple")) (tCons (tC (.ty "list")) tNil))) tNil))
  ev := evUn isiTLF a
  ok := by
    intro sE HE s H σ Γ w res S h e Q q
    rcases bindR_cases e with ⟨x, w1, e1, e2⟩ | ⟨x, w1, e1, rfl⟩
    · refine a.okV S h e1 _ fun s1 H1 l1 h1 v1 z1 => ?_
      obtain ⟨rv, e3, rfl⟩ := evO_inv e2
      unfold isiTLF at e3
      split at e3
      · cases e3
      · rename_i hn
        split at e3
        · rename_i b c eb ec
          cases e3
          refine ⟨(show 2 ≤ sizeLine by decide), fun tp htp => ?_⟩
          have l2 : Le s1 H1 s1 (upd H1 tp (.tup [.ty "tuple", .ty "list"])) := Le.new htp
          have h2 := h1.new (o := .tup [.ty "tuple", .ty "list"]) htp
          have ty := ((z1 s1 _ l2 h2.ex).rp h2.ex).ty (by simpa using hn)
          refine ⟨v1, tp, [.ty "tuple", .ty "list"], _, [.type "tuple", .type "list"], b || c, rfl, upd_same, .cons (.ty _) (.cons (.ty _) .nil), ty, ?_, q s1 _ (l1.trans l2) h2 _ (.bl _)⟩
          refine kitAny_cons (kit_ty eb) (fun hb => ?_) fun hb => by rw [hb]; rfl
          subst hb
          refine kitAny_cons (kit_ty ec) (fun hc => ?_) fun hc => by rw [hc]; rfl
          subst hc
          rfl
        · cases e3
    · exact a.okV S h e1 _ q.ex
section
variable {X : Cx} {Wd : World} {a : Expr} {sa : SE (cf X Wd)} {pos p p2 p3 p4 : Pos} {k : Nat}
theorem ce_isi_tuple_list (B : Bts X.mg) (ha : CE X a sa) (hg : Gl X "isinstance" := by rfl) (hx : Gl X "tuple" := by rfl) (hy : Gl X "list" := by rfl)
    (hs : starEach [a, .Tuple [.Name "tuple" p2, .Name "list" p3] k p4] X.env = (false, eval a X.env) :: starEach [.Tuple [.Name "tuple" p2, .Name "list" p3] k p4] X.env := by rfl)
    (hs2 : starEach [.Tuple [.Name "tuple" p2, .Name "list" p3] k p4] X.env = (false, eval (.Tuple [.Name "tuple" p2, .Name "list" p3] k p4) X.env) :: starEach [] X.env := by rfl)
    (hs3 : starEach [.Name "tuple" p2, .Name "list" p3] X.env = (false, eval (.Name "tuple" p2) X.env) :: starEach [.Name "list" p3] X.env := by rfl)
    (hs4 : starEach [.Name "list" p3] X.env = (false, eval (.Name "list" p3) X.env) :: starEach [] X.env := by rfl)
    (hpl : (backTo pos (starEach [.Tuple [.Name "tuple" p2, .Name "list" p3] k p4] X.env)).any (·.1) = false := by rfl) :
    CE X (.Call (.Name "isinstance" p) [a, .Tuple [.Name "tuple" p2, .Name "list" p3] k p4] [] pos) (SE.isiTL sa) :=
  pe_callB call_isiT hg B.isinstance bt_isinstance (pa_cons ha (pa_cons (pe_tup (pa_cons (pe_bltn (v := .ty "tuple") hx B.tuple bt_tuple rfl (by decide) (by decide)) (pa_cons (pe_bltn (v := .ty "list") hy B.list bt_list rfl (by decide) (by decide)) pa_nil hs4) hs3)) pa_nil hs2) hs) (by decide) (by decide) hs hpl
theorem pg_namev {x : Str} (i : Nat) (hN : X.N.Nodup) (hi : X.N[i]? = some x := by rfl) (hx : Loc X.env.scope x := by first | exact .inl rfl | exact .inr rfl) (hf : X.fn x = true ∨ X.env.scope.names.lookup x = some .local := by first | exact .inl rfl | exact .inr rfl) : PG X (.Name x pos) (gName i) := pg_name hN hi hx hf
theorem pe_listv {x : Str} (i : Nat) (B : Bts X.mg) (hi : X.N[i]? = some x := by rfl) (hv : Vis X.env.scope x := by first | exact Or.inl rfl | exact Or.inr (Or.inl rfl) | exact Or.inr (Or.inr rfl)) (hd : (x == ("__debug__" : Str)) = false := by decide) (hcd : (x == ("__classdict__" : Str)) = false := by decide)
    (hg : Gl X "list" := by rfl) (hs : starEach [.Name x p2] X.env = (false, eval (.Name x p2) X.env) :: starEach [] X.env := by rfl) :
    PE X (.Call (.Name "list" p) [.Name x p2] [] pos) (tCB (rListA X.K) (tCons (tVar i) tNil)) := pe_callTy cr_listA hg B.list bt_list (pa_cons (pe_var hi hv hd hcd) pa_nil hs) (by decide) (by decide) hs
end
end Cl

set_option Elab.async false
set_option linter.all false
set_option maxRecDepth 100000
set_option maxHeartbeats 4000000
namespace Cl
open PySem L2 PySem.Spec PyProof.Rows
/-! ### a call that is lent things of one's own and answers with a flat datum -/
structure Back (Wd : World) (okw : Wd.T → Wd.T → Bool) : Prop where
  back : ∀ {K : PySem.W.Frag} {H0 H0' HW HW' : Hp} {ad m : List Addr} {w w' : Wd.T}, okw w w' = true → Wd.rel K H0 HW ad w → Ex H0 H0' → Wd.rel K H0' HW' (ad ++ m) w' → Wd.rel K H0 HW' (ad ++ m) w'
def sameW (w w' : Option Dr) : Bool := w.isSome && decide (w = w')
@[simp] theorem sameW_some {d : Dr} : sameW (some d) (some d) = true := by simp [sameW]
theorem back_Ws : Back Ws sameW where
  back := by
    intro K H0 H0' HW HW' ad m w w' hk r e r'
    have hk : w.isSome = true ∧ w = w' := by simpa [sameW] using hk
    obtain ⟨hk, rfl⟩ := hk
    match w, hk, r, r' with
    | some (ns, a, b, c), _, ⟨p, q, h1, h2, h3, h4⟩, ⟨p', q', k1, k2, k3, k4⟩ =>
      have eq : q' = q := by
        rw [List.getElem?_append_left (List.getElem?_eq_some_iff.mp h2).1, h2] at k2
        exact (Option.some.inj k2).symm
      subst eq
      exact ⟨p', q', k1, k2, k3, h4⟩
def argOf (Γ : Ev) (j : Nat) : Option Av := match Γ[j]? with
  | some (some (.dat d)) => some (.dat d)
  | some (some (.own o)) => some (.dat o.dat)
  | some (some (.hd n)) => some (.hd n)
  | _ => none
def argsOf (Γ : Ev) : List Nat → Option (List Av)
  | [] => some []
  | j :: r => (argOf Γ j).bind fun a => (argsOf Γ r).map (a :: ·)
def varsT : List Nat → TA
  | [] => tNil
  | j :: r => tCons (tVar j) (varsT r)
theorem lend {K : PySem.W.Frag} {Wd : World} {sE : Sh} {HE : Hp} {s : Sh} {H : Hp} {σ : L2.St} {Γ : Ev} {w : Wd.T} : ∀ {js : List Nat} {as : List Av} {s1 : Sh}, Sl K sE HE s H σ Γ → HO' K Wd s1 H w → (∃ H1, s1 = { s with H0 := H1 }) → Ex s.H0 s1.H0 →
    argsOf Γ js = some as → ∃ H2 vs, Ex s1.H0 H2 ∧ HO' K Wd { s with H0 := H2 } H w ∧ AvA K { s with H0 := H2 } vs as ∧ ∀ Q : List V → Hp → Prop, Q vs H → varsT js σ H Q
  | [], as, s1, S, h, ⟨H1, e1⟩, x, e => by
    cases e
    subst e1
    exact ⟨_, [], Ex.refl _, h, .nil, fun Q q => q⟩
  | j :: r, as, s1, S, h, ⟨H1, e1⟩, x, e => by
    unfold argsOf at e
    cases ea : argOf Γ j with
    | none => rw [ea] at e; cases e
    | some a =>
      rw [ea, Option.bind_some] at e
      cases er : argsOf Γ r with
      | none => rw [er] at e; cases e
      | some as' =>
        rw [er] at e; cases e
        subst e1
        have key : ∃ H2 v, Ex H1 H2 ∧ HO' K Wd { s with H0 := H2 } H w ∧ AvR K { s with H0 := H2 } v a ∧ σ[j]? = some (some v) := by
          unfold argOf at ea
          split at ea
          · rename_i d g
            cases ea
            obtain ⟨v, gv, rv⟩ := S.sl _ _ g
            exact ⟨H1, v, Ex.refl _, h, Rp.mono x rv, gv⟩
          · rename_i o g
            cases ea
            obtain ⟨v, gv, p, u, rfl, a1, a2, a3, a4, r0⟩ := S.sl _ _ g
            cases e5 : H1 p with
            | some o5 =>
              have := h.ex _ _ e5
              rw [a1] at this; cases this
              exact ⟨H1, _, Ex.refl _, h, (r0.mono x).rp e5, gv⟩
            | none =>
              exact ⟨upd H1 p u, _, Ex.new e5, HO'.frz (s := { s with H0 := H1 }) h a1 e5 a3, ((r0.mono x).mono (Ex.new e5)).rp upd_same, gv⟩
          · rename_i n g
            cases ea
            obtain ⟨v, gv, rv⟩ := S.sl _ _ g
            exact ⟨H1, v, Ex.refl _, h, rv, gv⟩
          · cases ea
        obtain ⟨H2, v, x2, h2, rv, gv⟩ := key
        obtain ⟨H3, vs, x3, h3, rvs, hq⟩ := lend (js := r) S h2 ⟨H2, rfl⟩ (x.trans x2) er
        refine ⟨H3, v :: vs, x2.trans x3, h3, .cons ?_ rvs, fun Q q => ⟨v, gv, hq _ q⟩⟩
        cases a with
        | dat d => exact Rp.mono x3 rv
        | hd n => exact rv
def flatA : PyData → Bool
  | .none => true
  | .bool _ => true
  | .int _ => true
  | .str _ => true
  | _ => false
theorem Rp.flatA {K : PySem.W.Frag} {H H' : Hp} {v : V} {d : PyData} (r : Rp K H v d) (h : Cl.flatA d = true) : Rp K H' v d := by
  cases r with
  | non => exact .non
  | bl b => exact .bl b
  | int b => exact .int b
  | str b => exact .str b
  | _ => cases h
def SE.callV {C : Cf} (okw : C.T → C.T → Bool) (hb : Back C.Wd okw) (n : Nat) (g : PF C.Wd) (js : List Nat) : SE C where
  t := tCall (spF C.K C.mg C.Wd n g) [] C.E (varsT js)
  ev := fun Γ w => if js.length = n then (argsOf Γ js).bind fun as => (match g as w with
      | some (.ok (.dat d) w') => if okw w w' = true ∧ flatA d = true then some (.ok (.dat d) w') else none
      | _ => none)
    else none
  ok := by
    intro sE HE s H σ Γ w res S h e Q q
    split at e
    · rename_i hc
      cases ea : argsOf Γ js with
      | none => rw [ea] at e; cases e
      | some as =>
        rw [ea, Option.bind_some] at e
        split at e
        · rename_i d w' eg
          split at e
          · rename_i hf
            cases e
            obtain ⟨H2, vs, x2, h2, rv, hq⟩ := lend (s1 := s) S h ⟨s.H0, rfl⟩ (Ex.refl _) ea
            refine hq _ ?_
            have al : ∀ {js : List Nat} {as : List Av}, argsOf Γ js = some as → as.length = js.length := by
              intro js
              induction js with
              | nil => intro as e; cases e; rfl
              | cons j r ih =>
                intro as e
                unfold argsOf at e
                cases e1 : argOf Γ j with
                | none => rw [e1] at e; cases e
                | some a =>
                  rw [e1, Option.bind_some] at e
                  cases e2 : argsOf Γ r with
                  | none => rw [e2] at e; cases e
                  | some l => rw [e2] at e; cases e; rw [List.length_cons, List.length_cons, ih e2]
            refine ⟨by rw [List.append_nil, rv.length, al ea, hc], { s with H0 := H2 }, as, w, _, h2, by rw [List.append_nil]; exact rv, eg, ?_⟩
            intro s3 H3 l3 h3 v r3
            obtain ⟨m, em⟩ := l3.ad
            have x3 : Ex s.H0 s3.H0 := x2.trans l3.h0
            refine q ⟨s.H0, s3.HW, s3.ad, s3.pt⟩ H3 ⟨Ex.refl _, l3.fr, l3.dom, fun _ _ _ _ z => z, l3.nw, ⟨m, em⟩, l3.pt⟩ ⟨x3.trans h3.ex, h3.exW, fun a o e t => h3.dj a o (x3 a o e) t, ?_⟩ v ?_
            · have r := h3.rel
              rw [em] at r
              show C.Wd.rel C.K s.H0 s3.HW s3.ad _
              rw [em]
              exact hb.back hf.1 h.rel x3 r
            · have r3 : Rp C.K s3.H0 v d := r3
              exact r3.flatA hf.2
          · cases e
        · cases e
    · cases e
section
variable {X : Cx} {Wd : World} {pos : Pos}
theorem ce_callV2 {okw : Wd.T → Wd.T → Bool} {hb : Back Wd okw} {k : Nat} {f x y : Str} {g : PF Wd} {p p2 p3 : Pos} (i j : Nat) (F : Fn X.prog X.w X.K X.mg X.base Wd k f 2 g) (hr : Room k X.A)
    (hi : X.N[i]? = some x := by rfl) (hv : Vis X.env.scope x := by first | exact Or.inl rfl | exact Or.inr (Or.inl rfl) | exact Or.inr (Or.inr rfl)) (hd : (x == ("__debug__" : Str)) = false := by decide) (hcd : (x == ("__classdict__" : Str)) = false := by decide)
    (hj : X.N[j]? = some y := by rfl) (hv2 : Vis X.env.scope y := by first | exact Or.inl rfl | exact Or.inr (Or.inl rfl) | exact Or.inr (Or.inr rfl)) (hd2 : (y == ("__debug__" : Str)) = false := by decide) (hcd2 : (y == ("__classdict__" : Str)) = false := by decide)
    (hg : Gl X f := by rfl) (hdb : (f == ("__debug__" : Str)) = false := by decide)
    (he : starEach [.Name x p2, .Name y p3] X.env = (false, eval (.Name x p2) X.env) :: starEach [.Name y p3] X.env := by rfl) (he2 : starEach [.Name y p3] X.env = (false, eval (.Name y p3) X.env) :: starEach [] X.env := by rfl) (hpl : (backTo pos (starEach [.Name y p3] X.env)).any (·.1) = false := by rfl) :
    CE X (.Call (.Name f p) [.Name x p2, .Name y p3] [] pos) (SE.callV (C := cf X Wd) okw hb 2 g [i, j]) := by
  obtain ⟨f, fd, ps, h1, h2, h3, h4⟩ := F.ex
  exact pe_call h1 hr hg h2 h3 h4 .nil pass0 (pa_cons (pe_var hi hv hd hcd) (pa_cons (pe_var hj hv2 hd2 hcd2) pa_nil he2) he) hdb he hpl
end
end Cl

set_option Elab.async false
set_option linter.all false
set_option maxRecDepth 100000
set_option maxHeartbeats 4000000
namespace Cl
open PySem L2 PySem.Spec PyProof.Rows
section
variable {C : Cf} {Γ : Ev} {w : C.T} {a b c : SE C} {ta tb : ST C} {s1 s2 : SS C} {sa : SA C}
@[simp] theorem lockT_ev : (SE.lockT a).ev Γ w = bindR (a.ev Γ w) (evO lockR) := rfl
@[simp] theorem itemsF_ev : (SI.itemsF a).ev Γ w = bindR (a.evD Γ w) (evO fun d => match d with
    | .dict ((.bool false, .none) :: ds) => some (itemsD ds)
    | _ => none) := rfl
@[simp] theorem fld_ev {A f hc hn} : (SE.fld A f hc hn a).ev Γ w = bindR (a.evD Γ w) (evO fun d => (fldF A f d).map Rv.dat) := rfl
@[simp] theorem meth_ev {A m n g} : (SE.meth A m n g a sa).ev Γ w = bindR (a.evD Γ w) fun d w1 => if methF A m d = true then bindR (sa.ev Γ w1) fun as w2 => if as.length = n then g (.dat d :: as) w2 else none else none := rfl
@[simp] theorem dnewT_ev : (SE.dnewT (C := C)).ev Γ w = some (.ok (.new (.dicT [])) w) := rfl
@[simp] theorem dnewK_ev : (SE.dnewK (C := C)).ev Γ w = some (.ok (.new (.dic [])) w) := rfl
@[simp] theorem dputT_ev {i} : (SS.dputT i sa a).ev Γ w = (match Γ[i]? with
    | some (some (.own (.dicT kvs))) => bindF (a.evD Γ w) fun d w1 => bindF (sa.ev Γ w1) fun as w2 => if as.length ≤ 100000 ∧ kvs.length < 100000 then
        match (datsOf as).bind keysOkD with
        | some k => some (.nx (Γ.set i (some (.own (.dicT (putP kvs k d))))) w2)
        | none => none
      else none
    | _ => none) := rfl
@[simp] theorem dupd_ev {i} : (SS.dupd i a).ev Γ w = (match Γ[i]? with
    | some (some (.own (.dic kvs))) => bindF (a.evD Γ w) fun d w1 => match d with
      | .dict ds => match unD ds with
        | some m => if kvs.length + m.length ≤ 100000 then some (.nx (Γ.set i (some (.own (.dic (m.foldl (fun acc kv => putP acc kv.1 kv.2) kvs))))) w1) else none
        | none => none
      | _ => none
    | _ => none) := rfl
@[simp] theorem ext_ev {i} : (SS.ext i a).ev Γ w = (match Γ[i]? with
    | some (some (.own (.lst ds))) => bindF (a.evD Γ w) fun d w1 => match d with
      | .list es => if ds.length + es.length ≤ 100000 then some (.nx (Γ.set i (some (.own (.lst (ds ++ es))))) w1) else none
      | _ => none
    | _ => none) := rfl
@[simp] theorem pop0_ev {i j} : (SS.pop0 (C := C) i j).ev Γ w = (match Γ[j]? with
    | some (some (.own (.lst (d :: ds)))) => if i < Γ.length then some (.nx ((Γ.set j (some (.own (.lst ds)))).set i (some (.dat d))) w) else none
    | _ => none) := rfl
@[simp] theorem orI_ev : (SE.orI a b).ev Γ w = bindR (a.evD Γ w) fun d w1 => match truI d with
    | some true => some (.ok (.dat d) w1)
    | some false => b.ev Γ w1
    | none => none := rfl
@[simp] theorem zip_ev : (SI.zip a b).ev Γ w = bindR (a.evD Γ w) fun d w1 => bindR (b.evD Γ w1) (evO (zipF d)) := rfl
@[simp] theorem disp1_ev {j} : (SE.disp1 j a).ev Γ w = (match Γ[j]? with
    | some (some (.dat k)) => (keyOkD k).bind fun kk => bindR (a.evD Γ w) fun d w1 => some (.ok (.new (.dic [(kk, d)])) w1)
    | _ => none) := rfl
@[simp] theorem make_ev {A n g} : (SE.make A n g sa).ev Γ w = bindR (sa.ev Γ w) (evO fun as => (makeF A n g as).map .dat) := rfl
@[simp] theorem isiTL_ev : (SE.isiTL a).ev Γ w = bindR (a.evV Γ w) (evO isiTLF) := rfl
@[simp] theorem callV_ev {okw hb n g js} : (SE.callV (C := C) okw hb n g js).ev Γ w = (if js.length = n then (argsOf Γ js).bind fun as => (match g as w with
      | some (.ok (.dat d) w') => if okw w w' = true ∧ flatA d = true then some (.ok (.dat d) w') else none
      | _ => none)
    else none) := rfl
end
section
variable {K : PySem.W.Frag} {mg : Str → Option Value} {A : Addr} {E : XK} {Γ : Ev} {w : CSt}
@[simp] theorem cfld_ev {i f hc hn} : (SE.cfld (K := K) (mg := mg) (A := A) (E := E) i f hc hn).ev Γ w = (match Γ[i]?, w.lookup f with
    | some (some (.hd 0)), some (.dat d) => some (.ok (.dat d) w)
    | _, _ => none) := rfl
@[simp] theorem cget_ev {i f hc hn j} : (SE.cget (K := K) (mg := mg) (A := A) (E := E) i f hc hn j).ev Γ w = (match Γ[i]?, Γ[j]?, w.lookup f with
    | some (some (.hd 0)), some (some (.dat k)), some (.dic kvs) => (keyOkD k).bind fun kk => (valP kvs kk).map fun d => .ok (.dat d) w
    | _, _, _ => none) := rfl
@[simp] theorem cnin_ev {i f hc hn j} : (SE.cnin (K := K) (mg := mg) (A := A) (E := E) i f hc hn j).ev Γ w = (match Γ[i]?, Γ[j]?, w.lookup f with
    | some (some (.hd 0)), some (some (.dat k)), some (.dic kvs) => (keyOkD k).map fun kk => .ok (.dat (.bool (!(valP kvs kk).isSome))) w
    | _, _, _ => none) := rfl
@[simp] theorem cset_ev {i f hc hn} {a : SE (cw K mg A E)} : (SS.cset i f hc hn a).ev Γ w = (match Γ[i]? with
    | some (some (.hd 0)) => bindF (a.evD Γ w) fun d (w1 : CSt) => if w1.length < 1000 then (match w1.lookup f with
        | some (.dic _) => none
        | _ => some (.nx Γ (putFv f (.dat d) w1))) else none
    | _ => none) := rfl
@[simp] theorem csetO_ev {i f hc hn} {a : SE (cw K mg A E)} : (SS.csetO i f hc hn a).ev Γ w = (match Γ[i]? with
    | some (some (.hd 0)) => bindF (a.ev Γ w) fun r (w1 : CSt) => match r, w1.lookup f with
      | .new (.dic kvs), none => if w1.length < 1000 then some (.nx Γ (putFv f (.dic kvs) w1)) else none
      | _, _ => none
    | _ => none) := rfl
@[simp] theorem cput_ev {i f hc hn j} {a : SE (cw K mg A E)} : (SS.cput i f hc hn j a).ev Γ w = (bindF (a.evD Γ w) fun d (w1 : CSt) => match Γ[i]?, Γ[j]?, w1.lookup f with
    | some (some (.hd 0)), some (some (.dat k)), some (.dic kvs) => if kvs.length < 100000 then (keyOkD k).map fun kk => .nx Γ (putFv f (.dic (putP kvs kk d)) w1) else none
    | _, _, _ => none) := rfl
@[simp] theorem csorted_ev {i f hc hn} : (SE.csorted (K := K) (mg := mg) (A := A) (E := E) i f hc hn).ev Γ w = (match Γ[i]?, w.lookup f with
    | some (some (.hd 0)), some (.dic kvs) => (intKeys? kvs).bind fun ks => if ks.length < 64 then some (.ok (.new (.lst ((sortB leI ks).map .int))) w) else none
    | _, _ => none) := rfl
@[simp] theorem cmeth_ev {i m n g} {a : SA (cw K mg A E)} : (SE.cmeth i m n g a).ev Γ w = (match Γ[i]? with
    | some (some (.hd 0)) => if (w.lookup m).isNone = true then bindR (a.ev Γ w) fun as w2 => if as.length = n then g (.hd 0 :: as) w2 else none else none
    | _ => none) := rfl
end
section
variable {K : PySem.W.Frag} {mg : Str → Option Value} {E : XK} {Γ : Ev} {w : Option Dr}
@[simp] theorem wix_ev {i k} : (SE.wix (K := K) (mg := mg) (E := E) i k).ev Γ w = wixK k Γ[i]? w := rfl
@[simp] theorem wset_ev {i k} {a : SE (cs K mg E)} : (SS.wset i k a).ev Γ w = bindF (a.evD Γ w) fun d w1 => wsetK k Γ Γ[i]? w1 d := rfl
@[simp] theorem wlen_ev {i} : (SE.wlen (K := K) (mg := mg) (E := E) i).ev Γ w = wlenK Γ[i]? w := rfl
@[simp] theorem wat_ev {i} {a : SE (cs K mg E)} : (SE.wat i a).ev Γ w = if hd0 Γ[i]? w = true then bindR (a.evV Γ w) fun d w1 => watK Γ[i]? w d w1 else none := rfl
end
end Cl

set_option Elab.async false
set_option linter.all false
set_option maxRecDepth 100000
set_option maxHeartbeats 4000000
namespace Cl
open PySem L2 PySem.Spec PyProof.Rows
/-! ### loops by invariants -/
theorem forEv_inv {T : Type} {g : PyData → Ev → Option Ev} {b : Ev → T → Option (Fl T)} (P : Nat → Ev → T → Prop) : ∀ {items : List PyData} {n : Nat} {Γ : Ev} {w : T}, P n Γ w →
    (∀ j d Γ w, items[j]? = some d → P (n + j) Γ w → ∃ Γ1 Γ2 w2, g d Γ = some Γ1 ∧ (b Γ1 w = some (.nx Γ2 w2) ∨ b Γ1 w = some (.ct Γ2 w2)) ∧ P (n + j + 1) Γ2 w2) →
    ∃ Γ' w', forEv g b items Γ w = some (.nx Γ' w') ∧ P (n + items.length) Γ' w'
  | [], n, Γ, w, h, _ => ⟨Γ, w, rfl, h⟩
  | d :: r, n, Γ, w, h, hs => by
    obtain ⟨Γ1, Γ2, w2, e1, e2, h2⟩ := hs 0 d Γ w rfl h
    obtain ⟨Γ', w', e3, h3⟩ := forEv_inv (items := r) (n := n + 1) P h2 (fun j d' Γ w e p => by
      have := hs (j + 1) d' Γ w (by simpa using e) (by rw [← Nat.add_assoc, Nat.add_right_comm]; exact p)
      rw [show n + (j + 1) + 1 = n + 1 + j + 1 by omega] at this
      exact this)
    refine ⟨Γ', w', ?_, by rw [List.length_cons, show n + (r.length + 1) = n + 1 + r.length by omega]; exact h3⟩
    unfold forEv
    rw [e1, Option.bind_some]
    rcases e2 with e2 | e2 <;> (rw [e2]; exact e3)
theorem mapEv_inv {T : Type} {g : PyData → Ev → Option Ev} {c : Ev → T → Option (Rs T Bool)} {b : Ev → T → Option (Rs T PyData)} {Γ : Ev} (I : T → Prop) (R : Nat → PyData → Prop) : ∀ {items : List PyData} {n : Nat} {w : T}, I w →
    (∀ j d w, items[j]? = some d → I w → ∃ Γ1 w1 y w2, g d Γ = some Γ1 ∧ c Γ1 w = some (.ok true w1) ∧ b Γ1 w1 = some (.ok y w2) ∧ R (n + j) y ∧ I w2) →
    ∃ ys w', mapEv g c b Γ items w = some (ys, w') ∧ I w' ∧ ys.length = items.length ∧ ∀ j y, ys[j]? = some y → R (n + j) y
  | [], n, w, h, _ => ⟨[], w, rfl, h, rfl, fun j y e => by simp at e⟩
  | d :: r, n, w, h, hs => by
    obtain ⟨Γ1, w1, y, w2, e1, e2, e3, h2, h3⟩ := hs 0 d w rfl h
    obtain ⟨ys, w', e4, h4, h5, h6⟩ := mapEv_inv (items := r) (n := n + 1) I R h3 (fun j d' w e p => by
      have := hs (j + 1) d' w (by simpa using e) p
      rw [show n + (j + 1) = n + 1 + j by omega] at this
      exact this)
    refine ⟨y :: ys, w', ?_, h4, by rw [List.length_cons, List.length_cons, h5], fun j z e => ?_⟩
    · unfold mapEv
      rw [e1]
      simp only [e2, e3, e4]
    · cases j with
      | zero => cases e; exact h2
      | succ j =>
        have := h6 j z (by simpa using e)
        rw [show n + (j + 1) = n + 1 + j by omega]
        exact this
theorem forM_inv {T : Type} {i : Nat} {g : PyData → Ev → Option Ev} {b : Rows → Ev → T → Option (Rows × Ev × T)} (P : Nat → Rows → Ev → T → Prop) : ∀ {items : List PyData} {n : Nat} {rows : Rows} {Γ : Ev} {w : T}, P n rows Γ w →
    (∀ j d rows Γ w, items[j]? = some d → P (n + j) rows Γ w → ∃ Γ1 rows2 Γ2 w2, g d Γ = some Γ1 ∧ isPt Γ1[i]? = true ∧ b rows Γ1 w = some (rows2, Γ2, w2) ∧ P (n + j + 1) rows2 Γ2 w2) →
    ∃ rows' Γ' w', forM i g b items rows Γ w = some (rows', Γ', w') ∧ P (n + items.length) rows' Γ' w'
  | [], n, rows, Γ, w, h, _ => ⟨rows, Γ, w, rfl, h⟩
  | d :: r, n, rows, Γ, w, h, hs => by
    obtain ⟨Γ1, rows2, Γ2, w2, e1, e2, e3, h2⟩ := hs 0 d rows Γ w rfl h
    obtain ⟨rows', Γ', w', e4, h4⟩ := forM_inv (items := r) (n := n + 1) P h2 (fun j d' rows Γ w e p => by
      have := hs (j + 1) d' rows Γ w (by simpa using e) (by rw [show n + (j + 1) = n + 1 + j by omega]; exact p)
      rw [show n + (j + 1) + 1 = n + 1 + j + 1 by omega] at this
      exact this)
    refine ⟨rows', Γ', w', ?_, by rw [List.length_cons, show n + (r.length + 1) = n + 1 + r.length by omega]; exact h4⟩
    unfold forM
    rw [e1, Option.bind_some, if_pos e2, e3, Option.bind_some]
    exact e4
end Cl

set_option Elab.async false
set_option linter.all false
set_option maxRecDepth 100000
set_option maxHeartbeats 4000000
namespace Cl
open PySem L2 PySem.Spec PyProof.Rows
abbrev v_MAX_LINES : V := .int 7
abbrev v_MAX_COST : V := .int 99
abbrev v_MAX_VALUE : V := .int 1000000
abbrev k_MAX_LINES {C : Cf} : SE C := .int 7
abbrev k_MAX_COST {C : Cf} : SE C := .int 99
abbrev k_MAX_VALUE {C : Cf} : SE C := .int 1000000
abbrev n_is_integer : List Str := ["value", "low", "high"]
abbrev p_is_integer : List Str := ["value", "low", "high"]
def b_is_integer (K : PySem.W.Frag) (mg : Str → Option Value) (W : World) : SS ⟨K, mg, W, E0⟩ :=
  (.ret (.andV (.isi "int" (.var 0)) (.andV (.notV (.isi "bool" (.var 0))) (.chain_le_le (.var 1) (.var 0) (.var 2)))))

abbrev n_is_cell : List Str := ["value"]
abbrev p_is_cell : List Str := ["value"]
def b_is_cell (K : PySem.W.Frag) (mg : Str → Option Value) (W : World) (g_is_integer : PF W) : SS ⟨K, mg, W, E0⟩ :=
  (.ret (.call 3 g_is_integer (.cons (.var 0) (.cons (.neg k_MAX_VALUE) (.cons k_MAX_VALUE .nil)))))

abbrev n_is_cost : List Str := ["value"]
abbrev p_is_cost : List Str := ["value"]
def b_is_cost (K : PySem.W.Frag) (mg : Str → Option Value) (W : World) (g_is_integer : PF W) : SS ⟨K, mg, W, E0⟩ :=
  (.ret (.orV (.is (.var 0) .non) (.call 3 g_is_integer (.cons (.var 0) (.cons (.int 1) (.cons k_MAX_COST .nil))))))

abbrev n_check_costs : List Str := ["part", "costs", "count", "index", "cost"]
abbrev p_check_costs : List Str := ["part", "costs", "count"]
def b_check_costs (K : PySem.W.Frag) (mg : Str → Option Value) (W : World) (g_is_cost : PF W) : SS ⟨K, mg, W, E0⟩ :=
  (.seq (.ite (.not (.of (.isi "tuple" (.var 1)))) .never .nop) (.seq (.for (.enum (.var 1)) (.tup 2 (.cons (.name 3) (.cons (.name 4) .nil))) (.ite (.or (.of (.eq (.var 3) (.var 2))) (.not (.of (.call 1 g_is_cost (.cons (.var 4) .nil))))) .never .nop)) (.ite (.of (.lt (.len (.var 1)) (.var 2))) .never .nop)))

abbrev n_is_row : List Str := ["row", "width", "value"]
abbrev p_is_row : List Str := ["row", "width"]
def b_is_row (K : PySem.W.Frag) (mg : Str → Option Value) (W : World) (g_is_cell : PF W) : SS ⟨K, mg, W, E0⟩ :=
  (.ret (.andV (.isi "tuple" (.var 0)) (.andV (.eq (.len (.var 0)) (.var 1)) (.all (.lc (.seq (.var 0)) (.name 2) .yes (.call 1 g_is_cell (.cons (.var 2) .nil)) [2] rfl)))))

abbrev n_check_cells : List Str := ["cells", "width", "index", "row"]
abbrev p_check_cells : List Str := ["cells"]
def b_check_cells (K : PySem.W.Frag) (mg : Str → Option Value) (W : World) (g_is_row : PF W) : SS ⟨K, mg, W, E0⟩ :=
  (.seq (.ite (.or (.not (.of (.isi "tuple" (.var 0)))) (.of (.eq (.var 0) (.tup .nil)))) .never .nop) (.seq (.asgD 1 (.ite (.of (.isi "tuple" (.ix (.var 0) (.int 0)))) (.len (.ix (.var 0) (.int 0))) (.int 0))) (.for (.enum (.var 0)) (.tup 2 (.cons (.name 2) (.cons (.name 3) .nil))) (.ite (.or (.of (.eq (.var 2) k_MAX_LINES)) (.or (.not (.of (.chain_le_le (.int 1) (.var 1) k_MAX_LINES))) (.not (.of (.call 2 g_is_row (.cons (.var 3) (.cons (.var 1) .nil))))))) .never .nop))))

abbrev n_check_table : List Str := ["table", "cells", "row_costs", "column_costs"]
abbrev p_check_table : List Str := ["table"]
def b_check_table (K : PySem.W.Frag) (mg : Str → Option Value) (W : World) (g_check_cells : PF W) (g_check_costs : PF W) : SS ⟨K, mg, W, E0⟩ :=
  (.seq (.ite (.or (.not (.of (.isi "tuple" (.var 0)))) (.of (.ne (.len (.var 0)) (.int 3)))) .never .nop) (.seq (.unp (.tup 3 (.cons (.name 1) (.cons (.name 2) (.cons (.name 3) .nil)))) (.var 0)) (.seq (.drop (.call 1 g_check_cells (.cons (.var 1) .nil))) (.seq (.drop (.call 3 g_check_costs (.cons (.int 1) (.cons (.var 2) (.cons (.len (.var 1)) .nil))))) (.drop (.call 3 g_check_costs (.cons (.int 2) (.cons (.var 3) (.cons (.len (.ix (.var 1) (.int 0))) .nil)))))))))

abbrev n_check_goal : List Str := ["table", "goal", "height", "width", "row", "values", "column", "value"]
abbrev p_check_goal : List Str := ["table", "goal"]
def b_check_goal (K : PySem.W.Frag) (mg : Str → Option Value) (W : World) (g_is_cell : PF W) : SS ⟨K, mg, W, E0⟩ :=
  (.seq (.par2 2 3 (.cons (.len (.ix (.var 0) (.int 0))) (.cons (.len (.ix (.ix (.var 0) (.int 0)) (.int 0))) .nil))) (.seq (.ite (.not (.of (.isi "tuple" (.var 1)))) .never .nop) (.seq (.for (.enum (.var 1)) (.tup 2 (.cons (.name 4) (.cons (.name 5) .nil))) (.seq (.ite (.or (.of (.eq (.var 4) (.var 2))) (.not (.of (.isi "tuple" (.var 5))))) .never .nop) (.seq (.for (.enum (.var 5)) (.tup 2 (.cons (.name 6) (.cons (.name 7) .nil))) (.ite (.or (.of (.eq (.var 6) (.var 3))) (.not (.or (.of (.is (.var 7) .non)) (.of (.call 1 g_is_cell (.cons (.var 7) .nil)))))) .never .nop)) (.ite (.of (.lt (.len (.var 5)) (.var 3))) .never .nop)))) (.ite (.of (.lt (.len (.var 1)) (.var 2))) .never .nop))))

abbrev n_line_costs : List Str := ["table"]
abbrev p_line_costs : List Str := ["table"]
def b_line_costs (K : PySem.W.Frag) (mg : Str → Option Value) (W : World) : SS ⟨K, mg, W, E0⟩ :=
  (.ret (.add (.ix (.var 0) (.int 1)) (.ix (.var 0) (.int 2))))

abbrev n_cell_gaps : List Str := ["table", "goal", "gaps", "row", "values", "column", "value"]
abbrev p_cell_gaps : List Str := ["table", "goal"]
def b_cell_gaps (K : PySem.W.Frag) (mg : Str → Option Value) (W : World) : SS ⟨K, mg, W, E0⟩ :=
  (.seq (.asg 2 .dnewT) (.seq (.for (.enum (.var 1)) (.tup 2 (.cons (.name 3) (.cons (.name 4) .nil))) (.for (.enum (.var 4)) (.tup 2 (.cons (.name 5) (.cons (.name 6) .nil))) (.ite (.of (.isn (.var 6) .non)) (.dputT 2 (.cons (.var 3) (.cons (.add (.len (.var 1)) (.var 5)) .nil)) (.sub (.var 6) (.ix (.ix (.ix (.var 0) (.int 0)) (.var 3)) (.var 5)))) .nop))) (.ret (.var 2))))

abbrev n_Component___init__ : List Str := ["self", "table", "gaps", "first", "queue", "line", "other", "gap"]
abbrev p_Component___init__ : List Str := ["self", "table", "gaps", "first"]
def b_Component___init__ (K : PySem.W.Frag) (mg : Str → Option Value) (A_Component : Addr) (hc_Component : Cls K A_Component) (hn_Component_gaps : NoAttr K A_Component "gaps") (hn_Component_costs : NoAttr K A_Component "costs") (hn_Component_offsets : NoAttr K A_Component "offsets") (hn_Component_signs : NoAttr K A_Component "signs") (hn_Component_parents : NoAttr K A_Component "parents") (hn_Component_cycle : NoAttr K A_Component "cycle") (hn_Component_lines : NoAttr K A_Component "lines") (g_line_costs : PF (Wc A_Component)) (g_Component_neighbors_h : PF (Wc A_Component)) (g_Component_path_to_h : PF (Wc A_Component)) : SS ⟨K, mg, (Wc A_Component), E0⟩ :=
  (.seq (.cset 0 "gaps" hc_Component hn_Component_gaps (.var 2)) (.seq (.cset 0 "costs" hc_Component hn_Component_costs (.call 1 g_line_costs (.cons (.var 1) .nil))) (.seq (.csetO 0 "offsets" hc_Component hn_Component_offsets (.disp1 3 (.int 0))) (.seq (.csetO 0 "signs" hc_Component hn_Component_signs (.disp1 3 (.int 1))) (.seq (.csetO 0 "parents" hc_Component hn_Component_parents (.disp1 3 .non)) (.seq (.cset 0 "cycle" hc_Component hn_Component_cycle .non) (.seq (.asg 4 (.lst (.cons (.var 3) .nil))) (.seq (.while 20 (.of (.ne (.var 4) (.lst .nil))) (.seq (.pop0 5 4) (.for (.seq (.cmeth 0 "neighbors" 1 g_Component_neighbors_h (.cons (.var 5) .nil))) (.tup 2 (.cons (.name 6) (.cons (.name 7) .nil))) (.ite (.of (.cnin 0 "offsets" hc_Component hn_Component_offsets 6)) (.seq (.cput 0 "offsets" hc_Component hn_Component_offsets 6 (.sub (.var 7) (.cget 0 "offsets" hc_Component hn_Component_offsets 5))) (.seq (.cput 0 "signs" hc_Component hn_Component_signs 6 (.sub (.int 0) (.cget 0 "signs" hc_Component hn_Component_signs 5))) (.seq (.cput 0 "parents" hc_Component hn_Component_parents 6 (.var 5)) (.app 4 (.var 6))))) (.ite (.and (.of (.is (.cfld 0 "cycle" hc_Component hn_Component_cycle) .non)) (.of (.ne (.add (.cget 0 "offsets" hc_Component hn_Component_offsets 6) (.cget 0 "offsets" hc_Component hn_Component_offsets 5)) (.var 7)))) (.cset 0 "cycle" hc_Component hn_Component_cycle (.add (.cmeth 0 "path_to" 1 g_Component_path_to_h (.cons (.var 5) .nil)) (.rev (.cmeth 0 "path_to" 1 g_Component_path_to_h (.cons (.var 6) .nil))))) .nop))))) (.cset 0 "lines" hc_Component hn_Component_lines (.csorted 0 "offsets" hc_Component hn_Component_offsets))))))))))

abbrev n_Component_neighbors_h : List Str := ["self", "line", "columns", "row", "column", "gap"]
abbrev p_Component_neighbors_h : List Str := ["self", "line"]
def b_Component_neighbors_h (K : PySem.W.Frag) (mg : Str → Option Value) (A_Component : Addr) (hc_Component : Cls K A_Component) (hn_Component_gaps : NoAttr K A_Component "gaps") : SS ⟨K, mg, (Wc A_Component), E0⟩ :=
  (.seq (.asgD 2 (.lc (.itemsF (.cfld 0 "gaps" hc_Component hn_Component_gaps)) (.tup 2 (.cons (.tup 2 (.cons (.name 3) (.cons (.name 4) .nil))) (.cons (.name 5) .nil))) (.of (.eq (.var 3) (.var 1))) (.tup (.cons (.var 4) (.cons (.var 5) .nil))) [3, 4, 5] rfl)) (.ret (.add (.var 2) (.lc (.itemsF (.cfld 0 "gaps" hc_Component hn_Component_gaps)) (.tup 2 (.cons (.tup 2 (.cons (.name 3) (.cons (.name 4) .nil))) (.cons (.name 5) .nil))) (.of (.eq (.var 4) (.var 1))) (.tup (.cons (.var 3) (.cons (.var 5) .nil))) [3, 4, 5] rfl))))

abbrev n_Component_path_to : List Str := ["self", "line", "path"]
abbrev p_Component_path_to : List Str := ["self", "line"]
def b_Component_path_to (K : PySem.W.Frag) (mg : Str → Option Value) (W : World) (A_Component : Addr) (hc_Component : Cls K A_Component) (hn_Component_parents : NoAttr K A_Component "parents") : SS ⟨K, mg, W, E0⟩ :=
  (.seq (.asg 2 (.lst .nil)) (.seq (.while 20 (.of (.isn (.var 1) .non)) (.seq (.app 2 (.var 1)) (.asgD 1 (.dget (.fld A_Component "parents" hc_Component hn_Component_parents (.var 0)) (.var 1))))) (.ret (.rev (.var 2)))))

abbrev n_Component_path_to_h : List Str := ["self", "line", "path"]
abbrev p_Component_path_to_h : List Str := ["self", "line"]
def b_Component_path_to_h (K : PySem.W.Frag) (mg : Str → Option Value) (A_Component : Addr) (hc_Component : Cls K A_Component) (hn_Component_parents : NoAttr K A_Component "parents") : SS ⟨K, mg, (Wc A_Component), E0⟩ :=
  (.seq (.asg 2 (.lst .nil)) (.seq (.while 20 (.of (.isn (.var 1) .non)) (.seq (.app 2 (.var 1)) (.asgD 1 (.cget 0 "parents" hc_Component hn_Component_parents 1)))) (.ret (.rev (.var 2)))))

abbrev n_Component_locked_lines : List Str := ["self", "line"]
abbrev p_Component_locked_lines : List Str := ["self"]
def b_Component_locked_lines (K : PySem.W.Frag) (mg : Str → Option Value) (W : World) (A_Component : Addr) (hc_Component : Cls K A_Component) (hn_Component_lines : NoAttr K A_Component "lines") (hn_Component_costs : NoAttr K A_Component "costs") : SS ⟨K, mg, W, E0⟩ :=
  (.ret (.lc (.seq (.fld A_Component "lines" hc_Component hn_Component_lines (.var 0))) (.name 1) (.of (.is (.ix (.fld A_Component "costs" hc_Component hn_Component_costs (.var 0)) (.var 1)) .non)) (.var 1) [1] rfl))

abbrev n_Component_zero_point : List Str := ["self", "line"]
abbrev p_Component_zero_point : List Str := ["self", "line"]
def b_Component_zero_point (K : PySem.W.Frag) (mg : Str → Option Value) (W : World) (A_Component : Addr) (hc_Component : Cls K A_Component) (hn_Component_signs : NoAttr K A_Component "signs") (hn_Component_offsets : NoAttr K A_Component "offsets") : SS ⟨K, mg, W, E0⟩ :=
  (.ret (.sub (.int 0) (.mul (.dget (.fld A_Component "signs" hc_Component hn_Component_signs (.var 0)) (.var 1)) (.dget (.fld A_Component "offsets" hc_Component hn_Component_offsets (.var 0)) (.var 1)))))

abbrev n_Component_contradiction : List Str := ["self", "locked", "line"]
abbrev p_Component_contradiction : List Str := ["self"]
def b_Component_contradiction (K : PySem.W.Frag) (mg : Str → Option Value) (W : World) (A_Component : Addr) (hc_Component : Cls K A_Component) (hn_Component_cycle : NoAttr K A_Component "cycle") (g_Component_locked_lines : PF W) (g_Component_zero_point : PF W) (g_Component_path_to : PF W) : SS ⟨K, mg, W, E0⟩ :=
  (.seq (.ite (.of (.isn (.fld A_Component "cycle" hc_Component hn_Component_cycle (.var 0)) .non)) (.ret (.fld A_Component "cycle" hc_Component hn_Component_cycle (.var 0))) .nop) (.seq (.asgD 1 (.meth A_Component "locked_lines" 0 g_Component_locked_lines (.var 0) .nil)) (.seq (.for (.seq (.sl (.var 1) (.so (.int 1)) .no)) (.name 2) (.ite (.of (.ne (.meth A_Component "zero_point" 1 g_Component_zero_point (.var 0) (.cons (.var 2) .nil)) (.meth A_Component "zero_point" 1 g_Component_zero_point (.var 0) (.cons (.ix (.var 1) (.int 0)) .nil)))) (.ret (.add (.rev (.meth A_Component "path_to" 1 g_Component_path_to (.var 0) (.cons (.ix (.var 1) (.int 0)) .nil))) (.sl (.meth A_Component "path_to" 1 g_Component_path_to (.var 0) (.cons (.var 2) .nil)) (.so (.int 1)) .no))) .nop)) (.ret .non))))

abbrev n_Component_shift : List Str := ["self", "line", "first_shift"]
abbrev p_Component_shift : List Str := ["self", "line", "first_shift"]
def b_Component_shift (K : PySem.W.Frag) (mg : Str → Option Value) (W : World) (A_Component : Addr) (hc_Component : Cls K A_Component) (hn_Component_offsets : NoAttr K A_Component "offsets") (hn_Component_signs : NoAttr K A_Component "signs") : SS ⟨K, mg, W, E0⟩ :=
  (.ret (.add (.dget (.fld A_Component "offsets" hc_Component hn_Component_offsets (.var 0)) (.var 1)) (.mul (.dget (.fld A_Component "signs" hc_Component hn_Component_signs (.var 0)) (.var 1)) (.var 2))))

abbrev n_all_components : List Str := ["table", "goal", "gaps", "seen", "found", "line", "component"]
abbrev p_all_components : List Str := ["table", "goal"]
def b_all_components (K : PySem.W.Frag) (mg : Str → Option Value) (W : World) (A_Component : Addr) (hc_Component : Cls K A_Component) (hn_Component_offsets : NoAttr K A_Component "offsets") (g_cell_gaps : PF W) (g_line_costs : PF W) (gi_Component : PF (Wc A_Component)) : SS ⟨K, mg, W, E0⟩ :=
  (.seq (.par3 2 3 4 (.cons (.lockT (.call 2 g_cell_gaps (.cons (.var 0) (.cons (.var 1) .nil)))) (.cons .dnewK (.cons (.lst .nil) .nil)))) (.seq (.for (.range (.len (.call 1 g_line_costs (.cons (.var 0) .nil)))) (.name 5) (.ite (.of (.dnin (.var 5) (.var 3))) (.seq (.asgD 6 (.make A_Component 3 gi_Component (.cons (.var 0) (.cons (.var 2) (.cons (.var 5) .nil))))) (.seq (.dupd 3 (.fld A_Component "offsets" hc_Component hn_Component_offsets (.var 6))) (.app 4 (.var 6)))) .nop)) (.ret (.var 4))))

abbrev n_any_contradiction : List Str := ["table", "goal", "paths", "found", "component", "path"]
abbrev p_any_contradiction : List Str := ["table", "goal"]
def b_any_contradiction (K : PySem.W.Frag) (mg : Str → Option Value) (W : World) (A_Component : Addr) (g_all_components : PF W) (g_Component_contradiction : PF W) : SS ⟨K, mg, W, E0⟩ :=
  (.seq (.asgD 2 (.lc (.seq (.call 2 g_all_components (.cons (.var 0) (.cons (.var 1) .nil)))) (.name 4) .yes (.meth A_Component "contradiction" 0 g_Component_contradiction (.var 4) .nil) [4] rfl)) (.seq (.asgD 3 (.lc (.seq (.var 2)) (.name 5) (.of (.isn (.var 5) .non)) (.var 5) [5] rfl)) (.ret (.ite (.of (.ne (.var 3) (.lst .nil))) (.ix (.var 3) (.int 0)) .non))))

abbrev n_optimal_range : List Str := ["component", "costs", "locked", "points", "point", "cost", "total", "low", "high", "weight", "line"]
abbrev p_optimal_range : List Str := ["component", "costs"]
def b_optimal_range (K : PySem.W.Frag) (mg : Str → Option Value) (W : World) (A_Component : Addr) (hc_Component : Cls K A_Component) (hn_Component_lines : NoAttr K A_Component "lines") (g_Component_zero_point : PF W) : SS ⟨K, mg, W, E0⟩ :=
  (.seq (.asgD 2 (.lc (.seq (.fld A_Component "lines" hc_Component hn_Component_lines (.var 0))) (.name 10) (.of (.is (.ix (.var 1) (.var 10)) .non)) (.var 10) [10] rfl)) (.seq (.ite (.of (.ne (.var 2) (.lst .nil))) (.ret (.tup (.cons (.meth A_Component "zero_point" 1 g_Component_zero_point (.var 0) (.cons (.ix (.var 2) (.int 0)) .nil)) (.cons (.meth A_Component "zero_point" 1 g_Component_zero_point (.var 0) (.cons (.ix (.var 2) (.int 0)) .nil)) .nil)))) .nop) (.seq (.asgD 3 (.sorted (.lc (.seq (.fld A_Component "lines" hc_Component hn_Component_lines (.var 0))) (.name 10) .yes (.tup (.cons (.meth A_Component "zero_point" 1 g_Component_zero_point (.var 0) (.cons (.var 10) .nil)) (.cons (.ix (.var 1) (.var 10)) .nil))) [10] rfl))) (.seq (.asgD 6 (.sum (.lc (.seq (.var 3)) (.tup 2 (.cons (.name 4) (.cons (.name 5) .nil))) .yes (.var 5) [4, 5] rfl))) (.seq (.parT [7, 8, 9] (.cons .non (.cons .non (.cons (.int 0) .nil)))) (.seq (.for (.seq (.var 3)) (.tup 2 (.cons (.name 4) (.cons (.name 5) .nil))) (.seq (.aug 9 (fun i j => i + j) (.var 5)) (.seq (.ite (.and (.of (.is (.var 7) .non)) (.of (.ge (.mul (.int 2) (.var 9)) (.var 6)))) (.asg 7 (.var 4)) .nop) (.ite (.and (.of (.is (.var 8) .non)) (.of (.gt (.mul (.int 2) (.var 9)) (.var 6)))) (.asg 8 (.var 4)) .nop)))) (.seq (.frzq 7) (.seq (.frzq 8) (.ret (.tup (.cons (.var 7) (.cons (.var 8) .nil))))))))))))

abbrev n_Solution___init__ : List Str := ["self", "table", "goal", "component"]
abbrev p_Solution___init__ : List Str := ["self", "table", "goal"]
def b_Solution___init__ (K : PySem.W.Frag) (mg : Str → Option Value) (A_Solution : Addr) (A_Component : Addr) (hc_Solution : Cls K A_Solution) (hn_Solution_costs : NoAttr K A_Solution "costs") (hn_Solution_parts : NoAttr K A_Solution "parts") (hn_Solution_is_reachable : NoAttr K A_Solution "is_reachable") (hn_Solution_first_shifts : NoAttr K A_Solution "first_shifts") (g_line_costs : PF (Wc A_Solution)) (g_all_components : PF (Wc A_Solution)) (g_optimal_range : PF (Wc A_Solution)) (g_Component_contradiction : PF (Wc A_Solution)) : SS ⟨K, mg, (Wc A_Solution), E0⟩ :=
  (.seq (.cset 0 "costs" hc_Solution hn_Solution_costs (.call 1 g_line_costs (.cons (.var 1) .nil))) (.seq (.cset 0 "parts" hc_Solution hn_Solution_parts (.call 2 g_all_components (.cons (.var 1) (.cons (.var 2) .nil)))) (.seq (.cset 0 "is_reachable" hc_Solution hn_Solution_is_reachable (.all (.lc (.seq (.cfld 0 "parts" hc_Solution hn_Solution_parts)) (.name 3) .yes (.is (.meth A_Component "contradiction" 0 g_Component_contradiction (.var 3) .nil) .non) [3] rfl))) (.cset 0 "first_shifts" hc_Solution hn_Solution_first_shifts (.lc (.seq (.cfld 0 "parts" hc_Solution hn_Solution_parts)) (.name 3) .yes (.ix (.call 2 g_optimal_range (.cons (.var 3) (.cons (.cfld 0 "costs" hc_Solution hn_Solution_costs) .nil))) (.int 0)) [3] rfl)))))

abbrev n_Solution_line_shifts : List Str := ["self", "shifts", "component", "first_shift", "line"]
abbrev p_Solution_line_shifts : List Str := ["self"]
def b_Solution_line_shifts (K : PySem.W.Frag) (mg : Str → Option Value) (W : World) (A_Solution : Addr) (A_Component : Addr) (hc_Solution : Cls K A_Solution) (hc_Component : Cls K A_Component) (hn_Solution_costs : NoAttr K A_Solution "costs") (hn_Solution_parts : NoAttr K A_Solution "parts") (hn_Solution_first_shifts : NoAttr K A_Solution "first_shifts") (hn_Component_lines : NoAttr K A_Component "lines") (g_Component_shift : PF W) : SS ⟨K, mg, W, E0⟩ :=
  (.seq (.asg 1 (.mul (.lst (.cons (.int 0) .nil)) (.len (.fld A_Solution "costs" hc_Solution hn_Solution_costs (.var 0))))) (.seq (.for (.zip (.fld A_Solution "parts" hc_Solution hn_Solution_parts (.var 0)) (.fld A_Solution "first_shifts" hc_Solution hn_Solution_first_shifts (.var 0))) (.tup 2 (.cons (.name 2) (.cons (.name 3) .nil))) (.for (.seq (.fld A_Component "lines" hc_Component hn_Component_lines (.var 2))) (.name 4) (.setIx 1 (.var 4) (.meth A_Component "shift" 2 g_Component_shift (.var 2) (.cons (.var 4) (.cons (.var 3) .nil)))))) (.ret (.var 1))))

abbrev n_Solution_cost : List Str := ["self", "shift", "cost"]
abbrev p_Solution_cost : List Str := ["self"]
def b_Solution_cost (K : PySem.W.Frag) (mg : Str → Option Value) (W : World) (A_Solution : Addr) (hc_Solution : Cls K A_Solution) (hn_Solution_costs : NoAttr K A_Solution "costs") (g_Solution_line_shifts : PF W) : SS ⟨K, mg, W, E0⟩ :=
  (.ret (.sum (.lc (.zip (.meth A_Solution "line_shifts" 0 g_Solution_line_shifts (.var 0) .nil) (.fld A_Solution "costs" hc_Solution hn_Solution_costs (.var 0))) (.tup 2 (.cons (.name 1) (.cons (.name 2) .nil))) .yes (.mul (.abs (.var 1)) (.orI (.var 2) (.int 0))) [1, 2] rfl)))

abbrev n_check_both : List Str := ["table", "goal"]
abbrev p_check_both : List Str := ["table", "goal"]
def b_check_both (K : PySem.W.Frag) (mg : Str → Option Value) (W : World) (g_check_table : PF W) (g_check_goal : PF W) : SS ⟨K, mg, W, E0⟩ :=
  (.seq (.drop (.call 1 g_check_table (.cons (.var 0) .nil))) (.drop (.call 2 g_check_goal (.cons (.var 0) (.cons (.var 1) .nil)))))

abbrev n_minimum_cost : List Str := ["table", "goal", "solution"]
abbrev p_minimum_cost : List Str := ["table", "goal"]
def b_minimum_cost (K : PySem.W.Frag) (mg : Str → Option Value) (W : World) (A_Solution : Addr) (hc_Solution : Cls K A_Solution) (hn_Solution_is_reachable : NoAttr K A_Solution "is_reachable") (g_check_both : PF W) (g_Solution_cost : PF W) (g_Solution_line_shifts : PF W) (gi_Solution : PF (Wc A_Solution)) : SS ⟨K, mg, W, E0⟩ :=
  (.seq (.drop (.call 2 g_check_both (.cons (.var 0) (.cons (.var 1) .nil)))) (.seq (.asgD 2 (.make A_Solution 2 gi_Solution (.cons (.var 0) (.cons (.var 1) .nil)))) (.ret (.ite (.of (.fld A_Solution "is_reachable" hc_Solution hn_Solution_is_reachable (.var 2))) (.tup (.cons (.meth A_Solution "cost" 0 g_Solution_cost (.var 2) .nil) (.cons (.meth A_Solution "line_shifts" 0 g_Solution_line_shifts (.var 2) .nil) .nil))) .non))))

abbrev n_with_open_cell : List Str := ["goal", "row", "column", "values"]
abbrev p_with_open_cell : List Str := ["goal", "row", "column"]
def b_with_open_cell (K : PySem.W.Frag) (mg : Str → Option Value) (W : World) : SS ⟨K, mg, W, E0⟩ :=
  (.seq (.asgD 3 (.ix (.var 0) (.var 1))) (.ret (.add (.add (.sl (.var 0) .no (.so (.var 1))) (.tup (.cons (.add (.add (.sl (.var 3) .no (.so (.var 2))) (.tup (.cons .non .nil))) (.sl (.var 3) (.so (.add (.var 2) (.int 1))) .no)) .nil))) (.sl (.var 0) (.so (.add (.var 1) (.int 1))) .no))))

abbrev n_blocking_cells : List Str := ["table", "goal", "found", "row", "values", "column", "value"]
abbrev p_blocking_cells : List Str := ["table", "goal"]
def b_blocking_cells (K : PySem.W.Frag) (mg : Str → Option Value) (W : World) (g_check_both : PF W) (g_any_contradiction : PF W) (g_with_open_cell : PF W) : SS ⟨K, mg, W, E0⟩ :=
  (.seq (.drop (.call 2 g_check_both (.cons (.var 0) (.cons (.var 1) .nil)))) (.seq (.ite (.of (.is (.call 2 g_any_contradiction (.cons (.var 0) (.cons (.var 1) .nil))) .non)) (.ret (.lst .nil)) .nop) (.seq (.asg 2 (.lst .nil)) (.seq (.for (.enum (.var 1)) (.tup 2 (.cons (.name 3) (.cons (.name 4) .nil))) (.for (.enum (.var 4)) (.tup 2 (.cons (.name 5) (.cons (.name 6) .nil))) (.ite (.and (.of (.isn (.var 6) .non)) (.of (.is (.call 2 g_any_contradiction (.cons (.var 0) (.cons (.call 3 g_with_open_cell (.cons (.var 1) (.cons (.var 3) (.cons (.var 5) .nil)))) .nil))) .non))) (.app 2 (.tup (.cons (.var 3) (.cons (.var 5) .nil)))) .nop))) (.ret (.var 2))))))

end Cl

set_option Elab.async false
set_option linter.all false
set_option maxRecDepth 100000
set_option maxHeartbeats 4000000
namespace Cl
open PySem L2 PySem.Spec PyProof.Rows
abbrev n_l_drawn : List Str := ["_law_state", "_law_count", "_law_result", "_law_cell"]
abbrev p_l_drawn : List Str := ["_law_state", "_law_count"]
def b_l_drawn (K : PySem.W.Frag) (mg : Str → Option Value) : SS ⟨K, mg, Ws, E0⟩ :=
  (.seq (.ite (.of (.gt (.wix 0 3) (.int 0))) (.seq (.asgD 2 (.mod (.wix 0 3) (.var 1))) (.seq (.wset 0 3 (.fdiv (.wix 0 3) (.var 1))) (.ret (.var 2)))) .nop) (.seq (.wset 0 1 (.add (.wix 0 1) (.int 1))) (.seq (.ite (.of (.le (.wix 0 1) (.wlen 0))) (.seq (.asgD 3 (.wat 0 (.sub (.wix 0 1) (.int 1)))) (.seq (.wset 0 3 (.ite (.of (.ge (.var 3) (.pow (.int 10) (.int 18)))) (.fdiv (.var 3) (.var 1)) (.int 0))) (.ret (.mod (.var 3) (.var 1))))) .nop) (.seq (.wset 0 2 (.mod (.add (.mul (.wix 0 2) (.int 48271)) (.int 11)) (.int 2147483647))) (.ret (.mod (.fdiv (.wix 0 2) (.int 7)) (.var 1)))))))

abbrev n_l_random_table : List Str := ["_law_state", "_law_most", "_law_high", "_law_count", "_law_width", "_law_cells", "_law_rarity", "_law_limit", "_law_costs", "_law_line", "_law_row", "_law_k"]
abbrev p_l_random_table : List Str := ["_law_state", "_law_most", "_law_high"]
def b_l_random_table (K : PySem.W.Frag) (mg : Str → Option Value) (W : World) (g_l_drawn : PF W) : SS ⟨K, mg, W, E0⟩ :=
  (.seq (.parT [3, 4] (.cons (.add (.int 1) (.call 2 g_l_drawn (.cons (.var 0) (.cons (.var 1) .nil)))) (.cons (.add (.int 1) (.call 2 g_l_drawn (.cons (.var 0) (.cons (.var 1) .nil)))) .nil))) (.seq (.asgD 5 (.lc (.range (.var 3)) (.name 10) .yes (.tuple (.lc (.range (.var 4)) (.name 11) .yes (.sub (.call 2 g_l_drawn (.cons (.var 0) (.cons (.add (.mul (.int 2) (.var 2)) (.int 1)) .nil))) (.var 2)) [11] rfl)) [10] rfl)) (.seq (.par3 6 7 8 (.cons (.ix (.lst (.cons (.int 3) (.cons (.int 12) (.cons (.int 60) .nil)))) (.call 2 g_l_drawn (.cons (.var 0) (.cons (.int 3) .nil)))) (.cons (.ix (.lst (.cons (.int 2) (.cons (.int 9) (.cons (.int 99) .nil)))) (.call 2 g_l_drawn (.cons (.var 0) (.cons (.int 3) .nil)))) (.cons (.lst .nil) .nil)))) (.seq (.for (.range (.add (.var 3) (.var 4))) (.name 9) (.seq (.frzq 6) (.seq (.frzq 7) (.app 8 (.ite (.of (.eq (.call 2 g_l_drawn (.cons (.var 0) (.cons (.var 6) .nil))) (.int 0))) .non (.add (.int 1) (.call 2 g_l_drawn (.cons (.var 0) (.cons (.var 7) .nil))))))))) (.ret (.tup (.cons (.tuple (.var 5)) (.cons (.tuple (.sl (.var 8) .no (.so (.var 3)))) (.cons (.tuple (.sl (.var 8) (.so (.var 3)) .no)) .nil)))))))))

abbrev n_l_line_costs : List Str := ["_law_table"]
abbrev p_l_line_costs : List Str := ["_law_table"]
def b_l_line_costs (K : PySem.W.Frag) (mg : Str → Option Value) (W : World) : SS ⟨K, mg, W, E0⟩ :=
  (.ret (.add (.list (.ix (.var 0) (.int 1))) (.list (.ix (.var 0) (.int 2)))))

abbrev n_l_shifted : List Str := ["_law_cells", "_law_shifts", "_law_count", "_law_result", "_law_row", "_law_values", "_law_k"]
abbrev p_l_shifted : List Str := ["_law_cells", "_law_shifts"]
def b_l_shifted (K : PySem.W.Frag) (mg : Str → Option Value) (W : World) : SS ⟨K, mg, W, E0⟩ :=
  (.seq (.asgD 2 (.len (.var 0))) (.seq (.asg 3 (.lst .nil)) (.seq (.for (.range (.var 2)) (.name 4) (.seq (.asg 5 (.lst .nil)) (.seq (.for (.range (.len (.ix (.var 0) (.var 4)))) (.name 6) (.app 5 (.add (.add (.ix (.ix (.var 0) (.var 4)) (.var 6)) (.ix (.var 1) (.var 4))) (.ix (.var 1) (.add (.var 2) (.var 6)))))) (.app 3 (.tuple (.var 5)))))) (.ret (.tuple (.var 3))))))

abbrev n_l_random_goal : List Str := ["_law_state", "_law_table", "_law_span", "_law_costs", "_law_branch", "_law_rarity", "_law_shifts", "_law_row", "_law_result", "_law_k", "_law_choice", "_law_cost"]
abbrev p_l_random_goal : List Str := ["_law_state", "_law_table", "_law_span"]
def b_l_random_goal (K : PySem.W.Frag) (mg : Str → Option Value) (W : World) (g_l_drawn : PF W) (g_l_shifted : PF W) (g_l_line_costs : PF W) : SS ⟨K, mg, W, E0⟩ :=
  (.seq (.par3 3 4 5 (.cons (.call 1 g_l_line_costs (.cons (.var 1) .nil)) (.cons (.call 2 g_l_drawn (.cons (.var 0) (.cons (.int 4) .nil))) (.cons (.ix (.lst (.cons (.int 1) (.cons (.int 2) (.cons (.int 3) (.cons (.int 9) .nil))))) (.call 2 g_l_drawn (.cons (.var 0) (.cons (.int 4) .nil)))) .nil)))) (.seq (.frzq 3) (.seq (.asgD 6 (.lc (.seq (.var 3)) (.name 11) .yes (.ite (.of (.is (.var 11) .non)) (.int 0) (.sub (.call 2 g_l_drawn (.cons (.var 0) (.cons (.add (.mul (.int 2) (.var 2)) (.int 1)) .nil))) (.var 2))) [11] rfl)) (.seq (.mxL 8 7 (.seq (.call 2 g_l_shifted (.cons (.ix (.var 1) (.int 0)) (.cons (.var 6) .nil)))) (.forLen (.name 7) (.forRow 7 (.name 9) (.seq (.lift (.asgD 10 (.call 2 g_l_drawn (.cons (.var 0) (.cons (.int 20) .nil))))) (.seq (.ite (.and (.of (.eq (.var 4) (.int 0))) (.of (.eq (.var 10) (.int 0)))) (.put1 7 9 (.call 2 g_l_drawn (.cons (.var 0) (.cons (.var 2) .nil)))) (.lift .nop)) (.ite (.or (.of (.eq (.call 2 g_l_drawn (.cons (.var 0) (.cons (.add (.var 5) (.int 1)) .nil))) (.int 0))) (.and (.of (.eq (.var 5) (.int 1))) (.of (.lt (.var 10) (.int 9))))) (.put 7 9 .non) (.lift .nop))))))) (.ret (.tuple (.lc (.seq (.var 8)) (.name 7) .yes (.tuple (.var 7)) [7] rfl)))))))

end Cl

set_option linter.all false
namespace Mi
/-- a line in the search: offset, sign, parent -/
structure Nd where
  l : Nat
  o : Int
  s : Int
  p : Option Nat
abbrev Gaps := List ((Nat × Nat) × Int)
def nbs (g : Gaps) (l : Nat) : List (Nat × Int) :=
  (g.filter fun e => e.1.1 = l).map (fun e => (e.1.2, e.2)) ++ (g.filter fun e => e.1.2 = l).map (fun e => (e.1.1, e.2))
def Adj (g : Gaps) (a b : Nat) (x : Int) : Prop := ((a, b), x) ∈ g ∨ ((b, a), x) ∈ g
theorem Adj.symm {g : Gaps} {a b : Nat} {x : Int} (h : Adj g a b x) : Adj g b a x := h.elim .inr .inl
theorem mem_nbs {g : Gaps} {l o : Nat} {x : Int} : (o, x) ∈ nbs g l ↔ Adj g l o x := by
  simp only [nbs, Adj, List.mem_append, List.mem_map, List.mem_filter]
  constructor
  · rintro (⟨⟨⟨a, b⟩, y⟩, ⟨h1, h2⟩, h3⟩ | ⟨⟨⟨a, b⟩, y⟩, ⟨h1, h2⟩, h3⟩)
    · simp at h2 h3; left; rw [← h2, ← h3.1, ← h3.2]; exact h1
    · simp at h2 h3; right; rw [← h2, ← h3.1, ← h3.2]; exact h1
  · rintro (h | h)
    · exact .inl ⟨_, ⟨h, by simp⟩, rfl⟩
    · exact .inr ⟨_, ⟨h, by simp⟩, rfl⟩
def fnd (ns : List Nd) (k : Nat) : Option Nd := ns.find? fun n => n.l = k
def offA (ns : List Nd) (k : Nat) : Int := ((fnd ns k).map (·.o)).getD 0
def sgnA (ns : List Nd) (k : Nat) : Int := ((fnd ns k).map (·.s)).getD 0
def parA (ns : List Nd) (k : Nat) : Option Nat := (fnd ns k).bind (·.p)
/-- up the tree, at most so many lines -/
def upTo (ns : List Nd) : Nat → Option Nat → List Nat
  | _, none => []
  | 0, some _ => []
  | f + 1, some l => l :: upTo ns f (parA ns l)
def pathTo (ns : List Nd) (l : Nat) : List Nat := (upTo ns 20 (some l)).reverse
structure BS where
  ns : List Nd
  cyc : Option (List Nat)
  q : List Nat
def visit (line : Nat) (b : BS) (e : Nat × Int) : BS :=
  if (fnd b.ns e.1).isNone then { b with ns := b.ns ++ [⟨e.1, e.2 - offA b.ns line, 0 - sgnA b.ns line, some line⟩], q := b.q ++ [e.1] }
  else if b.cyc = none ∧ offA b.ns e.1 + offA b.ns line ≠ e.2 then { b with cyc := some (pathTo b.ns line ++ (pathTo b.ns e.1).reverse) }
  else b
def bfs (g : Gaps) : Nat → BS → BS
  | 0, b => b
  | f + 1, b => match b.q with
    | [] => b
    | l :: q => bfs g f ((nbs g l).foldl (visit l) { b with q := q })
def bfs0 (first : Nat) : BS := ⟨[⟨first, 0, 1, none⟩], none, [first]⟩
def Solves (g : Gaps) (s : Nat → Int) : Prop := ∀ a b x, ((a, b), x) ∈ g → s a + s b = x
def Closed (g : Gaps) (S : Nat → Prop) : Prop := ∀ a b x, ((a, b), x) ∈ g → (S a ↔ S b)
theorem Solves.adj {g : Gaps} {s : Nat → Int} (h : Solves g s) {a b : Nat} {x : Int} (e : Adj g a b x) : s a + s b = x := by
  rcases e with e | e
  · exact h _ _ _ e
  · have := h _ _ _ e; omega
theorem Closed.adj {g : Gaps} {s : Nat → Prop} (h : Closed g s) {a b : Nat} {x : Int} (e : Adj g a b x) : s a ↔ s b := by
  rcases e with e | e
  · exact h _ _ _ e
  · exact (h _ _ _ e).symm
/-- rows and columns: edges join both sides -/
def Bip (h N : Nat) (g : Gaps) : Prop := ∀ a b x, ((a, b), x) ∈ g → a < h ∧ h ≤ b ∧ b < N
theorem Bip.adj {h N : Nat} {g : Gaps} (B : Bip h N g) {a b : Nat} {x : Int} (e : Adj g a b x) (hN : h ≤ N) : (a < h ↔ ¬ b < h) ∧ b < N := by
  rcases e with e | e
  · have := B _ _ _ e; omega
  · have := B _ _ _ e; omega
theorem fnd_some {ns : List Nd} {k : Nat} {n : Nd} (h : fnd ns k = some n) : n ∈ ns ∧ n.l = k := by
  unfold fnd at h
  refine ⟨List.mem_of_find?_eq_some h, ?_⟩
  have := List.find?_some h
  simpa using this
theorem fnd_none {ns : List Nd} {k : Nat} (h : fnd ns k = none) : ∀ n ∈ ns, n.l ≠ k := by
  unfold fnd at h
  intro n hn
  have := List.find?_eq_none.mp h n hn
  simpa using this
theorem fnd_of {ns : List Nd} (hd : (ns.map (·.l)).Nodup) {n : Nd} (h : n ∈ ns) : fnd ns n.l = some n := by
  cases e : fnd ns n.l with
  | none => exact absurd rfl (fnd_none e n h)
  | some m =>
    obtain ⟨h1, h2⟩ := fnd_some e
    induction ns with
    | nil => cases h
    | cons a r ih =>
      rw [List.map_cons, List.nodup_cons] at hd
      by_cases ha : a.l = n.l
      · have : fnd (a :: r) n.l = some a := by unfold fnd; rw [List.find?_cons_of_pos (by simpa using ha)]
        rw [this] at e; cases e
        rcases List.mem_cons.mp h with h | h
        · rw [h]
        · exact absurd (ha ▸ List.mem_map_of_mem h) hd.1
      · have h' : n ∈ r := by
          rcases List.mem_cons.mp h with h | h
          · rw [h] at ha; exact absurd rfl ha
          · exact h
        have e' : fnd r n.l = some m := by
          rw [← e]; unfold fnd; rw [List.find?_cons_of_neg (by simpa using ha)]
        exact ih hd.2 h' e' (fnd_some e').1
theorem fnd_append {ns ms : List Nd} {k : Nat} {n : Nd} (h : fnd ns k = some n) : fnd (ns ++ ms) k = some n := by
  unfold fnd at *; rw [List.find?_append, h]; rfl

theorem side_flip {p q r : Prop} [Decidable p] [Decidable q] [Decidable r] (h : p ↔ ¬ q) : (if (q ↔ r) then (1 : Int) else -1) = -(if (p ↔ r) then (1 : Int) else -1) := by
  by_cases hp : p <;> by_cases hq : q <;> by_cases hr : r <;> simp [hp, hq, hr] <;> simp [hp, hq] at h

structure Inv (g : Gaps) (h N first : Nat) (done : List Nat) (b : BS) : Prop where
  nd : (b.ns.map (·.l)).Nodup
  lt : ∀ n ∈ b.ns, n.l < N
  hd : ∃ r, b.ns = ⟨first, 0, 1, none⟩ :: r
  snd : ∀ n ∈ b.ns, ∀ s, Solves g s → s n.l = n.o + n.s * s first
  side : ∀ n ∈ b.ns, n.s = if (n.l < h ↔ first < h) then 1 else -1
  conn : ∀ n ∈ b.ns, ∀ S, Closed g S → (S n.l ↔ S first)
  ks : b.ns.map (·.l) = done ++ b.q
  bad : b.cyc ≠ none → ¬ ∃ s, Solves g s
  par : ∀ i (hi : i < b.ns.length), (b.ns[i]).p = none ∨ ∃ j, ∃ hj : j < b.ns.length, j < i ∧ (b.ns[i]).p = some (b.ns[j]).l
/-- an edge from a known line is settled -/
def Done1 (b : BS) (line o : Nat) (x : Int) : Prop := ∃ n m, fnd b.ns o = some n ∧ fnd b.ns line = some m ∧ (b.cyc = none → n.o + m.o = x)
/-- what was known stays -/
structure Grow (b b' : BS) : Prop where
  ns : ∃ r, b'.ns = b.ns ++ r
  cyc : b'.cyc = none → b.cyc = none
theorem Grow.refl (b : BS) : Grow b b := ⟨⟨[], by simp⟩, id⟩
theorem Grow.trans {a b c : BS} (h : Grow a b) (k : Grow b c) : Grow a c := by
  obtain ⟨⟨r, e⟩, h2⟩ := h
  obtain ⟨⟨r', e'⟩, k2⟩ := k
  exact ⟨⟨r ++ r', by rw [e', e, List.append_assoc]⟩, fun z => h2 (k2 z)⟩
theorem Grow.fnd {a b : BS} (h : Grow a b) {k : Nat} {n : Nd} (e : fnd a.ns k = some n) : fnd b.ns k = some n := by
  obtain ⟨⟨r, e1⟩, _⟩ := h
  rw [e1]; exact fnd_append e
theorem Done1.grow {a b : BS} (h : Grow a b) {l o : Nat} {x : Int} (d : Done1 a l o x) : Done1 b l o x := by
  obtain ⟨n, m, h1, h2, h3⟩ := d
  exact ⟨n, m, h.fnd h1, h.fnd h2, fun z => h3 (h.cyc z)⟩
theorem visit_inv {g : Gaps} {h N first line : Nat} {done : List Nat} {b : BS} {e : Nat × Int} (hN : h ≤ N) (B : Bip h N g) (I : Inv g h N first done b) (hl : line ∈ done) (ha : Adj g line e.1 e.2) :
    Inv g h N first done (visit line b e) ∧ Grow b (visit line b e) ∧ Done1 (visit line b e) line e.1 e.2 := by
  obtain ⟨o, x⟩ := e
  simp only at ha
  obtain ⟨m, hm, hml⟩ : ∃ m ∈ b.ns, m.l = line := by
    have : line ∈ b.ns.map (·.l) := by rw [I.ks]; exact List.mem_append_left _ hl
    simpa using this
  have fm : fnd b.ns line = some m := by rw [← hml]; exact fnd_of I.nd hm
  have om : offA b.ns line = m.o := by unfold offA; rw [fm]; rfl
  have sm : sgnA b.ns line = m.s := by unfold sgnA; rw [fm]; rfl
  unfold visit
  cases fo : fnd b.ns o with
  | none =>
    rw [if_pos (by rfl)]
    simp only [om, sm]
    have gr : Grow b { b with ns := b.ns ++ [⟨o, x - m.o, 0 - m.s, some line⟩], q := b.q ++ [o] } := ⟨⟨_, rfl⟩, id⟩
    have hno := fnd_none fo
    have ad := B.adj ha hN
    have fnew : fnd (b.ns ++ [(⟨o, x - m.o, 0 - m.s, some line⟩ : Nd)]) o = some ⟨o, x - m.o, 0 - m.s, some line⟩ := by
      unfold fnd at fo ⊢; rw [List.find?_append, fo]; simp
    refine ⟨⟨?_, ?_, ?_, ?_, ?_, ?_, ?_, ?_, ?_⟩, gr, ⟨_, m, fnew, gr.fnd fm, fun _ => by simp only; omega⟩⟩
    · show (List.map _ (b.ns ++ _)).Nodup
      rw [List.map_append, List.nodup_append]
      refine ⟨I.nd, by simp, ?_⟩
      intro a h1 c h2
      simp at h1 h2
      obtain ⟨n, hn, rfl⟩ := h1
      rw [h2]; exact hno n hn
    · intro n hn
      simp only [List.mem_append, List.mem_singleton] at hn
      rcases hn with hn | rfl
      · exact I.lt n hn
      · exact ad.2
    · obtain ⟨r, hr⟩ := I.hd
      exact ⟨_, by show b.ns ++ _ = _; rw [hr, List.cons_append]⟩
    · intro n hn s hs
      simp only [List.mem_append, List.mem_singleton] at hn
      rcases hn with hn | rfl
      · exact I.snd n hn s hs
      · have h1 := I.snd m hm s hs
        have h2 := hs.adj ha
        rw [hml] at h1
        simp only [Int.zero_sub, Int.neg_mul]
        omega
    · intro n hn
      simp only [List.mem_append, List.mem_singleton] at hn
      rcases hn with hn | rfl
      · exact I.side n hn
      · have h1 := I.side m hm
        rw [hml] at h1
        show 0 - m.s = _
        rw [h1, side_flip (r := first < h) ad.1]
        omega
    · intro n hn S hS
      simp only [List.mem_append, List.mem_singleton] at hn
      rcases hn with hn | rfl
      · exact I.conn n hn S hS
      · have h1 := I.conn m hm S hS
        rw [hml] at h1
        exact (hS.adj ha).symm.trans h1
    · show List.map _ (b.ns ++ _) = _
      rw [List.map_append, I.ks]; simp
    · exact I.bad
    · intro i hi
      simp only [List.length_append, List.length_singleton] at hi
      by_cases hi2 : i < b.ns.length
      · simp only [List.getElem_append_left hi2]
        rcases I.par i hi2 with h1 | ⟨j, hj, h1, h2⟩
        · exact .inl h1
        · exact .inr ⟨j, by simp; omega, h1, by rw [List.getElem_append_left hj]; exact h2⟩
      · have hi3 : i = b.ns.length := by omega
        subst hi3
        obtain ⟨j, hj, ej⟩ := List.mem_iff_getElem.mp hm
        exact .inr ⟨j, by simp; omega, hj, by rw [List.getElem_append_left hj, ej, hml]; simp⟩
  | some n =>
    have on : offA b.ns o = n.o := by unfold offA; rw [fo]; rfl
    rw [if_neg (by simp)]
    obtain ⟨hn, hnl⟩ := fnd_some fo
    split
    · rename_i hc
      obtain ⟨hc, hc2⟩ := hc
      simp only [on, om] at hc2
      refine ⟨{ nd := I.nd, lt := I.lt, hd := I.hd, snd := I.snd, side := I.side, conn := I.conn, ks := I.ks, par := I.par, bad := fun _ => ?_ }, ⟨⟨[], by simp⟩, fun z => by cases z⟩, ⟨n, m, fo, fm, fun z => by cases z⟩⟩
      rintro ⟨s, hs⟩
      have h1 := I.snd n hn s hs
      have h2 := I.snd m hm s hs
      have h3 := hs.adj ha
      have s1 := I.side n hn
      have s2 := I.side m hm
      have ad := B.adj ha hN
      rw [hnl] at h1 s1
      rw [hml] at h2 s2
      have : n.s = - m.s := by
        rw [s1, s2, side_flip (r := first < h) ad.1]
      rw [this] at h1
      simp only [Int.neg_mul] at h1
      omega
    · rename_i hc
      refine ⟨I, .refl b, ⟨n, m, fo, fm, fun z => ?_⟩⟩
      rw [on, om] at hc
      exact Classical.not_not.mp fun w => hc ⟨z, w⟩
theorem visits_inv {g : Gaps} {h N first line : Nat} {done : List Nat} (hN : h ≤ N) (B : Bip h N g) (hl : line ∈ done) : ∀ (es : List (Nat × Int)) (b : BS), (∀ e ∈ es, Adj g line e.1 e.2) → Inv g h N first done b →
    Inv g h N first done (es.foldl (visit line) b) ∧ Grow b (es.foldl (visit line) b) ∧ ∀ e ∈ es, Done1 (es.foldl (visit line) b) line e.1 e.2
  | [], b, _, I => ⟨I, .refl b, fun _ h => by cases h⟩
  | e :: es, b, ha, I => by
    obtain ⟨I1, g1, d1⟩ := visit_inv hN B I hl (ha e (List.mem_cons_self ..))
    obtain ⟨I2, g2, d2⟩ := visits_inv hN B hl es (visit line b e) (fun e' h => ha e' (List.mem_cons_of_mem _ h)) I1
    refine ⟨I2, g1.trans g2, fun e' h => ?_⟩
    rcases List.mem_cons.mp h with h | h
    · rw [h]; exact d1.grow g2
    · exact d2 e' h
def AllDone (g : Gaps) (done : List Nat) (b : BS) : Prop := ∀ l ∈ done, ∀ o x, Adj g l o x → Done1 b l o x
theorem bfs_inv {g : Gaps} {h N first : Nat} (hN : h ≤ N) (B : Bip h N g) : ∀ (f : Nat) (done : List Nat) (b : BS), Inv g h N first done b → AllDone g done b → N < done.length + f →
    ∃ done', Inv g h N first done' (bfs g f b) ∧ AllDone g done' (bfs g f b) ∧ (bfs g f b).q = []
  | 0, done, b, I, _, hf => by
    exfalso
    have h1 : (b.ns.map (·.l)).length ≤ N := by
      have : (b.ns.map (·.l)) ⊆ List.range N := by
        intro k hk
        obtain ⟨n, hn, rfl⟩ := List.mem_map.mp hk
        exact List.mem_range.mpr (I.lt n hn)
      have := List.Nodup.length_le_of_subset I.nd this
      simpa using this
    rw [I.ks, List.length_append] at h1
    omega
  | f + 1, done, b, I, D, hf => by
    unfold bfs
    split
    · rename_i hq
      exact ⟨done, I, D, hq⟩
    · rename_i l q hq
      have I0 : Inv g h N first (done ++ [l]) { b with q := q } := { nd := I.nd, lt := I.lt, hd := I.hd, snd := I.snd, side := I.side, conn := I.conn, ks := by show List.map _ b.ns = _; rw [I.ks, hq]; simp, par := I.par, bad := I.bad }
      obtain ⟨I1, g1, d1⟩ := visits_inv hN B (by simp) (nbs g l) _ (fun e he => mem_nbs.mp he) I0
      refine bfs_inv hN B f (done ++ [l]) _ I1 ?_ (by simp; omega)
      intro k hk o x ha
      rcases List.mem_append.mp hk with hk | hk
      · have := D k hk o x ha
        exact Done1.grow g1 this
      · simp at hk; subst hk
        exact d1 (o, x) (mem_nbs.mpr ha)

theorem inv0 {g : Gaps} {h N first : Nat} (hf : first < N) : Inv g h N first [] (bfs0 first) where
  nd := by simp [bfs0]
  lt := by intro n hn; simp [bfs0] at hn; rw [hn]; exact hf
  hd := ⟨[], rfl⟩
  snd := by intro n hn s hs; simp [bfs0] at hn; subst hn; simp
  side := by intro n hn; simp [bfs0] at hn; subst hn; simp
  conn := by intro n hn S hS; simp [bfs0] at hn; subst hn; exact Iff.rfl
  ks := by simp [bfs0]
  bad := by intro h; exact absurd rfl h
  par := by intro i hi; simp [bfs0] at hi; subst hi; exact .inl rfl
/-! ### a component -/
def leN (a b : Nat) : Bool := decide (a ≤ b)
structure Cm where
  ns : List Nd
  cyc : Option (List Nat)
  lines : List Nat
def comp (g : Gaps) (first : Nat) : Cm :=
  let b := bfs g 20 (bfs0 first)
  ⟨b.ns, b.cyc, (b.ns.map (·.l)).mergeSort leN⟩
structure CmOk (g : Gaps) (h N first : Nat) (m : Cm) : Prop where
  nd : (m.ns.map (·.l)).Nodup
  lt : ∀ n ∈ m.ns, n.l < N
  hd : ∃ r, m.ns = ⟨first, 0, 1, none⟩ :: r
  snd : ∀ n ∈ m.ns, ∀ s, Solves g s → s n.l = n.o + n.s * s first
  side : ∀ n ∈ m.ns, n.s = if (n.l < h ↔ first < h) then 1 else -1
  conn : ∀ n ∈ m.ns, ∀ S, Closed g S → (S n.l ↔ S first)
  bad : m.cyc ≠ none → ¬ ∃ s, Solves g s
  par : ∀ i (hi : i < m.ns.length), (m.ns[i]).p = none ∨ ∃ j, ∃ hj : j < m.ns.length, j < i ∧ (m.ns[i]).p = some (m.ns[j]).l
  ls : m.lines = (m.ns.map (·.l)).mergeSort leN
  edge : ∀ n ∈ m.ns, ∀ o x, Adj g n.l o x → ∃ n' ∈ m.ns, n'.l = o ∧ (m.cyc = none → n'.o + n.o = x)
theorem comp_ok {g : Gaps} {h N first : Nat} (hN : h ≤ N) (hN2 : N ≤ 18) (B : Bip h N g) (hf : first < N) : CmOk g h N first (comp g first) := by
  obtain ⟨done, I, D, hq⟩ := bfs_inv hN B 20 [] (bfs0 first) (inv0 hf) (fun _ h => by cases h) (by simp; omega)
  have e : comp g first = ⟨(bfs g 20 (bfs0 first)).ns, (bfs g 20 (bfs0 first)).cyc, ((bfs g 20 (bfs0 first)).ns.map (·.l)).mergeSort leN⟩ := rfl
  rw [e]
  refine ⟨I.nd, I.lt, I.hd, I.snd, I.side, I.conn, I.bad, I.par, rfl, ?_⟩
  intro n hn o x ha
  have hd : n.l ∈ done := by
    have : n.l ∈ (bfs g 20 (bfs0 first)).ns.map (·.l) := List.mem_map_of_mem hn
    rw [I.ks, hq, List.append_nil] at this
    exact this
  obtain ⟨n', m', h1, h2, h3⟩ := D n.l hd o x ha
  rw [fnd_of I.nd hn] at h2
  cases h2
  exact ⟨n', (fnd_some h1).1, (fnd_some h1).2, h3⟩
namespace Cm
def zero (m : Cm) (l : Nat) : Int := 0 - sgnA m.ns l * offA m.ns l
def shift (m : Cm) (l : Nat) (x : Int) : Int := offA m.ns l + sgnA m.ns l * x
def locked (c : Nat → Option Int) (m : Cm) : List Nat := m.lines.filter fun l => (c l).isNone
def contra (c : Nat → Option Int) (m : Cm) : Option (List Nat) :=
  match m.cyc with
  | some p => some p
  | none => match m.locked c with
    | [] => none
    | a :: r => (r.find? fun l => m.zero l ≠ m.zero a).map fun l => (pathTo m.ns a).reverse ++ (pathTo m.ns l).drop 1
end Cm
namespace CmOk
variable {g : Gaps} {h N first : Nat} {m : Cm}
theorem mem (o : CmOk g h N first m) {l : Nat} : l ∈ m.lines ↔ ∃ n ∈ m.ns, n.l = l := by
  rw [o.ls, List.mem_mergeSort]
  simp
theorem nodup (o : CmOk g h N first m) : m.lines.Nodup := by
  rw [o.ls]
  exact (List.mergeSort_perm _ _).nodup_iff.mpr o.nd
theorem sorted (o : CmOk g h N first m) : m.lines.Pairwise (· ≤ ·) := by
  rw [o.ls]
  have := List.pairwise_mergeSort (le := leN) (by intro a b c h1 h2; simp [leN] at *; omega) (by intro a b; simp [leN]; omega) (m.ns.map (·.l))
  exact this.imp fun h => by simpa [leN] using h
theorem ltN (o : CmOk g h N first m) {l : Nat} (hl : l ∈ m.lines) : l < N := by
  obtain ⟨n, hn, rfl⟩ := o.mem.mp hl
  exact o.lt n hn
theorem first_mem (o : CmOk g h N first m) : first ∈ m.lines := by
  obtain ⟨r, e⟩ := o.hd
  exact o.mem.mpr ⟨_, by rw [e]; exact List.mem_cons_self .., rfl⟩
theorem at_ (o : CmOk g h N first m) {n : Nd} (hn : n ∈ m.ns) : offA m.ns n.l = n.o ∧ sgnA m.ns n.l = n.s ∧ parA m.ns n.l = n.p := by
  have := fnd_of o.nd hn
  unfold offA sgnA parA
  rw [this]; exact ⟨rfl, rfl, rfl⟩
theorem shift_of (o : CmOk g h N first m) {l : Nat} (hl : l ∈ m.lines) {s : Nat → Int} (hs : Solves g s) : s l = m.shift l (s first) := by
  obtain ⟨n, hn, rfl⟩ := o.mem.mp hl
  obtain ⟨h1, h2, _⟩ := o.at_ hn
  unfold Cm.shift
  rw [h1, h2]
  exact o.snd n hn s hs
theorem sgn (o : CmOk g h N first m) {l : Nat} (hl : l ∈ m.lines) : sgnA m.ns l = if (l < h ↔ first < h) then 1 else -1 := by
  obtain ⟨n, hn, rfl⟩ := o.mem.mp hl
  rw [(o.at_ hn).2.1]
  exact o.side n hn
theorem sgn1 (o : CmOk g h N first m) {l : Nat} (hl : l ∈ m.lines) : sgnA m.ns l = 1 ∨ sgnA m.ns l = -1 := by
  rw [o.sgn hl]; split <;> simp
theorem closed (o : CmOk g h N first m) : Closed g (· ∈ m.lines) := by
  intro a b x e
  constructor
  · intro ha
    obtain ⟨n, hn, rfl⟩ := o.mem.mp ha
    obtain ⟨n', h1, h2, _⟩ := o.edge n hn b x (.inl e)
    exact o.mem.mpr ⟨n', h1, h2⟩
  · intro ha
    obtain ⟨n, hn, rfl⟩ := o.mem.mp ha
    obtain ⟨n', h1, h2, _⟩ := o.edge n hn a x (.inr e)
    exact o.mem.mpr ⟨n', h1, h2⟩
/-- the component is the least closed set with the first line -/
theorem least (o : CmOk g h N first m) {S : Nat → Prop} (hS : Closed g S) {l : Nat} (hl : l ∈ m.lines) : S l ↔ S first := by
  obtain ⟨n, hn, rfl⟩ := o.mem.mp hl
  exact o.conn n hn S hS
/-- without a cycle the shifts by the tree keep all edges -/
theorem edge_ok (o : CmOk g h N first m) (hN : h ≤ N) (B : Bip h N g) (hc : m.cyc = none) {a b : Nat} {x : Int} (e : ((a, b), x) ∈ g) (ha : a ∈ m.lines) (y : Int) : m.shift a y + m.shift b y = x := by
  obtain ⟨n, hn, rfl⟩ := o.mem.mp ha
  obtain ⟨n', h1, rfl, h3⟩ := o.edge n hn b x (.inl e)
  have hb : n'.l ∈ m.lines := o.mem.mpr ⟨n', h1, rfl⟩
  have bp := B _ _ _ e
  have s1 := o.sgn ha
  have s2 := o.sgn hb
  unfold Cm.shift
  rw [(o.at_ hn).1, (o.at_ h1).1]
  have := h3 hc
  have : sgnA m.ns n.l = - sgnA m.ns n'.l := by
    rw [s1, s2, side_flip (p := n'.l < h) (q := n.l < h) (r := first < h) (by omega)]
  rw [this]
  simp only [Int.neg_mul]
  omega
theorem zero_iff (o : CmOk g h N first m) {l : Nat} (hl : l ∈ m.lines) (x : Int) : m.shift l x = 0 ↔ x = m.zero l := by
  unfold Cm.shift Cm.zero
  rcases o.sgn1 hl with e | e <;> rw [e] <;> omega
theorem abs_shift (o : CmOk g h N first m) {l : Nat} (hl : l ∈ m.lines) (x : Int) : (m.shift l x).natAbs = (x - m.zero l).natAbs := by
  unfold Cm.shift Cm.zero
  rcases o.sgn1 hl with e | e <;> rw [e] <;> omega
end CmOk
end Mi

set_option linter.all false
namespace Mi
/-! ### weighted medians -/
abbrev Pts := List (Int × Int)
def wsum (ps : Pts) : Int := (ps.map (·.2)).sum
def dist (ps : Pts) (x : Int) : Int := (ps.map fun e => ((x - e.1).natAbs : Int) * e.2).sum
def lowS (total : Int) : Int → Pts → Option Int
  | _, [] => none
  | w, (p, c) :: r => if 2 * (w + c) ≥ total then some p else lowS total (w + c) r
def highS (total : Int) : Int → Pts → Option Int
  | _, [] => none
  | w, (p, c) :: r => if 2 * (w + c) > total then some p else highS total (w + c) r
@[simp] theorem wsum_nil : wsum [] = 0 := rfl
@[simp] theorem wsum_cons {e : Int × Int} {r : Pts} : wsum (e :: r) = e.2 + wsum r := rfl
@[simp] theorem dist_nil {x : Int} : dist [] x = 0 := rfl
@[simp] theorem dist_cons {e : Int × Int} {r : Pts} {x : Int} : dist (e :: r) x = ((x - e.1).natAbs : Int) * e.2 + dist r x := rfl
@[simp] theorem wsum_append {a b : Pts} : wsum (a ++ b) = wsum a + wsum b := by
  induction a with
  | nil => simp
  | cons e r ih => rw [List.cons_append, wsum_cons, wsum_cons, ih]; omega
theorem lowS_spec {total : Int} : ∀ (ps : Pts) (w : Int), 2 * w < total → total ≤ 2 * (w + wsum ps) → ∃ A p c B, ps = A ++ (p, c) :: B ∧ 2 * (w + wsum A) < total ∧ total ≤ 2 * (w + wsum A + c) ∧ lowS total w ps = some p
  | [], w, h1, h2 => by simp at h2; omega
  | (p, c) :: r, w, h1, h2 => by
    unfold lowS
    split
    · exact ⟨[], p, c, r, rfl, by simpa using h1, by simp; omega, rfl⟩
    · obtain ⟨A, p', c', B, e, k1, k2, k3⟩ := lowS_spec (total := total) r (w + c) (by omega) (by simp at h2; omega)
      exact ⟨(p, c) :: A, p', c', B, by rw [e]; rfl, by simp; omega, by simp; omega, k3⟩
theorem highS_spec {total : Int} : ∀ (ps : Pts) (w : Int), 2 * w ≤ total → total < 2 * (w + wsum ps) → ∃ A p c B, ps = A ++ (p, c) :: B ∧ 2 * (w + wsum A) ≤ total ∧ total < 2 * (w + wsum A + c) ∧ highS total w ps = some p
  | [], w, h1, h2 => by simp at h2; omega
  | (p, c) :: r, w, h1, h2 => by
    unfold highS
    split
    · exact ⟨[], p, c, r, rfl, by simpa using h1, by simp; omega, rfl⟩
    · obtain ⟨A, p', c', B, e, k1, k2, k3⟩ := highS_spec (total := total) r (w + c) (by omega) (by simp at h2; omega)
      exact ⟨(p, c) :: A, p', c', B, by rw [e]; rfl, by simp; omega, by simp; omega, k3⟩
/-- the weight at or below, below -/
def wle (y : Int) (ps : Pts) : Int := wsum (ps.filter fun e => e.1 ≤ y)
def wlt (y : Int) (ps : Pts) : Int := wsum (ps.filter fun e => e.1 < y)
theorem dist_up {x y : Int} (h : y ≤ x) : ∀ (ps : Pts), (∀ e ∈ ps, 0 ≤ e.2) → (x - y) * (2 * wle y ps - wsum ps) ≤ dist ps x - dist ps y
  | [], _ => by simp [wle]
  | (p, c) :: r, hp => by
    have ih := dist_up h r (fun e he => hp e (List.mem_cons_of_mem _ he))
    have hc : 0 ≤ c := hp (p, c) (List.mem_cons_self ..)
    unfold wle at *
    by_cases hy : p ≤ y
    · rw [List.filter_cons_of_pos (by simpa using hy)]
      simp only [wsum_cons, dist_cons]
      have e1 : ((x - p).natAbs : Int) = ((y - p).natAbs : Int) + (x - y) := by omega
      rw [e1, Int.add_mul]
      have : (x - y) * (2 * (c + wsum (List.filter (fun e => decide (e.1 ≤ y)) r)) - (c + wsum r)) = (x - y) * c + (x - y) * (2 * wsum (List.filter (fun e => decide (e.1 ≤ y)) r) - wsum r) := by
        rw [← Int.mul_add]; congr 1; omega
      omega
    · rw [List.filter_cons_of_neg (by simpa using hy)]
      simp only [wsum_cons, dist_cons]
      have e1 : ((y - p).natAbs : Int) - (x - y) ≤ ((x - p).natAbs : Int) := by omega
      have e2 := Int.mul_le_mul_of_nonneg_right e1 hc
      rw [Int.sub_mul] at e2
      have : (x - y) * (2 * wsum (List.filter (fun e => decide (e.1 ≤ y)) r) - (c + wsum r)) = (x - y) * (2 * wsum (List.filter (fun e => decide (e.1 ≤ y)) r) - wsum r) - (x - y) * c := by
        rw [← Int.mul_sub]; congr 1; omega
      omega
theorem dist_down {x y : Int} (h : x ≤ y) : ∀ (ps : Pts), (∀ e ∈ ps, 0 ≤ e.2) → (y - x) * (wsum ps - 2 * wlt y ps) ≤ dist ps x - dist ps y
  | [], _ => by simp [wlt]
  | (p, c) :: r, hp => by
    have ih := dist_down h r (fun e he => hp e (List.mem_cons_of_mem _ he))
    have hc : 0 ≤ c := hp (p, c) (List.mem_cons_self ..)
    unfold wlt at *
    by_cases hy : p < y
    · rw [List.filter_cons_of_pos (by simpa using hy)]
      simp only [wsum_cons, dist_cons]
      have e1 : ((y - p).natAbs : Int) - (y - x) ≤ ((x - p).natAbs : Int) := by omega
      have e2 := Int.mul_le_mul_of_nonneg_right e1 hc
      rw [Int.sub_mul] at e2
      have : (y - x) * (c + wsum r - 2 * (c + wsum (List.filter (fun e => decide (e.1 < y)) r))) = (y - x) * (wsum r - 2 * wsum (List.filter (fun e => decide (e.1 < y)) r)) - (y - x) * c := by
        rw [← Int.mul_sub]; congr 1; omega
      omega
    · rw [List.filter_cons_of_neg (by simpa using hy)]
      simp only [wsum_cons, dist_cons]
      have e1 : ((x - p).natAbs : Int) = ((y - p).natAbs : Int) + (y - x) := by omega
      rw [e1, Int.add_mul]
      have : (y - x) * (c + wsum r - 2 * wsum (List.filter (fun e => decide (e.1 < y)) r)) = (y - x) * c + (y - x) * (wsum r - 2 * wsum (List.filter (fun e => decide (e.1 < y)) r)) := by
        rw [← Int.mul_add]; congr 1; omega
      omega
theorem wsum_nonneg {ps : Pts} (h : ∀ e ∈ ps, 0 ≤ e.2) : 0 ≤ wsum ps := by
  induction ps with
  | nil => simp
  | cons e r ih =>
    have := ih fun e he => h e (List.mem_cons_of_mem _ he)
    have := h e (List.mem_cons_self ..)
    simp; omega
theorem wsum_filter_le {ps : Pts} {f : Int × Int → Bool} (h : ∀ e ∈ ps, 0 ≤ e.2) : wsum (ps.filter f) ≤ wsum ps := by
  induction ps with
  | nil => simp
  | cons e r ih =>
    have h1 := ih fun e he => h e (List.mem_cons_of_mem _ he)
    have h2 := h e (List.mem_cons_self ..)
    by_cases hf : f e
    · rw [List.filter_cons_of_pos hf]; simp; omega
    · rw [List.filter_cons_of_neg hf]; simp; omega
theorem wlt_split {A B : Pts} {p c : Int} (h0 : ∀ e ∈ A ++ (p, c) :: B, 0 ≤ e.2) (hs : (A ++ (p, c) :: B).Pairwise fun a b => a.1 ≤ b.1) : wlt p (A ++ (p, c) :: B) ≤ wsum A := by
  unfold wlt
  rw [List.filter_append]
  have : List.filter (fun e : Int × Int => decide (e.1 < p)) ((p, c) :: B) = [] := by
    rw [List.filter_eq_nil_iff]
    intro e he
    rcases List.mem_cons.mp he with rfl | he
    · simp
    · have := (List.pairwise_append.mp hs).2.1
      have := (List.pairwise_cons.mp this).1 e he
      simp at *; omega
  rw [this, List.append_nil]
  exact wsum_filter_le fun e he => h0 e (List.mem_append_left _ he)
theorem wle_split {A B : Pts} {p c : Int} (h0 : ∀ e ∈ A ++ (p, c) :: B, 0 ≤ e.2) (hs : (A ++ (p, c) :: B).Pairwise fun a b => a.1 ≤ b.1) : wsum A + c ≤ wle p (A ++ (p, c) :: B) := by
  unfold wle
  rw [List.filter_append, wsum_append]
  have : List.filter (fun e : Int × Int => decide (e.1 ≤ p)) A = A := by
    rw [List.filter_eq_self]
    intro e he
    have := (List.pairwise_append.mp hs).2.2 e he (p, c) (List.mem_cons_self ..)
    simpa using this
  rw [this, List.filter_cons_of_pos (by simp), wsum_cons]
  have : 0 ≤ wsum (List.filter (fun e : Int × Int => decide (e.1 ≤ p)) B) := wsum_nonneg fun e he => h0 e (List.mem_append_right _ (List.mem_cons_of_mem _ (List.mem_filter.mp he).1))
  simp only; omega
theorem wlt_le_wle {y : Int} {ps : Pts} (h : ∀ e ∈ ps, 0 ≤ e.2) : wlt y ps ≤ wle y ps := by
  unfold wlt wle
  have : List.filter (fun e : Int × Int => decide (e.1 < y)) ps = List.filter (fun e : Int × Int => decide (e.1 < y)) (List.filter (fun e : Int × Int => decide (e.1 ≤ y)) ps) := by
    rw [List.filter_filter]
    congr 1
    funext e
    by_cases h1 : e.1 < y
    · have : e.1 ≤ y := by omega
      simp [h1, this]
    · simp [h1]
  rw [this]
  exact wsum_filter_le fun e he => h e (List.mem_filter.mp he).1
/-- the minimum is taken exactly from low to high -/
theorem median {ps : Pts} (h0 : ∀ e ∈ ps, 0 ≤ e.2) (hs : ps.Pairwise fun a b => a.1 ≤ b.1) (ht : 0 < wsum ps) :
    ∃ lo hi, lowS (wsum ps) 0 ps = some lo ∧ highS (wsum ps) 0 ps = some hi ∧ lo ≤ hi ∧ (∀ x, dist ps lo ≤ dist ps x) ∧ ∀ x, (∀ y, dist ps x ≤ dist ps y) ↔ (lo ≤ x ∧ x ≤ hi) := by
  obtain ⟨A, lo, c, B, e, l1, l2, l3⟩ := lowS_spec (total := wsum ps) ps 0 (by omega) (by omega)
  obtain ⟨A', hi, c', B', e', k1, k2, k3⟩ := highS_spec (total := wsum ps) ps 0 (by omega) (by omega)
  refine ⟨lo, hi, l3, k3, ?_⟩
  have a1 : wlt lo ps ≤ wsum A := by have h0' := h0; have hs' := hs; rw [e] at h0' hs'; rw [e]; exact wlt_split h0' hs'
  have a2 : wsum A + c ≤ wle lo ps := by have h0' := h0; have hs' := hs; rw [e] at h0' hs'; rw [e]; exact wle_split h0' hs'
  have b1 : wlt hi ps ≤ wsum A' := by have h0' := h0; have hs' := hs; rw [e'] at h0' hs'; rw [e']; exact wlt_split h0' hs'
  have b2 : wsum A' + c' ≤ wle hi ps := by have h0' := h0; have hs' := hs; rw [e'] at h0' hs'; rw [e']; exact wle_split h0' hs'
  have up_lo : ∀ x, lo ≤ x → dist ps lo ≤ dist ps x := fun x hx => by
    have := dist_up hx ps h0
    have := Int.mul_nonneg (show 0 ≤ x - lo by omega) (show 0 ≤ 2 * wle lo ps - wsum ps by omega)
    omega
  have dn_lo : ∀ x, x < lo → dist ps lo < dist ps x := fun x hx => by
    have := dist_down (Int.le_of_lt hx) ps h0
    have := Int.mul_pos (show 0 < lo - x by omega) (show 0 < wsum ps - 2 * wlt lo ps by omega)
    omega
  have up_hi : ∀ x, hi < x → dist ps hi < dist ps x := fun x hx => by
    have := dist_up (Int.le_of_lt hx) ps h0
    have := Int.mul_pos (show 0 < x - hi by omega) (show 0 < 2 * wle hi ps - wsum ps by omega)
    omega
  have dn_hi : ∀ x, x ≤ hi → dist ps hi ≤ dist ps x := fun x hx => by
    have := dist_down hx ps h0
    have := Int.mul_nonneg (show 0 ≤ hi - x by omega) (show 0 ≤ wsum ps - 2 * wlt hi ps by omega)
    omega
  have mlo : ∀ x, dist ps lo ≤ dist ps x := fun x => by
    by_cases hx : lo ≤ x
    · exact up_lo x hx
    · exact Int.le_of_lt (dn_lo x (by omega))
  have mhi : ∀ x, dist ps hi ≤ dist ps x := fun x => by
    by_cases hx : x ≤ hi
    · exact dn_hi x hx
    · exact Int.le_of_lt (up_hi x (by omega))
  have hle : lo ≤ hi := by
    rcases Int.lt_or_le hi lo with h | h
    · have := dn_lo hi h
      have := mhi lo
      omega
    · exact h
  refine ⟨hle, mlo, fun x => ⟨fun hx => ?_, fun hx y => ?_⟩⟩
  · constructor
    · rcases Int.lt_or_le x lo with h | h
      · have := dn_lo x h; have := hx lo; omega
      · exact h
    · rcases Int.lt_or_le hi x with h | h
      · have := up_hi x h; have := hx hi; omega
      · exact h
  · have u1 := dist_up hx.2 ps h0
    have u2 := dist_down hx.1 ps h0
    have e3 := mlo hi
    have e4 := mhi lo
    have e5 := wlt_le_wle (y := x) h0
    have : dist ps x ≤ dist ps lo := by
      by_cases hw : wsum ps ≤ 2 * wle x ps
      · have := Int.mul_nonneg (show 0 ≤ hi - x by omega) (show 0 ≤ 2 * wle x ps - wsum ps by omega)
        omega
      · have := Int.mul_nonneg (show 0 ≤ x - lo by omega) (show 0 ≤ wsum ps - 2 * wlt x ps by omega)
        omega
    have := mlo y
    omega
theorem sum_perm {a b : List Int} (h : a.Perm b) : a.sum = b.sum := by
  induction h with
  | nil => rfl
  | cons x _ ih => simp [ih]
  | swap x y l => simp; omega
  | trans _ _ h1 h2 => rw [h1, h2]
theorem dist_perm {a b : Pts} (h : a.Perm b) (x : Int) : dist a x = dist b x := sum_perm (h.map _)
theorem wsum_perm {a b : Pts} (h : a.Perm b) : wsum a = wsum b := sum_perm (h.map _)
end Mi

set_option linter.all false
namespace Mi
def leP2 (a b : Int × Int) : Bool := decide (a.1 < b.1) || (decide (a.1 = b.1) && decide (a.2 ≤ b.2))
def has (ms : List Cm) (l : Nat) : Bool := ms.any fun m => m.lines.contains l
theorem has_iff {ms : List Cm} {l : Nat} : has ms l = true ↔ ∃ m ∈ ms, l ∈ m.lines := by
  simp [has]
def addC (g : Gaps) (fs : List Cm) (l : Nat) : List Cm := if has fs l then fs else fs ++ [comp g l]
def allC (g : Gaps) (N : Nat) : List Cm := (List.range N).foldl (addC g) []
def Cm.first (m : Cm) : Nat := (m.ns.head?.map (·.l)).getD 0
theorem CmOk.first_eq {g : Gaps} {h N first : Nat} {m : Cm} (o : CmOk g h N first m) : m.first = first := by
  obtain ⟨r, e⟩ := o.hd
  unfold Cm.first; rw [e]; rfl
/-- components that are apart and hold all lines -/
structure AllOk (g : Gaps) (h N k : Nat) (ms : List Cm) : Prop where
  ok : ∀ m ∈ ms, CmOk g h N m.first m
  lt : ∀ m ∈ ms, m.first < k
  all : ∀ l, l < k → ∃ m ∈ ms, l ∈ m.lines
  apart : ms.Pairwise fun a b => ∀ l, l ∈ a.lines → l ∉ b.lines
  up : ms.Pairwise fun a b => a.first < b.first
  min : ∀ m ∈ ms, ∀ l ∈ m.lines, m.first ≤ l
theorem allC_aux {g : Gaps} {h N : Nat} (hN : h ≤ N) (hN2 : N ≤ 18) (B : Bip h N g) : ∀ k, k ≤ N → AllOk g h N k ((List.range k).foldl (addC g) [])
  | 0, _ => { ok := (fun _ h => nomatch h), lt := (fun _ h => nomatch h), all := (fun _ h => by omega), apart := List.Pairwise.nil, up := List.Pairwise.nil, min := (fun _ h => nomatch h) }
  | k + 1, hk => by
    have I := allC_aux hN hN2 B k (by omega)
    rw [List.range_succ, List.foldl_append]
    generalize hms : (List.range k).foldl (addC g) [] = ms at I
    show AllOk g h N (k + 1) (addC g ms k)
    unfold addC
    split
    · rename_i hh
      refine ⟨I.ok, fun m hm => by have := I.lt m hm; omega, fun l hl => ?_, I.apart, I.up, I.min⟩
      by_cases e : l = k
      · rw [e]; exact has_iff.mp hh
      · exact I.all l (by omega)
    · rename_i hh
      have co := comp_ok hN hN2 B (show k < N by omega)
      have ef := co.first_eq
      have dis : ∀ m ∈ ms, ∀ l, l ∈ m.lines → l ∉ (comp g k).lines := by
        intro m hm l hl hl2
        have := (co.least (I.ok m hm).closed hl2).mp hl
        exact hh (has_iff.mpr ⟨m, hm, this⟩)
      refine ⟨?_, ?_, ?_, ?_, ?_, ?_⟩
      · intro m hm
        rcases List.mem_append.mp hm with hm | hm
        · exact I.ok m hm
        · simp at hm; subst hm; rw [ef]; exact co
      · intro m hm
        rcases List.mem_append.mp hm with hm | hm
        · have := I.lt m hm; omega
        · simp at hm; subst hm; rw [ef]; omega
      · intro l hl
        by_cases e : l = k
        · exact ⟨_, List.mem_append_right _ (List.mem_singleton.mpr rfl), by rw [e]; exact co.first_mem⟩
        · obtain ⟨m, h1, h2⟩ := I.all l (by omega)
          exact ⟨m, List.mem_append_left _ h1, h2⟩
      · rw [List.pairwise_append]
        refine ⟨I.apart, by simp, ?_⟩
        intro a ha b hb
        simp at hb; subst hb
        exact dis a ha
      · rw [List.pairwise_append]
        refine ⟨I.up, by simp, ?_⟩
        intro a ha b hb
        simp at hb; subst hb
        rw [ef]; exact I.lt a ha
      · intro m hm l hl
        rcases List.mem_append.mp hm with hm | hm
        · exact I.min m hm l hl
        · simp at hm; subst hm
          rw [ef]
          rcases Nat.lt_or_ge l k with h1 | h1
          · obtain ⟨m', h2, h3⟩ := I.all l h1
            exact absurd hl (dis m' h2 l h3)
          · exact h1
theorem allC_ok {g : Gaps} {h N : Nat} (hN : h ≤ N) (hN2 : N ≤ 18) (B : Bip h N g) : AllOk g h N N (allC g N) := allC_aux hN hN2 B N (Nat.le_refl _)

/-! ### the range of best shifts -/
def Cm.pts (c : Nat → Option Int) (m : Cm) : Pts := m.lines.map fun l => (m.zero l, (c l).getD 0)
def Cm.range (c : Nat → Option Int) (m : Cm) : Int × Int :=
  match m.locked c with
  | a :: _ => (m.zero a, m.zero a)
  | [] => let ps := (m.pts c).mergeSort leP2; ((lowS (wsum ps) 0 ps).getD 0, (highS (wsum ps) 0 ps).getD 0)
def OkX (c : Nat → Option Int) (m : Cm) (x : Int) : Prop := ∀ l ∈ m.lines, c l = none → m.shift l x = 0
def Cm.cost (c : Nat → Option Int) (m : Cm) (x : Int) : Int := (m.lines.map fun l => ((m.shift l x).natAbs : Int) * (c l).getD 0).sum
def CostOk (c : Nat → Option Int) : Prop := ∀ l k, c l = some k → 1 ≤ k
def Best (c : Nat → Option Int) (m : Cm) (x : Int) : Prop := OkX c m x ∧ ∀ y, OkX c m y → m.cost c x ≤ m.cost c y
theorem leP2_tr : ∀ a b c : Int × Int, leP2 a b = true → leP2 b c = true → leP2 a c = true := by
  intro a b c h1 h2; simp [leP2] at *; omega
theorem leP2_tot : ∀ a b : Int × Int, (leP2 a b || leP2 b a) = true := by
  intro a b; simp [leP2]; omega
theorem pts_sorted (ps : Pts) : (ps.mergeSort leP2).Pairwise fun a b => a.1 ≤ b.1 :=
  (List.pairwise_mergeSort leP2_tr leP2_tot ps).imp fun {a b} h => by simp [leP2] at h; omega
section
variable {g : Gaps} {h N first : Nat} {m : Cm} {c : Nat → Option Int}
theorem mem_locked {l : Nat} : l ∈ m.locked c ↔ l ∈ m.lines ∧ c l = none := by
  unfold Cm.locked; rw [List.mem_filter, Option.isNone_iff_eq_none]
theorem CmOk.cost_dist (o : CmOk g h N first m) (x : Int) : m.cost c x = dist (m.pts c) x := by
  unfold Cm.cost dist Cm.pts
  rw [List.map_map]
  congr 1
  apply List.map_congr_left
  intro l hl
  simp only [Function.comp]
  rw [o.abs_shift hl]
theorem CmOk.okx (o : CmOk g h N first m) (x : Int) : OkX c m x ↔ ∀ l ∈ m.locked c, x = m.zero l := by
  constructor
  · intro H l hl
    obtain ⟨h1, h2⟩ := mem_locked.mp hl
    exact (o.zero_iff h1 x).mp (H l h1 h2)
  · intro H l hl hc
    exact (o.zero_iff hl x).mpr (H l (mem_locked.mpr ⟨hl, hc⟩))
/-- no contradiction: the range is what it should be -/
theorem CmOk.range_spec (o : CmOk g h N first m) (hc : CostOk c) (hn : m.contra c = none) : (m.range c).1 ≤ (m.range c).2 ∧ ∀ x, Best c m x ↔ ((m.range c).1 ≤ x ∧ x ≤ (m.range c).2) := by
  unfold Cm.contra at hn
  cases hcy : m.cyc with
  | some p => rw [hcy] at hn; cases hn
  | none =>
    rw [hcy] at hn
    simp only at hn
    unfold Cm.range
    cases hl : m.locked c with
    | cons a r =>
      rw [hl] at hn
      simp only [Option.map_eq_none_iff, List.find?_eq_none] at hn
      have hz : ∀ l ∈ m.locked c, m.zero l = m.zero a := by
        intro l h1
        rw [hl] at h1
        rcases List.mem_cons.mp h1 with rfl | h1
        · rfl
        · have := hn l h1; simpa using this
      have hx : ∀ x, OkX c m x ↔ x = m.zero a := fun x => by
        rw [o.okx]
        constructor
        · intro H; exact H a (by rw [hl]; exact List.mem_cons_self ..)
        · intro e l h1; rw [hz l h1]; exact e
      refine ⟨Int.le_refl _, fun x => ⟨fun H => ?_, fun H => ?_⟩⟩
      · have := (hx x).mp H.1
        simp only; omega
      · have e : x = m.zero a := by simp only at H; omega
        refine ⟨(hx x).mpr e, fun y hy => ?_⟩
        rw [(hx y).mp hy, e]; exact Int.le_refl _
    | nil =>
      simp only
      have hpm := List.mergeSort_perm (m.pts c) leP2
      have h0 : ∀ e ∈ m.pts c, 0 < e.2 := by
        intro e he
        obtain ⟨l, h1, rfl⟩ := List.mem_map.mp he
        simp only
        cases e2 : c l with
        | none =>
          have := mem_locked.mpr ⟨h1, e2⟩
          rw [hl] at this; cases this
        | some k => have := hc l k e2; simp; omega
      have h0' : ∀ e ∈ (m.pts c).mergeSort leP2, 0 ≤ e.2 := fun e he => Int.le_of_lt (h0 e (hpm.mem_iff.mp he))
      have hpos : 0 < wsum (m.pts c) := by
        have hf := o.first_mem
        unfold Cm.pts at h0 ⊢
        cases hL : m.lines with
        | nil => rw [hL] at hf; cases hf
        | cons l r =>
          rw [hL] at h0
          rw [List.map_cons, wsum_cons]
          have := h0 _ (List.mem_map.mpr ⟨l, List.mem_cons_self .., rfl⟩)
          have := wsum_nonneg (ps := r.map fun l => (m.zero l, (c l).getD 0)) fun e he => Int.le_of_lt (h0 e (by rw [List.map_cons]; exact List.mem_cons_of_mem _ he))
          simp only at *; omega
      obtain ⟨lo, hi, e1, e2, e3, e4, e5⟩ := median h0' (pts_sorted _) (by rw [wsum_perm hpm]; exact hpos)
      rw [e1, e2]
      refine ⟨e3, fun x => ?_⟩
      simp only [Option.getD_some]
      rw [← e5 x]
      have hx : ∀ x, OkX c m x := fun x => (o.okx x).mpr fun l h1 => by rw [hl] at h1; cases h1
      constructor
      · intro H y
        have := H.2 y (hx y)
        rw [o.cost_dist, o.cost_dist] at this
        rw [dist_perm hpm, dist_perm hpm]; exact this
      · intro H
        refine ⟨hx x, fun y _ => ?_⟩
        have := H y
        rw [dist_perm hpm, dist_perm hpm] at this
        rw [o.cost_dist, o.cost_dist]; exact this
end
/-! ### solutions -/
structure Sol (g : Gaps) (N : Nat) (c : Nat → Option Int) (s : Nat → Int) : Prop where
  e : Solves g s
  z : ∀ l, l < N → c l = none → s l = 0
def costN (N : Nat) (c : Nat → Option Int) (s : Nat → Int) : Int := ((List.range N).map fun l => ((s l).natAbs : Int) * (c l).getD 0).sum
def Reach (c : Nat → Option Int) (ms : List Cm) : Prop := ∀ m ∈ ms, m.contra c = none
def glue (ms : List Cm) (x : Nat → Int) (l : Nat) : Int := match ms.find? fun m => m.lines.contains l with
  | some m => m.shift l (x m.first)
  | none => 0
section
variable {g : Gaps} {h N : Nat} {ms : List Cm} {c : Nat → Option Int}
theorem AllOk.uniq (A : AllOk g h N N ms) {a b : Cm} (ha : a ∈ ms) (hb : b ∈ ms) {l : Nat} (h1 : l ∈ a.lines) (h2 : l ∈ b.lines) : a = b := by
  have := A.apart
  clear A
  induction ms with
  | nil => cases ha
  | cons m r ih =>
    rw [List.pairwise_cons] at this
    rcases List.mem_cons.mp ha with ea | ha' <;> rcases List.mem_cons.mp hb with eb | hb'
    · rw [ea, eb]
    · subst ea; exact absurd h2 (this.1 b hb' l h1)
    · subst eb; exact absurd h1 (this.1 a ha' l h2)
    · exact ih ha' hb' this.2
theorem AllOk.find (A : AllOk g h N N ms) {m : Cm} (hm : m ∈ ms) {l : Nat} (hl : l ∈ m.lines) : ms.find? (fun m => m.lines.contains l) = some m := by
  cases e : ms.find? (fun m => m.lines.contains l) with
  | none =>
    have := List.find?_eq_none.mp e m hm
    simp at this; exact absurd hl this
  | some m' =>
    have h1 := List.mem_of_find?_eq_some e
    have h2 := List.find?_some e
    simp at h2
    rw [A.uniq hm h1 hl h2]
theorem AllOk.glue_at (A : AllOk g h N N ms) (x : Nat → Int) {m : Cm} (hm : m ∈ ms) {l : Nat} (hl : l ∈ m.lines) : glue ms x l = m.shift l (x m.first) := by
  unfold glue; rw [A.find hm hl]
theorem AllOk.glue_sol (A : AllOk g h N N ms) (hN : h ≤ N) (B : Bip h N g) (hc : ∀ m ∈ ms, m.cyc = none) {x : Nat → Int} (hx : ∀ m ∈ ms, OkX c m (x m.first)) : Sol g N c (glue ms x) := by
  constructor
  · intro a b y e
    have bp := B _ _ _ e
    obtain ⟨m, hm, ha⟩ := A.all a (by omega)
    have hb : b ∈ m.lines := ((A.ok m hm).closed a b y e).mp ha
    rw [A.glue_at x hm ha, A.glue_at x hm hb]
    exact (A.ok m hm).edge_ok hN B (hc m hm) e ha _
  · intro l hl hcl
    obtain ⟨m, hm, h1⟩ := A.all l hl
    rw [A.glue_at x hm h1]
    exact hx m hm l h1 hcl
theorem AllOk.sol_at (A : AllOk g h N N ms) {s : Nat → Int} (hs : Solves g s) {m : Cm} (hm : m ∈ ms) {l : Nat} (hl : l ∈ m.lines) : s l = m.shift l (s m.first) := (A.ok m hm).shift_of hl hs
theorem AllOk.sol_glue (A : AllOk g h N N ms) {s : Nat → Int} (hs : Solves g s) {l : Nat} (hl : l < N) : s l = glue ms s l := by
  obtain ⟨m, hm, h1⟩ := A.all l hl
  rw [A.glue_at s hm h1]
  exact A.sol_at hs hm h1
theorem AllOk.sol_okx (A : AllOk g h N N ms) {s : Nat → Int} (hs : Sol g N c s) {m : Cm} (hm : m ∈ ms) : OkX c m (s m.first) := by
  intro l hl hcl
  rw [← A.sol_at hs.e hm hl]
  exact hs.z l ((A.ok m hm).ltN hl) hcl
theorem AllOk.perm (A : AllOk g h N N ms) : (ms.flatMap (·.lines)).Perm (List.range N) := by
  have hnd : (ms.flatMap (·.lines)).Nodup := by
    have h1 := A.apart
    have h2 : ∀ m ∈ ms, m.lines.Nodup := fun m hm => (A.ok m hm).nodup
    clear A
    induction ms with
    | nil => simp
    | cons m r ih =>
      rw [List.pairwise_cons] at h1
      rw [List.flatMap_cons, List.nodup_append]
      refine ⟨h2 m (List.mem_cons_self ..), ih h1.2 fun m' hm => h2 m' (List.mem_cons_of_mem _ hm), ?_⟩
      intro a ha b hb e
      obtain ⟨m', hm', hb'⟩ := List.mem_flatMap.mp hb
      subst e
      exact h1.1 m' hm' a ha hb'
  rw [List.perm_ext_iff_of_nodup hnd List.nodup_range]
  intro l
  rw [List.mem_flatMap, List.mem_range]
  constructor
  · rintro ⟨m, hm, hl⟩; exact (A.ok m hm).ltN hl
  · intro hl; exact A.all l hl
theorem sum_flatMap {α : Type} (f : α → Int) (L : Cm → List α) : ∀ ms : List Cm, ((ms.flatMap L).map f).sum = (ms.map fun m => ((L m).map f).sum).sum
  | [] => rfl
  | m :: r => by rw [List.flatMap_cons, List.map_append, List.sum_append, sum_flatMap f L r]; rfl
theorem AllOk.cost_sum (A : AllOk g h N N ms) {s : Nat → Int} (hs : ∀ m ∈ ms, ∀ l ∈ m.lines, s l = m.shift l (s m.first)) : costN N c s = (ms.map fun m => m.cost c (s m.first)).sum := by
  unfold costN
  rw [← sum_perm (A.perm.map _), sum_flatMap]
  congr 1
  apply List.map_congr_left
  intro m hm
  unfold Cm.cost
  congr 1
  apply List.map_congr_left
  intro l hl
  rw [hs m hm l hl]
theorem AllOk.unreach (A : AllOk g h N N ms) (hr : ¬ Reach c ms) : ¬ ∃ s, Sol g N c s := by
  rintro ⟨s, hs⟩
  apply hr
  intro m hm
  have o := A.ok m hm
  unfold Cm.contra
  cases hcy : m.cyc with
  | some p => exact absurd ⟨s, hs.e⟩ (o.bad (by rw [hcy]; simp))
  | none =>
    simp only
    have hx := (o.okx (s m.first)).mp (A.sol_okx hs hm)
    cases hl : m.locked c with
    | nil => rfl
    | cons a r =>
      simp only [Option.map_eq_none_iff, List.find?_eq_none]
      intro l h1
      have e1 := hx a (by rw [hl]; exact List.mem_cons_self ..)
      have e2 := hx l (by rw [hl]; exact List.mem_cons_of_mem _ h1)
      simp; omega
theorem contra_cyc {m : Cm} (hn : m.contra c = none) : m.cyc = none := by
  unfold Cm.contra at hn
  cases hcy : m.cyc with
  | some p => rw [hcy] at hn; cases hn
  | none => rfl
/-- the solutions of least cost -/
theorem AllOk.best_iff (A : AllOk g h N N ms) (hN : h ≤ N) (B : Bip h N g) (hr : Reach c ms) {s : Nat → Int} :
    (Sol g N c s ∧ ∀ s', Sol g N c s' → costN N c s ≤ costN N c s') ↔ (Solves g s ∧ ∀ m ∈ ms, Best c m (s m.first)) := by
  have cyc : ∀ m ∈ ms, m.cyc = none := fun m hm => contra_cyc (hr m hm)
  constructor
  · rintro ⟨hs, hb⟩
    refine ⟨hs.e, fun m hm => ⟨A.sol_okx hs hm, fun y hy => ?_⟩⟩
    -- another shift of this component alone
    let x : Nat → Int := fun l => if l = m.first then y else s l
    have hx : ∀ m' ∈ ms, OkX c m' (x m'.first) := by
      intro m' hm'
      show OkX c m' (if m'.first = m.first then y else s m'.first)
      split
      · rename_i e
        have : m' = m := A.uniq hm' hm (A.ok m' hm').first_mem (by rw [e]; exact (A.ok m hm).first_mem)
        rw [this]; exact hy
      · exact A.sol_okx hs hm'
    have hs' := A.glue_sol hN B cyc hx
    have h1 := hb _ hs'
    have gf : ∀ m' ∈ ms, glue ms x m'.first = x m'.first := fun m' hm' => by
      rw [A.glue_at x hm' (A.ok m' hm').first_mem]
      obtain ⟨r, e⟩ := (A.ok m' hm').hd
      have := ((A.ok m' hm').at_ (n := ⟨m'.first, 0, 1, none⟩) (by rw [e]; exact List.mem_cons_self ..))
      have e1 : offA m'.ns m'.first = 0 := this.1
      have e2 : sgnA m'.ns m'.first = 1 := this.2.1
      unfold Cm.shift
      rw [e1, e2]
      omega
    rw [A.cost_sum (fun m hm l hl => A.sol_at hs.e hm hl), A.cost_sum (fun m hm l hl => A.sol_at hs'.e hm hl)] at h1
    -- the sums differ at m alone
    have key : ∀ (L : List Cm), (∀ m' ∈ L, m' ∈ ms) → L.Pairwise (fun a b => a.first < b.first) → ((L.map fun m => m.cost c (glue ms x m.first)).sum = (L.map fun m => m.cost c (s m.first)).sum ∧ m ∉ L) ∨
        ((L.map fun m => m.cost c (glue ms x m.first)).sum - m.cost c y = (L.map fun m => m.cost c (s m.first)).sum - m.cost c (s m.first) ∧ m ∈ L) := by
      intro L
      induction L with
      | nil => intro _ _; left; simp
      | cons a r ih =>
        intro hL hp
        rw [List.pairwise_cons] at hp
        have ha := hL a (List.mem_cons_self ..)
        by_cases e : a = m
        · right
          subst e
          rcases ih (fun m' h => hL m' (List.mem_cons_of_mem _ h)) hp.2 with ⟨h2, _⟩ | ⟨_, h2⟩
          · refine ⟨?_, List.mem_cons_self ..⟩
            simp only [List.map_cons, List.sum_cons, h2]
            rw [gf _ ha]
            have : x a.first = y := if_pos rfl
            rw [this]; omega
          · have := hp.1 a h2; omega
        · have hne : a.first ≠ m.first := fun z => e (A.uniq ha hm (A.ok a ha).first_mem (by rw [z]; exact (A.ok m hm).first_mem))
          have ex : x a.first = s a.first := if_neg hne
          simp only [List.map_cons, List.sum_cons]
          rw [gf _ ha, ex]
          rcases ih (fun m' h => hL m' (List.mem_cons_of_mem _ h)) hp.2 with ⟨h2, h3⟩ | ⟨h2, h3⟩
          · left; exact ⟨by omega, by simp [h3]; exact fun z => e z.symm⟩
          · right; exact ⟨by omega, List.mem_cons_of_mem _ h3⟩
    rcases key ms (fun _ h => h) A.up with ⟨_, h2⟩ | ⟨h2, _⟩
    · exact absurd hm h2
    · omega
  · rintro ⟨he, hb⟩
    have hs : Sol g N c s := ⟨he, fun l hl hcl => by
      obtain ⟨m, hm, h1⟩ := A.all l hl
      rw [A.sol_at he hm h1]
      exact (hb m hm).1 l h1 hcl⟩
    refine ⟨hs, fun s' hs' => ?_⟩
    rw [A.cost_sum (fun m hm l hl => A.sol_at he hm hl), A.cost_sum (fun m hm l hl => A.sol_at hs'.e hm hl)]
    have : ∀ (L : List Cm), (∀ m' ∈ L, m' ∈ ms) → (L.map fun m => m.cost c (s m.first)).sum ≤ (L.map fun m => m.cost c (s' m.first)).sum := by
      intro L
      induction L with
      | nil => intro _; simp
      | cons a r ih =>
        intro hL
        have h1 := ih fun m' h => hL m' (List.mem_cons_of_mem _ h)
        have ha := hL a (List.mem_cons_self ..)
        have h2 := (hb a ha).2 _ (A.sol_okx hs' ha)
        simp only [List.map_cons, List.sum_cons]
        omega
    exact this ms fun _ h => h
end
end Mi

set_option linter.all false
namespace Mi
def bestX (c : Nat → Option Int) (ms : List Cm) (f : Nat) : Int := match ms.find? fun m => m.first = f with
  | some m => (m.range c).1
  | none => 0
/-- the shifts of all lines -/
def bestS (c : Nat → Option Int) (ms : List Cm) : Nat → Int := glue ms (bestX c ms)
def reachB (c : Nat → Option Int) (ms : List Cm) : Bool := ms.all fun m => (m.contra c).isNone
theorem reachB_iff {c : Nat → Option Int} {ms : List Cm} : reachB c ms = true ↔ Reach c ms := by
  simp [reachB, Reach, Option.isNone_iff_eq_none]
def minCost (g : Gaps) (N : Nat) (c : Nat → Option Int) : Option (Int × List Int) :=
  if reachB c (allC g N) then some (costN N c (bestS c (allC g N)), (List.range N).map (bestS c (allC g N))) else none
/-- k is the least cost -/
def Least (g : Gaps) (N : Nat) (c : Nat → Option Int) (k : Int) : Prop := (∃ s, Sol g N c s ∧ costN N c s = k) ∧ ∀ s, Sol g N c s → k ≤ costN N c s
theorem Least.uniq {g : Gaps} {N : Nat} {c : Nat → Option Int} {k k' : Int} (h : Least g N c k) (h' : Least g N c k') : k = k' := by
  obtain ⟨⟨s, h1, h2⟩, h3⟩ := h
  obtain ⟨⟨s', h4, h5⟩, h6⟩ := h'
  have := h3 s' h4
  have := h6 s h1
  omega
section
variable {g : Gaps} {h N : Nat} {ms : List Cm} {c : Nat → Option Int}
theorem AllOk.bestX_at (A : AllOk g h N N ms) {m : Cm} (hm : m ∈ ms) : bestX c ms m.first = (m.range c).1 := by
  unfold bestX
  cases e : ms.find? fun m' => m'.first = m.first with
  | none =>
    have := List.find?_eq_none.mp e m hm
    simp at this
  | some m' =>
    have h1 := List.mem_of_find?_eq_some e
    have h2 := List.find?_some e
    simp at h2
    rw [A.uniq h1 hm (A.ok m' h1).first_mem (by rw [h2]; exact (A.ok m hm).first_mem)]
theorem AllOk.glue_first (A : AllOk g h N N ms) (x : Nat → Int) {m : Cm} (hm : m ∈ ms) : glue ms x m.first = x m.first := by
  rw [A.glue_at x hm (A.ok m hm).first_mem]
  obtain ⟨r, e⟩ := (A.ok m hm).hd
  have := ((A.ok m hm).at_ (n := ⟨m.first, 0, 1, none⟩) (by rw [e]; exact List.mem_cons_self ..))
  have e1 : offA m.ns m.first = 0 := this.1
  have e2 : sgnA m.ns m.first = 1 := this.2.1
  unfold Cm.shift
  rw [e1, e2]
  omega
theorem AllOk.best_sol (A : AllOk g h N N ms) (hN : h ≤ N) (B : Bip h N g) (hc : CostOk c) (hr : Reach c ms) : Sol g N c (bestS c ms) ∧ ∀ s, Sol g N c s → costN N c (bestS c ms) ≤ costN N c s := by
  have hb : ∀ m ∈ ms, Best c m ((m.range c).1) := fun m hm => by
    obtain ⟨h1, h2⟩ := (A.ok m hm).range_spec hc (hr m hm)
    exact (h2 _).mpr ⟨Int.le_refl _, h1⟩
  apply (A.best_iff hN B hr).mpr
  have hs : Sol g N c (bestS c ms) := A.glue_sol hN B (fun m hm => contra_cyc (hr m hm)) (x := bestX c ms) (fun m hm => by rw [A.bestX_at hm]; exact (hb m hm).1)
  refine ⟨hs.e, fun m hm => ?_⟩
  unfold bestS
  rw [A.glue_first _ hm, A.bestX_at hm]
  exact hb m hm
theorem minCost_none (hN : h ≤ N) (hN2 : N ≤ 18) (B : Bip h N g) (hc : CostOk c) : minCost g N c = none ↔ ¬ ∃ s, Sol g N c s := by
  have A := allC_ok hN hN2 B
  unfold minCost
  split
  · rename_i hr
    have := (A.best_sol hN B hc (reachB_iff.mp hr)).1
    simp only [reduceCtorEq, false_iff, Classical.not_not]
    exact ⟨_, this⟩
  · rename_i hr
    simp only [true_iff]
    exact A.unreach fun z => hr (reachB_iff.mpr z)
theorem minCost_some (hN : h ≤ N) (hN2 : N ≤ 18) (B : Bip h N g) (hc : CostOk c) {k : Int} {L : List Int} (e : minCost g N c = some (k, L)) :
    ∃ s, L = (List.range N).map s ∧ Sol g N c s ∧ costN N c s = k ∧ ∀ s', Sol g N c s' → k ≤ costN N c s' := by
  have A := allC_ok hN hN2 B
  unfold minCost at e
  split at e
  · rename_i hr
    cases e
    obtain ⟨h1, h2⟩ := A.best_sol hN B hc (reachB_iff.mp hr)
    exact ⟨_, rfl, h1, rfl, h2⟩
  · cases e
theorem minCost_least (hN : h ≤ N) (hN2 : N ≤ 18) (B : Bip h N g) (hc : CostOk c) {k : Int} : (minCost g N c).map (·.1) = some k ↔ Least g N c k := by
  constructor
  · intro e
    obtain ⟨⟨k', L⟩, e1, rfl⟩ := Option.map_eq_some_iff.mp e
    obtain ⟨s, _, h2, h3, h4⟩ := minCost_some hN hN2 B hc e1
    exact ⟨⟨s, h2, h3⟩, h4⟩
  · intro L
    cases e : minCost g N c with
    | none => obtain ⟨⟨s, h1, _⟩, _⟩ := L; exact absurd ⟨s, h1⟩ ((minCost_none hN hN2 B hc).mp e)
    | some kl =>
      obtain ⟨k', l⟩ := kl
      obtain ⟨s, _, h2, h3, h4⟩ := minCost_some hN hN2 B hc e
      have : Least g N c k' := ⟨⟨s, h2, h3⟩, h4⟩
      rw [this.uniq L]; rfl
end
/-! ### tables and goals -/
/-- what a table and a goal come to: rows, columns, gaps, costs of the lines -/
def gapsL (h w : Nat) (d : Nat → Nat → Option Int) : Gaps := (List.range h).flatMap fun r => (List.range w).filterMap fun k => (d r k).map fun x => ((r, h + k), x)
theorem mem_gapsL {h w : Nat} {d : Nat → Nat → Option Int} {a b : Nat} {x : Int} : ((a, b), x) ∈ gapsL h w d ↔ ∃ k, a < h ∧ k < w ∧ b = h + k ∧ d a k = some x := by
  simp only [gapsL, List.mem_flatMap, List.mem_range, List.mem_filterMap, Option.map_eq_some_iff]
  constructor
  · rintro ⟨r, hr, k, hk, y, e, h2⟩
    cases h2
    exact ⟨k, hr, hk, rfl, e⟩
  · rintro ⟨k, hr, hk, rfl, e⟩
    exact ⟨a, hr, k, hk, x, e, rfl⟩
theorem bip_gapsL (h w : Nat) (d : Nat → Nat → Option Int) : Bip h (h + w) (gapsL h w d) := by
  intro a b x e
  obtain ⟨k, h1, h2, h3, _⟩ := mem_gapsL.mp e
  omega
theorem solves_gapsL {h w : Nat} {d : Nat → Nat → Option Int} {s : Nat → Int} : Solves (gapsL h w d) s ↔ ∀ r k x, r < h → k < w → d r k = some x → s r + s (h + k) = x := by
  constructor
  · intro H r k x h1 h2 e
    exact H r (h + k) x (mem_gapsL.mpr ⟨k, h1, h2, rfl, e⟩)
  · intro H a b x e
    obtain ⟨k, h1, h2, rfl, e'⟩ := mem_gapsL.mp e
    exact H a k x h1 h2 e'
end Mi

set_option Elab.async false
set_option linter.all false
set_option maxRecDepth 100000
set_option maxHeartbeats 4000000
namespace Cl
open PySem L2 PySem.Spec PyProof.Rows
section
variable {C : Cf} {Γ : Ev} {w : C.T} {a b c : SE C} {ta tb : ST C} {s1 s2 : SS C}
@[simp] theorem var_evS {i : Nat} : (SE.var (C := C) i).ev Γ w = (getV i Γ).map fun r => .ok r w := var_ev
@[simp] theorem evV_S : a.evV Γ w = bindR (a.ev Γ w) (evO Rv.view) := rfl
@[simp] theorem evD_S : a.evD Γ w = bindR (a.ev Γ w) (evO Rv.dat?) := rfl
@[simp] theorem evA_S : a.evA Γ w = bindR (a.ev Γ w) (evO Rv.arg) := rfl
@[simp] theorem lt_evS : (SE.lt a b).ev Γ w = bindR (a.evV Γ w) fun x w1 => bindR (b.evV Γ w1) fun y w2 => (ltF x y).map fun r => .ok r w2 := rfl
@[simp] theorem le_evS : (SE.le a b).ev Γ w = bindR (a.evV Γ w) fun x w1 => bindR (b.evV Γ w1) fun y w2 => (leF x y).map fun r => .ok r w2 := rfl
@[simp] theorem gt_evS : (SE.gt a b).ev Γ w = bindR (a.evV Γ w) fun x w1 => bindR (b.evV Γ w1) fun y w2 => (gtF x y).map fun r => .ok r w2 := rfl
@[simp] theorem ge_evS : (SE.ge a b).ev Γ w = bindR (a.evV Γ w) fun x w1 => bindR (b.evV Γ w1) fun y w2 => (geF x y).map fun r => .ok r w2 := rfl
@[simp] theorem chain_evS : (SE.chain (C := C) (rI0 fun i j => V.bl (decide (i ≤ j))) (rI0 fun i j => V.bl (decide (i ≤ j))) leF leF cmp_ok cmp_ok a b c).ev Γ w = bindR (a.evV Γ w) fun x w1 => bindR (b.evV Γ w1) fun y w2 => bindB (leF x y) fun k => if k = true then bindR (c.evV Γ w2) fun z w3 => (leF y z).map fun r => .ok r w3 else some (.ok (.dat (.bool false)) w2) := rfl
@[simp] theorem app_ev {i : Nat} : (SS.app i a).ev Γ w = (match Γ[i]? with
    | some (some (.own (.lst ds))) => bindF (a.evD Γ w) fun d w1 => if ds.length < 100000 then some (.nx (Γ.set i (some (.own (.lst (ds ++ [d]))))) w1) else none
    | _ => none) := rfl
@[simp] theorem setIx_ev {i : Nat} : (SS.setIx i b a).ev Γ w = (match Γ[i]? with
    | some (some (.own (.lst ds))) => bindF (a.evD Γ w) fun d w1 => bindF (b.evV Γ w1) fun k w2 => match k with
      | .int k => match ixN ds.length k with
        | some j => some (.nx (Γ.set i (some (.own (.lst (ds.set j d))))) w2)
        | none => none
      | _ => none
    | _ => none) := rfl
@[simp] theorem aug_ev {i : Nat} {f : Int → Int → Int} : (SS.aug i f a).ev Γ w = (match Γ[i]? with
    | some (some (.dat (.int x))) => bindF (a.evV Γ w) fun y w1 => match y with
      | .int y => some (.nx (Γ.set i (some (.dat (.int (f x y))))) w1)
      | _ => none
    | _ => none) := rfl
@[simp] theorem frzq_ev {i : Nat} : (SS.frzq (C := C) i).ev Γ w = (match Γ[i]? with
    | some (some (.own ds)) => some (.nx (Γ.set i (some (.dat ds.dat))) w)
    | _ => some (.nx Γ w)) := rfl
@[simp] theorem getV_S {i : Nat} : getV i Γ = match Γ[i]? with
    | some (some (.dat d)) => some (.dat d)
    | some (some (.own ds)) => some (.bor i ds)
    | some (some (.hd n)) => some (.hd n)
    | _ => none := rfl
end
@[simp] theorem evO_S {T α β : Type} {f : α → Option β} {a : α} {w : T} : evO f a w = (f a).map fun b => .ok b w := rfl
@[simp] theorem intF2_S {f : Int → Int → Option Int} {i j : Int} : intF2 f (.int i) (.int j) = (f i j).map fun k => .dat (.int k) := rfl
@[simp] theorem addF_i {i j : Int} : addF (.int i) (.int j) = some (.dat (.int (i + j))) := rfl
@[simp] theorem addF_t {a b : List PyData} : addF (.tuple a) (.tuple b) = if a.length + b.length ≤ 100000 then some (.dat (.tuple (a ++ b))) else none := rfl
@[simp] theorem addF_l {a b : List PyData} : addF (.list a) (.list b) = if a.length + b.length ≤ 100000 then some (.new (.lst (a ++ b))) else none := rfl
@[simp] theorem subF_i {i j : Int} : subF (.int i) (.int j) = some (.dat (.int (i - j))) := rfl
@[simp] theorem mulF_i {i j : Int} (h : mulC i j = true) : mulF (.int i) (.int j) = some (.dat (.int (i * j))) := by
  show (if mulC i j = true then _ else _) = _
  rw [if_pos h]
@[simp] theorem mulF_l {a : List PyData} {k : Int} : mulF (.list a) (.int k) = if k ≤ 1000 ∧ -1000 ≤ k ∧ a.length ≤ 1000 then some (.new (.lst (List.replicate k.toNat a).flatten)) else none := rfl
@[simp] theorem fdivF_i {i j : Int} : fdivF (.int i) (.int j) = if 0 < j ∧ j < 1073741824 then some (.dat (.int (i / j))) else none := by
  show Option.map _ (if _ then _ else _) = _
  split <;> rfl
@[simp] theorem modF_i {i j : Int} : modF (.int i) (.int j) = if 0 < j then some (.dat (.int (i % j))) else none := by
  show Option.map _ (if _ then _ else _) = _
  split <;> rfl
@[simp] theorem ltF_i {i j : Int} : ltF (.int i) (.int j) = some (.dat (.bool (decide (i < j)))) := rfl
@[simp] theorem leF_i {i j : Int} : leF (.int i) (.int j) = some (.dat (.bool (decide (i ≤ j)))) := rfl
@[simp] theorem gtF_i {i j : Int} : gtF (.int i) (.int j) = some (.dat (.bool (decide (j < i)))) := rfl
@[simp] theorem geF_i {i j : Int} : geF (.int i) (.int j) = some (.dat (.bool (decide (j ≤ i)))) := rfl
@[simp] theorem negF_i {i : Int} : negF (.int i) = some (.dat (.int (-i))) := rfl
@[simp] theorem lenF_l {d : List PyData} : lenF (.list d) = some (.dat (.int d.length)) := rfl
@[simp] theorem lenF_t {d : List PyData} : lenF (.tuple d) = some (.dat (.int d.length)) := rfl
def absI (i : Int) : Int := if i < 0 then -i else i
theorem absI_eq {i : Int} : absI i = (i.natAbs : Int) := by unfold absI; split <;> omega
@[simp] theorem absF_i {i : Int} : absF (.int i) = some (.dat (.int (absI i))) := rfl
@[simp] theorem ixF_l {ds : List PyData} {i : Int} : ixF (.list ds) (.int i) = (atI ds i).map .dat := rfl
@[simp] theorem ixF_t {ds : List PyData} {i : Int} : ixF (.tuple ds) (.int i) = (atI ds i).map .dat := rfl
@[simp] theorem slF_l {ds : List PyData} {lo hi : Option Int} : slF (.list ds) lo hi = some (.new (.lst (cutD ds lo hi))) := rfl
@[simp] theorem slF_t {ds : List PyData} {lo hi : Option Int} : slF (.tuple ds) lo hi = some (.dat (.tuple (cutD ds lo hi))) := rfl
@[simp] theorem listF_l {ds : List PyData} : listF (.list ds) = some (.new (.lst ds)) := rfl
@[simp] theorem listF_t {ds : List PyData} : listF (.tuple ds) = some (.new (.lst ds)) := rfl
@[simp] theorem tupleF_l {ds : List PyData} : tupleF (.list ds) = some (.dat (.tuple ds)) := rfl
@[simp] theorem tupleF_t {ds : List PyData} : tupleF (.tuple ds) = some (.dat (.tuple ds)) := rfl
@[simp] theorem sumF_l {ds : List PyData} : sumF (.list ds) = (ints? ds).map fun ns => .dat (.int ns.sum) := rfl
@[simp] theorem allF_l {ds : List PyData} : allF (.list ds) = (bools? ds).map fun ns => .dat (.bool (ns.all id)) := rfl
@[simp] theorem isF_n {neg : Bool} {d : PyData} : isF neg d .none = some (.dat (.bool (if neg then !isNone d else isNone d))) := rfl
@[simp] theorem isNone_n : isNone .none = true := rfl
@[simp] theorem isNone_i {i : Int} : isNone (.int i) = false := rfl
@[simp] theorem isNone_l {i : List PyData} : isNone (.list i) = false := rfl
@[simp] theorem isNone_t {i : List PyData} : isNone (.tuple i) = false := rfl
@[simp] theorem isNone_b {i : Bool} : isNone (.bool i) = false := rfl
@[simp] theorem seq_l {d : List PyData} : seq? (.list d) = some d := rfl
@[simp] theorem seq_t {d : List PyData} : seq? (.tuple d) = some d := rfl
@[simp] theorem keyOk_i {i : Int} : keyOkD (.int i) = some (.inl i) := rfl
@[simp] theorem truI_n : truI .none = some false := rfl
@[simp] theorem truI_i {i : Int} : truI (.int i) = some (i != 0) := rfl
@[simp] theorem revF_l {d : List PyData} : revF (.list d) = some (.new (.lst d.reverse)) := rfl
@[simp] theorem zipF_ll {a b : List PyData} : zipF (.list a) (.list b) = some (zipD a b) := rfl
@[simp] theorem zipF_lt {a b : List PyData} : zipF (.list a) (.tuple b) = some (zipD a b) := rfl
/-! ### lists told by a function of the place -/
def rng {α : Type} (n : Nat) (f : Nat → α) : List α := (List.range n).map f
@[simp] theorem rng_length {α : Type} {n : Nat} {f : Nat → α} : (rng n f).length = n := by simp [rng]
theorem rng_get {α : Type} {n : Nat} {f : Nat → α} {j : Nat} (h : j < n) : (rng n f)[j]? = some (f j) := by simp [rng, h]
theorem rng_none {α : Type} {n : Nat} {f : Nat → α} {j : Nat} (h : ¬ j < n) : (rng n f)[j]? = none := by simp [rng]; omega
theorem rng_congr {α : Type} {n : Nat} {f g : Nat → α} (h : ∀ j, j < n → f j = g j) : rng n f = rng n g := by
  unfold rng; apply List.map_congr_left; intro j hj; exact h j (List.mem_range.mp hj)
theorem rng_succ {α : Type} {n : Nat} {f : Nat → α} : rng (n + 1) f = rng n f ++ [f n] := by simp [rng, List.range_succ]
theorem rng_of {α : Type} [Inhabited α] (l : List α) : l = rng l.length fun j => (l[j]?).getD default := by
  apply List.ext_getElem?
  intro i
  by_cases h : i < l.length
  · rw [rng_get h, List.getElem?_eq_getElem h]; rfl
  · rw [rng_none h, List.getElem?_eq_none (by omega)]
theorem rng_map {α β : Type} {n : Nat} {f : Nat → α} {g : α → β} : (rng n f).map g = rng n fun j => g (f j) := by simp [rng, Function.comp]
theorem rng_append {α : Type} {n m : Nat} {f : Nat → α} : rng n f ++ rng m (fun j => f (n + j)) = rng (n + m) f := by
  unfold rng
  rw [List.range_add, List.map_append, List.map_map]
  rfl
@[simp] theorem atI_nat {ds : List PyData} {j : Nat} : atI ds (j : Int) = ds[j]? := by
  unfold L2.atI L2.ixN
  rw [if_pos (by omega)]
  by_cases h : j < ds.length
  · rw [if_pos (by omega)]; rfl
  · rw [if_neg (by omega)]
    rw [List.getElem?_eq_none (by omega)]
    rfl
@[simp] theorem atI_add {ds : List PyData} {i j : Nat} : atI ds ((i : Int) + (j : Int)) = ds[i + j]? := by
  rw [show (i : Int) + (j : Int) = ((i + j : Nat) : Int) by omega, atI_nat]
@[simp] theorem atI_0 {ds : List PyData} : atI ds 0 = ds[0]? := atI_nat (j := 0)
@[simp] theorem atI_1 {ds : List PyData} : atI ds 1 = ds[1]? := atI_nat (j := 1)
@[simp] theorem atI_2 {ds : List PyData} : atI ds 2 = ds[2]? := atI_nat (j := 2)
@[simp] theorem enumD_rng {n : Nat} {f : Nat → PyData} : enumD (rng n f) = rng n fun j => .tuple [.int (j : Nat), f j] := by
  unfold enumD ranD rng
  simp only [List.length_map, List.length_range]
  rw [List.zip_map', List.map_map]
  apply List.map_congr_left
  intro j _
  simp
@[simp] theorem zipD_rng {n : Nat} {f g : Nat → PyData} : zipD (rng n f) (rng n g) = rng n fun j => .tuple [f j, g j] := by
  unfold zipD rng
  rw [List.zip_map', List.map_map]
  rfl
theorem ranD_rng {n : Nat} : ranD 0 n = rng n fun j => .int (j : Nat) := by
  unfold ranD rng; apply List.map_congr_left; intro j _; simp
theorem ints_rng {n : Nat} {f : Nat → Int} : ints? (rng n fun j => .int (f j)) = some (rng n f) := by
  have := ints?_map (rng n f)
  rw [rng_map] at this; exact this
/-! ### what holds behind a stretch -/
def Wp {C : Cf} (s : SS C) (Γ : Ev) (w : C.T) (Q : Fl C.T → Prop) : Prop := ∃ f, s.ev Γ w = some f ∧ Q f
/-- behind a statement, in a block -/
def nxQ {T : Type} (P : Ev → T → Prop) (Q : Fl T → Prop) : Fl T → Prop
  | .nx Γ w => P Γ w
  | f => Q f
/-- behind a loop's turn -/
def lpQ {T : Type} (P : Ev → T → Prop) (Q : Fl T → Prop) : Fl T → Prop
  | .nx Γ w => P Γ w
  | .ct Γ w => P Γ w
  | .rt r w => Q (.rt r w)
  | _ => False
section
variable {C : Cf} {Γ : Ev} {w w1 : C.T} {Q : Fl C.T → Prop}
theorem Wp.mk {s : SS C} {f : Fl C.T} (e : s.ev Γ w = some f) (q : Q f) : Wp s Γ w Q := ⟨f, e, q⟩
theorem Wp.imp {s : SS C} {Q' : Fl C.T → Prop} (h : Wp s Γ w Q') (q : ∀ f, Q' f → Q f) : Wp s Γ w Q := by
  obtain ⟨f, e, h⟩ := h; exact ⟨f, e, q f h⟩
theorem Wp.seq {s1 s2 : SS C} (h : Wp s1 Γ w (nxQ (fun Γ' w' => Wp s2 Γ' w' Q) Q)) : Wp (.seq s1 s2) Γ w Q := by
  obtain ⟨f, e, h⟩ := h
  unfold Wp
  rw [seq_ev, e]
  cases f with
  | nx Γ' w' => exact h
  | _ => exact ⟨_, rfl, h⟩
theorem Wp.step {s1 s2 : SS C} {Γ' : Ev} {w' : C.T} (e : s1.ev Γ w = some (.nx Γ' w')) (h : Wp s2 Γ' w' Q) : Wp (.seq s1 s2) Γ w Q := Wp.seq ⟨_, e, h⟩
theorem Wp.ite {ta : ST C} {s1 s2 : SS C} {b : Bool} (e : ta.ev Γ w = some (.ok b w1)) (h : Wp (if b = true then s1 else s2) Γ w1 Q) : Wp (.ite ta s1 s2) Γ w Q := by
  obtain ⟨f, e2, h⟩ := h
  refine ⟨f, ?_, h⟩
  rw [site_ev, e, bindF_ok]
  cases b <;> exact e2
theorem forEv_wp {g : PyData → Ev → Option Ev} {b : Ev → C.T → Option (Fl C.T)} {e : Nat → PyData} (P : Nat → Ev → C.T → Prop) : ∀ (m k : Nat) {Γ : Ev} {w : C.T}, P k Γ w →
    (∀ j Γ w, k ≤ j → j < k + m → P j Γ w → ∃ Γ1, g (e j) Γ = some Γ1 ∧ ∃ f, b Γ1 w = some f ∧ lpQ (P (j + 1)) Q f) → (∀ Γ' w', P (k + m) Γ' w' → Q (.nx Γ' w')) →
    ∃ f, forEv g b (rng m fun j => e (k + j)) Γ w = some f ∧ Q f
  | 0, k, Γ, w, h0, _, q => ⟨_, rfl, q Γ w h0⟩
  | m + 1, k, Γ, w, h0, hs, q => by
    obtain ⟨Γ1, e1, f, e2, h2⟩ := hs k Γ w (Nat.le_refl _) (by omega) h0
    have er : (rng (m + 1) fun j => e (k + j)) = e k :: rng m fun j => e (k + 1 + j) := by
      unfold rng
      rw [List.range_succ_eq_map, List.map_cons, List.map_map]
      congr 1
      apply List.map_congr_left
      intro j _
      simp only [Function.comp]
      rw [Nat.succ_eq_add_one, Nat.add_comm j 1, Nat.add_assoc]
    rw [er]
    unfold forEv
    rw [e1, Option.bind_some, e2]
    have ih := fun (Γ : Ev) (w : C.T) (h : P (k + 1) Γ w) => forEv_wp (g := g) (b := b) (e := e) P m (k + 1) h (fun j Γ w h1 h2 => hs j Γ w (by omega) (by omega)) (fun Γ' w' h => q Γ' w' (by rw [show k + (m + 1) = k + 1 + m by omega]; exact h))
    cases f with
    | nx Γ2 w2 => exact ih Γ2 w2 h2
    | ct Γ2 w2 => exact ih Γ2 w2 h2
    | rt r w2 => exact ⟨_, rfl, h2⟩
    | bk Γ2 w2 => exact h2.elim
    | ex x w2 => exact h2.elim
/-- a for over n items, told by their place -/
theorem Wp.for_ {it : SI C} {g : SG C} {s : SS C} {n : Nat} {e : Nat → PyData} (P : Nat → Ev → C.T → Prop) (ei : it.ev Γ w = some (.ok (rng n e) w1)) (h0 : P 0 Γ w1)
    (hs : ∀ j Γ w, j < n → P j Γ w → ∃ Γ1, g.asg (e j) Γ = some Γ1 ∧ Wp s Γ1 w (lpQ (P (j + 1)) Q)) (q : ∀ Γ' w', P n Γ' w' → Q (.nx Γ' w')) : Wp (.for it g s) Γ w Q := by
  obtain ⟨f, e2, h⟩ := forEv_wp (C := C) (Q := Q) (g := g.asg) (b := s.ev) (e := e) P n 0 h0 (fun j Γ w _ h2 h3 => by
    obtain ⟨Γ1, e1, h4⟩ := hs j Γ w (by omega) h3
    exact ⟨Γ1, e1, h4⟩) (by simpa using q)
  refine ⟨f, ?_, h⟩
  rw [for_ev, ei, bindF_ok]
  simpa using e2
/-- a while by a number that falls -/
theorem Wp.while_ {ta : ST C} {s : SS C} : ∀ {n : Nat} (P : Nat → Ev → C.T → Prop) {Γ : Ev} {w : C.T} {k : Nat}, P k Γ w → k < n →
    (∀ k Γ w, P k Γ w → (∃ w1, ta.ev Γ w = some (.ok false w1) ∧ Q (.nx Γ w1)) ∨ ∃ w1 k', k = k' + 1 ∧ ta.ev Γ w = some (.ok true w1) ∧ Wp s Γ w1 (lpQ (P k') Q)) → Wp (.while n ta s) Γ w Q
  | 0, P, Γ, w, k, _, hk, _ => by omega
  | n + 1, P, Γ, w, k, h0, hk, hs => by
    unfold Wp
    rw [while_ev]
    unfold whileEv
    rcases hs k Γ w h0 with ⟨w1, e, q⟩ | ⟨w1, k', rfl, e, f, e2, h2⟩
    · rw [e, bindF_ok]
      exact ⟨_, rfl, q⟩
    · rw [e, bindF_ok, if_pos rfl, e2]
      have ih := fun (Γ : Ev) (w : C.T) (h : P k' Γ w) => Wp.while_ (ta := ta) (s := s) (n := n) P h (by omega) hs
      cases f with
      | nx Γ2 w2 => exact ih Γ2 w2 h2
      | ct Γ2 w2 => exact ih Γ2 w2 h2
      | rt r w2 => exact ⟨_, rfl, h2⟩
      | bk Γ2 w2 => exact h2.elim
      | ex x w2 => exact h2.elim
theorem Wp.run {n : Nat} {b : SS C} {as : List Av} {R : Option (Rs C.T Rv) → Prop} (h : Wp b (startE n as) w fun f => R (outF (some f))) : R (runF n b as w) := by
  obtain ⟨f, e, h⟩ := h
  unfold runF
  rw [e]; exact h
theorem Wp.run1 {n : Nat} {b : SS C} {as : List Av} {res : Rs C.T Rv} (h : Wp b (startE n as) w fun f => outF (some f) = some res) : runF n b as w = some res := Wp.run (R := fun o => o = some res) h
theorem mapEv_rng {g : PyData → Ev → Option Ev} {c : Ev → C.T → Option (Rs C.T Bool)} {b : Ev → C.T → Option (Rs C.T PyData)} {w : C.T} {e : Nat → PyData} (p : Nat → Bool) (f : Nat → PyData) : ∀ (l : List Nat),
    (∀ j ∈ l, ∃ Γ1, g (e j) Γ = some Γ1 ∧ c Γ1 w = some (.ok (p j) w) ∧ (p j = true → b Γ1 w = some (.ok (f j) w))) → mapEv g c b Γ (l.map e) w = some ((l.filter p).map f, w)
  | [], _ => rfl
  | j :: r, hs => by
    have ih := mapEv_rng (g := g) (c := c) (b := b) (w := w) (e := e) p f r fun j h => hs j (List.mem_cons_of_mem _ h)
    obtain ⟨Γ1, e1, e2, e3⟩ := hs j (List.mem_cons_self ..)
    rw [List.map_cons]
    unfold mapEv
    rw [e1]
    simp only [e2]
    cases hp : p j with
    | true =>
      rw [List.filter_cons_of_pos hp]
      simp only [e3 hp, ih, List.map_cons]
    | false =>
      rw [List.filter_cons_of_neg (by simp [hp])]
      exact ih
/-- a comprehension that changes nothing -/
theorem lc_rng {it : SI C} {g : SG C.z} {t : ST C.z} {x : SE C.z} {vs : List Nat} {hg} {w : C.T} {n : Nat} {e : Nat → PyData} (p : Nat → Bool) (f : Nat → PyData) (hn : n ≤ 100000) (ei : it.ev Γ w = some (.ok (rng n e) w))
    (hs : ∀ j, j < n → ∃ Γ1, g.asg (e j) (wipeE Γ vs) = some Γ1 ∧ t.ev Γ1 w = some (.ok (p j) w) ∧ (p j = true → x.evD Γ1 w = some (.ok (f j) w))) :
    (SE.lc it g t x vs hg).ev Γ w = some (.ok (.new (.lst (((List.range n).filter p).map f))) w) := by
  rw [lc_ev, ei, bindR_ok, if_pos (by simpa using hn)]
  have := mapEv_rng (C := C.z) (Γ := wipeE Γ vs) (g := g.asg) (c := t.ev) (b := x.evD) (w := w) (e := e) p f (List.range n) fun j hj => hs j (List.mem_range.mp hj)
  unfold rng
  erw [this]
theorem lc_all {it : SI C} {g : SG C.z} {x : SE C.z} {vs : List Nat} {hg} {w : C.T} {n : Nat} {e : Nat → PyData} (f : Nat → PyData) (hn : n ≤ 100000) (ei : it.ev Γ w = some (.ok (rng n e) w))
    (hs : ∀ j, j < n → ∃ Γ1, g.asg (e j) (wipeE Γ vs) = some Γ1 ∧ x.evD Γ1 w = some (.ok (f j) w)) :
    (SE.lc it g ST.yes x vs hg).ev Γ w = some (.ok (.new (.lst (rng n f))) w) := by
  have := lc_rng (it := it) (g := g) (t := ST.yes) (x := x) (vs := vs) (hg := hg) (Γ := Γ) (w := w) (fun _ => true) f hn ei fun j hj => by
    obtain ⟨Γ1, h1, h2⟩ := hs j hj
    exact ⟨Γ1, h1, rfl, fun _ => h2⟩
  rw [this, List.filter_eq_self.mpr (by simp)]
  rfl
end
/-! ### data that may be compared -/
inductive Shp : Nat → PyData → Prop
  | non {k} : Shp k .none
  | bl {k b} : Shp k (.bool b)
  | int {k i} : Shp k (.int i)
  | lst {k ds} : (∀ d ∈ ds, Shp k d) → Shp (k + 1) (.list ds)
  | tup {k ds} : (∀ d ∈ ds, Shp k d) → Shp (k + 1) (.tuple ds)
theorem canAll {ds : List PyData} (h : ∀ d ∈ ds, PyData.canLay0 d = true) : PyData.canLayAll0 ds = true := by
  induction ds with
  | nil => rfl
  | cons a r ih =>
    simp only [PyData.canLayAll0, Bool.and_eq_true]
    exact ⟨h a (List.mem_cons_self ..), ih fun d hd => h d (List.mem_cons_of_mem _ hd)⟩
theorem Shp.can : ∀ {k : Nat} {d : PyData}, Shp k d → PyData.canLay0 d = true
  | _, _, .non => rfl
  | _, _, .bl => rfl
  | _, _, .int => rfl
  | _, _, .lst h => by
    show PyData.canLayAll0 _ = true
    exact canAll fun d hd => Shp.can (h d hd)
  | _, _, .tup h => by
    show PyData.canLayAll0 _ = true
    exact canAll fun d hd => Shp.can (h d hd)
theorem depthAll_le {k : Nat} {ds : List PyData} (h : ∀ d ∈ ds, PyData.depth d ≤ k) : PyData.depthAll ds ≤ k := by
  induction ds with
  | nil => exact Nat.zero_le _
  | cons a r ih =>
    simp only [PyData.depthAll]
    have := h a (List.mem_cons_self ..)
    have := ih fun d hd => h d (List.mem_cons_of_mem _ hd)
    omega
theorem Shp.depth : ∀ {k : Nat} {d : PyData}, Shp k d → PyData.depth d ≤ k
  | _, _, .non => Nat.zero_le _
  | _, _, .bl => Nat.zero_le _
  | _, _, .int => Nat.zero_le _
  | _, _, .lst h => by
    show PyData.depthAll _ + 1 ≤ _
    have := depthAll_le fun d hd => Shp.depth (h d hd)
    omega
  | _, _, .tup h => by
    show PyData.depthAll _ + 1 ≤ _
    have := depthAll_le fun d hd => Shp.depth (h d hd)
    omega
theorem Shp.ok {k : Nat} {d : PyData} (h : Shp k d) (hk : k ≤ 64) : okEq d = true := by
  unfold okEq SeqAt.shaped
  rw [h.can, decide_eq_true (Nat.le_trans h.depth hk)]; rfl
theorem eqF_ok {neg : Bool} {d e : PyData} {j k : Nat} (h1 : Shp j d) (h2 : Shp k e) (hj : j ≤ 64) (hk : k ≤ 64) : eqF neg d e = some (.dat (.bool (if neg then !PyData.eqv d e else PyData.eqv d e))) := by
  unfold eqF; rw [if_pos ⟨h1.ok hj, h2.ok hk⟩]
theorem eqF_nil {neg : Bool} {ds : List PyData} {k : Nat} (h : ∀ d ∈ ds, Shp k d) (hk : k ≤ 60) : eqF neg (.list ds) (.list []) = some (.dat (.bool (if neg then !ds.isEmpty else ds.isEmpty))) := by
  rw [eqF_ok (Shp.lst h) (Shp.lst (k := 0) (by simp)) (by omega) (by omega)]
  cases ds <;> rfl
@[simp] theorem eqF_i {neg : Bool} {a b : Int} : eqF neg (.int a) (.int b) = some (.dat (.bool (if neg then !decide (a = b) else decide (a = b)))) := by
  rw [eqF_ok (k := 0) (j := 0) .int .int (by omega) (by omega)]; rfl
@[simp] theorem eqF_b {neg : Bool} {a b : Bool} : eqF neg (.bool a) (.bool b) = some (.dat (.bool (if neg then !(a == b) else a == b))) := by
  rw [eqF_ok (k := 0) (j := 0) .bl .bl (by omega) (by omega)]; rfl
end Cl

set_option Elab.async false
set_option linter.all false
set_option maxRecDepth 100000
set_option maxHeartbeats 4000000
namespace Cl
open PySem L2 PySem.Spec PyProof.Rows
/-! ### tables and goals, told by functions -/
def optD : Option Int → PyData
  | none => .none
  | some i => .int i
@[simp] theorem optD_n : optD none = .none := rfl
@[simp] theorem optD_s {i : Int} : optD (some i) = .int i := rfl
@[simp] theorem isNone_opt {x : Option Int} : isNone (optD x) = x.isNone := by cases x <;> rfl
abbrev cellsD (h w : Nat) (t : Nat → Nat → Int) : PyData := .tuple (rng h fun r => .tuple (rng w fun k => .int (t r k)))
abbrev costsD (n : Nat) (c : Nat → Option Int) : PyData := .tuple (rng n fun i => optD (c i))
abbrev tabD (h w : Nat) (t : Nat → Nat → Int) (c : Nat → Option Int) : PyData := .tuple [cellsD h w t, costsD h c, costsD w fun k => c (h + k)]
abbrev goalD (h w : Nat) (g : Nat → Nat → Option Int) : PyData := .tuple (rng h fun r => .tuple (rng w fun k => optD (g r k)))
structure SzOk (h w : Nat) : Prop where
  h1 : 1 ≤ h
  h2 : h ≤ 7
  w1 : 1 ≤ w
  w2 : w ≤ 7
def CellOk (i : Int) : Prop := -1000000 ≤ i ∧ i ≤ 1000000
def TOk (h w : Nat) (t : Nat → Nat → Int) : Prop := ∀ r k, r < h → k < w → CellOk (t r k)
def COk (c : Nat → Option Int) : Prop := ∀ l x, c l = some x → 1 ≤ x ∧ x ≤ 99
def GOk (h w : Nat) (g : Nat → Nat → Option Int) : Prop := ∀ r k x, r < h → k < w → g r k = some x → CellOk x
theorem kb1 : kitB "int" "int" = some true := by decide +kernel
theorem kb2 : kitB "int" "bool" = some false := by decide +kernel
theorem kb3 : kitB "tuple" "tuple" = some true := by decide +kernel
@[simp] theorem isiF_tt {d : List PyData} : isiF "tuple" (.tuple d) = some (.dat (.bool true)) := by
  unfold isiF tyD; rw [kb3]; rfl
@[simp] theorem isiF_ii {d : Int} : isiF "int" (.int d) = some (.dat (.bool true)) := by
  unfold isiF tyD; rw [kb1]; rfl
@[simp] theorem isiF_ib {d : Int} : isiF "bool" (.int d) = some (.dat (.bool false)) := by
  unfold isiF tyD; rw [kb2]; rfl
theorem bools_true {l : List PyData} (h : ∀ d ∈ l, d = .bool true) : ∃ bs, bools? l = some bs ∧ bs.all id = true := by
  induction l with
  | nil => exact ⟨[], rfl, rfl⟩
  | cons a r ih =>
    obtain ⟨bs, e1, e2⟩ := ih fun d hd => h d (List.mem_cons_of_mem _ hd)
    rw [h a (List.mem_cons_self ..)]
    exact ⟨true :: bs, by rw [bools?, e1]; rfl, by rw [List.all_cons, e2]; rfl⟩
theorem bools_rng {n : Nat} {f : Nat → Bool} : bools? (rng n fun j => .bool (f j)) = some (rng n f) := by
  have := bools?_map (rng n f)
  rw [rng_map] at this; exact this
section
variable {K : PySem.W.Frag} {mg : Str → Option Value} {W : World} {w : W.T}
def gc_is_integer (K : PySem.W.Frag) (mg : Str → Option Value) (W : World) : PF W := runF (C := ⟨K, mg, W, E0⟩) n_is_integer.length (b_is_integer K mg W)
def gc_is_cell (K : PySem.W.Frag) (mg : Str → Option Value) (W : World) : PF W := runF (C := ⟨K, mg, W, E0⟩) n_is_cell.length (b_is_cell K mg W (gc_is_integer K mg W))
def gc_is_cost (K : PySem.W.Frag) (mg : Str → Option Value) (W : World) : PF W := runF (C := ⟨K, mg, W, E0⟩) n_is_cost.length (b_is_cost K mg W (gc_is_integer K mg W))
def gc_check_costs (K : PySem.W.Frag) (mg : Str → Option Value) (W : World) : PF W := runF (C := ⟨K, mg, W, E0⟩) n_check_costs.length (b_check_costs K mg W (gc_is_cost K mg W))
def gc_is_row (K : PySem.W.Frag) (mg : Str → Option Value) (W : World) : PF W := runF (C := ⟨K, mg, W, E0⟩) n_is_row.length (b_is_row K mg W (gc_is_cell K mg W))
def gc_check_cells (K : PySem.W.Frag) (mg : Str → Option Value) (W : World) : PF W := runF (C := ⟨K, mg, W, E0⟩) n_check_cells.length (b_check_cells K mg W (gc_is_row K mg W))
def gc_check_table (K : PySem.W.Frag) (mg : Str → Option Value) (W : World) : PF W := runF (C := ⟨K, mg, W, E0⟩) n_check_table.length (b_check_table K mg W (gc_check_cells K mg W) (gc_check_costs K mg W))
def gc_check_goal (K : PySem.W.Frag) (mg : Str → Option Value) (W : World) : PF W := runF (C := ⟨K, mg, W, E0⟩) n_check_goal.length (b_check_goal K mg W (gc_is_cell K mg W))
def gc_line_costs (K : PySem.W.Frag) (mg : Str → Option Value) (W : World) : PF W := runF (C := ⟨K, mg, W, E0⟩) n_line_costs.length (b_line_costs K mg W)
def gc_cell_gaps (K : PySem.W.Frag) (mg : Str → Option Value) (W : World) : PF W := runF (C := ⟨K, mg, W, E0⟩) n_cell_gaps.length (b_cell_gaps K mg W)
theorem isInt {lo hi i : Int} : gc_is_integer K mg W [.dat (.int i), .dat (.int lo), .dat (.int hi)] w = some (.ok (.dat (.bool (decide (lo ≤ i) && decide (i ≤ hi)))) w) := by
  by_cases hl : lo ≤ i <;>
  simp [gc_is_integer, runF, b_is_integer, startE, bindB, hl]
theorem isCell {i : Int} (h : CellOk i) : gc_is_cell K mg W [.dat (.int i)] w = some (.ok (.dat (.bool true)) w) := by
  obtain ⟨h1, h2⟩ := h
  simp [gc_is_cell, runF, b_is_cell, startE, isInt, h1, h2]
theorem isCost_ok {c : Option Int} (h : ∀ x, c = some x → 1 ≤ x ∧ x ≤ 99) : gc_is_cost K mg W [.dat (optD c)] w = some (.ok (.dat (.bool true)) w) := by
  cases c with
  | none => simp [gc_is_cost, runF, b_is_cost, startE]
  | some i =>
    obtain ⟨h1, h2⟩ := h i rfl
    simp [gc_is_cost, runF, b_is_cost, startE, isInt, h1, h2]
theorem isRow {n : Nat} {f : Nat → Int} (hn : n ≤ 7) (h : ∀ k, k < n → CellOk (f k)) : gc_is_row K mg W [.dat (.tuple (rng n fun k => .int (f k))), .dat (.int (n : Nat))] w = some (.ok (.dat (.bool true)) w) := by
  have hb : bools? (rng n fun _ => PyData.bool true) = some (rng n fun _ => true) := bools_rng
  unfold gc_is_row b_is_row
  simp [runF, startE]
  erw [lc_all (n := n) (e := fun k => .int (f k)) (fun _ => .bool true) (by omega) (by simp) (by
    intro j hj
    refine ⟨_, rfl, ?_⟩
    simp [wipeE, isCell (h j hj)])]
  simp [hb]
  simp [rng]
theorem checkCosts {part : Int} {n : Nat} {c : Nat → Option Int} (hc : ∀ l x, c l = some x → 1 ≤ x ∧ x ≤ 99) : gc_check_costs K mg W [.dat (.int part), .dat (costsD n c), .dat (.int (n : Nat))] w = some (.ok (.dat .none) w) := by
  unfold gc_check_costs
  refine Wp.run1 ?_
  unfold b_check_costs
  refine Wp.step (by simp [startE]; and_intros <;> rfl) ?_
  refine Wp.seq (Wp.for_ (n := n) (e := fun j => .tuple [.int (j : Nat), optD (c j)]) (fun j Γ w' => w' = w ∧ ∃ a b, Γ = [some (.dat (.int part)), some (.dat (costsD n c)), some (.dat (.int (n : Nat))), a, b]) (by simp) ⟨rfl, none, none, rfl⟩ ?_ ?_)
  · rintro j Γ w' hj ⟨rfl, a, b, rfl⟩
    refine ⟨_, rfl, Wp.mk (f := .nx _ _) (by
      have : ¬ ((j : Int) = (n : Int)) := by omega
      simp [isCost_ok (hc j), this]; and_intros <;> rfl) ⟨rfl, _, _, rfl⟩⟩
  · rintro Γ w' ⟨rfl, a, b, rfl⟩
    refine Wp.mk (f := .nx _ _) (by simp; and_intros <;> rfl) ?_
    simp
theorem checkCells {h wd : Nat} {t : Nat → Nat → Int} (S : SzOk h wd) (ht : TOk h wd t) : gc_check_cells K mg W [.dat (cellsD h wd t)] w = some (.ok (.dat .none) w) := by
  obtain ⟨h1, h2, w1, w2⟩ := S
  unfold gc_check_cells
  refine Wp.run1 ?_
  unfold b_check_cells
  have g0 : (rng h fun r => PyData.tuple (rng wd fun k => .int (t r k)))[0]? = some (.tuple (rng wd fun k => .int (t 0 k))) := rng_get (by omega)
  have ne : PyData.eqv (PyData.tuple (rng h fun r => PyData.tuple (rng wd fun k => .int (t r k)))) (.tuple []) = false := by
    have : h = (h - 1) + 1 := by omega
    rw [this]
    unfold rng
    rw [List.range_succ_eq_map, List.map_cons]
    rfl
  have e0 : eqF false (PyData.tuple (rng h fun r => PyData.tuple (rng wd fun k => .int (t r k)))) (.tuple []) = some (.dat (.bool false)) := by
    rw [eqF_ok (j := 2) (k := 1) (.tup (by intro d hd; obtain ⟨r, _, rfl⟩ := List.mem_map.mp hd; exact .tup (by intro d hd; obtain ⟨k, _, rfl⟩ := List.mem_map.mp hd; exact .int))) (.tup (by simp)) (by omega) (by omega)]
    simp [ne]
  refine Wp.step (by simp [startE, e0]; and_intros <;> rfl) ?_
  refine Wp.step (by simp [g0]; and_intros <;> rfl) ?_
  refine Wp.for_ (n := h) (e := fun j => .tuple [.int (j : Nat), .tuple (rng wd fun k => .int (t j k))]) (fun j Γ w' => w' = w ∧ ∃ a b, Γ = [some (.dat (cellsD h wd t)), some (.dat (.int (wd : Nat))), a, b]) (by simp) ⟨rfl, none, none, rfl⟩ ?_ ?_
  · rintro j Γ w' hj ⟨rfl, a, b, rfl⟩
    refine ⟨_, rfl, Wp.mk (f := .nx _ _) (by
      have : ¬ ((j : Int) = 7) := by omega
      have a1 : (1 : Int) ≤ (wd : Int) := by omega
      have a2 : (wd : Int) ≤ 7 := by omega
      simp [isRow w2 (ht j · hj), this, a1, a2, bindB]; and_intros <;> rfl) ⟨rfl, _, _, rfl⟩⟩
  · rintro Γ w' ⟨rfl, a, b, rfl⟩
    rfl
theorem checkTable {h wd : Nat} {t : Nat → Nat → Int} {c : Nat → Option Int} (S : SzOk h wd) (ht : TOk h wd t) (hc : COk c) : gc_check_table K mg W [.dat (tabD h wd t c)] w = some (.ok (.dat .none) w) := by
  have e1 := @checkCells K mg W w _ _ _ S ht
  have e2 := @checkCosts K mg W w 1 h c (fun l => hc l)
  have e3 := @checkCosts K mg W w 2 wd (fun k => c (h + k)) (fun l => hc _)
  have g0 : (rng h fun r => PyData.tuple (rng wd fun k => .int (t r k)))[0]? = some (.tuple (rng wd fun k => .int (t 0 k))) := rng_get (by have := S.h1; omega)
  simp [gc_check_table, runF, b_check_table, startE, e1, e2, e3, g0]
theorem checkGoal {h wd : Nat} {t : Nat → Nat → Int} {c : Nat → Option Int} {g : Nat → Nat → Option Int} (S : SzOk h wd) (hg : GOk h wd g) : gc_check_goal K mg W [.dat (tabD h wd t c), .dat (goalD h wd g)] w = some (.ok (.dat .none) w) := by
  obtain ⟨h1, h2, w1, w2⟩ := S
  have g0 : (rng h fun r => PyData.tuple (rng wd fun k => .int (t r k)))[0]? = some (.tuple (rng wd fun k => .int (t 0 k))) := rng_get (by omega)
  unfold gc_check_goal
  refine Wp.run1 ?_
  unfold b_check_goal
  refine Wp.step (by simp [startE, g0]; and_intros <;> rfl) ?_
  refine Wp.step (by simp; and_intros <;> rfl) ?_
  let P : Ev → Prop := fun Γ => ∃ a b d e, Γ = [some (.dat (tabD h wd t c)), some (.dat (goalD h wd g)), some (.dat (.int (h : Nat))), some (.dat (.int (wd : Nat))), a, b, d, e]
  refine Wp.seq (Wp.for_ (n := h) (e := fun j => .tuple [.int (j : Nat), .tuple (rng wd fun k => optD (g j k))]) (fun j Γ w' => w' = w ∧ P Γ) (by simp) ⟨rfl, none, none, none, none, rfl⟩ ?_ ?_)
  · rintro j Γ w' hj ⟨rfl, a, b, d, e, rfl⟩
    refine ⟨_, rfl, ?_⟩
    refine Wp.step (by
      have : ¬ ((j : Int) = (h : Int)) := by omega
      simp [this]; and_intros <;> rfl) ?_
    refine Wp.seq (Wp.for_ (n := wd) (e := fun k => .tuple [.int (k : Nat), optD (g j k)]) (fun k Γ w'' => w'' = w' ∧ ∃ d e, Γ = [some (.dat (tabD h wd t c)), some (.dat (goalD h wd g)), some (.dat (.int (h : Nat))), some (.dat (.int (wd : Nat))), some (.dat (.int (j : Nat))), some (.dat (.tuple (rng wd fun k => optD (g j k)))), d, e]) (by simp) ⟨rfl, d, e, rfl⟩ ?_ ?_)
    · rintro k Γ w'' hk ⟨rfl, d, e, rfl⟩
      have : ¬ ((k : Int) = (wd : Int)) := by omega
      cases hx : g j k with
      | none => exact ⟨_, rfl, Wp.mk (f := .nx _ _) (by simp [this]; and_intros <;> rfl) ⟨rfl, _, _, rfl⟩⟩
      | some x => exact ⟨_, rfl, Wp.mk (f := .nx _ _) (by simp [this, isCell (hg j k x hj hk hx)]; and_intros <;> rfl) ⟨rfl, _, _, rfl⟩⟩
    · rintro Γ w'' ⟨rfl, d, e, rfl⟩
      refine Wp.mk (f := .nx _ _) (by simp; and_intros <;> rfl) ⟨rfl, _, _, _, _, rfl⟩
  · rintro Γ w' ⟨rfl, a, b, d, e, rfl⟩
    refine Wp.mk (f := .nx _ _) (by simp; and_intros <;> rfl) (by simp)
theorem lineCosts {h wd : Nat} {x : PyData} {c : Nat → Option Int} (hs : h + wd ≤ 100) : gc_line_costs K mg W [.dat (.tuple [x, costsD h c, costsD wd fun k => c (h + k)])] w = some (.ok (.dat (costsD (h + wd) c)) w) := by
  have : h + wd ≤ 100000 := by omega
  have e := rng_append (n := h) (m := wd) (f := fun i => optD (c i))
  simp [gc_line_costs, runF, b_line_costs, startE, this, e]
end
end Cl

set_option Elab.async false
set_option linter.all false
set_option maxRecDepth 100000
set_option maxHeartbeats 4000000
namespace Mi
/-- the specified cells of the rows below j, and of the row j the first m -/
def gapsR (h w : Nat) (d : Nat → Nat → Option Int) (j m : Nat) : Gaps := ((List.range j).flatMap fun r => (List.range w).filterMap fun k => (d r k).map fun x => ((r, h + k), x)) ++ (List.range m).filterMap fun k => (d j k).map fun x => ((j, h + k), x)
theorem gapsR_len {h w : Nat} {d : Nat → Nat → Option Int} : ∀ {j m : Nat}, (gapsR h w d j m).length ≤ j * w + m
  | 0, m => by
    unfold gapsR
    have := List.length_filterMap_le (fun k => (d 0 k).map fun x => ((0, h + k), x)) (List.range m)
    simp at this ⊢; omega
  | j + 1, m => by
    have ih := @gapsR_len h w d j w
    have := List.length_filterMap_le (fun k => (d (j + 1) k).map fun x => ((j + 1, h + k), x)) (List.range m)
    unfold gapsR at ih ⊢
    rw [List.range_succ, List.flatMap_append, List.length_append]
    simp only [List.flatMap_cons, List.flatMap_nil, List.append_nil] at *
    rw [List.length_range] at this
    rw [Nat.succ_mul]
    omega
theorem gapsR_row {h w : Nat} {d : Nat → Nat → Option Int} {j : Nat} : gapsR h w d j w = gapsR h w d (j + 1) 0 := by
  unfold gapsR
  rw [List.range_succ, List.flatMap_append]
  simp
theorem gapsR_none {h w : Nat} {d : Nat → Nat → Option Int} {j m : Nat} (e : d j m = none) : gapsR h w d j (m + 1) = gapsR h w d j m := by
  unfold gapsR
  rw [List.range_succ, List.filterMap_append]
  simp [e]
theorem gapsR_some {h w : Nat} {d : Nat → Nat → Option Int} {j m : Nat} {x : Int} (e : d j m = some x) : gapsR h w d j (m + 1) = gapsR h w d j m ++ [((j, h + m), x)] := by
  unfold gapsR
  rw [List.range_succ, List.filterMap_append]
  simp [e]
theorem gapsR_new {h w : Nat} {d : Nat → Nat → Option Int} {j m : Nat} : ∀ e ∈ gapsR h w d j m, e.1 ≠ (j, h + m) := by
  rintro ⟨⟨a, b⟩, x⟩ he z
  simp only [Prod.mk.injEq] at z
  obtain ⟨rfl, rfl⟩ := z
  unfold gapsR at he
  rcases List.mem_append.mp he with he | he
  · simp only [List.mem_flatMap, List.mem_range, List.mem_filterMap, Option.map_eq_some_iff] at he
    obtain ⟨r, h1, k, h2, y, h3, h4⟩ := he
    simp only [Prod.mk.injEq] at h4
    omega
  · simp only [List.mem_range, List.mem_filterMap, Option.map_eq_some_iff] at he
    obtain ⟨k, h2, y, h3, h4⟩ := he
    simp only [Prod.mk.injEq] at h4
    omega
theorem gapsR_all {h w : Nat} {d : Nat → Nat → Option Int} : gapsR h w d h 0 = gapsL h w d := by
  unfold gapsR gapsL; simp
end Mi
namespace Cl
open PySem L2 PySem.Spec PyProof.Rows
def encG (e : (Nat × Nat) × Int) : List Key × PyData := ([.inl (e.1.1 : Nat), .inl (e.1.2 : Nat)], .int e.2)
def gapF (t : Nat → Nat → Int) (g : Nat → Nat → Option Int) (r k : Nat) : Option Int := (g r k).map fun x => x - t r k
theorem putP_new {κ : Type} [DecidableEq κ] {kvs : List (κ × PyData)} {k : κ} {v : PyData} (h : ∀ e ∈ kvs, e.1 ≠ k) : putP kvs k v = kvs ++ [(k, v)] := by
  unfold putP
  rw [if_neg]
  simp only [List.any_eq_true, decide_eq_true_eq, not_exists, not_and]
  exact fun e he => h e he
section
variable {K : PySem.W.Frag} {mg : Str → Option Value} {W : World} {w : W.T}
theorem cellGaps {h wd : Nat} {t : Nat → Nat → Int} {a b : PyData} {g : Nat → Nat → Option Int} (S : SzOk h wd) : gc_cell_gaps K mg W [.dat (.tuple [cellsD h wd t, a, b]), .dat (goalD h wd g)] w = some (.ok (.new (.dicT ((Mi.gapsL h wd (gapF t g)).map encG))) w) := by
  obtain ⟨h1, h2, w1, w2⟩ := S
  unfold gc_cell_gaps
  refine Wp.run1 ?_
  unfold b_cell_gaps
  refine Wp.step (by simp [startE]; and_intros <;> rfl) ?_
  refine Wp.seq (Wp.for_ (n := h) (e := fun j => .tuple [.int (j : Nat), .tuple (rng wd fun k => optD (g j k))]) (fun j Γ w' => w' = w ∧ ∃ c d e f, Γ = [some (.dat (.tuple [cellsD h wd t, a, b])), some (.dat (goalD h wd g)), some (.own (.dicT ((Mi.gapsR h wd (gapF t g) j 0).map encG))), c, d, e, f]) (by simp) ⟨rfl, none, none, none, none, rfl⟩ ?_ ?_)
  · rintro j Γ w' hj ⟨rfl, c, d, e, f, rfl⟩
    refine ⟨_, rfl, ?_⟩
    refine Wp.for_ (n := wd) (e := fun k => .tuple [.int (k : Nat), optD (g j k)]) (fun k Γ w'' => w'' = w' ∧ ∃ e f, Γ = [some (.dat (.tuple [cellsD h wd t, a, b])), some (.dat (goalD h wd g)), some (.own (.dicT ((Mi.gapsR h wd (gapF t g) j k).map encG))), some (.dat (.int (j : Nat))), some (.dat (.tuple (rng wd fun k => optD (g j k)))), e, f]) (by simp) ⟨rfl, e, f, rfl⟩ ?_ ?_
    · rintro k Γ w'' hk ⟨rfl, e, f, rfl⟩
      cases hx : g j k with
      | none =>
        refine ⟨_, rfl, Wp.mk (f := .nx _ _) (by simp; and_intros <;> rfl) ⟨rfl, some (.dat (.int (k : Nat))), some (.dat .none), by rw [Mi.gapsR_none (by simp [gapF, hx])]⟩⟩
      | some x =>
        have e1 : (rng h fun r => PyData.tuple (rng wd fun k => .int (t r k)))[j]? = some (.tuple (rng wd fun k => .int (t j k))) := rng_get hj
        have e2 : (rng wd fun k => PyData.int (t j k))[k]? = some (.int (t j k)) := rng_get hk
        have e3 : ((Mi.gapsR h wd (gapF t g) j k)).length < 100000 := by
          have := @Mi.gapsR_len h wd (gapF t g) j k
          have : j * wd ≤ 7 * 7 := Nat.mul_le_mul (by omega) w2
          omega
        have e4 : putP ((Mi.gapsR h wd (gapF t g) j k).map encG) [.inl (j : Nat), .inl ((h : Int) + (k : Int))] (.int (x - t j k)) = (Mi.gapsR h wd (gapF t g) j (k + 1)).map encG := by
          rw [Mi.gapsR_some (show gapF t g j k = some (x - t j k) by simp [gapF, hx]), List.map_append, putP_new]
          · rfl
          · intro e he
            obtain ⟨e, he', rfl⟩ := List.mem_map.mp he
            have := Mi.gapsR_new e he'
            intro z
            simp only [encG, List.cons.injEq, Sum.inl.injEq] at z
            apply this
            apply Prod.ext <;> simp only <;> omega
        refine ⟨_, rfl, Wp.mk (f := .nx _ _) (by simp [e1, e2, e3, e4, keysOkD]; and_intros <;> rfl) ⟨rfl, _, _, rfl⟩⟩
    · rintro Γ w'' ⟨rfl, e, f, rfl⟩
      exact ⟨rfl, some (.dat (.int (j : Nat))), some (.dat (.tuple (rng wd fun k => optD (g j k)))), e, f, by rw [Mi.gapsR_row]⟩
  · rintro Γ w' ⟨rfl, c, d, e, f, rfl⟩
    refine Wp.mk (by simp; rfl) ?_
    rw [Mi.gapsR_all]; rfl
end
end Cl

set_option Elab.async false
set_option linter.all false
set_option maxRecDepth 100000
set_option maxHeartbeats 4000000
namespace Mi
theorem nodup_len {N : Nat} {ns : List Nd} (hd : (ns.map (·.l)).Nodup) (hl : ∀ n ∈ ns, n.l < N) : ns.length ≤ N := by
  have : (ns.map (·.l)) ⊆ List.range N := by
    intro k hk
    obtain ⟨n, hn, rfl⟩ := List.mem_map.mp hk
    exact List.mem_range.mpr (hl n hn)
  have := List.Nodup.length_le_of_subset hd this
  simpa using this
/-- up the tree in at most so many steps -/
inductive Ends (ns : List Nd) : Nat → Option Nat → Prop
  | top {k} : Ends ns k none
  | up {k l n} : fnd ns l = some n → Ends ns k n.p → Ends ns (k + 1) (some l)
theorem ends_at {ns : List Nd} (hd : (ns.map (·.l)).Nodup) (hp : ∀ i (hi : i < ns.length), (ns[i]).p = none ∨ ∃ j, ∃ hj : j < ns.length, j < i ∧ (ns[i]).p = some (ns[j]).l) : ∀ i (hi : i < ns.length), Ends ns (i + 1) (some (ns[i]).l) := by
  intro i
  induction i using Nat.strongRecOn with
  | _ i ih =>
    intro hi
    have hf := fnd_of hd (List.getElem_mem hi)
    refine .up hf ?_
    rcases hp i hi with e | ⟨j, hj, hji, e⟩
    · rw [e]; exact .top
    · rw [e]
      have := ih j hji hj
      have mono : ∀ {a b : Nat} {c : Option Nat}, Ends ns a c → a ≤ b → Ends ns b c := by
        intro a b c h
        induction h generalizing b with
        | top => intro _; exact .top
        | up h1 _ ih2 =>
          intro hab
          obtain ⟨b', rfl⟩ : ∃ b', b = b' + 1 := ⟨b - 1, by omega⟩
          exact .up h1 (ih2 (by omega))
      exact mono this (by omega)
theorem Ends.mono {ns : List Nd} {a b : Nat} {c : Option Nat} (h : Ends ns a c) (hab : a ≤ b) : Ends ns b c := by
  induction h generalizing b with
  | top => exact .top
  | up h1 _ ih2 =>
    obtain ⟨b', rfl⟩ : ∃ b', b = b' + 1 := ⟨b - 1, by omega⟩
    exact .up h1 (ih2 (by omega))
theorem upTo_none {ns : List Nd} {f : Nat} : upTo ns f none = [] := by cases f <;> rfl
theorem Ends.upTo {ns : List Nd} {k : Nat} {c : Option Nat} (h : Ends ns k c) : ∀ f, k ≤ f → upTo ns f c = upTo ns k c := by
  induction h with
  | top => intro f _; rw [upTo_none, upTo_none]
  | @up k l n h1 _ ih =>
    intro f hf
    obtain ⟨f', rfl⟩ : ∃ f', f = f' + 1 := ⟨f - 1, by omega⟩
    show l :: Mi.upTo ns f' (parA ns l) = l :: Mi.upTo ns k (parA ns l)
    have : parA ns l = n.p := by unfold parA; rw [h1]; rfl
    rw [this, ih f' (by omega)]
theorem Inv.len {g : Gaps} {h N first : Nat} {done : List Nat} {b : BS} (I : Inv g h N first done b) : b.ns.length ≤ N := nodup_len I.nd I.lt
theorem ends_all {N : Nat} {ns : List Nd} (hd : (ns.map (·.l)).Nodup) (hp : ∀ i (hi : i < ns.length), (ns[i]).p = none ∨ ∃ j, ∃ hj : j < ns.length, j < i ∧ (ns[i]).p = some (ns[j]).l) (hl : ns.length ≤ N) {l : Nat} {n : Nd} (e : fnd ns l = some n) : Ends ns N (some l) := by
  obtain ⟨h1, rfl⟩ := fnd_some e
  obtain ⟨i, hi, rfl⟩ := List.mem_iff_getElem.mp h1
  exact (ends_at hd hp i hi).mono (by omega)
end Mi
namespace Cl
open PySem L2 PySem.Spec PyProof.Rows
def natD (l : Nat) : PyData := .int (l : Nat)
def parD : Option Nat → PyData
  | none => .none
  | some l => .int (l : Nat)
def pathD : Option (List Nat) → PyData
  | none => .none
  | some l => .list (l.map natD)
def offK (n : Mi.Nd) : Key × PyData := (.inl (n.l : Nat), .int n.o)
def sgnK (n : Mi.Nd) : Key × PyData := (.inl (n.l : Nat), .int n.s)
def parK (n : Mi.Nd) : Key × PyData := (.inl (n.l : Nat), parD n.p)
theorem valP_nd {f : Mi.Nd → PyData} {k : Nat} : ∀ {ns : List Mi.Nd}, valP (ns.map fun n => ((.inl (n.l : Nat) : Key), f n)) (.inl (k : Nat)) = (Mi.fnd ns k).map f
  | [] => rfl
  | n :: r => by
    rw [List.map_cons]
    unfold valP
    by_cases h : n.l = k
    · rw [if_pos (by rw [h])]
      unfold Mi.fnd
      rw [List.find?_cons_of_pos (by simpa using h)]; rfl
    · rw [if_neg (by intro z; injection z with z; omega)]
      unfold Mi.fnd
      rw [List.find?_cons_of_neg (by simpa using h)]
      exact valP_nd
theorem valP_off {ns : List Mi.Nd} {k : Nat} : valP (ns.map offK) (.inl (k : Nat)) = (Mi.fnd ns k).map fun n => .int n.o := valP_nd
theorem valP_sgn {ns : List Mi.Nd} {k : Nat} : valP (ns.map sgnK) (.inl (k : Nat)) = (Mi.fnd ns k).map fun n => .int n.s := valP_nd
theorem valP_par {ns : List Mi.Nd} {k : Nat} : valP (ns.map parK) (.inl (k : Nat)) = (Mi.fnd ns k).map fun n => parD n.p := valP_nd
theorem put_nd {f : Mi.Nd → PyData} {ns : List Mi.Nd} {n : Mi.Nd} (h : Mi.fnd ns n.l = none) : putP (ns.map fun n => ((.inl (n.l : Nat) : Key), f n)) (.inl (n.l : Nat)) (f n) = (ns ++ [n]).map fun n => ((.inl (n.l : Nat) : Key), f n) := by
  rw [putP_new, List.map_append]
  · rfl
  · intro e he z
    obtain ⟨m, hm, rfl⟩ := List.mem_map.mp he
    simp only [Sum.inl.injEq] at z
    exact Mi.fnd_none h m hm (by omega)
section
variable {C : Cf} {Γ : Ev} {w w1 : C.T} {Q : Fl C.T → Prop}
theorem mapEv_map {α : Type} {g : PyData → Ev → Option Ev} {c : Ev → C.T → Option (Rs C.T Bool)} {b : Ev → C.T → Option (Rs C.T PyData)} {w : C.T} {e : α → PyData} (p : α → Bool) (f : α → PyData) : ∀ (l : List α),
    (∀ j ∈ l, ∃ Γ1, g (e j) Γ = some Γ1 ∧ c Γ1 w = some (.ok (p j) w) ∧ (p j = true → b Γ1 w = some (.ok (f j) w))) → mapEv g c b Γ (l.map e) w = some ((l.filter p).map f, w)
  | [], _ => rfl
  | j :: r, hs => by
    have ih := mapEv_map (g := g) (c := c) (b := b) (w := w) (e := e) p f r fun j h => hs j (List.mem_cons_of_mem _ h)
    obtain ⟨Γ1, e1, e2, e3⟩ := hs j (List.mem_cons_self ..)
    rw [List.map_cons]
    unfold mapEv
    rw [e1]
    simp only [e2]
    cases hp : p j with
    | true =>
      rw [List.filter_cons_of_pos hp]
      simp only [e3 hp, ih, List.map_cons]
    | false =>
      rw [List.filter_cons_of_neg (by simp [hp])]
      exact ih
theorem lc_map {α : Type} {it : SI C} {g : SG C.z} {t : ST C.z} {x : SE C.z} {vs : List Nat} {hg} {w : C.T} {l : List α} {e : α → PyData} (p : α → Bool) (f : α → PyData) (hn : l.length ≤ 100000) (ei : it.ev Γ w = some (.ok (l.map e) w))
    (hs : ∀ j ∈ l, ∃ Γ1, g.asg (e j) (wipeE Γ vs) = some Γ1 ∧ t.ev Γ1 w = some (.ok (p j) w) ∧ (p j = true → x.evD Γ1 w = some (.ok (f j) w))) :
    (SE.lc it g t x vs hg).ev Γ w = some (.ok (.new (.lst ((l.filter p).map f))) w) := by
  rw [lc_ev, ei, bindR_ok, if_pos (by simpa using hn)]
  have := mapEv_map (C := C.z) (Γ := wipeE Γ vs) (g := g.asg) (c := t.ev) (b := x.evD) (w := w) (e := e) p f l hs
  erw [this]
theorem lc_mapA {α : Type} {it : SI C} {g : SG C.z} {x : SE C.z} {vs : List Nat} {hg} {w : C.T} {l : List α} {e : α → PyData} (f : α → PyData) (hn : l.length ≤ 100000) (ei : it.ev Γ w = some (.ok (l.map e) w))
    (hs : ∀ j ∈ l, ∃ Γ1, g.asg (e j) (wipeE Γ vs) = some Γ1 ∧ x.evD Γ1 w = some (.ok (f j) w)) :
    (SE.lc it g ST.yes x vs hg).ev Γ w = some (.ok (.new (.lst (l.map f))) w) := by
  have := lc_map (it := it) (g := g) (t := ST.yes) (x := x) (vs := vs) (hg := hg) (Γ := Γ) (w := w) (fun _ => true) f hn ei fun j hj => by
    obtain ⟨Γ1, h1, h2⟩ := hs j hj
    exact ⟨Γ1, h1, rfl, fun _ => h2⟩
  rw [this, List.filter_eq_self.mpr (by simp)]
theorem forEv_fold {α σ : Type} {g : PyData → Ev → Option Ev} {b : Ev → C.T → Option (Fl C.T)} {e : α → PyData} (step : σ → α → σ) (R : σ → Ev → C.T → Prop) : ∀ (l : List α) (s : σ) {Γ : Ev} {w : C.T}, R s Γ w →
    (∀ x ∈ l, ∀ s Γ w, R s Γ w → ∃ Γ1, g (e x) Γ = some Γ1 ∧ ∃ f, b Γ1 w = some f ∧ lpQ (R (step s x)) Q f) → (∀ Γ' w', R (l.foldl step s) Γ' w' → Q (.nx Γ' w')) →
    ∃ f, forEv g b (l.map e) Γ w = some f ∧ Q f
  | [], s, Γ, w, h0, _, q => ⟨_, rfl, q Γ w h0⟩
  | x :: r, s, Γ, w, h0, hs, q => by
    obtain ⟨Γ1, e1, f, e2, h2⟩ := hs x (List.mem_cons_self ..) s Γ w h0
    rw [List.map_cons]
    unfold forEv
    rw [e1, Option.bind_some, e2]
    have ih := fun (Γ : Ev) (w : C.T) (h : R (step s x) Γ w) => forEv_fold (g := g) (b := b) (e := e) step R r (step s x) h (fun x hx => hs x (List.mem_cons_of_mem _ hx)) q
    cases f with
    | nx Γ2 w2 => exact ih Γ2 w2 h2
    | ct Γ2 w2 => exact ih Γ2 w2 h2
    | rt r w2 => exact ⟨_, rfl, h2⟩
    | bk Γ2 w2 => exact h2.elim
    | ex x w2 => exact h2.elim
/-- a for over a list, told by a fold -/
theorem Wp.foldl {α σ : Type} {it : SI C} {g : SG C} {s : SS C} {l : List α} {e : α → PyData} (step : σ → α → σ) (R : σ → Ev → C.T → Prop) (s0 : σ) (ei : it.ev Γ w = some (.ok (l.map e) w1)) (h0 : R s0 Γ w1)
    (hs : ∀ x ∈ l, ∀ st Γ w, R st Γ w → ∃ Γ1, g.asg (e x) Γ = some Γ1 ∧ Wp s Γ1 w (lpQ (R (step st x)) Q)) (q : ∀ Γ' w', R (l.foldl step s0) Γ' w' → Q (.nx Γ' w')) : Wp (.for it g s) Γ w Q := by
  obtain ⟨f, e2, h⟩ := forEv_fold (C := C) (Q := Q) (g := g.asg) (b := s.ev) (e := e) step R l s0 h0 hs q
  refine ⟨f, ?_, h⟩
  rw [for_ev, ei, bindF_ok]
  exact e2
end
end Cl

set_option Elab.async false
set_option linter.all false
set_option maxRecDepth 100000
set_option maxHeartbeats 4000000
namespace Cl
open PySem L2 PySem.Spec PyProof.Rows
/-- the program's classes, as they stand -/
structure PC (K : PySem.W.Frag) where
  A : Addr
  S : Addr
  hA : Cls K A
  hS : Cls K S
  a1 : NoAttr K A "gaps"
  a2 : NoAttr K A "costs"
  a3 : NoAttr K A "offsets"
  a4 : NoAttr K A "signs"
  a5 : NoAttr K A "parents"
  a6 : NoAttr K A "cycle"
  a7 : NoAttr K A "lines"
  s1 : NoAttr K S "costs"
  s2 : NoAttr K S "parts"
  s3 : NoAttr K S "is_reachable"
  s4 : NoAttr K S "first_shifts"
def gapsD (g : Mi.Gaps) : PyData := .dict ((.bool false, .none) :: dicTD (g.map encG))
/-- a component while it is searched -/
def cst (G c : PyData) (o s p : List (Key × PyData)) (y : PyData) : CSt := [("gaps", .dat G), ("costs", .dat c), ("offsets", .dic o), ("signs", .dic s), ("parents", .dic p), ("cycle", .dat y)]
@[reducible] def bst (G c : PyData) (b : Mi.BS) : CSt := cst G c (b.ns.map offK) (b.ns.map sgnK) (b.ns.map parK) (pathD b.cyc)
section
variable {G c : PyData} {o s p o' : List (Key × PyData)} {y y' : PyData}
@[simp] theorem cst1 : List.lookup ("gaps" : Str) (cst G c o s p y) = some (.dat G) := rfl
@[simp] theorem cst2 : List.lookup ("costs" : Str) (cst G c o s p y) = some (.dat c) := rfl
@[simp] theorem cst3 : List.lookup ("offsets" : Str) (cst G c o s p y) = some (.dic o) := rfl
@[simp] theorem cst4 : List.lookup ("signs" : Str) (cst G c o s p y) = some (.dic s) := rfl
@[simp] theorem cst5 : List.lookup ("parents" : Str) (cst G c o s p y) = some (.dic p) := rfl
@[simp] theorem cst6 : List.lookup ("cycle" : Str) (cst G c o s p y) = some (.dat y) := rfl
@[simp] theorem cst7 : List.lookup ("neighbors" : Str) (cst G c o s p y) = none := rfl
@[simp] theorem cst8 : List.lookup ("path_to" : Str) (cst G c o s p y) = none := rfl
@[simp] theorem cst9 : List.lookup ("lines" : Str) (cst G c o s p y) = none := rfl
@[simp] theorem cstl : (cst G c o s p y).length = 6 := rfl
@[simp] theorem cstp3 : putFv "offsets" (.dic o') (cst G c o s p y) = cst G c o' s p y := rfl
@[simp] theorem cstp4 : putFv "signs" (.dic o') (cst G c o s p y) = cst G c o o' p y := rfl
@[simp] theorem cstp5 : putFv "parents" (.dic o') (cst G c o s p y) = cst G c o s o' y := rfl
@[simp] theorem cstp6 : putFv "cycle" (.dat y') (cst G c o s p y) = cst G c o s p y' := rfl
end
def cmF (A : Addr) (G c : PyData) (m : Mi.Cm) : PyData := insF A [("gaps", .dat G), ("costs", .dat c), ("offsets", .dic (m.ns.map offK)), ("signs", .dic (m.ns.map sgnK)), ("parents", .dic (m.ns.map parK)), ("cycle", .dat (pathD m.cyc)), ("lines", .dat (.list (m.lines.map natD)))]
section
variable {K : PySem.W.Frag} (mg : Str → Option Value) (X : PC K)
def gc_path_to_h : PF (Wc X.A) := runF (C := ⟨K, mg, Wc X.A, E0⟩) n_Component_path_to_h.length (b_Component_path_to_h K mg X.A X.hA X.a5)
def gc_neighbors_h : PF (Wc X.A) := runF (C := ⟨K, mg, Wc X.A, E0⟩) n_Component_neighbors_h.length (b_Component_neighbors_h K mg X.A X.hA X.a1)
def gi_Component : PF (Wc X.A) := runF (C := ⟨K, mg, Wc X.A, E0⟩) n_Component___init__.length (b_Component___init__ K mg X.A X.hA X.a1 X.a2 X.a3 X.a4 X.a5 X.a6 X.a7 (gc_line_costs K mg (Wc X.A)) (gc_neighbors_h mg X) (gc_path_to_h mg X))
end
section
variable {K : PySem.W.Frag} {mg : Str → Option Value} {X : PC K}
theorem items_gaps {g : Mi.Gaps} : itemsD (dicTD (g.map encG)) = g.map fun e => .tuple [.tuple [.int (e.1.1 : Nat), .int (e.1.2 : Nat)], .int e.2] := by
  unfold itemsD dicTD
  rw [List.map_map, List.map_map]
  rfl
def nbD (e : Nat × Int) : PyData := .tuple [.int (e.1 : Nat), .int e.2]
theorem neighbors_h {g : Mi.Gaps} {c : PyData} {b : Mi.BS} {l : Nat} (hg : g.length ≤ 1000) : gc_neighbors_h mg X [.hd 0, .dat (.int (l : Nat))] (bst (gapsD g) c b) = some (.ok (.new (.lst ((Mi.nbs g l).map nbD))) (bst (gapsD g) c b)) := by
  unfold gc_neighbors_h
  refine Wp.run1 ?_
  unfold b_Component_neighbors_h
  have e1 := fun (Γ : Ev) (h0 : Γ[0]? = some (some (.hd 0))) (h1 : Γ.length = 6) (h2 : Γ[1]? = some (some (.dat (.int (l : Nat))))) => lc_map (C := ⟨K, mg, Wc X.A, E0⟩) (Γ := Γ) (w := bst (gapsD g) c b) (it := .itemsF (.cfld 0 "gaps" X.hA X.a1)) (g := .tup 2 (.cons (.tup 2 (.cons (.name 3) (.cons (.name 4) .nil))) (.cons (.name 5) .nil))) (t := .of (.eq (.var 3) (.var 1))) (x := .tup (.cons (.var 4) (.cons (.var 5) .nil))) (vs := [3, 4, 5]) (hg := rfl)
    (l := g) (e := fun e => .tuple [.tuple [.int (e.1.1 : Nat), .int (e.1.2 : Nat)], .int e.2]) (fun e => decide (e.1.1 = l)) (fun e => nbD (e.1.2, e.2)) (by omega) (by simp [h0, gapsD, items_gaps]) (by
      intro e he
      obtain ⟨a0, a1, a2, a3, a4, a5, rfl⟩ : ∃ a0 a1 a2 a3 a4 a5, Γ = [a0, a1, a2, a3, a4, a5] := by
        match Γ, h1 with
        | [a0, a1, a2, a3, a4, a5], _ => exact ⟨_, _, _, _, _, _, rfl⟩
      simp at h0 h2
      subst h0 h2
      refine ⟨_, rfl, ?_, fun _ => ?_⟩
      · simp [wipeE]; omega
      · simp [wipeE, nbD])
  have e2 := fun (Γ : Ev) (h0 : Γ[0]? = some (some (.hd 0))) (h1 : Γ.length = 6) (h2 : Γ[1]? = some (some (.dat (.int (l : Nat))))) => lc_map (C := ⟨K, mg, Wc X.A, E0⟩) (Γ := Γ) (w := bst (gapsD g) c b) (it := .itemsF (.cfld 0 "gaps" X.hA X.a1)) (g := .tup 2 (.cons (.tup 2 (.cons (.name 3) (.cons (.name 4) .nil))) (.cons (.name 5) .nil))) (t := .of (.eq (.var 4) (.var 1))) (x := .tup (.cons (.var 3) (.cons (.var 5) .nil))) (vs := [3, 4, 5]) (hg := rfl)
    (l := g) (e := fun e => .tuple [.tuple [.int (e.1.1 : Nat), .int (e.1.2 : Nat)], .int e.2]) (fun e => decide (e.1.2 = l)) (fun e => nbD (e.1.1, e.2)) (by omega) (by simp [h0, gapsD, items_gaps]) (by
      intro e he
      obtain ⟨a0, a1, a2, a3, a4, a5, rfl⟩ : ∃ a0 a1 a2 a3 a4 a5, Γ = [a0, a1, a2, a3, a4, a5] := by
        match Γ, h1 with
        | [a0, a1, a2, a3, a4, a5], _ => exact ⟨_, _, _, _, _, _, rfl⟩
      simp at h0 h2
      subst h0 h2
      refine ⟨_, rfl, ?_, fun _ => ?_⟩
      · simp [wipeE]; omega
      · simp [wipeE, nbD])
  refine Wp.step (by
    rw [asgD_ev, evD_S, e1 _ rfl rfl rfl]
    simp [startE]; and_intros <;> rfl) ?_
  refine Wp.mk (f := .rt _ _) (by
    have e2' := e2 [some (.hd 0), some (.dat (.int (l : Nat))), some (.dat (.list (List.map (fun e => nbD (e.1.2, e.2)) (List.filter (fun e => decide (e.1.1 = l)) g)))), none, none, none] rfl rfl rfl
    have l1 := List.length_filter_le (fun e : (Nat × Nat) × Int => decide (e.1.1 = l)) g
    have l2 := List.length_filter_le (fun e : (Nat × Nat) × Int => decide (e.1.2 = l)) g
    have l3 : (List.filter (fun e : (Nat × Nat) × Int => decide (e.1.1 = l)) g).length + (List.filter (fun e : (Nat × Nat) × Int => decide (e.1.2 = l)) g).length ≤ 100000 := by omega
    simp [-lc_ev, e2', l3]; and_intros <;> rfl) ?_
  simp [Mi.nbs, Function.comp_def]
theorem path_to_h {G c : PyData} {b : Mi.BS} {l : Nat} (he : Mi.Ends b.ns 18 (some l)) : gc_path_to_h mg X [.hd 0, .dat (.int (l : Nat))] (bst G c b) = some (.ok (.new (.lst ((Mi.pathTo b.ns l).map natD))) (bst G c b)) := by
  unfold gc_path_to_h
  refine Wp.run1 ?_
  unfold b_Component_path_to_h
  refine Wp.step (by simp [startE]; and_intros <;> rfl) ?_
  refine Wp.seq (Wp.while_ (k := 18) (fun k Γ w => w = bst G c b ∧ ∃ cur acc, Γ = [some (.hd 0), some (.dat (parD cur)), some (.own (.lst (acc.map natD)))] ∧ acc.length + k ≤ 18 ∧ Mi.Ends b.ns k cur ∧ Mi.upTo b.ns 20 (some l) = acc ++ Mi.upTo b.ns k cur) ⟨rfl, some l, [], rfl, by simp, he, by rw [he.upTo 20 (by omega)]; rfl⟩ (by omega) ?_)
  rintro k Γ w ⟨rfl, cur, acc, rfl, hl, hk, eu⟩
  cases hk with
  | top =>
    left
    refine ⟨_, by simp [parD]; rfl, ?_⟩
    rw [Mi.upTo_none, List.append_nil] at eu
    refine Wp.mk (by simp; rfl) ?_
    simp [Mi.pathTo, eu]
  | @up k l n h1 h2 =>
    right
    refine ⟨_, k, rfl, by simp [parD]; rfl, ?_⟩
    have hv : valP (b.ns.map parK) (.inl (l : Nat)) = some (parD n.p) := by rw [valP_par, h1]; rfl
    have hlen : acc.length < 100000 := by omega
    refine Wp.step (by simp [parD, hlen]; and_intros <;> rfl) ?_
    refine Wp.mk (f := .nx _ _) (by simp [hv]; and_intros <;> rfl) ⟨rfl, n.p, acc ++ [l], ?_, by simp; omega, h2, ?_⟩
    · simp [natD]
    · rw [eu]
      show acc ++ (l :: Mi.upTo b.ns k (Mi.parA b.ns l)) = _
      have : Mi.parA b.ns l = n.p := by unfold Mi.parA; rw [h1]; rfl
      rw [this]; simp
end
end Cl

set_option Elab.async false
set_option linter.all false
set_option maxRecDepth 100000
set_option maxHeartbeats 4000000
namespace Cl
open PySem L2 PySem.Spec PyProof.Rows
theorem natD_shp {k : Nat} {l : List Nat} : ∀ d ∈ l.map natD, Shp k d := by
  intro d hd
  obtain ⟨n, _, rfl⟩ := List.mem_map.mp hd
  exact .int
theorem map_isEmpty {α β : Type} {f : α → β} {l : List α} : (l.map f).isEmpty = l.isEmpty := by cases l <;> rfl
section
variable {K : PySem.W.Frag} {mg : Str → Option Value} {X : PC K}
/-- one neighbour -/
theorem visit_ok {T G c : PyData} {g : Mi.Gaps} {h N first line : Nat} {done : List Nat} {b : Mi.BS} {e : Nat × Int} (hN2 : N ≤ 18) (I : Mi.Inv g h N first done b) (hl : line ∈ done) {x6 x7 : Option Sv} {f0 : PyData} {Q : Fl (Wc X.A).T → Prop}
    (hq : ∀ Γ w, w = bst G c (Mi.visit line b e) → (∃ x6 x7, Γ = [some (.hd 0), some (.dat T), some (.dat G), some (.dat f0), some (.own (.lst ((Mi.visit line b e).q.map natD))), some (.dat (natD line)), x6, x7]) → Q (.nx Γ w)) :
    Wp (C := ⟨K, mg, Wc X.A, E0⟩) (.ite (.of (.cnin 0 "offsets" X.hA X.a3 6)) (.seq (.cput 0 "offsets" X.hA X.a3 6 (.sub (.var 7) (.cget 0 "offsets" X.hA X.a3 5))) (.seq (.cput 0 "signs" X.hA X.a4 6 (.sub (.int 0) (.cget 0 "signs" X.hA X.a4 5))) (.seq (.cput 0 "parents" X.hA X.a5 6 (.var 5)) (.app 4 (.var 6))))) (.ite (.and (.of (.is (.cfld 0 "cycle" X.hA X.a6) .non)) (.of (.ne (.add (.cget 0 "offsets" X.hA X.a3 6) (.cget 0 "offsets" X.hA X.a3 5)) (.var 7)))) (.cset 0 "cycle" X.hA X.a6 (.add (.cmeth 0 "path_to" 1 (gc_path_to_h mg X) (.cons (.var 5) .nil)) (.rev (.cmeth 0 "path_to" 1 (gc_path_to_h mg X) (.cons (.var 6) .nil))))) .nop))
      [some (.hd 0), some (.dat T), some (.dat G), some (.dat f0), some (.own (.lst (b.q.map natD))), some (.dat (natD line)), some (.dat (.int (e.1 : Nat))), some (.dat (.int e.2))] (bst G c b) Q := by
  obtain ⟨o, x⟩ := e
  obtain ⟨m, hm⟩ : ∃ m, Mi.fnd b.ns line = some m := by
    have : line ∈ b.ns.map (·.l) := by rw [I.ks]; exact List.mem_append_left _ hl
    obtain ⟨m, h1, h2⟩ := List.mem_map.mp this
    exact ⟨m, by rw [← h2]; exact Mi.fnd_of I.nd h1⟩
  have om : Mi.offA b.ns line = m.o := by unfold Mi.offA; rw [hm]; rfl
  have sm : Mi.sgnA b.ns line = m.s := by unfold Mi.sgnA; rw [hm]; rfl
  have vo : valP (b.ns.map offK) (.inl (line : Nat)) = some (.int m.o) := by rw [valP_off, hm]; rfl
  have vs : valP (b.ns.map sgnK) (.inl (line : Nat)) = some (.int m.s) := by rw [valP_sgn, hm]; rfl
  have hlen := I.len
  have hlen2 : b.ns.length < 100000 := by omega
  have hqlen : b.q.length < 100000 := by
    have : (b.ns.map (·.l)).length = (done ++ b.q).length := by rw [I.ks]
    simp at this; omega
  have en := fun {l : Nat} {n : Mi.Nd} (e : Mi.fnd b.ns l = some n) => (Mi.ends_all I.nd I.par hlen e).mono hN2
  cases ho : Mi.fnd b.ns o with
  | none =>
    have vn : valP (b.ns.map offK) (.inl (o : Nat)) = none := by rw [valP_off, ho]; rfl
    have ev : Mi.visit line b (o, x) = { b with ns := b.ns ++ [⟨o, x - m.o, 0 - m.s, some line⟩], q := b.q ++ [o] } := by
      unfold Mi.visit; rw [if_pos (by simp [ho]), om, sm]
    have p1 : putP (b.ns.map offK) (.inl (o : Nat)) (.int (x - m.o)) = (b.ns ++ [(⟨o, x - m.o, 0 - m.s, some line⟩ : Mi.Nd)]).map offK := put_nd (f := fun n => .int n.o) (n := ⟨o, x - m.o, 0 - m.s, some line⟩) ho
    have p2 : putP (b.ns.map sgnK) (.inl (o : Nat)) (.int (-m.s)) = (b.ns ++ [(⟨o, x - m.o, 0 - m.s, some line⟩ : Mi.Nd)]).map sgnK := by
      rw [← Int.zero_sub]
      exact put_nd (f := fun n => .int n.s) (n := ⟨o, x - m.o, 0 - m.s, some line⟩) ho
    have p3 : putP (b.ns.map parK) (.inl (o : Nat)) (.int (line : Nat)) = (b.ns ++ [(⟨o, x - m.o, 0 - m.s, some line⟩ : Mi.Nd)]).map parK := put_nd (f := fun n => parD n.p) (n := ⟨o, x - m.o, 0 - m.s, some line⟩) ho
    refine Wp.ite (b := true) (by simp [vn]; rfl) ?_
    rw [if_pos rfl]
    refine Wp.step (by simp [natD, vo, hlen2, p1]; and_intros <;> rfl) ?_
    refine Wp.step (by simp [natD, vs, hlen2, p2]; and_intros <;> rfl) ?_
    refine Wp.step (by simp [natD, hlen2, p3]; and_intros <;> rfl) ?_
    refine Wp.mk (f := .nx _ _) (by simp [natD, hqlen]; and_intros <;> rfl) (hq _ _ (by rw [ev]; simp [bst]) ⟨some (.dat (.int (o : Nat))), some (.dat (.int x)), ?_⟩)
    rw [ev]; simp [natD]
  | some n =>
    have vn : valP (b.ns.map offK) (.inl (o : Nat)) = some (.int n.o) := by rw [valP_off, ho]; rfl
    have on : Mi.offA b.ns o = n.o := by unfold Mi.offA; rw [ho]; rfl
    refine Wp.ite (b := false) (by simp [vn]; rfl) ?_
    rw [if_neg (by simp)]
    cases hc : b.cyc with
    | some p =>
      have ev : Mi.visit line b (o, x) = b := by
        unfold Mi.visit; rw [if_neg (by simp [ho]), if_neg (by simp [hc])]
      refine Wp.mk (f := .nx _ _) (by simp [hc, pathD]; and_intros <;> rfl) (hq _ _ (by rw [ev]) ⟨some (.dat (.int (o : Nat))), some (.dat (.int x)), ?_⟩)
      rw [ev]
    | none =>
      by_cases hx : n.o + m.o = x
      · have ev : Mi.visit line b (o, x) = b := by
          unfold Mi.visit; rw [if_neg (by simp [ho]), if_neg (by rw [on, om]; intro z; exact z.2 hx)]
        refine Wp.mk (f := .nx _ _) (by simp [hc, pathD, natD, vn, vo, hx]; and_intros <;> rfl) (hq _ _ (by rw [ev]) ⟨some (.dat (.int (o : Nat))), some (.dat (.int x)), ?_⟩)
        rw [ev]; simp [natD]
      · have ev : Mi.visit line b (o, x) = { b with cyc := some (Mi.pathTo b.ns line ++ (Mi.pathTo b.ns o).reverse) } := by
          unfold Mi.visit; rw [if_neg (by simp [ho]), if_pos ⟨hc, by rw [on, om]; exact hx⟩]
        have q1 := @path_to_h K mg X G c b line (en hm)
        have q2 := @path_to_h K mg X G c b o (en ho)
        have l1 : (Mi.pathTo b.ns line).length + (Mi.pathTo b.ns o).length ≤ 100000 := by
          have up : ∀ (ns : List Mi.Nd) (f : Nat) (c : Option Nat), (Mi.upTo ns f c).length ≤ f := by
            intro ns f
            induction f with
            | zero => intro c; cases c <;> simp [Mi.upTo]
            | succ f ih => intro c; cases c <;> simp [Mi.upTo, ih]
          have := up b.ns 20 (some line)
          have := up b.ns 20 (some o)
          unfold Mi.pathTo
          simp only [List.length_reverse]
          omega
        simp only [bst, hc, pathD] at q1 q2
        refine Wp.mk (f := .nx _ _) (by simp [bst, hc, pathD, natD, vn, vo, hx, q1, q2, l1]; and_intros <;> rfl) (hq _ _ ?_ ⟨some (.dat (.int (o : Nat))), some (.dat (.int x)), ?_⟩)
        · rw [ev]; simp [bst, pathD]
        · rw [ev]; simp [natD]
end
end Cl

set_option Elab.async false
set_option linter.all false
set_option maxRecDepth 100000
set_option maxHeartbeats 4000000
namespace Cl
open PySem L2 PySem.Spec PyProof.Rows
theorem intKeys_off {ns : List Mi.Nd} : intKeys? (ns.map offK) = some (ns.map fun n => (n.l : Int)) := by
  induction ns with
  | nil => rfl
  | cons n r ih => rw [List.map_cons, offK, intKeys?, ih]; rfl
theorem sort_nat {l : List Nat} : sortB leI (l.map fun (n : Nat) => (n : Int)) = (l.mergeSort Mi.leN).map fun (n : Nat) => (n : Int) := by
  symm
  apply sortB_eq totI
  · exact (List.mergeSort_perm _ _).map _
  · rw [List.pairwise_map]
    have := List.pairwise_mergeSort (le := Mi.leN) (by intro a b c h1 h2; simp [Mi.leN] at *; omega) (by intro a b; simp [Mi.leN]; omega) l
    exact this.imp fun {a b} h => by simp only [Mi.leN, decide_eq_true_eq] at h; simp only [leI, decide_eq_true_eq]; omega
section
variable {K : PySem.W.Frag} {mg : Str → Option Value} {X : PC K}
theorem init_ok {T x : PyData} {g : Mi.Gaps} {c : Nat → Option Int} {h wd first : Nat} (hT : T = .tuple [x, costsD h c, costsD wd fun k => c (h + k)]) (hN2 : h + wd ≤ 18) (B : Mi.Bip h (h + wd) g) (hf : first < h + wd) (hg : g.length ≤ 1000) :
    gi_Component mg X [.hd 0, .dat T, .dat (gapsD g), .dat (.int (first : Nat))] [] = some (.ok (.dat .none) ((bst (gapsD g) (costsD (h + wd) c) ⟨(Mi.comp g first).ns, (Mi.comp g first).cyc, []⟩ ++ ([("lines", .dat (.list ((Mi.comp g first).lines.map natD)))] : CSt)))) := by
  have hN : h ≤ h + wd := by omega
  have lc := @lineCosts K mg (Wc X.A) [("gaps", .dat (gapsD g))] h wd x c (by omega)
  rw [← hT] at lc
  unfold gi_Component
  refine Wp.run1 ?_
  unfold b_Component___init__
  refine Wp.step (s1 := .cset 0 "gaps" X.hA X.a1 (.var 2)) (w' := [("gaps", .dat (gapsD g))]) (by simp [startE]; and_intros <;> rfl) ?_
  refine Wp.step (w' := [("gaps", .dat (gapsD g)), ("costs", .dat (costsD (h + wd) c))]) (by simp [lc]; and_intros <;> rfl) ?_
  refine Wp.step (w' := [("gaps", .dat (gapsD g)), ("costs", .dat (costsD (h + wd) c)), ("offsets", .dic [(.inl (first : Nat), .int 0)])]) (by simp; and_intros <;> rfl) ?_
  refine Wp.step (w' := [("gaps", .dat (gapsD g)), ("costs", .dat (costsD (h + wd) c)), ("offsets", .dic [(.inl (first : Nat), .int 0)]), ("signs", .dic [(.inl (first : Nat), .int 1)])]) (by simp; and_intros <;> rfl) ?_
  refine Wp.step (w' := [("gaps", .dat (gapsD g)), ("costs", .dat (costsD (h + wd) c)), ("offsets", .dic [(.inl (first : Nat), .int 0)]), ("signs", .dic [(.inl (first : Nat), .int 1)]), ("parents", .dic [(.inl (first : Nat), .none)])]) (by simp; and_intros <;> rfl) ?_
  refine Wp.step (w' := bst (gapsD g) (costsD (h + wd) c) (Mi.bfs0 first)) (by simp; and_intros <;> rfl) ?_
  refine Wp.step (by simp; and_intros <;> rfl) ?_
  refine Wp.seq (Wp.while_ (k := h + wd) (fun k Γ w => ∃ done b f x5 x6 x7, Mi.Inv g h (h + wd) first done b ∧ Mi.AllDone g done b ∧ w = bst (gapsD g) (costsD (h + wd) c) b ∧ Γ = [some (.hd 0), some (.dat T), some (.dat (gapsD g)), some (.dat (.int (first : Nat))), some (.own (.lst (b.q.map natD))), x5, x6, x7] ∧ h + wd = done.length + k ∧ Mi.bfs g 20 (Mi.bfs0 first) = Mi.bfs g f b ∧ h + wd < done.length + f)
    ⟨[], Mi.bfs0 first, 20, none, none, none, Mi.inv0 hf, (fun _ h => nomatch h), rfl, rfl, by simp, rfl, by simp; omega⟩ (by omega) ?_)
  rintro k Γ w ⟨done, b, f, x5, x6, x7, I, D, rfl, rfl, hk, hb, hf2⟩
  cases hq : b.q with
  | nil =>
    left
    refine ⟨bst (gapsD g) (costsD (h + wd) c) b, by simp [eqF_nil (ds := []) (k := 0) (by simp) (by omega)], ?_⟩
    have eb : Mi.bfs g 20 (Mi.bfs0 first) = b := by
      rw [hb]; cases f with
      | zero => rfl
      | succ f => unfold Mi.bfs; rw [hq]
    have ec : Mi.comp g first = ⟨b.ns, b.cyc, (b.ns.map (·.l)).mergeSort Mi.leN⟩ := by unfold Mi.comp; rw [eb]
    have hl : b.ns.length < 64 := by have := I.len; omega
    refine Wp.mk (f := .nx _ _) (by simp [intKeys_off, hl]; and_intros <;> rfl) ?_
    rw [outF_nx, ec]
    congr 2
    have := sort_nat (l := b.ns.map (·.l))
    rw [List.map_map] at this
    simp only [Function.comp_def] at this
    rw [this, List.map_map]
    rfl
  | cons l q =>
    right
    have hkl : done.length < h + wd := by
      have h1 : (b.ns.map (·.l)).length = (done ++ b.q).length := by rw [I.ks]
      have := I.len
      rw [hq] at h1
      simp at h1; omega
    obtain ⟨k', rfl⟩ : ∃ k', k = k' + 1 := ⟨k - 1, by omega⟩
    obtain ⟨f', rfl⟩ : ∃ f', f = f' + 1 := ⟨f - 1, by omega⟩
    refine ⟨bst (gapsD g) (costsD (h + wd) c) b, k', rfl, by
      simp [eqF_nil (ds := natD l :: q.map natD) (k := 0) (by rw [← List.map_cons]; exact natD_shp) (by omega)], ?_⟩
    refine Wp.step (by simp [natD]; and_intros <;> rfl) ?_
    have I0 : Mi.Inv g h (h + wd) first (done ++ [l]) { b with q := q } := { nd := I.nd, lt := I.lt, hd := I.hd, snd := I.snd, side := I.side, conn := I.conn, ks := by show List.map _ b.ns = _; rw [I.ks, hq]; simp, par := I.par, bad := I.bad }
    obtain ⟨I1, g1, d1⟩ := Mi.visits_inv hN B (by simp) (Mi.nbs g l) _ (fun e he => Mi.mem_nbs.mp he) I0
    have nb := @neighbors_h K mg X g (costsD (h + wd) c) b l hg
    refine Wp.foldl (l := Mi.nbs g l) (e := nbD) (Mi.visit l) (fun b Γ w => Mi.Inv g h (h + wd) first (done ++ [l]) b ∧ w = bst (gapsD g) (costsD (h + wd) c) b ∧ ∃ x6 x7, Γ = [some (.hd 0), some (.dat T), some (.dat (gapsD g)), some (.dat (.int (first : Nat))), some (.own (.lst (b.q.map natD))), some (.dat (natD l)), x6, x7]) { b with q := q } (by simp [nb]) ⟨I0, rfl, x6, x7, rfl⟩ ?_ ?_
    · rintro e he b2 Γ w ⟨I2, rfl, x6, x7, rfl⟩
      refine ⟨_, rfl, ?_⟩
      refine visit_ok (x6 := none) (x7 := none) hN2 I2 (by simp) fun Γ w ew eΓ => ?_
      exact ⟨(Mi.visit_inv hN B I2 (by simp) (Mi.mem_nbs.mp he)).1, ew, eΓ⟩
    · rintro Γ w ⟨I2, rfl, x6, x7, rfl⟩
      refine ⟨done ++ [l], _, f', _, x6, x7, I1, ?_, rfl, rfl, by simp; omega, ?_, by simp; omega⟩
      · intro k hk o x ha
        rcases List.mem_append.mp hk with hk | hk
        · have := D k hk o x ha
          exact Mi.Done1.grow g1 this
        · simp at hk; subst hk
          exact d1 (o, x) (Mi.mem_nbs.mpr ha)
      · rw [hb]
        show Mi.bfs g (f' + 1) b = _
        conv => lhs; unfold Mi.bfs
        rw [hq]
theorem comp_make {T x : PyData} {g : Mi.Gaps} {c : Nat → Option Int} {h wd first : Nat} (hT : T = .tuple [x, costsD h c, costsD wd fun k => c (h + k)]) (hN2 : h + wd ≤ 18) (B : Mi.Bip h (h + wd) g) (hf : first < h + wd) (hg : g.length ≤ 1000) :
    makeF X.A 3 (gi_Component mg X) [.dat T, .dat (gapsD g), .dat (.int (first : Nat))] = some (cmF X.A (gapsD g) (costsD (h + wd) c) (Mi.comp g first)) := by
  have := init_ok (mg := mg) (X := X) hT hN2 B hf hg
  unfold makeF
  rw [if_pos (by rfl)]
  simp only [datsOf_dat, datsOf_nil, Option.map_some, this]
  rfl
end
end Cl

set_option Elab.async false
set_option linter.all false
set_option maxRecDepth 100000
set_option maxHeartbeats 4000000
namespace Cl
open PySem L2 PySem.Spec PyProof.Rows
theorem cutD_take {xs : List PyData} {k : Nat} : cutD xs none (some (k : Int)) = xs.take k := by
  unfold cutD
  rw [HT.sIx_none, HT.sIx_nat]
  simp [List.take_eq_take_iff]
theorem cutD_drop {xs : List PyData} {k : Nat} : cutD xs (some (k : Int)) none = xs.drop k := by
  unfold cutD
  rw [HT.sIx_none, HT.sIx_nat]
  by_cases h : k ≤ xs.length
  · rw [Nat.min_eq_left h, List.take_of_length_le (by simp)]
  · rw [Nat.min_eq_right (by omega), List.drop_eq_nil_of_le (Nat.le_refl _), List.drop_eq_nil_of_le (by omega)]; simp
theorem cutD_drop1 {xs : List PyData} : cutD xs (some 1) none = xs.drop 1 := cutD_drop (k := 1)
section
variable {C : Cf} {Γ : Ev} {w w1 : C.T} {Q : Fl C.T → Prop}
/-- a for over a list, by the place -/
theorem Wp.forL {α : Type} {it : SI C} {g : SG C} {s : SS C} {l : List α} {e : α → PyData} (P : Nat → Ev → C.T → Prop) (ei : it.ev Γ w = some (.ok (l.map e) w1)) (h0 : P 0 Γ w1)
    (hs : ∀ j x Γ w, l[j]? = some x → P j Γ w → ∃ Γ1, g.asg (e x) Γ = some Γ1 ∧ Wp s Γ1 w (lpQ (P (j + 1)) Q)) (q : ∀ Γ' w', P l.length Γ' w' → Q (.nx Γ' w')) : Wp (.for it g s) Γ w Q := by
  refine Wp.for_ (n := l.length) (e := fun j => match l[j]? with | some x => e x | none => .none) P ?_ h0 ?_ q
  · rw [ei]
    congr 2
    apply List.ext_getElem?
    intro i
    by_cases h : i < l.length
    · rw [rng_get h, List.getElem?_map, List.getElem?_eq_getElem h]; rfl
    · rw [rng_none h, List.getElem?_eq_none (by simp; omega)]
  · intro j Γ w hj hp
    have : l[j]? = some l[j] := List.getElem?_eq_getElem hj
    obtain ⟨Γ1, h1, h2⟩ := hs j l[j] Γ w this hp
    refine ⟨Γ1, ?_, h2⟩
    rw [this]; exact h1
end
section
variable {K : PySem.W.Frag} {mg : Str → Option Value} {X : PC K} {W : World} {w : W.T} {G cD : PyData} {m : Mi.Cm}
theorem insFld {A : Addr} {f : Str} {fs : CSt} : fldF A f (insF A fs) = fldD (fs.map fun p => (.str p.1, p.2.data)) f := by
  show (if _ then _ else _) = _
  exact if_pos rfl
@[simp] theorem cm1 : fldF X.A "gaps" (cmF X.A G cD m) = some G := by rw [cmF, insFld]; rfl
@[simp] theorem cm2 : fldF X.A "costs" (cmF X.A G cD m) = some cD := by rw [cmF, insFld]; rfl
@[simp] theorem cm3 : fldF X.A "offsets" (cmF X.A G cD m) = some (.dict (dicD (m.ns.map offK))) := by rw [cmF, insFld]; rfl
@[simp] theorem cm4 : fldF X.A "signs" (cmF X.A G cD m) = some (.dict (dicD (m.ns.map sgnK))) := by rw [cmF, insFld]; rfl
@[simp] theorem cm5 : fldF X.A "parents" (cmF X.A G cD m) = some (.dict (dicD (m.ns.map parK))) := by rw [cmF, insFld]; rfl
@[simp] theorem cm6 : fldF X.A "cycle" (cmF X.A G cD m) = some (pathD m.cyc) := by rw [cmF, insFld]; rfl
@[simp] theorem cm7 : fldF X.A "lines" (cmF X.A G cD m) = some (.list (m.lines.map natD)) := by rw [cmF, insFld]; rfl
theorem cmM {f : Str} (h : fldD (([("gaps", Fv.dat G), ("costs", .dat cD), ("offsets", .dic (m.ns.map offK)), ("signs", .dic (m.ns.map sgnK)), ("parents", .dic (m.ns.map parK)), ("cycle", .dat (pathD m.cyc)), ("lines", .dat (.list (m.lines.map natD)))] : CSt).map fun p => (.str p.1, p.2.data)) f = none) : methF X.A f (cmF X.A G cD m) = true := by
  show (decide _ && _) = true
  rw [h]; simp
@[simp] theorem cmm1 : methF X.A "locked_lines" (cmF X.A G cD m) = true := cmM rfl
@[simp] theorem cmm2 : methF X.A "zero_point" (cmF X.A G cD m) = true := cmM rfl
@[simp] theorem cmm3 : methF X.A "path_to" (cmF X.A G cD m) = true := cmM rfl
@[simp] theorem cmm4 : methF X.A "contradiction" (cmF X.A G cD m) = true := cmM rfl
@[simp] theorem cmm5 : methF X.A "shift" (cmF X.A G cD m) = true := cmM rfl
@[simp] theorem dgetF_d {kvs : List (Key × PyData)} {i : Int} : dgetF (.dict (dicD kvs)) (.int i) = (valP kvs (.inl i)).map .dat := by
  unfold dgetF
  simp only [lookF_dic, keyOk_i, Option.map_some]
  cases valP kvs (.inl i) <;> rfl
@[simp] theorem dinF_d {neg : Bool} {kvs : List (Key × PyData)} {i : Int} : dinF neg (.int i) (.dict (dicD kvs)) = some (.dat (.bool (if neg then !(valP kvs (.inl i)).isSome else (valP kvs (.inl i)).isSome))) := by
  unfold dinF
  simp
variable (mg X W) in
def gc_path_to : PF W := runF (C := ⟨K, mg, W, E0⟩) n_Component_path_to.length (b_Component_path_to K mg W X.A X.hA X.a5)
variable (mg X W) in
def gc_locked : PF W := runF (C := ⟨K, mg, W, E0⟩) n_Component_locked_lines.length (b_Component_locked_lines K mg W X.A X.hA X.a7 X.a2)
variable (mg X W) in
def gc_zero : PF W := runF (C := ⟨K, mg, W, E0⟩) n_Component_zero_point.length (b_Component_zero_point K mg W X.A X.hA X.a4 X.a3)
variable (mg X W) in
def gc_shift : PF W := runF (C := ⟨K, mg, W, E0⟩) n_Component_shift.length (b_Component_shift K mg W X.A X.hA X.a3 X.a4)
variable (mg X W) in
def gc_contra : PF W := runF (C := ⟨K, mg, W, E0⟩) n_Component_contradiction.length (b_Component_contradiction K mg W X.A X.hA X.a6 (gc_locked mg X W) (gc_zero mg X W) (gc_path_to mg X W))
variable {g : Mi.Gaps} {h N first : Nat}
theorem CmOk_fnd (o : Mi.CmOk g h N first m) {l : Nat} (hl : l ∈ m.lines) : ∃ n, Mi.fnd m.ns l = some n ∧ n.l = l ∧ (n.s = 1 ∨ n.s = -1) ∧ Mi.offA m.ns l = n.o ∧ Mi.sgnA m.ns l = n.s := by
  obtain ⟨n, hn, rfl⟩ := o.mem.mp hl
  have := o.sgn1 hl
  have h3 := o.at_ hn
  rw [h3.2.1] at this
  exact ⟨n, Mi.fnd_of o.nd hn, rfl, this, h3.1, h3.2.1⟩
theorem zero_ok (o : Mi.CmOk g h N first m) {l : Nat} (hl : l ∈ m.lines) : gc_zero mg X W [.dat (cmF X.A G cD m), .dat (.int (l : Nat))] w = some (.ok (.dat (.int (m.zero l))) w) := by
  obtain ⟨n, hf, _, hs, e1, e2⟩ := CmOk_fnd o hl
  have v1 : valP (m.ns.map offK) (.inl (l : Nat)) = some (.int n.o) := by rw [valP_off, hf]; rfl
  have v2 : valP (m.ns.map sgnK) (.inl (l : Nat)) = some (.int n.s) := by rw [valP_sgn, hf]; rfl
  have mc : mulC n.s n.o = true := mulC_l (by rcases hs with e | e <;> rw [e] <;> decide) (by rcases hs with e | e <;> rw [e] <;> decide)
  unfold Mi.Cm.zero
  rw [e1, e2]
  simp [gc_zero, runF, b_Component_zero_point, startE, v1, v2, mc]
theorem shift_ok (o : Mi.CmOk g h N first m) {l : Nat} (hl : l ∈ m.lines) {x : Int} : gc_shift mg X W [.dat (cmF X.A G cD m), .dat (.int (l : Nat)), .dat (.int x)] w = some (.ok (.dat (.int (m.shift l x))) w) := by
  obtain ⟨n, hf, _, hs, e1, e2⟩ := CmOk_fnd o hl
  have v1 : valP (m.ns.map offK) (.inl (l : Nat)) = some (.int n.o) := by rw [valP_off, hf]; rfl
  have v2 : valP (m.ns.map sgnK) (.inl (l : Nat)) = some (.int n.s) := by rw [valP_sgn, hf]; rfl
  have mc : mulC n.s x = true := mulC_l (by rcases hs with e | e <;> rw [e] <;> decide) (by rcases hs with e | e <;> rw [e] <;> decide)
  unfold Mi.Cm.shift
  rw [e1, e2]
  simp [gc_shift, runF, b_Component_shift, startE, v1, v2, mc]
theorem CmOk_len (o : Mi.CmOk g h N first m) : m.lines.length ≤ N := by
  have h1 := Mi.nodup_len o.nd o.lt
  have h2 : m.lines.length = m.ns.length := by rw [o.ls, List.length_mergeSort, List.length_map]
  omega
theorem locked_ok (o : Mi.CmOk g h N first m) (hN : N ≤ 18) {c : Nat → Option Int} : gc_locked mg X W [.dat (cmF X.A G (costsD N c) m)] w = some (.ok (.new (.lst ((m.locked c).map natD))) w) := by
  have hl := CmOk_len o
  unfold gc_locked
  refine Wp.run1 ?_
  unfold b_Component_locked_lines
  have e := lc_map (C := ⟨K, mg, W, E0⟩) (Γ := startE n_Component_locked_lines.length [.dat (cmF X.A G (costsD N c) m)]) (w := w) (it := .seq (.fld X.A "lines" X.hA X.a7 (.var 0))) (g := .name 1) (t := .of (.is (.ix (.fld X.A "costs" X.hA X.a2 (.var 0)) (.var 1)) .non)) (x := .var 1) (vs := [1]) (hg := rfl) (l := m.lines) (e := natD) (fun l => (c l).isNone) natD (by omega) (by simp [startE]) (by
    intro j hj
    have := o.ltN hj
    have e1 : (rng N fun i => optD (c i))[j]? = some (optD (c j)) := rng_get this
    refine ⟨_, rfl, ?_, fun _ => ?_⟩
    · simp [startE, wipeE, natD, e1]
    · simp [startE, wipeE, natD])
  refine Wp.mk (f := .rt _ _) (by simp only [ret_ev, e]; and_intros <;> rfl) ?_
  rfl
theorem path_to_ok (o : Mi.CmOk g h N first m) (hN : N ≤ 18) {l : Nat} (hl : l ∈ m.lines) : gc_path_to mg X W [.dat (cmF X.A G cD m), .dat (.int (l : Nat))] w = some (.ok (.new (.lst ((Mi.pathTo m.ns l).map natD))) w) := by
  obtain ⟨n, hf, _⟩ := CmOk_fnd o hl
  have he : Mi.Ends m.ns 18 (some l) := (Mi.ends_all o.nd o.par (Mi.nodup_len o.nd o.lt) hf).mono hN
  unfold gc_path_to
  refine Wp.run1 ?_
  unfold b_Component_path_to
  refine Wp.step (by simp [startE]; and_intros <;> rfl) ?_
  refine Wp.seq (Wp.while_ (k := 18) (fun k Γ w' => w' = w ∧ ∃ cur acc, Γ = [some (.dat (cmF X.A G cD m)), some (.dat (parD cur)), some (.own (.lst (acc.map natD)))] ∧ acc.length + k ≤ 18 ∧ Mi.Ends m.ns k cur ∧ Mi.upTo m.ns 20 (some l) = acc ++ Mi.upTo m.ns k cur) ⟨rfl, some l, [], rfl, by simp, he, by rw [he.upTo 20 (by omega)]; rfl⟩ (by omega) ?_)
  rintro k Γ w ⟨rfl, cur, acc, rfl, hl, hk, eu⟩
  cases hk with
  | top =>
    left
    refine ⟨_, by simp [parD]; rfl, ?_⟩
    rw [Mi.upTo_none, List.append_nil] at eu
    refine Wp.mk (by simp; rfl) ?_
    simp [Mi.pathTo, eu]
  | @up k l n h1 h2 =>
    right
    refine ⟨_, k, rfl, by simp [parD]; rfl, ?_⟩
    have hv : valP (m.ns.map parK) (.inl (l : Nat)) = some (parD n.p) := by rw [valP_par, h1]; rfl
    have hlen : acc.length < 100000 := by omega
    refine Wp.step (by simp [parD, hlen]; and_intros <;> rfl) ?_
    refine Wp.mk (f := .nx _ _) (by simp [hv]; and_intros <;> rfl) ⟨rfl, n.p, acc ++ [l], ?_, by simp; omega, h2, ?_⟩
    · simp [natD]
    · rw [eu]
      show acc ++ (l :: Mi.upTo m.ns k (Mi.parA m.ns l)) = _
      have : Mi.parA m.ns l = n.p := by unfold Mi.parA; rw [h1]; rfl
      rw [this]; simp
theorem upTo_len (ns : List Mi.Nd) (f : Nat) : ∀ (c : Option Nat), (Mi.upTo ns f c).length ≤ f := by
  induction f with
  | zero => intro c; cases c <;> simp [Mi.upTo]
  | succ f ih => intro c; cases c <;> simp [Mi.upTo, ih]
theorem pathTo_len {ns : List Mi.Nd} {l : Nat} : (Mi.pathTo ns l).length ≤ 20 := by
  unfold Mi.pathTo; rw [List.length_reverse]; exact upTo_len ns 20 _
theorem contra_ok (o : Mi.CmOk g h N first m) (hN : N ≤ 18) {c : Nat → Option Int} : ∃ r, gc_contra mg X W [.dat (cmF X.A G (costsD N c) m)] w = some (.ok r w) ∧ r.dat? = some (pathD (m.contra c)) := by
  refine ⟨match m.cyc with | some p => .dat (pathD (some p)) | none => match m.contra c with | none => .dat .none | some p => .new (.lst (p.map natD)), ?_, ?_⟩
  · unfold gc_contra
    refine Wp.run1 ?_
    unfold b_Component_contradiction
    cases hc : m.cyc with
    | some p =>
      refine Wp.seq (Wp.mk (f := .rt (.dat (pathD (some p))) w) (by simp [startE, hc, pathD]) ?_)
      rfl
    | none =>
      refine Wp.step (by simp [startE, hc, pathD]; and_intros <;> rfl) ?_
      refine Wp.step (by simp [locked_ok o hN]; and_intros <;> rfl) ?_
      have hz := fun {l : Nat} (hl : l ∈ m.locked c) => @zero_ok K mg X W w G (costsD N c) m g h N first o l (Mi.mem_locked.mp hl).1
      have hp := fun {l : Nat} (hl : l ∈ m.locked c) => @path_to_ok K mg X W w G (costsD N c) m g h N first o hN l (Mi.mem_locked.mp hl).1
      have ecn : m.contra c = match m.locked c with
        | [] => none
        | a :: r => (r.find? fun l => m.zero l ≠ m.zero a).map fun l => (Mi.pathTo m.ns a).reverse ++ (Mi.pathTo m.ns l).drop 1 := by
        unfold Mi.Cm.contra
        rw [hc] <;> rfl
      refine Wp.seq (Wp.forL (l := (m.locked c).drop 1) (e := natD) (fun j Γ w' => w' = w ∧ (∃ x, Γ = [some (.dat (cmF X.A G (costsD N c) m)), some (.dat (.list ((m.locked c).map natD))), x]) ∧ ∀ i l a r, i < j → m.locked c = a :: r → r[i]? = some l → m.zero l = m.zero a) ?_ ⟨rfl, ⟨none, rfl⟩, fun i l a r h => by omega⟩ ?_ ?_)
      · simp [cutD_drop1, ← List.map_drop]
      · rintro j l Γ w' hj ⟨rfl, ⟨x, rfl⟩, hb⟩
        refine ⟨_, rfl, ?_⟩
        cases hl : m.locked c with
        | nil => rw [hl] at hj; simp at hj
        | cons a r =>
          rw [hl] at hj hz hp
          have hj : r[j]? = some l := by simpa using hj
          have hlm : l ∈ a :: r := List.mem_cons_of_mem _ (List.mem_of_getElem? hj)
          have z1 := hz hlm
          have z2 := hz (List.mem_cons_self (a := a) (l := r))
          by_cases he : m.zero l = m.zero a
          · refine Wp.mk (f := .nx _ _) (by simp [natD, z1, z2, he]; and_intros <;> rfl) ⟨rfl, ⟨some (.dat (natD l)), by simp [natD]⟩, ?_⟩
            intro i l' a' r' hi e1 e2
            by_cases hij : i = j
            · subst hij
              cases e1
              rw [hj] at e2; cases e2
              exact he
            · exact hb i l' a' r' (by omega) (hl.trans e1) e2
          · have p1 := hp hlm
            have p2 := hp (List.mem_cons_self (a := a) (l := r))
            have l1 : (Mi.pathTo m.ns a).length + ((Mi.pathTo m.ns l).length - 1) ≤ 100000 := by
              have := @pathTo_len m.ns a
              have := @pathTo_len m.ns l
              omega
            refine Wp.mk (f := .rt _ _) (by simp [natD, z1, z2, he, p1, p2, cutD_drop1, l1]; and_intros <;> rfl) ?_
            have ef : r.find? (fun l => m.zero l ≠ m.zero a) = some l := by
              rw [List.find?_eq_some_iff_getElem]
              obtain ⟨hj1, hj2⟩ := List.getElem?_eq_some_iff.mp hj
              refine ⟨by simpa using he, j, hj1, hj2, fun i hi => ?_⟩
              have := hb i r[i] a r hi hl (List.getElem?_eq_getElem (by omega))
              simpa using this
            rw [ecn, hl]
            simp only [ef, Option.map_some]
            show some _ = some _
            simp [natD, List.map_drop]
      · rintro Γ w' ⟨rfl, ⟨x, rfl⟩, hb⟩
        refine Wp.mk (f := .rt _ _) (by simp; and_intros <;> rfl) ?_
        have : m.contra c = none := by
          rw [ecn]
          cases hl : m.locked c with
          | nil => rfl
          | cons a r =>
            simp only [Option.map_eq_none_iff, List.find?_eq_none]
            intro l h1
            obtain ⟨i, hi, rfl⟩ := List.mem_iff_getElem.mp h1
            have := hb i r[i] a r (by rw [hl]; simpa using hi) hl (List.getElem?_eq_getElem hi)
            simpa using this
        rw [this]; rfl
  · cases hc : m.cyc with
    | some p => simp [Mi.Cm.contra, hc]
    | none =>
      simp only
      cases m.contra c <;> rfl
end
end Cl

set_option Elab.async false
set_option linter.all false
set_option maxRecDepth 100000
set_option maxHeartbeats 4000000
namespace Mi
def anyContra (c : Nat → Option Int) (ms : List Cm) : Option (List Nat) := (ms.filterMap fun m => m.contra c).head?
theorem anyContra_none {c : Nat → Option Int} {ms : List Cm} : anyContra c ms = none ↔ Reach c ms := by
  unfold anyContra Reach
  rw [List.head?_eq_none_iff, List.filterMap_eq_nil_iff]
/-- the scan for both ends -/
def scan (total : Int) (s : Option Int × Option Int × Int) (e : Int × Int) : Option Int × Option Int × Int :=
  (if s.1 = none ∧ total ≤ 2 * (s.2.2 + e.2) then some e.1 else s.1, if s.2.1 = none ∧ total < 2 * (s.2.2 + e.2) then some e.1 else s.2.1, s.2.2 + e.2)
theorem scan_some {total : Int} : ∀ (ps : Pts) (a b : Int) (w : Int), ps.foldl (scan total) (some a, some b, w) = (some a, some b, w + wsum ps)
  | [], a, b, w => by simp
  | (p, c) :: r, a, b, w => by
    rw [List.foldl_cons]
    have : scan total (some a, some b, w) (p, c) = (some a, some b, w + c) := by simp [scan]
    rw [this, scan_some r, wsum_cons]; congr 2; omega
theorem scan_low {total : Int} : ∀ (ps : Pts) (a : Int) (w : Int), ps.foldl (scan total) (some a, none, w) = (some a, highS total w ps, w + wsum ps)
  | [], a, w => by simp [highS]
  | (p, c) :: r, a, w => by
    rw [List.foldl_cons]
    unfold highS
    by_cases h : total < 2 * (w + c)
    · have : scan total (some a, none, w) (p, c) = (some a, some p, w + c) := by simp [scan, h]
      rw [this, scan_some, wsum_cons, if_pos h]; congr 2; omega
    · have : scan total (some a, none, w) (p, c) = (some a, none, w + c) := by simp [scan, h]
      rw [this, scan_low r, wsum_cons, if_neg h]; congr 2; omega
theorem scan_none {total : Int} : ∀ (ps : Pts) (w : Int), ps.foldl (scan total) (none, none, w) = (lowS total w ps, highS total w ps, w + wsum ps)
  | [], w => by simp [highS, lowS]
  | (p, c) :: r, w => by
    rw [List.foldl_cons]
    unfold highS lowS
    by_cases h : total < 2 * (w + c)
    · have h2 : total ≤ 2 * (w + c) := by omega
      have : scan total (none, none, w) (p, c) = (some p, some p, w + c) := by simp [scan, h, h2]
      rw [this, scan_some, wsum_cons, if_pos h, if_pos (by omega)]; congr 2; omega
    · by_cases h2 : total ≤ 2 * (w + c)
      · have : scan total (none, none, w) (p, c) = (some p, none, w + c) := by simp [scan, h, h2]
        rw [this, scan_low, wsum_cons, if_neg h, if_pos (by omega)]; congr 2; omega
      · have : scan total (none, none, w) (p, c) = (none, none, w + c) := by simp [scan, h, h2]
        rw [this, scan_none r, wsum_cons, if_neg h, if_neg (by omega)]; congr 2; omega
end Mi
namespace Cl
open PySem L2 PySem.Spec PyProof.Rows
theorem valP_map {kvs : List (Key × PyData)} {k k' : Key} {v : PyData} : (valP (kvs.map fun kv => if kv.1 = k then (kv.1, v) else kv) k').isSome = (valP kvs k').isSome := by
  induction kvs with
  | nil => rfl
  | cons a r ih =>
    obtain ⟨a, d⟩ := a
    rw [List.map_cons]
    by_cases h : a = k
    · simp only [h, if_true]
      unfold valP
      by_cases h2 : k = k'
      · rw [if_pos h2, if_pos h2]; rfl
      · rw [if_neg h2, if_neg h2]; exact ih
    · simp only [h, if_false]
      unfold valP
      by_cases h2 : a = k'
      · rw [if_pos h2, if_pos h2]
      · rw [if_neg h2, if_neg h2]; exact ih
theorem valP_snoc {kvs : List (Key × PyData)} {k k' : Key} {v : PyData} : (valP (kvs ++ [(k, v)]) k').isSome = ((valP kvs k').isSome || decide (k = k')) := by
  induction kvs with
  | nil =>
    show (if k = k' then some v else none).isSome = _
    by_cases h : k = k' <;> simp [h, valP]
  | cons a r ih =>
    obtain ⟨a, d⟩ := a
    rw [List.cons_append]
    unfold valP
    by_cases h2 : a = k'
    · rw [if_pos h2, if_pos h2]; rfl
    · rw [if_neg h2, if_neg h2]; exact ih
theorem valP_putP {kvs : List (Key × PyData)} {k k' : Key} {v : PyData} : (valP (putP kvs k v) k').isSome = ((valP kvs k').isSome || decide (k = k')) := by
  unfold putP
  split
  · rename_i h
    rw [valP_map]
    by_cases e : k = k'
    · subst e
      have : (valP kvs k).isSome = true := by
        obtain ⟨kv, h1, h2⟩ := List.any_eq_true.mp h
        have h2 := of_decide_eq_true h2
        clear h
        induction kvs with
        | nil => cases h1
        | cons a r ih =>
          obtain ⟨a, d⟩ := a
          unfold valP
          by_cases h3 : a = k
          · rw [if_pos h3]; rfl
          · rw [if_neg h3]
            rcases List.mem_cons.mp h1 with e | h1
            · rw [e] at h2; exact absurd h2 h3
            · exact ih h1
      simp [this]
    · simp [e]
  · exact valP_snoc
theorem putP_len {kvs : List (Key × PyData)} {k : Key} {v : PyData} : (putP kvs k v).length ≤ kvs.length + 1 := by
  unfold putP; split <;> simp
theorem puts_len : ∀ {m kvs : List (Key × PyData)}, (m.foldl (fun acc kv => putP acc kv.1 kv.2) kvs).length ≤ kvs.length + m.length
  | [], _ => by simp
  | a :: r, kvs => by
    have h1 := @puts_len r (putP kvs a.1 a.2)
    have h2 := @putP_len kvs a.1 a.2
    rw [List.foldl_cons, List.length_cons]; omega
theorem puts_val {k' : Key} : ∀ {m kvs : List (Key × PyData)}, (valP (m.foldl (fun acc kv => putP acc kv.1 kv.2) kvs) k').isSome = ((valP kvs k').isSome || m.any fun kv => decide (kv.1 = k'))
  | [], _ => by simp
  | a :: r, kvs => by
    rw [List.foldl_cons, puts_val, valP_putP, List.any_cons, Bool.or_assoc]
theorem ints_map {α : Type} {f : α → Int} {l : List α} : ints? (l.map fun a => .int (f a)) = some (l.map f) := by
  have := ints?_map (l.map f)
  rw [List.map_map] at this; exact this
theorem pairs_map : ∀ {l : List (Int × Int)}, pairs? (l.map pairD) = some l
  | [] => rfl
  | a :: r => by rw [List.map_cons, pairD, pairs?, pairs_map]; rfl
theorem sort_pts {l : List (Int × Int)} : sortB leP l = l.mergeSort Mi.leP2 := by
  symm
  apply sortB_eq totP
  · exact List.mergeSort_perm _ _
  · refine (List.pairwise_mergeSort Mi.leP2_tr Mi.leP2_tot l).imp fun {a b} h => ?_
    rw [leP_iff]; simp [Mi.leP2] at h; omega
section
variable {K : PySem.W.Frag} {mg : Str → Option Value} {X : PC K} {W : World} {w : W.T}
variable (mg X W) in
def gc_all : PF W := runF (C := ⟨K, mg, W, E0⟩) n_all_components.length (b_all_components K mg W X.A X.hA X.a3 (gc_cell_gaps K mg W) (gc_line_costs K mg W) (gi_Component mg X))
variable (mg X W) in
def gc_any : PF W := runF (C := ⟨K, mg, W, E0⟩) n_any_contradiction.length (b_any_contradiction K mg W X.A (gc_all mg X W) (gc_contra mg X W))
variable (mg X W) in
def gc_range : PF W := runF (C := ⟨K, mg, W, E0⟩) n_optimal_range.length (b_optimal_range K mg W X.A X.hA X.a7 (gc_zero mg X W))
theorem gaps_len {h wd : Nat} {d : Nat → Nat → Option Int} (S : SzOk h wd) : (Mi.gapsL h wd d).length ≤ 1000 := by
  obtain ⟨h1, h2, w1, w2⟩ := S
  rw [← Mi.gapsR_all]
  have := @Mi.gapsR_len h wd d h 0
  have : h * wd ≤ 7 * 7 := Nat.mul_le_mul h2 w2
  omega
/-- all components, as data -/
def cmsD (A : Addr) (h wd : Nat) (d : Nat → Nat → Option Int) (c : Nat → Option Int) : List PyData := (Mi.allC (Mi.gapsL h wd d) (h + wd)).map (cmF A (gapsD (Mi.gapsL h wd d)) (costsD (h + wd) c))
theorem allComps_ok {h wd : Nat} {t : Nat → Nat → Int} {c : Nat → Option Int} {g : Nat → Nat → Option Int} (S : SzOk h wd) : gc_all mg X W [.dat (tabD h wd t c), .dat (goalD h wd g)] w = some (.ok (.new (.lst (cmsD X.A h wd (gapF t g) c))) w) := by
  have cg := @cellGaps K mg W w h wd t (costsD h c) (costsD wd fun k => c (h + k)) g S
  have lc := @lineCosts K mg W w h wd (cellsD h wd t) c (by have := S.h2; have := S.w2; omega)
  have hN2 : h + wd ≤ 18 := by have := S.h2; have := S.w2; omega
  have B := Mi.bip_gapsL h wd (gapF t g)
  have gl := gaps_len (d := gapF t g) S
  unfold gc_all
  refine Wp.run1 ?_
  unfold b_all_components
  refine Wp.step (by simp [startE, cg, lockR]; and_intros <;> rfl) ?_
  unfold cmsD
  generalize hG : Mi.gapsL h wd (gapF t g) = G at B gl
  have mk := fun {l : Nat} (hl : l < h + wd) => @comp_make K mg X (tabD h wd t c) (cellsD h wd t) G c h wd l rfl hN2 B hl gl
  refine Wp.seq (Wp.for_ (n := h + wd) (e := fun j => .int (j : Nat)) (fun j Γ w' => w' = w ∧ ∃ kvs x5 x6, Γ = [some (.dat (tabD h wd t c)), some (.dat (goalD h wd g)), some (.dat (gapsD G)), some (.own (.dic kvs)), some (.own (.lst (((List.range j).foldl (Mi.addC G) []).map (cmF X.A (gapsD G) (costsD (h + wd) c))))), x5, x6] ∧ kvs.length ≤ 18 * j ∧ ((List.range j).foldl (Mi.addC G) []).length ≤ j ∧ ∀ l : Nat, (valP kvs (.inl (l : Nat))).isSome = Mi.has ((List.range j).foldl (Mi.addC G) []) l)
    ?_ ⟨rfl, [], none, none, rfl, by simp, by simp, fun l => rfl⟩ ?_ ?_)
  · have hj : (h + wd : Int) ≤ 100000 := by omega
    have hj2 : (-100000 : Int) ≤ h + wd := by omega
    simp [lc, ranD_rng, hj, hj2]
    rw [show ((h : Int) + (wd : Int)).toNat = h + wd by omega]
  · rintro j Γ w' hj ⟨rfl, kvs, x5, x6, rfl, hk, hml, hs⟩
    refine ⟨_, rfl, ?_⟩
    have hsj := hs j
    generalize hms : (List.range j).foldl (Mi.addC G) [] = ms at *
    have ej : (List.range (j + 1)).foldl (Mi.addC G) [] = Mi.addC G ms j := by rw [List.range_succ, List.foldl_append, hms]; rfl
    rw [ej]
    cases hh : Mi.has ms j with
    | true =>
      have e2 : Mi.addC G ms j = ms := by unfold Mi.addC; rw [if_pos hh]
      rw [e2]
      rw [hh] at hsj
      obtain ⟨v, hv⟩ := Option.isSome_iff_exists.mp hsj
      exact Wp.mk (f := .nx _ _) (by simp [hv]; and_intros <;> rfl) ⟨rfl, kvs, some (.dat (.int (j : Nat))), x6, by simp, by omega, by omega, hs⟩
    | false =>
      have e2 : Mi.addC G ms j = ms ++ [Mi.comp G j] := by unfold Mi.addC; rw [if_neg (by simp [hh])]
      rw [e2]
      rw [hh] at hsj
      have hv : valP kvs (.inl (j : Nat)) = none := by simpa using hsj
      have o := Mi.comp_ok (by omega : h ≤ h + wd) hN2 B hj
      have hl2 : ((Mi.comp G j).ns.map offK).length ≤ 18 := by rw [List.length_map]; have := Mi.nodup_len o.nd o.lt; omega
      have hl3 : kvs.length + (Mi.comp G j).ns.length ≤ 100000 := by rw [List.length_map] at hl2; omega
      have hl4 : ms.length < 100000 := by omega
      refine Wp.ite (b := true) (by simp [hv]; rfl) ?_
      rw [if_pos rfl]
      refine Wp.step (by simp [mk hj]; and_intros <;> rfl) ?_
      refine Wp.step (by simp [hl3]; and_intros <;> rfl) ?_
      refine Wp.mk (f := .nx _ _) (by simp [hl4]; and_intros <;> rfl) ⟨rfl, _, some (.dat (.int (j : Nat))), some (.dat (cmF X.A (gapsD G) (costsD (h + wd) c) (Mi.comp G j))), by simp; rfl, ?_, ?_, ?_⟩
      · have := @puts_len ((Mi.comp G j).ns.map offK) kvs
        omega
      · simp; omega
      · intro l
        rw [puts_val, hs l]
        unfold Mi.has
        rw [List.any_append]
        congr 1
        have : (Mi.comp G j).lines.contains l = ((Mi.comp G j).ns.map offK).any fun kv => decide (kv.1 = (.inl (l : Nat) : Key)) := by
          rw [Bool.eq_iff_iff, List.any_map, List.any_eq_true, List.contains_iff_mem, o.mem]
          constructor
          · rintro ⟨n, h1, rfl⟩; exact ⟨n, h1, by simp [offK]⟩
          · rintro ⟨n, h1, h2⟩
            simp [offK] at h2
            exact ⟨n, h1, by omega⟩
        simp only [List.any_cons, List.any_nil, Bool.or_false]
        exact this.symm
  · rintro Γ w' ⟨rfl, kvs, x5, x6, rfl, hk, hml, hs⟩
    exact Wp.mk (f := .rt _ _) (by simp; and_intros <;> rfl) rfl
theorem anyC_ok {h wd : Nat} {t : Nat → Nat → Int} {c : Nat → Option Int} {g : Nat → Nat → Option Int} (S : SzOk h wd) : ∃ r, gc_any mg X W [.dat (tabD h wd t c), .dat (goalD h wd g)] w = some (.ok r w) ∧ r = .dat (pathD (Mi.anyContra c (Mi.allC (Mi.gapsL h wd (gapF t g)) (h + wd)))) := by
  refine ⟨_, ?_, rfl⟩
  have ac := @allComps_ok K mg X W w h wd t c g S
  have hN2 : h + wd ≤ 18 := by have := S.h2; have := S.w2; omega
  have A := Mi.allC_ok (by omega : h ≤ h + wd) hN2 (Mi.bip_gapsL h wd (gapF t g))
  have hml : (Mi.allC (Mi.gapsL h wd (gapF t g)) (h + wd)).length ≤ 100000 := by
    have key : ∀ k, ((List.range k).foldl (Mi.addC (Mi.gapsL h wd (gapF t g))) []).length ≤ k := by
      intro k
      induction k with
      | zero => simp
      | succ k ih =>
        rw [List.range_succ, List.foldl_append]
        rw [List.foldl_cons, List.foldl_nil]
        generalize (List.range k).foldl (Mi.addC (Mi.gapsL h wd (gapF t g))) [] = L at ih
        unfold Mi.addC
        split
        · omega
        · simp; omega
    have := key (h + wd)
    show (Mi.allC _ _).length ≤ _
    unfold Mi.allC; omega
  unfold gc_any
  refine Wp.run1 ?_
  unfold b_any_contradiction
  unfold cmsD at ac
  generalize hG : Mi.gapsL h wd (gapF t g) = G at ac A hml
  generalize hM : Mi.allC G (h + wd) = ms at ac A hml
  have e1 := lc_mapA (C := ⟨K, mg, W, E0⟩) (Γ := startE n_any_contradiction.length [.dat (tabD h wd t c), .dat (goalD h wd g)]) (w := w) (it := .seq (.call 2 (gc_all mg X W) (.cons (.var 0) (.cons (.var 1) .nil)))) (g := .name 4) (x := .meth X.A "contradiction" 0 (gc_contra mg X W) (.var 4) .nil) (vs := [4]) (hg := rfl) (l := ms) (e := cmF X.A (gapsD G) (costsD (h + wd) c)) (fun m => pathD (m.contra c)) hml (by simp [startE, ac]) (by
    intro m hm
    obtain ⟨r, h1, h2⟩ := @contra_ok K mg X W w (gapsD G) m G h (h + wd) m.first (A.ok m hm) hN2 c
    refine ⟨_, rfl, ?_⟩
    simp [startE, wipeE, h1, h2])
  refine Wp.step (by simp only [asgD_ev, evD_S, e1]; simp [startE]; and_intros <;> rfl) ?_
  have e2 := lc_map (C := ⟨K, mg, W, E0⟩) (Γ := [some (.dat (tabD h wd t c)), some (.dat (goalD h wd g)), some (.dat (.list (ms.map fun m => pathD (m.contra c)))), none, none, none]) (w := w) (it := .seq (.var 2)) (g := .name 5) (t := .of (.isn (.var 5) .non)) (x := .var 5) (vs := [5]) (hg := rfl) (l := ms) (e := fun m => pathD (m.contra c)) (fun m => (m.contra c).isSome) (fun m => pathD (m.contra c)) hml (by simp) (by
    intro m hm
    refine ⟨_, rfl, ?_, fun _ => ?_⟩
    · cases m.contra c <;> simp [wipeE, pathD]
    · simp [wipeE])
  refine Wp.step (by simp only [asgD_ev, evD_S]; erw [e2]; simp; and_intros <;> rfl) ?_
  have hsh : ∀ d ∈ (ms.filter fun m => (m.contra c).isSome).map (fun m => pathD (m.contra c)), Shp 1 d := by
    intro d hd
    obtain ⟨m, _, rfl⟩ := List.mem_map.mp hd
    cases m.contra c with
    | none => exact .non
    | some p => exact .lst natD_shp
  have hne := eqF_nil (neg := true) hsh (by omega)
  have ha : Mi.anyContra c ms = ((ms.filter fun m => (m.contra c).isSome).head?).bind fun m => m.contra c := by
    unfold Mi.anyContra
    clear hsh hne e2 e1 hml A hM ac
    induction ms with
    | nil => rfl
    | cons a r ih =>
      rw [List.filterMap_cons]
      cases hc : a.contra c with
      | none => simp only; rw [List.filter_cons_of_neg (by simp [hc]), ih]
      | some p => rw [List.filter_cons_of_pos (by simp [hc])]; simp [hc]
  rw [ha]
  cases hf : ms.filter fun m => (m.contra c).isSome with
  | nil =>
    rw [hf] at hne
    exact Wp.mk (f := .rt _ _) (by simp [hne, hf]; try (and_intros <;> rfl)) rfl
  | cons a r =>
    rw [hf] at hne
    refine Wp.mk (f := .rt _ _) (by simp at hne; simp [hne, hf]; try (and_intros <;> rfl)) rfl
end
end Cl

set_option Elab.async false
set_option linter.all false
set_option maxRecDepth 100000
set_option maxHeartbeats 4000000
namespace Cl
open PySem L2 PySem.Spec PyProof.Rows
section
variable {K : PySem.W.Frag} {mg : Str → Option Value} {X : PC K} {W : World} {w : W.T} {G : PyData} {m : Mi.Cm} {g : Mi.Gaps} {h N first : Nat} {c : Nat → Option Int}
theorem range_ok (o : Mi.CmOk g h N first m) (hN : N ≤ 18) (hc : Mi.CostOk c) : gc_range mg X W [.dat (cmF X.A G (costsD N c) m), .dat (costsD N c)] w = some (.ok (.dat (.tuple [.int (m.range c).1, .int (m.range c).2])) w) := by
  have hl := CmOk_len o
  have cost1 := fun {l : Nat} (hl : l ∈ m.lines) => (rng_get (f := fun i => optD (c i)) (o.ltN hl) : (rng N fun i => optD (c i))[l]? = some (optD (c l)))
  unfold gc_range
  refine Wp.run1 ?_
  unfold b_optimal_range
  have e1 := lc_map (C := ⟨K, mg, W, E0⟩) (Γ := startE n_optimal_range.length [.dat (cmF X.A G (costsD N c) m), .dat (costsD N c)]) (w := w) (it := .seq (.fld X.A "lines" X.hA X.a7 (.var 0))) (g := .name 10) (t := .of (.is (.ix (.var 1) (.var 10)) .non)) (x := .var 10) (vs := [10]) (hg := rfl) (l := m.lines) (e := natD) (fun l => (c l).isNone) natD (by omega) (by simp [startE]) (by
    intro j hj
    refine ⟨_, rfl, ?_, fun _ => ?_⟩
    · simp [startE, wipeE, natD, cost1 hj]
    · simp [startE, wipeE, natD])
  refine Wp.step (by simp only [asgD_ev, evD_S, e1]; simp [startE]; and_intros <;> rfl) ?_
  have hne := eqF_nil (neg := true) (ds := (m.locked c).map natD) (k := 0) natD_shp (by omega)
  unfold Mi.Cm.locked at hne
  cases hk : m.locked c with
  | cons a r =>
    have hz := @zero_ok K mg X W w G (costsD N c) m g h N first o a (Mi.mem_locked.mp (by rw [hk]; exact List.mem_cons_self ..)).1
    have hk' := hk
    unfold Mi.Cm.locked at hk'
    rw [hk'] at hne
    have hr : m.range c = (m.zero a, m.zero a) := by unfold Mi.Cm.range; rw [hk]
    refine Wp.seq (Wp.mk (f := .rt (.dat (.tuple [.int (m.zero a), .int (m.zero a)])) w) (by
      simp at hne
      simp [hk', hne]
      simp [natD, hz]) ?_)
    rw [hr]; rfl
  | nil =>
    have hk' := hk
    unfold Mi.Cm.locked at hk'
    rw [hk'] at hne
    have hcost : ∀ l ∈ m.lines, ∃ k, c l = some k ∧ 1 ≤ k := fun l hl => by
      cases e : c l with
      | none =>
        have := Mi.mem_locked.mpr ⟨hl, e⟩
        rw [hk] at this; cases this
      | some k => exact ⟨k, rfl, hc l k e⟩
    have hcd : ∀ l ∈ m.lines, optD (c l) = .int ((c l).getD 0) := fun l hl => by
      obtain ⟨k, e, _⟩ := hcost l hl; rw [e]; rfl
    refine Wp.step (by simp at hne; simp [hk', hne]; and_intros <;> rfl) ?_
    have hpm := List.mergeSort_perm (m.pts c) Mi.leP2
    have e2 := lc_mapA (C := ⟨K, mg, W, E0⟩) (Γ := [some (.dat (cmF X.A G (costsD N c) m)), some (.dat (costsD N c)), some (.dat (.list [])), none, none, none, none, none, none, none, none]) (w := w) (it := .seq (.fld X.A "lines" X.hA X.a7 (.var 0))) (g := .name 10) (x := .tup (.cons (.meth X.A "zero_point" 1 (gc_zero mg X W) (.var 0) (.cons (.var 10) .nil)) (.cons (.ix (.var 1) (.var 10)) .nil))) (vs := [10]) (hg := rfl) (l := m.lines) (e := natD) (fun l => pairD (m.zero l, (c l).getD 0)) (by omega) (by simp) (by
      intro j hj
      refine ⟨_, rfl, ?_⟩
      simp [wipeE, natD, cost1 hj, @zero_ok K mg X W w G (costsD N c) m g h N first o j hj, pairD, hcd j hj])
    have hpe : (m.lines.map fun l => pairD (m.zero l, (c l).getD 0)) = (m.pts c).map pairD := by unfold Mi.Cm.pts; rw [List.map_map]; rfl
    have hL : m.lines ≠ [] := fun z => by have := o.first_mem; rw [z] at this; cases this
    have hni : ints? ((m.pts c).map pairD) = none := by
      unfold Mi.Cm.pts
      cases hm : m.lines with
      | nil => exact absurd hm hL
      | cons a r => rfl
    have hs : sortedF (.list (m.lines.map fun l => pairD (m.zero l, (c l).getD 0))) = some (.new (.lst (((m.pts c).mergeSort Mi.leP2).map pairD))) := by
      rw [hpe]
      unfold sortedF
      simp only [hni, pairs_map, Option.map_some, sort_pts]
    refine Wp.step (Γ' := [some (.dat (cmF X.A G (costsD N c) m)), some (.dat (costsD N c)), some (.dat (.list [])), some (.dat (.list (((m.pts c).mergeSort Mi.leP2).map pairD))), none, none, none, none, none, none, none]) (w' := w) (by
      simp only [asgD_ev, evD_S, cb1_ev, evV_S, List.set]
      erw [e2]
      simp [hs]) ?_
    have hsp : Mi.wsum (m.pts c) = Mi.wsum ((m.pts c).mergeSort Mi.leP2) := (Mi.wsum_perm hpm).symm
    have hplen : ((m.pts c).mergeSort Mi.leP2).length ≤ 18 := by rw [List.length_mergeSort]; unfold Mi.Cm.pts; rw [List.length_map]; omega
    have h0 : ∀ e ∈ (m.pts c).mergeSort Mi.leP2, 0 ≤ e.2 := by
      intro e he
      have he := hpm.mem_iff.mp he
      unfold Mi.Cm.pts at he
      obtain ⟨l, h1, rfl⟩ := List.mem_map.mp he
      obtain ⟨k, e2, _⟩ := hcost l h1
      simp only [e2, Option.getD_some]; omega
    have hpos : 0 < Mi.wsum ((m.pts c).mergeSort Mi.leP2) := by
      rw [← hsp]
      unfold Mi.Cm.pts
      cases hm : m.lines with
      | nil => exact absurd hm hL
      | cons l r =>
        rw [List.map_cons, Mi.wsum_cons]
        obtain ⟨k, e2, hk1⟩ := hcost l (by rw [hm]; exact List.mem_cons_self ..)
        have := Mi.wsum_nonneg (ps := r.map fun l => (m.zero l, (c l).getD 0)) fun e he => by
          obtain ⟨l', h1, rfl⟩ := List.mem_map.mp he
          obtain ⟨k, e2, _⟩ := hcost l' (by rw [hm]; exact List.mem_cons_of_mem _ h1)
          simp only [e2, Option.getD_some]; omega
        simp only [e2, Option.getD_some]; omega
    obtain ⟨lo, hi, q1, q2, _⟩ := Mi.median h0 (Mi.pts_sorted _) hpos
    have hr : m.range c = (lo, hi) := by
      unfold Mi.Cm.range; rw [hk]
      simp only [q1, q2, Option.getD_some]
    rw [hr]
    generalize hps : (m.pts c).mergeSort Mi.leP2 = ps at *
    have e3 := lc_mapA (C := ⟨K, mg, W, E0⟩) (Γ := [some (.dat (cmF X.A G (costsD N c) m)), some (.dat (costsD N c)), some (.dat (.list [])), some (.dat (.list (ps.map pairD))), none, none, none, none, none, none, none]) (w := w) (it := .seq (.var 3)) (g := .tup 2 (.cons (.name 4) (.cons (.name 5) .nil))) (x := .var 5) (vs := [4, 5]) (hg := rfl) (l := ps) (e := pairD) (fun e => .int e.2) (by omega) (by simp) (by
      intro j hj
      exact ⟨_, rfl, by simp [wipeE]⟩)
    refine Wp.step (Γ' := [some (.dat (cmF X.A G (costsD N c) m)), some (.dat (costsD N c)), some (.dat (.list [])), some (.dat (.list (ps.map pairD))), none, none, some (.dat (.int (Mi.wsum ps))), none, none, none, none]) (w' := w) (by
      simp only [asgD_ev, evD_S, cb1_ev, evV_S]
      erw [e3]
      simp [ints_map, Mi.wsum]) ?_
    refine Wp.step (by simp; and_intros <;> rfl) ?_
    refine Wp.seq (Wp.foldl (l := ps) (e := pairD) (Mi.scan (Mi.wsum ps)) (fun s Γ w' => w' = w ∧ ∃ x4 x5, Γ = [some (.dat (cmF X.A G (costsD N c) m)), some (.dat (costsD N c)), some (.dat (.list [])), some (.dat (.list (ps.map pairD))), x4, x5, some (.dat (.int (Mi.wsum ps))), some (.dat (optD s.1)), some (.dat (optD s.2.1)), some (.dat (.int s.2.2)), none]) (none, none, 0) (by simp) ⟨rfl, none, none, rfl⟩ ?_ ?_)
    · rintro ⟨p, k⟩ he ⟨a, b, x⟩ Γ w' ⟨rfl, x4, x5, rfl⟩
      refine ⟨_, rfl, ?_⟩
      have hm2 : ∀ z : Int, mulC 2 z = true := fun z => mulC_l (by decide) (by decide)
      refine Wp.step (by simp; and_intros <;> rfl) ?_
      by_cases c1 : a = none ∧ Mi.wsum ps ≤ 2 * (x + k)
      · refine Wp.step (Γ' := [some (.dat (cmF X.A G (costsD N c) m)), some (.dat (costsD N c)), some (.dat (.list [])), some (.dat (.list (ps.map pairD))), some (.dat (.int p)), some (.dat (.int k)), some (.dat (.int (Mi.wsum ps))), some (.dat (.int p)), some (.dat (optD b)), some (.dat (.int (x + k))), none]) (w' := w') (by simp [c1.1, c1.2, hm2]) ?_
        by_cases c2 : b = none ∧ Mi.wsum ps < 2 * (x + k)
        · exact Wp.mk (f := .nx _ _) (by simp [c2.1, c2.2, hm2]; and_intros <;> rfl) ⟨rfl, _, _, by simp only [Mi.scan, if_pos c1, if_pos c2]; rfl⟩
        · refine Wp.mk (f := .nx [some (.dat (cmF X.A G (costsD N c) m)), some (.dat (costsD N c)), some (.dat (.list [])), some (.dat (.list (ps.map pairD))), some (.dat (.int p)), some (.dat (.int k)), some (.dat (.int (Mi.wsum ps))), some (.dat (.int p)), some (.dat (optD b)), some (.dat (.int (x + k))), none] w') ?_ ⟨rfl, _, _, by simp only [Mi.scan, if_pos c1, if_neg c2]; rfl⟩
          cases b with
          | some b => simp
          | none =>
            have : ¬ Mi.wsum ps < 2 * (x + k) := fun z => c2 ⟨rfl, z⟩
            simp [hm2, this]
      · refine Wp.step (Γ' := [some (.dat (cmF X.A G (costsD N c) m)), some (.dat (costsD N c)), some (.dat (.list [])), some (.dat (.list (ps.map pairD))), some (.dat (.int p)), some (.dat (.int k)), some (.dat (.int (Mi.wsum ps))), some (.dat (optD a)), some (.dat (optD b)), some (.dat (.int (x + k))), none]) (w' := w') (by
          cases a with
          | some a => simp
          | none =>
            have : ¬ Mi.wsum ps ≤ 2 * (x + k) := fun z => c1 ⟨rfl, z⟩
            simp [hm2, this]) ?_
        by_cases c2 : b = none ∧ Mi.wsum ps < 2 * (x + k)
        · exact Wp.mk (f := .nx _ _) (by simp [c2.1, c2.2, hm2]; and_intros <;> rfl) ⟨rfl, _, _, by simp only [Mi.scan, if_neg c1, if_pos c2]; rfl⟩
        · refine Wp.mk (f := .nx [some (.dat (cmF X.A G (costsD N c) m)), some (.dat (costsD N c)), some (.dat (.list [])), some (.dat (.list (ps.map pairD))), some (.dat (.int p)), some (.dat (.int k)), some (.dat (.int (Mi.wsum ps))), some (.dat (optD a)), some (.dat (optD b)), some (.dat (.int (x + k))), none] w') ?_ ⟨rfl, _, _, by simp only [Mi.scan, if_neg c1, if_neg c2]; rfl⟩
          cases b with
          | some b => simp
          | none =>
            have : ¬ Mi.wsum ps < 2 * (x + k) := fun z => c2 ⟨rfl, z⟩
            simp [hm2, this]
    · rintro Γ w' ⟨rfl, x4, x5, rfl⟩
      rw [Mi.scan_none, q1, q2]
      refine Wp.step (by simp; try (and_intros <;> rfl)) ?_
      refine Wp.step (by simp; try (and_intros <;> rfl)) ?_
      exact Wp.mk (f := .rt _ _) (by simp; try (and_intros <;> rfl)) rfl
end
end Cl

set_option Elab.async false
set_option linter.all false
set_option maxRecDepth 100000
set_option maxHeartbeats 4000000
namespace Cl
open PySem L2 PySem.Spec PyProof.Rows
theorem COk.pos {c : Nat → Option Int} (h : COk c) : Mi.CostOk c := fun l k e => (h l k e).1
@[simp] theorem ixN_nat {n l : Nat} (h : l < n) : ixN n (l : Int) = some l := by
  unfold ixN
  rw [if_pos (by omega), if_pos (by omega)]; rfl
theorem allC_len {G : Mi.Gaps} {N : Nat} : (Mi.allC G N).length ≤ N := by
  unfold Mi.allC
  have key : ∀ k, ((List.range k).foldl (Mi.addC G) []).length ≤ k := by
    intro k
    induction k with
    | zero => simp
    | succ k ih =>
      rw [List.range_succ, List.foldl_append, List.foldl_cons, List.foldl_nil]
      generalize (List.range k).foldl (Mi.addC G) [] = L at ih
      unfold Mi.addC
      split
      · omega
      · simp; omega
  exact key N
def boolsA (l : List Mi.Cm) (f : Mi.Cm → Bool) : bools? (l.map fun m => .bool (f m)) = some (l.map f) := by
  have := bools?_map (l.map f)
  rw [List.map_map] at this; exact this
section
variable {K : PySem.W.Frag} {mg : Str → Option Value} {X : PC K} {W : World} {w : W.T}
/-- a solution, as data -/
def solF (X : PC K) (h wd : Nat) (d : Nat → Nat → Option Int) (c : Nat → Option Int) : PyData := insF X.S [("costs", .dat (costsD (h + wd) c)), ("parts", .dat (.list (cmsD X.A h wd d c))), ("is_reachable", .dat (.bool (Mi.reachB c (Mi.allC (Mi.gapsL h wd d) (h + wd))))), ("first_shifts", .dat (.list ((Mi.allC (Mi.gapsL h wd d) (h + wd)).map fun m => .int (m.range c).1)))]
variable {h wd : Nat} {t : Nat → Nat → Int} {c : Nat → Option Int} {g d : Nat → Nat → Option Int}
@[simp] theorem so1 : fldF X.S "costs" (solF X h wd d c) = some (costsD (h + wd) c) := by rw [solF, insFld]; rfl
@[simp] theorem so2 : fldF X.S "parts" (solF X h wd d c) = some (.list (cmsD X.A h wd d c)) := by rw [solF, insFld]; rfl
@[simp] theorem so3 : fldF X.S "is_reachable" (solF X h wd d c) = some (.bool (Mi.reachB c (Mi.allC (Mi.gapsL h wd d) (h + wd)))) := by rw [solF, insFld]; rfl
@[simp] theorem so4 : fldF X.S "first_shifts" (solF X h wd d c) = some (.list ((Mi.allC (Mi.gapsL h wd d) (h + wd)).map fun m => .int (m.range c).1)) := by rw [solF, insFld]; rfl
theorem insM {A : Addr} {f : Str} {fs : CSt} (h : fldD (fs.map fun p => (.str p.1, p.2.data)) f = none) : methF A f (insF A fs) = true := by
  show (decide _ && _) = true
  rw [h]; simp
@[simp] theorem som1 : methF X.S "line_shifts" (solF X h wd d c) = true := insM rfl
@[simp] theorem som2 : methF X.S "cost" (solF X h wd d c) = true := insM rfl
variable (mg X) in
def gi_Solution : PF (Wc X.S) := runF (C := ⟨K, mg, Wc X.S, E0⟩) n_Solution___init__.length (b_Solution___init__ K mg X.S X.A X.hS X.s1 X.s2 X.s3 X.s4 (gc_line_costs K mg (Wc X.S)) (gc_all mg X (Wc X.S)) (gc_range mg X (Wc X.S)) (gc_contra mg X (Wc X.S)))
variable (mg X W) in
def gc_line_shifts : PF W := runF (C := ⟨K, mg, W, E0⟩) n_Solution_line_shifts.length (b_Solution_line_shifts K mg W X.S X.A X.hS X.hA X.s1 X.s2 X.s4 X.a7 (gc_shift mg X W))
variable (mg X W) in
def gc_cost : PF W := runF (C := ⟨K, mg, W, E0⟩) n_Solution_cost.length (b_Solution_cost K mg W X.S X.hS X.s1 (gc_line_shifts mg X W))
variable (K mg W) in
def gc_check_both : PF W := runF (C := ⟨K, mg, W, E0⟩) n_check_both.length (b_check_both K mg W (gc_check_table K mg W) (gc_check_goal K mg W))
variable (mg X W) in
def gc_minimum_cost : PF W := runF (C := ⟨K, mg, W, E0⟩) n_minimum_cost.length (b_minimum_cost K mg W X.S X.hS X.s3 (gc_check_both K mg W) (gc_cost mg X W) (gc_line_shifts mg X W) (gi_Solution mg X))
theorem sol_make (S : SzOk h wd) (hc : Mi.CostOk c) : makeF X.S 2 (gi_Solution mg X) [.dat (tabD h wd t c), .dat (goalD h wd g)] = some (solF X h wd (gapF t g) c) := by
  have hN2 : h + wd ≤ 18 := by have := S.h2; have := S.w2; omega
  have A := Mi.allC_ok (by omega : h ≤ h + wd) hN2 (Mi.bip_gapsL h wd (gapF t g))
  have hml := @allC_len (Mi.gapsL h wd (gapF t g)) (h + wd)
  have lc := @lineCosts K mg (Wc X.S) [] h wd (cellsD h wd t) c (by omega)
  have ac := @allComps_ok K mg X (Wc X.S) [("costs", .dat (costsD (h + wd) c))] h wd t c g S
  have key : gi_Solution mg X [.hd 0, .dat (tabD h wd t c), .dat (goalD h wd g)] [] = some (.ok (.dat .none) ([("costs", .dat (costsD (h + wd) c)), ("parts", .dat (.list (cmsD X.A h wd (gapF t g) c))), ("is_reachable", .dat (.bool (Mi.reachB c (Mi.allC (Mi.gapsL h wd (gapF t g)) (h + wd))))), ("first_shifts", .dat (.list ((Mi.allC (Mi.gapsL h wd (gapF t g)) (h + wd)).map fun m => .int (m.range c).1)))] : CSt)) := by
    unfold gi_Solution
    refine Wp.run1 ?_
    unfold b_Solution___init__
    refine Wp.step (w' := [("costs", .dat (costsD (h + wd) c))]) (by simp [startE, lc]; and_intros <;> rfl) ?_
    refine Wp.step (w' := [("costs", .dat (costsD (h + wd) c)), ("parts", .dat (.list (cmsD X.A h wd (gapF t g) c)))]) (by simp [ac]; and_intros <;> rfl) ?_
    unfold cmsD
    generalize hG : Mi.gapsL h wd (gapF t g) = G at A hml
    generalize hM : Mi.allC G (h + wd) = ms at A hml
    have e1 := lc_mapA (C := ⟨K, mg, Wc X.S, E0⟩) (Γ := [some (.hd 0), some (.dat (tabD h wd t c)), some (.dat (goalD h wd g)), none]) (w := ([("costs", .dat (costsD (h + wd) c)), ("parts", .dat (.list (ms.map (cmF X.A (gapsD G) (costsD (h + wd) c)))))] : CSt)) (it := .seq (.cfld 0 "parts" X.hS X.s2)) (g := .name 3) (x := .is (.meth X.A "contradiction" 0 (gc_contra mg X (Wc X.S)) (.var 3) .nil) .non) (vs := [3]) (hg := rfl) (l := ms) (e := cmF X.A (gapsD G) (costsD (h + wd) c)) (fun m => .bool (m.contra c).isNone) (by omega) (by rfl) (by
      intro m hm
      obtain ⟨r, h1, h2⟩ := @contra_ok K mg X (Wc X.S) ([("costs", .dat (costsD (h + wd) c)), ("parts", .dat (.list (ms.map (cmF X.A (gapsD G) (costsD (h + wd) c)))))] : CSt) (gapsD G) m G h (h + wd) m.first (A.ok m hm) hN2 c
      refine ⟨_, rfl, ?_⟩
      have h3 : r.view = some (pathD (m.contra c)) := by
        cases r with
        | dat d => exact h2
        | new d => exact h2
        | bor i d => cases h2
        | hd n => cases h2
      simp [wipeE, h1, h3]
      cases m.contra c <;> rfl)
    refine Wp.step (w' := [("costs", .dat (costsD (h + wd) c)), ("parts", .dat (.list (ms.map (cmF X.A (gapsD G) (costsD (h + wd) c))))), ("is_reachable", .dat (.bool (Mi.reachB c ms)))]) (by
      simp only [cset_ev, evD_S, cb1_ev, evV_S]
      erw [e1]
      simp [boolsA]
      and_intros <;> rfl) ?_
    have e2 := lc_mapA (C := ⟨K, mg, Wc X.S, E0⟩) (Γ := [some (.hd 0), some (.dat (tabD h wd t c)), some (.dat (goalD h wd g)), none]) (w := ([("costs", .dat (costsD (h + wd) c)), ("parts", .dat (.list (ms.map (cmF X.A (gapsD G) (costsD (h + wd) c))))), ("is_reachable", .dat (.bool (Mi.reachB c ms)))] : CSt)) (it := .seq (.cfld 0 "parts" X.hS X.s2)) (g := .name 3) (x := .ix (.call 2 (gc_range mg X (Wc X.S)) (.cons (.var 3) (.cons (.cfld 0 "costs" X.hS X.s1) .nil))) (.int 0)) (vs := [3]) (hg := rfl) (l := ms) (e := cmF X.A (gapsD G) (costsD (h + wd) c)) (fun m => .int (m.range c).1) (by omega) (by rfl) (by
      intro m hm
      have h1 := @range_ok K mg X (Wc X.S) ([("costs", .dat (costsD (h + wd) c)), ("parts", .dat (.list (ms.map (cmF X.A (gapsD G) (costsD (h + wd) c))))), ("is_reachable", .dat (.bool (Mi.reachB c ms)))] : CSt) (gapsD G) m G h (h + wd) m.first c (A.ok m hm) hN2 hc
      refine ⟨_, rfl, ?_⟩
      simp [wipeE, h1])
    refine Wp.mk (f := .nx _ _) (by
      simp only [cset_ev, evD_S]
      erw [e2]
      simp
      and_intros <;> rfl) ?_
    rfl
  unfold makeF
  rw [if_pos (by rfl)]
  simp only [datsOf_dat, datsOf_nil, Option.map_some, key]
  rfl
end
end Cl

set_option Elab.async false
set_option linter.all false
set_option maxRecDepth 100000
set_option maxHeartbeats 4000000
namespace Cl
open PySem L2 PySem.Spec PyProof.Rows
theorem zipD_map {α : Type} {l : List α} {f g : α → PyData} : zipD (l.map f) (l.map g) = l.map fun a => .tuple [f a, g a] := by
  unfold zipD
  rw [List.zip_map', List.map_map]; rfl
section
variable {K : PySem.W.Frag} {mg : Str → Option Value} {X : PC K} {W : World} {w : W.T}
variable {h wd : Nat} {t : Nat → Nat → Int} {c : Nat → Option Int} {g d : Nat → Nat → Option Int}
/-- a list of shifts, known at some lines -/
def Fits (N : Nat) (s : Nat → Int) (D : Nat → Prop) (L : List Int) : Prop := L.length = N ∧ ∀ l, D l → L[l]? = some (s l)
theorem Fits.set {N : Nat} {s : Nat → Int} {D : Nat → Prop} {L : List Int} (F : Fits N s D L) {l : Nat} (hl : l < N) : Fits N s (fun k => D k ∨ k = l) (L.set l (s l)) := by
  obtain ⟨h1, h2⟩ := F
  refine ⟨by simp [h1], fun k hk => ?_⟩
  rw [List.getElem?_set]
  by_cases e : l = k
  · subst e; simp [h1, hl]
  · rw [if_neg e]
    rcases hk with hk | hk
    · exact h2 k hk
    · exact absurd hk.symm e
theorem Fits.imp {N : Nat} {s : Nat → Int} {D D' : Nat → Prop} {L : List Int} (F : Fits N s D L) (hd : ∀ l, D' l → D l) : Fits N s D' L := ⟨F.1, fun l hl => F.2 l (hd l hl)⟩
theorem Fits.all {N : Nat} {s : Nat → Int} {D : Nat → Prop} {L : List Int} (F : Fits N s D L) (hd : ∀ l, l < N → D l) : L = rng N s := by
  apply List.ext_getElem?
  intro l
  by_cases hl : l < N
  · rw [F.2 l (hd l hl), rng_get hl]
  · rw [rng_none hl, List.getElem?_eq_none (by rw [F.1]; omega)]
theorem lineShifts (S : SzOk h wd) : gc_line_shifts mg X W [.dat (solF X h wd d c)] w = some (.ok (.new (.lst (rng (h + wd) fun l => .int (Mi.bestS c (Mi.allC (Mi.gapsL h wd d) (h + wd)) l)))) w) := by
  have hN2 : h + wd ≤ 18 := by have := S.h2; have := S.w2; omega
  have A := Mi.allC_ok (by omega : h ≤ h + wd) hN2 (Mi.bip_gapsL h wd d)
  unfold gc_line_shifts
  refine Wp.run1 ?_
  unfold b_Solution_line_shifts
  have e0 : (List.replicate (h + wd) [PyData.int 0]).flatten = (List.replicate (h + wd) (0 : Int)).map .int := by
    rw [List.map_replicate]
    generalize h + wd = n
    induction n with
    | zero => rfl
    | succ n ih => rw [List.replicate_succ, List.flatten_cons, ih, List.replicate_succ]; rfl
  refine Wp.step (Γ' := [some (.dat (solF X h wd d c)), some (.own (.lst ((List.replicate (h + wd) (0 : Int)).map .int))), none, none, none]) (w' := w) (by
    have h1 : (h : Int) + wd ≤ 1000 := by omega
    have h2 : (-1000 : Int) ≤ (h : Int) + wd := by omega
    have h3 : ((h : Int) + wd).toNat = h + wd := by omega
    rw [← e0]
    simp [startE, h1, h2, h3]) ?_
  have hz : zipF (.list (cmsD X.A h wd d c)) (.list ((Mi.allC (Mi.gapsL h wd d) (h + wd)).map fun m => .int (m.range c).1)) = some ((Mi.allC (Mi.gapsL h wd d) (h + wd)).map fun m => .tuple [cmF X.A (gapsD (Mi.gapsL h wd d)) (costsD (h + wd) c) m, .int (m.range c).1]) := by
    rw [zipF_ll]
    unfold cmsD
    rw [zipD_map]
  have eit : ∀ Γ : Ev, Γ[0]? = some (some (.dat (solF X h wd d c))) → (SI.zip (C := ⟨K, mg, W, E0⟩) (.fld X.S "parts" X.hS X.s2 (.var 0)) (.fld X.S "first_shifts" X.hS X.s4 (.var 0))).ev Γ w = some (.ok ((Mi.allC (Mi.gapsL h wd d) (h + wd)).map fun m => .tuple [cmF X.A (gapsD (Mi.gapsL h wd d)) (costsD (h + wd) c) m, .int (m.range c).1]) w) := by
    intro Γ h0
    simp [h0]
    rw [zipF_ll] at hz
    exact Option.some.inj hz
  generalize hG : Mi.gapsL h wd d = G at A eit
  generalize hM : Mi.allC G (h + wd) = ms at A eit
  refine Wp.seq (Wp.forL (l := ms) (e := fun m => .tuple [cmF X.A (gapsD G) (costsD (h + wd) c) m, .int (m.range c).1]) (fun j Γ w' => w' = w ∧ ∃ L x2 x3 x4, Γ = [some (.dat (solF X h wd d c)), some (.own (.lst (L.map .int))), x2, x3, x4] ∧ Fits (h + wd) (Mi.bestS c ms) (fun l => ∃ (i : Nat) (m : Mi.Cm), i < j ∧ ms[i]? = some m ∧ l ∈ m.lines) L)
    (eit _ rfl) ⟨rfl, _, none, none, none, rfl, by simp, fun l hl => ?_⟩ ?_ ?_)
  · obtain ⟨i, m, hi, _⟩ := hl; omega
  · rintro j m Γ w' hj ⟨rfl, L, x2, x3, x4, rfl, F⟩
    have hm : m ∈ ms := List.mem_of_getElem? hj
    have o := A.ok m hm
    refine ⟨_, rfl, ?_⟩
    refine Wp.forL (l := m.lines) (e := natD) (fun k Γ w'' => w'' = w' ∧ ∃ L x4, Γ = [some (.dat (solF X h wd d c)), some (.own (.lst (L.map .int))), some (.dat (cmF X.A (gapsD G) (costsD (h + wd) c) m)), some (.dat (.int (m.range c).1)), x4] ∧ Fits (h + wd) (Mi.bestS c ms) (fun l => (∃ (i : Nat) (m : Mi.Cm), i < j ∧ ms[i]? = some m ∧ l ∈ m.lines) ∨ ∃ i : Nat, i < k ∧ m.lines[i]? = some l) L) (by simp) ⟨rfl, L, x4, rfl, F.imp fun l hl => ?_⟩ ?_ ?_
    · rcases hl with hl | ⟨i, hi, _⟩
      · exact hl
      · omega
    · rintro k l Γ w'' hk ⟨rfl, L, x4, rfl, F⟩
      have hl : l ∈ m.lines := List.mem_of_getElem? hk
      have hlN := o.ltN hl
      have es := @shift_ok K mg X W w'' (gapsD G) (costsD (h + wd) c) m G h (h + wd) m.first o l hl (m.range c).1
      have ex : ixN L.length (l : Int) = some l := ixN_nat (by rw [F.1]; exact hlN)
      have eb : m.shift l (m.range c).1 = Mi.bestS c ms l := by
        unfold Mi.bestS
        rw [A.glue_at _ hm hl, A.bestX_at hm]
      refine ⟨_, rfl, Wp.mk (f := .nx _ _) (by simp [natD, es, ex]; and_intros <;> rfl) ⟨rfl, L.set l (Mi.bestS c ms l), some (.dat (.int (l : Nat))), ?_, (F.set hlN).imp ?_⟩⟩
      · rw [List.map_set, eb]
      · intro l' hl'
        rcases hl' with hl' | ⟨i, hi, e⟩
        · exact .inl (.inl hl')
        · by_cases hik : i = k
          · subst hik
            rw [hk] at e; cases e
            exact .inr rfl
          · exact .inl (.inr ⟨i, by omega, e⟩)
    · rintro Γ w'' ⟨rfl, L, x4, rfl, F⟩
      refine ⟨rfl, L, _, _, x4, rfl, F.imp fun l hl => ?_⟩
      obtain ⟨i, m', hi, h1, h2⟩ := hl
      by_cases hij : i = j
      · subst hij
        rw [hj] at h1; cases h1
        obtain ⟨k, hk, e⟩ := List.mem_iff_getElem.mp h2
        exact .inr ⟨k, hk, by rw [List.getElem?_eq_getElem hk, e]⟩
      · exact .inl ⟨i, m', by omega, h1, h2⟩
  · rintro Γ w' ⟨rfl, L, x2, x3, x4, rfl, F⟩
    have hL := F.all fun l hl => by
      obtain ⟨m, hm, h1⟩ := A.all l hl
      obtain ⟨i, hi, e⟩ := List.mem_iff_getElem.mp hm
      exact ⟨i, m, hi, by rw [List.getElem?_eq_getElem hi, e], h1⟩
    refine Wp.mk (f := .rt _ _) (by simp; and_intros <;> rfl) ?_
    rw [hL, rng_map]; rfl
end
end Cl

set_option Elab.async false
set_option linter.all false
set_option maxRecDepth 100000
set_option maxHeartbeats 4000000
namespace Cl
open PySem L2 PySem.Spec PyProof.Rows
section
variable {K : PySem.W.Frag} {mg : Str → Option Value} {X : PC K} {W : World} {w : W.T}
variable {h wd : Nat} {t : Nat → Nat → Int} {c : Nat → Option Int} {g d : Nat → Nat → Option Int}
theorem mulC_small {i k : Int} (h1 : 0 ≤ k) (h2 : k ≤ 99) : mulC i k = true := by
  have e : (2 : Int) ^ 64 = 18446744073709551616 := by decide
  apply mulC_r
  · rw [e]; omega
  · rw [e]; omega
theorem cost_ok (S : SzOk h wd) (hc : COk c) : gc_cost mg X W [.dat (solF X h wd d c)] w = some (.ok (.dat (.int (Mi.costN (h + wd) c (Mi.bestS c (Mi.allC (Mi.gapsL h wd d) (h + wd)))))) w) := by
  have hN2 : h + wd ≤ 18 := by have := S.h2; have := S.w2; omega
  have ls := @lineShifts K mg X W w h wd c d S
  unfold gc_cost
  refine Wp.run1 ?_
  unfold b_Solution_cost
  generalize Mi.bestS c (Mi.allC (Mi.gapsL h wd d) (h + wd)) = s at ls
  have e := lc_all (C := ⟨K, mg, W, E0⟩) (Γ := startE n_Solution_cost.length [.dat (solF X h wd d c)]) (w := w) (it := .zip (.meth X.S "line_shifts" 0 (gc_line_shifts mg X W) (.var 0) .nil) (.fld X.S "costs" X.hS X.s1 (.var 0))) (g := .tup 2 (.cons (.name 1) (.cons (.name 2) .nil))) (x := .mul (.abs (.var 1)) (.orI (.var 2) (.int 0))) (vs := [1, 2]) (hg := rfl) (n := h + wd) (e := fun j => .tuple [.int (s j), optD (c j)]) (fun j => .int (absI (s j) * (c j).getD 0)) (by omega) (by simp [startE, ls]) (by
    intro j hj
    refine ⟨_, rfl, ?_⟩
    have hm : ∀ k : Int, 0 ≤ k → k ≤ 99 → mulC (absI (s j)) k = true := fun k h1 h2 => mulC_small h1 h2
    cases e : c j with
    | none =>
      have hm2 := hm 0 (by omega) (by omega)
      simp [startE, wipeE, hm2]
    | some k =>
      have hk : (k != 0) = true := by have := (hc j k e).1; simp; omega
      have hm2 := hm k (by have := (hc j k e).1; omega) (hc j k e).2
      simp [startE, wipeE, hk, hm2])
  have ecost : Mi.costN (h + wd) c s = (rng (h + wd) fun j => absI (s j) * (c j).getD 0).sum := by
    simp only [absI_eq]; rfl
  refine Wp.mk (f := .rt (.dat (.int (Mi.costN (h + wd) c s))) w) (by
    simp only [ret_ev, cb1_ev, evV_S]
    erw [e]
    simp [ints_rng]
    rw [ecost]) ?_
  rfl
end
end Cl

set_option Elab.async false
set_option linter.all false
set_option maxRecDepth 100000
set_option maxHeartbeats 4000000
namespace Mi
/-- cells row by row: the rows below j, and of the row j the first m -/
def cellsL (w : Nat) (p : Nat → Nat → Bool) (j m : Nat) : List (Nat × Nat) := ((List.range j).flatMap fun r => ((List.range w).filter (p r)).map fun k => (r, k)) ++ ((List.range m).filter (p j)).map fun k => (j, k)
theorem cellsL_row {w : Nat} {p : Nat → Nat → Bool} {j : Nat} : cellsL w p j w = cellsL w p (j + 1) 0 := by
  unfold cellsL
  rw [List.range_succ, List.flatMap_append]
  simp
theorem cellsL_no {w : Nat} {p : Nat → Nat → Bool} {j m : Nat} (e : p j m = false) : cellsL w p j (m + 1) = cellsL w p j m := by
  unfold cellsL
  rw [List.range_succ, List.filter_append]
  simp [e]
theorem cellsL_yes {w : Nat} {p : Nat → Nat → Bool} {j m : Nat} (e : p j m = true) : cellsL w p j (m + 1) = cellsL w p j m ++ [(j, m)] := by
  unfold cellsL
  rw [List.range_succ, List.filter_append]
  simp [e]
theorem cellsL_len {w : Nat} {p : Nat → Nat → Bool} : ∀ {j m : Nat}, (cellsL w p j m).length ≤ j * w + m
  | 0, m => by
    unfold cellsL
    have := List.length_filter_le (p 0) (List.range m)
    simp at this ⊢; omega
  | j + 1, m => by
    have ih := @cellsL_len w p j w
    have := List.length_filter_le (p (j + 1)) (List.range m)
    unfold cellsL at ih ⊢
    rw [List.range_succ, List.flatMap_append, List.length_append]
    simp only [List.flatMap_cons, List.flatMap_nil, List.append_nil, List.length_append, List.length_map, List.length_range] at *
    rw [Nat.succ_mul]
    omega
end Mi
namespace Cl
open PySem L2 PySem.Spec PyProof.Rows
def minD : Option (Int × List Int) → PyData
  | none => .none
  | some (k, L) => .tuple [.int k, .list (L.map .int)]
/-- one cell changed -/
def setG (g : Nat → Nat → Option Int) (r k : Nat) (x : Option Int) : Nat → Nat → Option Int := fun r' k' => if r' = r ∧ k' = k then x else g r' k'
theorem rng_set {α : Type} {n : Nat} {f : Nat → α} {r : Nat} {y : α} (hr : r < n) : (rng n f).take r ++ ([y] ++ (rng n f).drop (r + 1)) = rng n fun j => if j = r then y else f j := by
  apply List.ext_getElem?
  intro i
  by_cases hi : i < n
  · rw [rng_get hi]
    rcases Nat.lt_trichotomy i r with h | h | h
    · rw [List.getElem?_append_left (by simp; omega), List.getElem?_take, if_pos h, rng_get hi, if_neg (by omega)]
    · rw [List.getElem?_append_right (by simp; omega)]
      subst h
      simp
      rw [Nat.min_eq_left (by omega), Nat.sub_self]; simp
    · rw [List.getElem?_append_right (by simp; omega), List.getElem?_append_right (by simp; omega), List.getElem?_drop, if_neg (by omega)]
      have : r + 1 + (i - (List.take r (rng n f)).length - [y].length) = i := by simp; omega
      rw [this, rng_get hi]
  · rw [rng_none hi, List.getElem?_eq_none (by simp; omega)]
theorem cutD_dropS {xs : List PyData} {k : Nat} : cutD xs (some ((k : Int) + 1)) none = xs.drop (k + 1) := cutD_drop (k := k + 1)
theorem goal_set {h wd : Nat} {g : Nat → Nat → Option Int} {r k : Nat} {x : Option Int} : (rng h fun j => if j = r then PyData.tuple (rng wd fun i => if i = k then optD x else optD (g r i)) else .tuple (rng wd fun i => optD (g j i))) = rng h fun j => .tuple (rng wd fun i => optD (setG g r k x j i)) := by
  apply rng_congr
  intro j _
  by_cases e : j = r
  · subst e
    rw [if_pos rfl]
    congr 1
    apply rng_congr
    intro i _
    unfold setG
    by_cases e2 : i = k <;> simp [e2]
  · rw [if_neg e]
    congr 1
    apply rng_congr
    intro i _
    unfold setG
    simp [e]
section
variable {K : PySem.W.Frag} {mg : Str → Option Value} {X : PC K} {W : World} {w : W.T}
variable {h wd : Nat} {t : Nat → Nat → Int} {c : Nat → Option Int} {g d : Nat → Nat → Option Int}
theorem checkBoth (S : SzOk h wd) (ht : TOk h wd t) (hc : COk c) (hg : GOk h wd g) : gc_check_both K mg W [.dat (tabD h wd t c), .dat (goalD h wd g)] w = some (.ok (.dat .none) w) := by
  have e1 := @checkTable K mg W w h wd t c S ht hc
  have e2 := @checkGoal K mg W w h wd t c g S hg
  simp [gc_check_both, runF, b_check_both, startE, e1, e2]
theorem minimumCost (S : SzOk h wd) (ht : TOk h wd t) (hc : COk c) (hg : GOk h wd g) : gc_minimum_cost mg X W [.dat (tabD h wd t c), .dat (goalD h wd g)] w = some (.ok (.dat (minD (Mi.minCost (Mi.gapsL h wd (gapF t g)) (h + wd) c))) w) := by
  have e1 := @checkBoth K mg W w h wd t c g S ht hc hg
  have e2 := @sol_make K mg X h wd t c g S hc.pos
  have e3 := @cost_ok K mg X W w h wd c (gapF t g) S hc
  have e4 := @lineShifts K mg X W w h wd c (gapF t g) S
  unfold gc_minimum_cost
  refine Wp.run1 ?_
  unfold b_minimum_cost
  refine Wp.step (by simp [startE, e1]; and_intros <;> rfl) ?_
  refine Wp.step (by simp [e2]; and_intros <;> rfl) ?_
  unfold Mi.minCost
  cases hr : Mi.reachB c (Mi.allC (Mi.gapsL h wd (gapF t g)) (h + wd)) with
  | true =>
    refine Wp.mk (f := .rt _ _) (by simp [hr, e3, e4]; and_intros <;> rfl) ?_
    rw [if_pos rfl]
    simp [minD, rng, Function.comp_def]
  | false =>
    refine Wp.mk (f := .rt _ _) (by simp [hr]; and_intros <;> rfl) ?_
    rw [if_neg (by simp)]; rfl
variable (K mg W) in
def gc_open : PF W := runF (C := ⟨K, mg, W, E0⟩) n_with_open_cell.length (b_with_open_cell K mg W)
variable (mg X W) in
def gc_blocking : PF W := runF (C := ⟨K, mg, W, E0⟩) n_blocking_cells.length (b_blocking_cells K mg W (gc_check_both K mg W) (gc_any mg X W) (gc_open K mg W))
theorem open_ok {r k : Nat} (hr : r < h) (hk : k < wd) (hh : h ≤ 50) (hw : wd ≤ 50) : gc_open K mg W [.dat (goalD h wd g), .dat (.int (r : Nat)), .dat (.int (k : Nat))] w = some (.ok (.dat (goalD h wd (setG g r k none))) w) := by
  have e1 : (rng h fun r => PyData.tuple (rng wd fun k => optD (g r k)))[r]? = some (.tuple (rng wd fun k => optD (g r k))) := rng_get hr
  have e2 := rng_set (f := fun k => optD (g r k)) (y := PyData.none) hk
  have e3 := rng_set (f := fun r => PyData.tuple (rng wd fun k => optD (g r k))) (y := PyData.tuple (rng wd fun i => if i = k then optD none else optD (g r i))) hr
  rw [goal_set] at e3
  simp at e2 e3
  have l1 : k + (wd - (k + 1)) + 1 ≤ 100000 := by omega
  have l2 : r + (h - (r + 1)) + 1 ≤ 100000 := by omega
  simp [gc_open, runF, b_with_open_cell, startE, e1, cutD_take, cutD_dropS]
  have a1 : min k wd = k := by omega
  have a2 : min r h = r := by omega
  have a3 : k ≤ 99999 := by omega
  have a4 : r ≤ 99999 := by omega
  have a5 : k + 1 + (wd - (k + 1)) ≤ 100000 := by omega
  have a6 : r + 1 + (h - (r + 1)) ≤ 100000 := by omega
  simp [a1, a2, a3, a4, a5, a6, e2, e3]
def pairN (p : Nat × Nat) : PyData := .tuple [.int (p.1 : Nat), .int (p.2 : Nat)]
/-- the cells that block -/
def blkP (h wd : Nat) (t : Nat → Nat → Int) (c : Nat → Option Int) (g : Nat → Nat → Option Int) (r k : Nat) : Bool := (g r k).isSome && (Mi.anyContra c (Mi.allC (Mi.gapsL h wd (gapF t (setG g r k none))) (h + wd))).isNone
def blkL (h wd : Nat) (t : Nat → Nat → Int) (c : Nat → Option Int) (g : Nat → Nat → Option Int) : List (Nat × Nat) := if (Mi.anyContra c (Mi.allC (Mi.gapsL h wd (gapF t g)) (h + wd))).isNone then [] else Mi.cellsL wd (blkP h wd t c g) h 0
theorem pathD_none {x : Option (List Nat)} : isNone (pathD x) = x.isNone := by cases x <;> rfl
theorem blocking_ok (S : SzOk h wd) (ht : TOk h wd t) (hc : COk c) (hg : GOk h wd g) : gc_blocking mg X W [.dat (tabD h wd t c), .dat (goalD h wd g)] w = some (.ok (.new (.lst ((blkL h wd t c g).map pairN))) w) := by
  have e1 := @checkBoth K mg W w h wd t c g S ht hc hg
  obtain ⟨_, e2, rfl⟩ := @anyC_ok K mg X W w h wd t c g S
  have h2 := S.h2
  have w2 := S.w2
  unfold gc_blocking
  refine Wp.run1 ?_
  unfold b_blocking_cells blkL
  refine Wp.step (by simp [startE, e1]; and_intros <;> rfl) ?_
  cases hr : (Mi.anyContra c (Mi.allC (Mi.gapsL h wd (gapF t g)) (h + wd))).isNone with
  | true =>
    refine Wp.seq (Wp.mk (f := .rt (.new (.lst [])) w) (by simp [e2, pathD_none, hr]) ?_)
    rw [if_pos rfl]; rfl
  | false =>
    rw [if_neg (by simp)]
    refine Wp.step (by simp [e2, pathD_none, hr]; and_intros <;> rfl) ?_
    refine Wp.step (by simp; and_intros <;> rfl) ?_
    refine Wp.seq (Wp.for_ (n := h) (e := fun j => .tuple [.int (j : Nat), .tuple (rng wd fun k => optD (g j k))]) (fun j Γ w' => w' = w ∧ ∃ a b d e, Γ = [some (.dat (tabD h wd t c)), some (.dat (goalD h wd g)), some (.own (.lst ((Mi.cellsL wd (blkP h wd t c g) j 0).map pairN))), a, b, d, e]) (by simp) ⟨rfl, none, none, none, none, rfl⟩ ?_ ?_)
    · rintro j Γ w' hj ⟨rfl, a, b, d, e, rfl⟩
      refine ⟨_, rfl, ?_⟩
      refine Wp.for_ (n := wd) (e := fun k => .tuple [.int (k : Nat), optD (g j k)]) (fun k Γ w'' => w'' = w' ∧ ∃ d e, Γ = [some (.dat (tabD h wd t c)), some (.dat (goalD h wd g)), some (.own (.lst ((Mi.cellsL wd (blkP h wd t c g) j k).map pairN))), some (.dat (.int (j : Nat))), some (.dat (.tuple (rng wd fun k => optD (g j k)))), d, e]) (by simp) ⟨rfl, d, e, rfl⟩ ?_ ?_
      · rintro k Γ w'' hk ⟨rfl, d, e, rfl⟩
        have op := @open_ok K mg W w'' h wd g j k hj hk (by omega) (by omega)
        obtain ⟨_, e3, rfl⟩ := @anyC_ok K mg X W w'' h wd t c (setG g j k none) S
        have hlen : (Mi.cellsL wd (blkP h wd t c g) j k).length < 100000 := by
          have := @Mi.cellsL_len wd (blkP h wd t c g) j k
          have : j * wd ≤ 7 * 7 := Nat.mul_le_mul (by omega) w2
          omega
        cases hx : g j k with
        | none =>
          have hb : blkP h wd t c g j k = false := by unfold blkP; rw [hx]; rfl
          exact ⟨_, rfl, Wp.mk (f := .nx _ _) (by simp; and_intros <;> rfl) ⟨rfl, some (.dat (.int (k : Nat))), some (.dat .none), by rw [Mi.cellsL_no hb]⟩⟩
        | some x =>
          cases hy : (Mi.anyContra c (Mi.allC (Mi.gapsL h wd (gapF t (setG g j k none))) (h + wd))).isNone with
          | false =>
            have hb : blkP h wd t c g j k = false := by unfold blkP; rw [hy]; simp
            exact ⟨_, rfl, Wp.mk (f := .nx _ _) (by simp [op, e3, pathD_none, hy]; and_intros <;> rfl) ⟨rfl, some (.dat (.int (k : Nat))), some (.dat (.int x)), by rw [Mi.cellsL_no hb]⟩⟩
          | true =>
            have hb : blkP h wd t c g j k = true := by unfold blkP; rw [hy, hx]; rfl
            exact ⟨_, rfl, Wp.mk (f := .nx _ _) (by simp [op, e3, pathD_none, hy, hlen]; and_intros <;> rfl) ⟨rfl, some (.dat (.int (k : Nat))), some (.dat (.int x)), by rw [Mi.cellsL_yes hb]; simp [pairN]⟩⟩
      · rintro Γ w'' ⟨rfl, d, e, rfl⟩
        exact ⟨rfl, some (.dat (.int (j : Nat))), some (.dat (.tuple (rng wd fun k => optD (g j k)))), d, e, by rw [Mi.cellsL_row]⟩
    · rintro Γ w' ⟨rfl, a, b, d, e, rfl⟩
      exact Wp.mk (f := .rt _ _) (by simp; try (and_intros <;> rfl)) rfl
end
end Cl

set_option Elab.async false
set_option linter.all false
set_option maxRecDepth 100000
set_option maxHeartbeats 4000000
namespace Cl
open PySem L2 PySem.Spec PyProof.Rows
/-! ### a, *b = a tuple -/
section
variable {prog : Program} {w : PySem.World} {A : Around} {E : Value → Shared → Prop} {s : Shared}
theorem unpack_star2 {l : Addr} {items : Array Value} {Q : List Value → Shared → Prop} (hl : IsTup s.heap l items) (hh : A.handled = none) (h1 : 1 ≤ items.size) (hz : items.size ≤ sizeLine)
    (h : ∀ (h' : Heap) (tk : Nat), (∀ b o, s.heap.get? b = some o → h'.get? b = some o) → Q (items.toList.take 1 ++ [.ref h'.objs.size] ++ []) { s with heap := h'.push { cls := .type "list", data := .seq (items.toList.drop 1).toArray }, toks := tk }) :
    wpAny (model prog w) A (unpackItems (.ref l) 2 (some 1)) Q E s := by
  have hlt : l ≠ s.heap.objs.size := by obtain ⟨o, ho, _⟩ := hl; exact Nat.ne_of_lt (Heap.lt_size ho)
  have hll : l < s.heap.objs.size := by obtain ⟨o, ho, _⟩ := hl; exact Heap.lt_size ho
  unfold unpackItems
  refine wpAny_bind ?_
  unfold notIterableAtAll
  refine wpAny_bind (wpAny_specialOf hl.typeIs slot_tuple_iter.lookup ?_)
  refine wpAny_pure ?_
  simp only [Bool.false_eq_true, if_false]
  refine wpAny_bind (wpAny_holding (iter_tuple hl ?_))
  refine wpAny_bind (wpAny_holding (draw_tuple hlt 1 0 _ _ ⟨_, Heap.get?_push_size _ rfl, rfl, rfl⟩ (hl.push _) (by omega) fun h₁ hit₁ hs₁ => ?_))
  have hl₁ : IsTup h₁ l items := (hl.push _).extBut hs₁.extBut hlt
  rw [Nat.zero_add] at hit₁
  have hit₁' := hit₁
  obtain ⟨oi, hoi, _⟩ := hit₁'
  have hl₁' := hl₁
  obtain ⟨ol, hol, _⟩ := hl₁'
  rw [List.drop_zero]
  have hfl : (items.toList.take 1).length = 1 := by rw [List.length_take, Array.length_toList]; omega
  rw [if_neg (show ¬ ((items.toList.take 1).length < 1) by rw [hfl]; omega)]
  refine wpAny_bind (wpAny_holding (PySem.W.kun_collect (s := { s with heap := h₁ }) (T := "tuple_iterator") (.inr (.inr (.inr rfl))) (Walks.tuple (A := A.in1) hh s.heap.objs.size l hlt items) (fun j u st => st.1.typeIs) (k := 1) (by omega) ⟨hit₁, hl₁⟩ (Heap.lt_size hoi) (Heap.lt_size hol) (fun h₂ tk hk => ?_) hz))
  show wpAny _ _ (if (items.toList.drop 1).length < 2 - 1 - 1 then _ else _) _ _ _
  rw [if_neg (by omega)]
  show wpAny _ _ (newList ((items.toList.drop 1).take ((items.toList.drop 1).length - (2 - 1 - 1))) >>= fun d => pure (items.toList.take 1 ++ [d] ++ (items.toList.drop 1).drop ((items.toList.drop 1).length - (2 - 1 - 1)))) _ _ _
  have he : ∀ b o, s.heap.get? b = some o → h₂.get? b = some o := fun b o e => by
    have hb : b ≠ s.heap.objs.size := Nat.ne_of_lt (Heap.lt_size e)
    exact hk b o hb (hs₁.extBut b o hb (Heap.get?_push_of_some _ e))
  have e1 : (items.toList.drop 1).take ((items.toList.drop 1).length - (2 - 1 - 1)) = items.toList.drop 1 := List.take_of_length_le (by omega)
  have e2 : (items.toList.drop 1).drop ((items.toList.drop 1).length - (2 - 1 - 1)) = [] := List.drop_eq_nil_of_le (by omega)
  rw [e1, e2]
  exact wpAny_bind (wpAny_newList (s := { s with heap := h₂, toks := tk }) (wpAny_pure (h h₂ tk he)) (by rw [List.length_drop, Array.length_toList]; omega))
end
def gStar (K : PySem.W.Frag) (t : TGs) : TG := fun v σ H Q => ∃ a x xs, v = .ref a ∧ SqT K H a (x :: xs) ∧ ∀ p, H p = none → t [x, .ref p] σ (upd H p (.lst xs)) Q
def gTupL (K : PySem.W.Frag) (n : Nat) (t : TGs) : TG := fun v σ H Q => ∃ a xs, v = .ref a ∧ SqL K H a xs ∧ xs.length = n ∧ t xs σ H Q
section
variable {X : Cx} {pos : Pos}
theorem pg_star {es es' : List Expr} {k : Nat} {t : TGs} (hc : X.calm = true) (h : PGs X es' t) (he : (assignEach es X.env).map (·.2) = (assignEach es' X.env).map (·.2) := by rfl)
    (hn : (assignEach es X.env).length = 2 := by rfl) (hst : (assignEach es X.env).findIdx? (·.1) = some 1 := by rfl) : PG X (.Tuple es k pos) (gStar X.K t) := by
  refine ⟨fun pins s σ H v u Q I r hw => ?_⟩
  obtain ⟨a, x, xs, e1, hq, hw⟩ := hw
  subst e1
  cases r
  obtain ⟨its, rv, ht, hz⟩ := I.tuple hq
  rw [assign_Tuple]
  refine wpAny_bind (wpAny_standAt ?_)
  unfold unpack
  rw [hn, hst, he]
  have hlen : its.length = xs.length + 1 := by have := rv.length; simpa using this.symm
  refine wpAny_bind (wpAny_holding (unpack_star2 ht (I.ok.hd hc) (by simp [hlen]) (by simp [hlen]; simpa using hz) fun h' tk hx => ?_))
  have I1 : Inv X pins σ H { s with heap := h', toks := tk } := I.kept hx
  have hf : H h'.objs.size = none := I1.hok.fresh (Nat.le_refl _)
  cases rv with
  | @cons v u vs us r1 r2 =>
    have I2 : Inv X pins σ (upd H h'.objs.size (.lst xs)) { s with heap := h'.push { cls := .type "list", data := .seq us.toArray }, toks := tk } := by
      refine I1.laid (t' := tk) (fun b u e => Heap.get?_push_of_some _ e) (Nat.le_refl _) ?_
      exact ⟨by have := hz; simp at this; omega, us, 0, r2, Heap.get?_push_size _ rfl⟩
    exact h.run pins _ σ _ [x, .ref h'.objs.size] _ Q I2 (.cons r1 (.cons rfl .nil)) (hw _ hf)
theorem pg_tupL {es : List Expr} {k : Nat} {t : TGs} {n : Nat} (hc : X.calm = true) (h : PGs X es t)
    (hn : (assignEach es X.env).length = n := by rfl) (hst : (assignEach es X.env).findIdx? (·.1) = none := by rfl) : PG X (.Tuple es k pos) (gTupL X.K n t) := by
  refine ⟨fun pins s σ H v u Q I r hw => ?_⟩
  obtain ⟨a, xs, e1, hq, hl, hw⟩ := hw
  subst e1
  cases r
  obtain ⟨its, rv, ht, hz⟩ := I.list hq
  rw [assign_Tuple]
  refine wpAny_bind (wpAny_standAt ?_)
  unfold unpack
  have hlen : (assignEach es X.env).length = its.toArray.size := by rw [hn, ← hl, rv.length]; simp
  rw [hlen, hst]
  refine wpAny_bind (wpAny_holding (PySem.W.kun_itemsOf (I.ok.hd hc) ht.isList fun h' hx => ?_))
  have I1 : Inv X pins σ H { s with heap := h' } := I.kept (t' := s.toks) fun b o e => hx b o (Nat.ne_of_lt (Heap.lt_size e)) e
  exact h.run pins _ σ H xs _ Q I1 (by simpa using rv) hw
end
end Cl

set_option Elab.async false
set_option linter.all false
set_option maxRecDepth 100000
set_option maxHeartbeats 4000000
namespace Cl
open PySem L2 PySem.Spec PyProof.Rows
/-- x, *y = e -/
def SS.unpS {C : Cf} (i j : Nat) (a : SE C) : SS C where
  t := tAsg a.t (gStar C.K (gNames [i, j]))
  ev := fun Γ w => bindF (a.evD Γ w) fun d w1 => match d with
    | .tuple (x :: xs) => if i < Γ.length ∧ j < Γ.length ∧ i ≠ j then some (.nx ((Γ.set i (some (.dat x))).set j (some (.own (.lst xs)))) w1) else none
    | _ => none
  ok := by
    intro sE HE s H σ Γ w fl S h e D q
    rcases bindF_cases e with ⟨d, w1, e1, e2⟩ | ⟨x, w1, e1, rfl⟩
    · refine a.okD S h e1 _ fun s1 H1 l1 h1 v hv => ?_
      split at e2
      · rename_i x xs
        split at e2
        · rename_i hc
          cases e2
          obtain ⟨p, vs, rfl, hp, r⟩ : ∃ p vs, v = .ref p ∧ s1.H0 p = some (.tup vs) ∧ RpA C.K s1.H0 vs (x :: xs) := by
            cases hv with
            | tup hp r => exact ⟨_, _, rfl, hp, r⟩
          cases r with
          | @cons xv vs _ _ r1 r2 =>
            refine ⟨p, xv, vs, rfl, h1.ex.t hp, fun u hu => gNames_run rfl ?_⟩
            have S1 := (S.le l1).put hc.1 (x := .dat x) r1 (fun es p z => by cases z)
            have h2 := h1.new (o := .lst vs) hu
            refine q s1 (upd H1 u (.lst vs)) _ l1.h0 ((S1.le (Le.new hu)).put (by simpa using hc.2.1) (x := .own (.lst xs)) ⟨u, .lst vs, rfl, upd_same, h1.none0 hu, h1.noneW hu, S1.en.none0 hu, vs, rfl, r2⟩ fun es p' _ z k ds' _ g' b => ?_) h2
            cases z
            obtain ⟨v', hv', p2, xs2, rfl, b1, _⟩ := S1.sl k _ g'
            rw [b] at hv'; cases hv'
            rw [hu] at b1; cases b1
        · cases e2
      · cases e2
    · exact a.okD S h e1 _ (exS S q)
theorem RvL.dats {K : PySem.W.Frag} {Hs : Hp} {s : Sh} {H : Hp} {σ : L2.St} {Γ : Ev} : ∀ {vs : List V} {ds : List PyData}, RpA K s.H0 vs ds → RvL K Hs s H σ Γ vs (ds.map Rv.dat)
  | _, _, .nil => .nil
  | _, _, .cons r1 r => .cons r1 (RvL.dats r) (fun p ds e => nomatch e)
/-- x, y, .. = a list -/
def SS.unpL {C : Cf} (is : List Nat) (a : SE C) : SS C where
  t := tAsg a.t (gTupL C.K is.length (gNames is))
  ev := fun Γ w => bindF (a.evV Γ w) fun d w1 => match d with
    | .list ds => (putE is (ds.map Rv.dat) Γ).map fun Γ' => .nx Γ' w1
    | _ => none
  ok := by
    intro sE HE s H σ Γ w fl S h e D q
    rcases bindF_cases e with ⟨d, w1, e1, e2⟩ | ⟨x, w1, e1, rfl⟩
    · refine a.okV S h e1 _ fun s1 H1 l1 h1 v hv => ?_
      split at e2
      · rename_i ds
        cases e3 : putE is (ds.map Rv.dat) Γ with
        | none => rw [e3] at e2; cases e2
        | some Γ' =>
          rw [e3] at e2; cases e2
          obtain ⟨p, xs, rfl, hp, r⟩ := hv.now h1.ex
          have hl : is.length = xs.length := by
            have := putE_len e3
            rw [List.length_map] at this
            rw [r.length, this]
          refine ⟨p, xs, rfl, .inl (.inl hp), hl.symm, gNames_run hl ?_⟩
          have z : RvL C.K H s1 H1 σ Γ xs (ds.map Rv.dat) := RvL.dats r
          exact q s1 _ _ l1.h0 (S.putM l1 z e3) h1
      · cases e2
    · exact a.okV S h e1 _ (exS S q)
section
variable {X : Cx} {Wd : World} {a : Expr} {sa : SE (cf X Wd)} {pos : Pos}
theorem cs_unpS (i j : Nat) {x y : Str} {px py ps pt : Pos} {kt : Nat} (hN : X.N.Nodup) (ha : CE X a sa) (hm : Nms X [.Name x px, .Name y py] [i, j]) (hc : X.calm = true := by rfl)
    (he : (assignEach [.Name x px, .Starred (.Name y py) ps] X.env).map (·.2) = (assignEach [.Name x px, .Name y py] X.env).map (·.2) := by rfl)
    (hn : (assignEach [.Name x px, .Starred (.Name y py) ps] X.env).length = 2 := by rfl) (hst : (assignEach [.Name x px, .Starred (.Name y py) ps] X.env).findIdx? (·.1) = some 1 := by rfl)
    (hs : swapsWithSole [.Tuple [.Name x px, .Starred (.Name y py) ps] kt pt] a pos.line X.env = pure false := by rfl) (hw : swappedStores [.Tuple [.Name x px, .Starred (.Name y py) ps] kt pt] a X.env = pure none := by rfl)
    (h1 : (assignEach [.Tuple [.Name x px, .Starred (.Name y py) ps] kt pt] X.env).map (·.2) = [assign (.Tuple [.Name x px, .Starred (.Name y py) ps] kt pt) X.env] := by rfl) :
    CS X (.Assign [.Tuple [.Name x px, .Starred (.Name y py) ps] kt pt] a pos) (SS.unpS i j sa) := ps_asg ha (pg_star hc hm.pgs he hn hst) hs hw h1
theorem cs_unpL {ns : List Expr} {is : List Nat} {pt : Pos} {kt : Nat} (ha : CE X a sa) (hm : Nms X ns is) (hc : X.calm = true := by rfl)
    (hn : (assignEach ns X.env).length = is.length := by rfl) (hst : (assignEach ns X.env).findIdx? (·.1) = none := by rfl)
    (hs : swapsWithSole [.Tuple ns kt pt] a pos.line X.env = pure false := by rfl) (hw : swappedStores [.Tuple ns kt pt] a X.env = pure none := by rfl)
    (h1 : (assignEach [.Tuple ns kt pt] X.env).map (·.2) = [assign (.Tuple ns kt pt) X.env] := by rfl) :
    CS X (.Assign [.Tuple ns kt pt] a pos) (SS.unpL is sa) := ps_asg ha (pg_tupL hc hm.pgs hn hst) hs hw h1
end
@[simp] theorem unpS_ev {C : Cf} {i j : Nat} {a : SE C} {Γ : Ev} {w : C.T} : (SS.unpS i j a).ev Γ w = bindF (a.evD Γ w) fun d w1 => match d with
    | .tuple (x :: xs) => if i < Γ.length ∧ j < Γ.length ∧ i ≠ j then some (.nx ((Γ.set i (some (.dat x))).set j (some (.own (.lst xs)))) w1) else none
    | _ => none := rfl
@[simp] theorem unpL_ev {C : Cf} {is : List Nat} {a : SE C} {Γ : Ev} {w : C.T} : (SS.unpL is a).ev Γ w = bindF (a.evV Γ w) fun d w1 => match d with
    | .list ds => (putE is (ds.map Rv.dat) Γ).map fun Γ' => .nx Γ' w1
    | _ => none := rfl
end Cl

set_option Elab.async false
set_option linter.all false
set_option maxRecDepth 100000
set_option maxHeartbeats 4000000
namespace Cl
open PySem L2 PySem.Spec PyProof.Rows
abbrev n_with_unit_costs : List Str := ["table", "cells", "costs", "row_costs", "column_costs", "side", "cost"]
abbrev p_with_unit_costs : List Str := ["table"]
def b_with_unit_costs (K : PySem.W.Frag) (mg : Str → Option Value) (W : World) : SS ⟨K, mg, W, E0⟩ :=
  (.seq (.unpS 1 2 (.var 0)) (.seq (.frzq 2) (.seq (.unpL [3, 4] (.lc (.seq (.var 2)) (.name 5) .yes (.tuple (.lc (.seq (.var 5)) (.name 6) .yes (.ite (.of (.is (.var 6) .non)) .non (.int 1)) [6] rfl)) [5] rfl)) (.ret (.tup (.cons (.var 1) (.cons (.var 3) (.cons (.var 4) .nil))))))))

abbrev n_minimum_steps : List Str := ["table", "goal"]
abbrev p_minimum_steps : List Str := ["table", "goal"]
def b_minimum_steps (K : PySem.W.Frag) (mg : Str → Option Value) (W : World) (A_Solution : Addr) (g_check_both : PF W) (g_any_contradiction : PF W) (g_with_unit_costs : PF W) (g_Solution_cost : PF W) (gi_Solution : PF (Wc A_Solution)) : SS ⟨K, mg, W, E0⟩ :=
  (.seq (.drop (.call 2 g_check_both (.cons (.var 0) (.cons (.var 1) .nil)))) (.ret (.ite (.of (.is (.call 2 g_any_contradiction (.cons (.var 0) (.cons (.var 1) .nil))) .non)) (.meth A_Solution "cost" 0 g_Solution_cost (.make A_Solution 2 gi_Solution (.cons (.call 1 g_with_unit_costs (.cons (.var 0) .nil)) (.cons (.var 1) .nil))) .nil) .non)))

abbrev n_find_contradiction : List Str := ["table", "goal"]
abbrev p_find_contradiction : List Str := ["table", "goal"]
def b_find_contradiction (K : PySem.W.Frag) (mg : Str → Option Value) (W : World) (g_check_table : PF W) (g_check_goal : PF W) (g_any_contradiction : PF W) : SS ⟨K, mg, W, E0⟩ :=
  (.seq (.drop (.call 1 g_check_table (.cons (.var 0) .nil))) (.seq (.drop (.call 2 g_check_goal (.cons (.var 0) (.cons (.var 1) .nil)))) (.ret (.call 2 g_any_contradiction (.cons (.var 0) (.cons (.var 1) .nil))))))

end Cl

set_option Elab.async false
set_option linter.all false
set_option maxRecDepth 100000
set_option maxHeartbeats 4000000
namespace Mi
def unitC (c : Nat → Option Int) (l : Nat) : Option Int := (c l).map fun _ => 1
theorem unit_locked {c : Nat → Option Int} {m : Cm} : m.locked (unitC c) = m.locked c := by
  unfold Cm.locked unitC
  congr 1
  funext l
  cases c l <;> rfl
theorem unit_contra {c : Nat → Option Int} {m : Cm} : m.contra (unitC c) = m.contra c := by
  unfold Cm.contra
  rw [unit_locked]
theorem unit_pos {c : Nat → Option Int} : CostOk (unitC c) := by
  intro l k e
  unfold unitC at e
  cases h : c l with
  | none => rw [h] at e; cases e
  | some x => rw [h] at e; simp at e; omega
theorem unit_any {c : Nat → Option Int} {ms : List Cm} : anyContra (unitC c) ms = anyContra c ms := by
  unfold anyContra
  congr 2
  funext m
  exact unit_contra
def minSteps (g : Gaps) (N : Nat) (c : Nat → Option Int) : Option Int := (minCost g N (unitC c)).map (·.1)
end Mi
namespace Cl
open PySem L2 PySem.Spec PyProof.Rows
section
variable {K : PySem.W.Frag} {mg : Str → Option Value} {X : PC K} {W : World} {w : W.T}
variable {h wd : Nat} {t : Nat → Nat → Int} {c : Nat → Option Int} {g d : Nat → Nat → Option Int}
variable (K mg W) in
def gc_unit : PF W := runF (C := ⟨K, mg, W, E0⟩) n_with_unit_costs.length (b_with_unit_costs K mg W)
variable (mg X W) in
def gc_minimum_steps : PF W := runF (C := ⟨K, mg, W, E0⟩) n_minimum_steps.length (b_minimum_steps K mg W X.S (gc_check_both K mg W) (gc_any mg X W) (gc_unit K mg W) (gc_cost mg X W) (gi_Solution mg X))
variable (mg X W) in
def gc_find : PF W := runF (C := ⟨K, mg, W, E0⟩) n_find_contradiction.length (b_find_contradiction K mg W (gc_check_table K mg W) (gc_check_goal K mg W) (gc_any mg X W))
theorem unit_side {n : Nat} {f : Nat → Option Int} (hn : n ≤ 1000) {Γ : Ev} (h5 : Γ[5]? = some (some (.dat (.tuple (rng n fun i => optD (f i)))))) (hl : Γ.length = 7) :
    (SE.lc (C := ⟨K, mg, W, E0⟩) (.seq (.var 5)) (.name 6) .yes (.ite (.of (.is (.var 6) .non)) .non (.int 1)) [6] rfl).ev Γ w = some (.ok (.new (.lst (rng n fun i => optD ((f i).map fun _ => 1)))) w) := by
  obtain ⟨a0, a1, a2, a3, a4, a5, a6, rfl⟩ : ∃ a0 a1 a2 a3 a4 a5 a6, Γ = [a0, a1, a2, a3, a4, a5, a6] := by
    match Γ, hl with
    | [a0, a1, a2, a3, a4, a5, a6], _ => exact ⟨_, _, _, _, _, _, _, rfl⟩
  simp at h5
  subst h5
  exact lc_all (n := n) (e := fun i => optD (f i)) (fun i => optD ((f i).map fun _ => 1)) (by omega) (by simp) (by
    intro j hj
    refine ⟨_, rfl, ?_⟩
    cases f j <;> simp [wipeE])
theorem unit_ok (hs : h ≤ 100 ∧ wd ≤ 100) : gc_unit K mg W [.dat (tabD h wd t c)] w = some (.ok (.dat (tabD h wd t (Mi.unitC c))) w) := by
  unfold gc_unit
  refine Wp.run1 ?_
  unfold b_with_unit_costs
  refine Wp.step (by simp [startE]; and_intros <;> rfl) ?_
  refine Wp.step (by simp; and_intros <;> rfl) ?_
  have e := lc_mapA (C := ⟨K, mg, W, E0⟩) (Γ := [some (.dat (tabD h wd t c)), some (.dat (cellsD h wd t)), some (.dat (.list [costsD h c, costsD wd fun k => c (h + k)])), none, none, none, none]) (w := w) (it := .seq (.var 2)) (g := .name 5) (x := .tuple (.lc (.seq (.var 5)) (.name 6) .yes (.ite (.of (.is (.var 6) .non)) .non (.int 1)) [6] rfl)) (vs := [5]) (hg := rfl) (l := [(h, c), (wd, fun k => c (h + k))]) (e := fun p => costsD p.1 p.2) (fun p => costsD p.1 (Mi.unitC p.2)) (by simp) (by simp) (by
    intro p hp
    have hn : p.1 ≤ 1000 := by simp at hp; rcases hp with rfl | rfl <;> simp only <;> omega
    refine ⟨_, rfl, ?_⟩
    simp only [evD_S, cb1_ev, evV_S, wipeE, List.set]
    erw [unit_side (W := W) (n := p.1) (f := p.2) hn rfl rfl]
    rfl)
  refine Wp.step (Γ' := [some (.dat (tabD h wd t c)), some (.dat (cellsD h wd t)), some (.dat (.list [costsD h c, costsD wd fun k => c (h + k)])), some (.dat (costsD h (Mi.unitC c))), some (.dat (costsD wd fun k => Mi.unitC c (h + k))), none, none]) (w' := w) (by
    simp only [unpL_ev, evV_S]
    erw [e]
    simp
    rfl) ?_
  exact Wp.mk (f := .rt _ _) (by simp; try (and_intros <;> rfl)) rfl
theorem minimumSteps (S : SzOk h wd) (ht : TOk h wd t) (hc : COk c) (hg : GOk h wd g) : gc_minimum_steps mg X W [.dat (tabD h wd t c), .dat (goalD h wd g)] w = some (.ok (.dat (optD (Mi.minSteps (Mi.gapsL h wd (gapF t g)) (h + wd) c))) w) := by
  have e1 := @checkBoth K mg W w h wd t c g S ht hc hg
  obtain ⟨_, e2, rfl⟩ := @anyC_ok K mg X W w h wd t c g S
  have e3 := @unit_ok K mg W w h wd t c (by have := S.h2; have := S.w2; omega)
  have e4 := @sol_make K mg X h wd t (Mi.unitC c) g S Mi.unit_pos
  have hu : COk (Mi.unitC c) := fun l x e => by
    unfold Mi.unitC at e
    cases h : c l with
    | none => rw [h] at e; cases e
    | some x => rw [h] at e; simp at e; omega
  have e5 := @cost_ok K mg X W w h wd (Mi.unitC c) (gapF t g) S hu
  unfold gc_minimum_steps
  refine Wp.run1 ?_
  unfold b_minimum_steps
  refine Wp.step (by simp [startE, e1]; and_intros <;> rfl) ?_
  unfold Mi.minSteps Mi.minCost
  cases hr : Mi.reachB (Mi.unitC c) (Mi.allC (Mi.gapsL h wd (gapF t g)) (h + wd)) with
  | true =>
    have ha : Mi.anyContra c (Mi.allC (Mi.gapsL h wd (gapF t g)) (h + wd)) = none := by
      rw [← Mi.unit_any]; exact Mi.anyContra_none.mpr (Mi.reachB_iff.mp hr)
    refine Wp.mk (f := .rt _ _) (by simp [e2, ha, pathD, e3, e4, e5]; and_intros <;> rfl) ?_
    rw [if_pos rfl]; rfl
  | false =>
    have ha : ∃ p, Mi.anyContra c (Mi.allC (Mi.gapsL h wd (gapF t g)) (h + wd)) = some p := by
      cases e : Mi.anyContra c (Mi.allC (Mi.gapsL h wd (gapF t g)) (h + wd)) with
      | some p => exact ⟨p, rfl⟩
      | none =>
        rw [← Mi.unit_any] at e
        have := Mi.reachB_iff.mpr (Mi.anyContra_none.mp e)
        rw [hr] at this; cases this
    obtain ⟨p, ha⟩ := ha
    refine Wp.mk (f := .rt _ _) (by simp [e2, ha, pathD]; and_intros <;> rfl) ?_
    rw [if_neg (by simp)]; rfl
theorem find_ok (S : SzOk h wd) (ht : TOk h wd t) (hc : COk c) (hg : GOk h wd g) : gc_find mg X W [.dat (tabD h wd t c), .dat (goalD h wd g)] w = some (.ok (.dat (pathD (Mi.anyContra c (Mi.allC (Mi.gapsL h wd (gapF t g)) (h + wd))))) w) := by
  have e1 := @checkTable K mg W w h wd t c S ht hc
  have e2 := @checkGoal K mg W w h wd t c g S hg
  obtain ⟨_, e3, rfl⟩ := @anyC_ok K mg X W w h wd t c g S
  simp [gc_find, runF, b_find_contradiction, startE, e1, e2, e3]
end
end Cl

set_option Elab.async false
set_option linter.all false
set_option maxRecDepth 100000
set_option maxHeartbeats 4000000
namespace Cl
open PySem L2 PySem.Spec PyProof.Rows
/-! ### {k: v for a in l for b in m}: a dict comprehension with two fors and no tests -/
abbrev dc2E (kx vx t0 i0 t1 i1 : Expr) (scope : Scope) (pos : Pos) : Expr := .DictComp kx vx [⟨t0, i0, [], 0⟩, ⟨t1, i1, [], 0⟩] scope pos
theorem dc2_out (kx vx t0 i0 t1 i1 : Expr) (scope : Scope) (pos : Pos) (it acc : Value) (env : Env) :
    compTurn (dc2E kx vx t0 i0 t1 i1 scope pos) 0 it acc env = (do
      standAt i0.pos
      match ← pyNext it with
      | none => pure (.done .next)
      | some v =>
        letOwnedTupleGo t0 it v
        assign t0 env v
        let x ← eval i1 env
        standAt i1.pos
        let x ← foldedSetIterable i1 env x
        let _ ← runOwn (.compStart (dc2E kx vx t0 i0 t1 i1 scope pos) 1 (← holding [x] (pyIter x)) acc env) env
        again (.compLoop (dc2E kx vx t0 i0 t1 i1 scope pos) 0 it acc env)) := by rfl
theorem dc2_in (kx vx t0 i0 t1 i1 : Expr) (scope : Scope) (pos : Pos) (it : Value) (D : Addr) (env : Env) :
    compTurn (dc2E kx vx t0 i0 t1 i1 scope pos) 1 it (.ref D) env = (do
      standAt i1.pos
      match ← pyNext it with
      | none => pure (.done .next)
      | some v =>
        letOwnedTupleGo t1 it v
        assign t1 env v
        (do
          let kv ← eval kx env
          let vv ← holding [kv] (eval vx env)
          standAt { kx.pos with endLine := vx.pos.endLine, endCol := vx.pos.endCol }
          holding [kv, vv] (dictSet D kv vv))
        again (.compLoop (dc2E kx vx t0 i0 t1 i1 scope pos) 1 it (.ref D) env)) := by rfl
section
variable {prog : Program} {w : PySem.World} {A : Around} {R : Result → Shared → Prop} {s : Shared} {kx vx t0 i0 t1 i1 : Expr} {scope : Scope} {pos : Pos} {it acc : Value} {D : Addr} {env : Env}
/-- the outer loop: behind each turn the inner one's code ends with the loop's promise -/
theorem dc2_loop0 (hs : ∀ x, foldedSetIterable i1 env x = pure x) (I : Nat → Shared → Prop)
    (turn : ∀ n s, I n s → wpAny (model prog w) A (pyNext it) (fun r s₁ => match r with
      | none => R (.ok .next) s₁
      | some v => wpAny (model prog w) A (letOwnedTupleGo t0 it v) (fun _ s₂ => wpAny (model prog w) A (assign t0 env v) (fun _ s₃ =>
          wpAny (model prog w) A (eval i1 env) (fun x s₄ => wpAny (model prog w) A (pyIter x) (fun it1 s₅ =>
            codeAny (model prog w) A (.compStart (dc2E kx vx t0 i0 t1 i1 scope pos) 1 it1 acc env) (fun r s' => match r with
              | .ok _ => ∃ m, m < n ∧ I m s'
              | .error _ => False) s₅) (notedBy (model prog w) A env fun e s' => R (.error e) s') s₄) (notedBy (model prog w) A env fun e s' => R (.error e) s') s₃)
          (notedBy (model prog w) A env fun e s' => R (.error e) s') s₂) (notedBy (model prog w) A env fun e s' => R (.error e) s') s₁) (notedBy (model prog w) A env fun e s' => R (.error e) s') s)
    (n : Nat) (h : I n s) : codeAny (model prog w) A (.compLoop (dc2E kx vx t0 i0 t1 i1 scope pos) 0 it acc env) R s := by
  refine codeAny_loop rfl I (fun n s hI => ?_) n h
  show wpAny _ A ((compTurn (dc2E kx vx t0 i0 t1 i1 scope pos) 0 it acc env).onRaise (fun x => do noteFrame x env; theTreesLotGoes x)) _ _ s
  refine wpAny_noted ?_
  rw [dc2_out]
  refine wpAny_bind (wpAny_standAt (wpAny_bind (wpAny_mono (turn n s hI) (fun r s₁ h₁ => ?_) fun _ _ z => z)))
  cases r with
  | none => exact wpAny_pure h₁
  | some v =>
    refine wpAny_bind (wpAny_mono h₁ (fun _ s₂ h₂ => ?_) fun _ _ z => z)
    refine wpAny_bind (wpAny_mono h₂ (fun _ s₃ h₃ => ?_) fun _ _ z => z)
    refine wpAny_bind (wpAny_mono h₃ (fun x s₄ h₄ => ?_) fun _ _ z => z)
    refine wpAny_bind (wpAny_standAt (wpAny_bind (wpAny_of_eq (hs x) (wpAny_bind (wpAny_holding (wpAny_mono h₄ (fun it1 s₅ h₅ => ?_) fun _ _ z => z))))))
    refine wpAny_bind (wpAny_runOwn ?_)
    rw [Around.mark_none]
    refine codeAny_mono h₅ fun r s' hr => ?_
    cases r with
    | ok f =>
      first
        | exact wpAny_pure ⟨rfl, hr⟩
        | exact wpAny_bind (wpAny_pure (wpAny_pure ⟨rfl, hr⟩))
    | error e => exact hr.elim
/-- the inner loop -/
theorem dc2_loop1 (I : Nat → Shared → Prop)
    (turn : ∀ n s, I n s → wpAny (model prog w) A (pyNext it) (fun r s₁ => match r with
      | none => R (.ok .next) s₁
      | some v => wpAny (model prog w) A (letOwnedTupleGo t1 it v) (fun _ s₂ => wpAny (model prog w) A (assign t1 env v) (fun _ s₃ =>
          wpAny (model prog w) A (eval kx env) (fun kv s₄ => wpAny (model prog w) A (eval vx env) (fun vv s₅ =>
            wpAny (model prog w) A (dictSet D kv vv) (fun _ s₆ => ∃ m, m < n ∧ I m s₆) (notedBy (model prog w) A env fun e s' => R (.error e) s') s₅) (notedBy (model prog w) A env fun e s' => R (.error e) s') s₄) (notedBy (model prog w) A env fun e s' => R (.error e) s') s₃)
          (notedBy (model prog w) A env fun e s' => R (.error e) s') s₂) (notedBy (model prog w) A env fun e s' => R (.error e) s') s₁) (notedBy (model prog w) A env fun e s' => R (.error e) s') s)
    (n : Nat) (h : I n s) : codeAny (model prog w) A (.compLoop (dc2E kx vx t0 i0 t1 i1 scope pos) 1 it (.ref D) env) R s := by
  refine codeAny_loop rfl I (fun n s hI => ?_) n h
  show wpAny _ A ((compTurn (dc2E kx vx t0 i0 t1 i1 scope pos) 1 it (.ref D) env).onRaise (fun x => do noteFrame x env; theTreesLotGoes x)) _ _ s
  refine wpAny_noted ?_
  rw [dc2_in]
  refine wpAny_bind (wpAny_standAt (wpAny_bind (wpAny_mono (turn n s hI) (fun r s₁ h₁ => ?_) fun _ _ z => z)))
  cases r with
  | none => exact wpAny_pure h₁
  | some v =>
    refine wpAny_bind (wpAny_mono h₁ (fun _ s₂ h₂ => ?_) fun _ _ z => z)
    refine wpAny_bind (wpAny_mono h₂ (fun _ s₃ h₃ => ?_) fun _ _ z => z)
    exact wpAny_bind (wpAny_bind (wpAny_mono h₃ (fun kv s₄ h₄ => wpAny_bind (wpAny_holding (wpAny_mono h₄ (fun vv s₅ h₅ => wpAny_bind (wpAny_standAt (wpAny_holding (wpAny_mono h₅ (fun _ s₆ h₆ => wpAny_pure ⟨rfl, h₆⟩) fun _ _ z => z)))) fun _ _ z => z))) fun _ _ z => z))
/-- the inner loop's start -/
theorem dc2_start1 (h0 : codeAny (model prog w) A (.compLoop (dc2E kx vx t0 i0 t1 i1 scope pos) 1 it acc env) R s)
    (h : wpAny (model prog w) A (pyIter it) (fun it' s' => codeAny (model prog w) A (.compLoop (dc2E kx vx t0 i0 t1 i1 scope pos) 1 it' acc env) R s')
      (notedBy (model prog w) A env fun x s' => R (.error x) s') s) :
    codeAny (model prog w) A (.compStart (dc2E kx vx t0 i0 t1 i1 scope pos) 1 it acc env) R s := by
  refine codeAny_of_tree ?_
  show wpAny _ _ ((compStart (dc2E kx vx t0 i0 t1 i1 scope pos) 1 it acc env).onRaise (fun x => do noteFrame x env; standAt theWindowsPlace)) _ _ s
  refine wpAny_notedAt ?_
  unfold compStart
  show wpAny _ _ (ask >>= _) _ _ s
  refine wpAny_bind (wpAny_askSetting (wpAny_ite ?_))
  split
  · first
      | exact wpAny_bind (wpAny_pure (wpAny_pure (And.intro rfl h0)))
      | exact wpAny_pure (And.intro rfl h0)
  · first
      | exact wpAny_bind (wpAny_rule (wpAny_bind (wpAny_standAt (wpAny_bind (wpAny_mono h (fun it' s' h' => wpAny_pure (And.intro rfl h')) fun _ _ x => x)))))
      | (refine wpAny_bind (wpAny_rule ?_); show wpAny _ _ (standAt i1.pos >>= _) _ _ s; exact wpAny_bind (wpAny_standAt (wpAny_bind (wpAny_mono h (fun it' s' h' => wpAny_pure (And.intro rfl h')) fun _ _ x => x))))
end
end Cl

set_option Elab.async false
set_option linter.all false
set_option maxRecDepth 100000
set_option maxHeartbeats 4000000
namespace Cl
open PySem L2 PySem.Spec PyProof.Rows
/-- the reading of {k: v for a in l for b in m}: D the new dict; behind the inner loop Nx -/
def tDc2 (wi : TI) (g : TG) (wi1 : TI) (g1 : TG) (tk tv : TE) (vs vs1 : List Nat) : TE := fun σ H Q => wi σ H fun J H1 => ∀ D, H1 D = none → ∃ W : Nat → Nat → Hp → Prop, (∃ m, W 0 m (upd H1 D (.dK []))) ∧ ∀ i m H, W i m H →
  (J.stop i H ∧ Q (.ref D) H) ∨ (J.go i H ∧ ∃ Nx : Hp → Prop, (∀ H', Nx H' → ∃ m', m' < m ∧ W (i + 1) m' H') ∧ ∀ x H', J.yld i H x H' → g x (wipe σ vs) H' fun σ2 H2 => wipe σ2 vs = wipe σ vs ∧
    wi1 σ2 H2 fun J1 H4 => ∃ W1 : Nat → Nat → Hp → Prop, (∃ m, W1 0 m H4) ∧ ∀ j k H, W1 j k H →
      (J1.stop j H ∧ Nx H) ∨ (J1.go j H ∧ ∃ Nx1 : Hp → Prop, (∀ H', Nx1 H' → ∃ k', k' < k ∧ W1 (j + 1) k' H') ∧ ∀ x H', J1.yld j H x H' → g1 x (wipe σ2 vs1) H' fun σ3 H5 => wipe σ3 vs1 = wipe σ2 vs1 ∧
        tk σ3 H5 fun y H6 => tv σ3 H6 fun z H7 => ∃ kvs k, y = kV k ∧ H7 D = some (.dK kvs) ∧ kvs.length < sizeLine ∧ Nx1 (upd H7 D (.dK (putK kvs k z)))))
section
variable {X : Cx}
/-- slots: what a block's start knew is known behind -/
theorem wipe_keep {σ σ8 : L2.St} {vs : List Nat} (h : wipe σ8 vs = wipe σ vs) : (wipe σ vs).length = σ8.length ∧ ∀ (j : Nat) v, (wipe σ vs)[j]? = some (some v) → σ8[j]? = some (some v) :=
  ⟨by rw [← h, wipe_length], fun j v e => by rw [← h] at e; exact (wipe_some e).1⟩
theorem dc2_core {pins : List (Addr × Obj)} {s : Shared} {σ : L2.St} {H : Hp} {Q : VK} {kx vx tg iter tg1 iter1 : Expr} {scope : Scope} {own : List (Str × Nat)} {vs1 : List Nat} {pos pos' : Pos} {wi wi1 : TI} {g g1 : TG} {tk tv : TE} {use : Option (Value → Sem Unit)} {Qf : Value → Shared → Prop}
    (hc : X.calm = true) (hN : X.N.Nodup) (I : Inv X pins σ H s) (hi : PI X tg iter wi) (ok : BlkOk X.N X.env.scope scope own) (hv : ∀ i ∈ vs1, i ∈ own.map (·.2))
    (hg : ∀ (s : Shared) (H : Hp) (C : Addr) (cl : List (Str × Addr)) (fp : List Addr), PG (X.blk s H scope (compEnvC scope cl C X.env) fp) tg g)
    (hi1 : ∀ (s : Shared) (H : Hp) (C : Addr) (cl : List (Str × Addr)) (fp : List Addr), PI (X.blk s H scope (compEnvC scope cl C X.env) fp) tg1 iter1 wi1)
    (hg1 : ∀ (s : Shared) (H : Hp) (C : Addr) (cl : List (Str × Addr)) (fp : List Addr), PG (X.blk s H scope (compEnvC scope cl C X.env) fp) tg1 g1)
    (hk : ∀ (s : Shared) (H : Hp) (C : Addr) (cl : List (Str × Addr)) (fp : List Addr), PE (X.blk s H scope (compEnvC scope cl C X.env) fp) kx tk)
    (he : ∀ (s : Shared) (H : Hp) (C : Addr) (cl : List (Str × Addr)) (fp : List Addr), PE (X.blk s H scope (compEnvC scope cl C X.env) fp) vx tv)
    (hs : ∀ x, foldedSetIterable iter X.env x = pure x) (hs1 : ∀ env x, foldedSetIterable iter1 env x = pure x)
    (h : tDc2 wi g wi1 g1 tk tv (own.map (·.2)) vs1 σ H Q)
    (hRR : ∀ D C s' m H', Inv X pins σ H' s' → Q (.ref D) H' → s'.heap.Ns C m → FpOk X pins H' C → compPost (model X.prog X.w) X.A X.xe use Qf (.ref D) C (.ok .next) s') :
    wpAny (model X.prog X.w) X.A (comprehension (dc2E kx vx tg iter tg1 iter1 scope pos) scope X.env pos' newDict false (eval iter X.env) use) Qf X.xe s := by
  have hfree : ∀ y ∈ scope.names, y.2 = .free → ∃ c, X.env.cells.lookup y.1 = some c := fun y hy e => by
    rcases ok.free y hy e with k | k
    · exact I.ok.has _ (.inl k)
    · exact I.ok.has _ (.inr k)
  refine wpAny_comprehension_free (use := use) rfl hs (closure_ok hfree) ok.kind (fun y hy e => by rw [ok.uniq y hy, e])
    (thn (hi.run pins s σ H _ I h) fun xv s1 hx => thn hx fun itv s2 h2 => ?_)
  obtain ⟨it, fp, tn, J, H2, e, I2, T, st2, f2, q⟩ := h2
  subst e
  refine wpAny_newObj_type (newEnv_comp ?_)
  generalize hD : s2.heap.objs.size = D
  have hDn : H2 D = none := I2.hok.fresh (Nat.le_of_eq hD)
  obtain ⟨W, ⟨m0, w0⟩, turn⟩ := q D hDn
  -- the new dict
  generalize hs3 : ({ s2 with heap := s2.heap.push { cls := .type "dict", data := .dict #[] } } : Shared) = s3
  have I3 : Inv X pins σ (upd H2 D (.dK [])) s3 := by
    rw [← hs3]
    refine I2.laid (t' := s2.toks) (fun b o e => Heap.get?_push_of_some _ e) (Nat.le_of_eq hD) ?_
    rw [← hD]
    exact dk_empty s2.heap I2.big
  have h3 : s3.heap = s2.heap.push { cls := .type "dict", data := .dict #[] } := by rw [← hs3]
  have sz : ∀ b ∈ fp, b < s2.heap.objs.size := fun b hb => by
    obtain ⟨o, e, _⟩ := T.obj _ _ st2 b hb
    exact Heap.lt_size e
  have f3 : ∀ b ∈ fp, FpOk X pins (upd H2 D (.dK [])) b ∧ b < s3.heap.objs.size := fun b hb => by
    have hlt := sz b hb
    refine ⟨⟨?_, (f2 b hb).2⟩, by rw [h3, Heap.size_push]; exact Nat.lt_succ_of_lt hlt⟩
    rw [upd_ne (by rw [← hD]; exact Nat.ne_of_lt hlt)]
    exact (f2 b hb).1
  have st3 : tn 0 s3.heap := T.keep _ _ _ st2 fun b _ o e => by rw [h3]; exact Heap.get?_push_of_some _ e
  have I4 := block_start I3 ok hN f3
  have pg := hg s3 (upd H2 D (.dK [])) s3.heap.objs.size (cellsFrom (s3.heap.objs.size + 1) scope.names (cloFrom X.env.cells scope.names [])) fp
  have pk := hk s3 (upd H2 D (.dK [])) s3.heap.objs.size (cellsFrom (s3.heap.objs.size + 1) scope.names (cloFrom X.env.cells scope.names [])) fp
  have pe := he s3 (upd H2 D (.dK [])) s3.heap.objs.size (cellsFrom (s3.heap.objs.size + 1) scope.names (cloFrom X.env.cells scope.names [])) fp
  have pi1 := hi1 s3 (upd H2 D (.dK [])) s3.heap.objs.size (cellsFrom (s3.heap.objs.size + 1) scope.names (cloFrom X.env.cells scope.names [])) fp
  have pg1 := hg1 s3 (upd H2 D (.dK [])) s3.heap.objs.size (cellsFrom (s3.heap.objs.size + 1) scope.names (cloFrom X.env.cells scope.names [])) fp
  show codeAny _ _ (.compStart (dc2E kx vx tg iter tg1 iter1 scope pos) 0 (.ref it) (.ref D) (compEnvC scope (cellsFrom (s3.heap.objs.size + 1) scope.names (cloFrom X.env.cells scope.names [])) s3.heap.objs.size X.env)) (compPost (model X.prog X.w) X.A X.xe use Qf (.ref D) s3.heap.objs.size) { s3 with heap := pushCells (s3.heap.push { cls := .type "dict", data := .dict #[] }) scope.names }
  have nfp : ∀ b ∈ fp, (upd H2 D (.dK [])) b = none := fun b hb => (f3 b hb).1.1
  generalize hce : compEnvC scope (cellsFrom (s3.heap.objs.size + 1) scope.names (cloFrom X.env.cells scope.names [])) s3.heap.objs.size X.env = ce at I4 pg pk pe pi1 pg1 ⊢
  have cL : ce.locals = s3.heap.objs.size := by subst hce; rfl
  generalize hH3 : upd H2 D (.dK []) = H3 at I3 I4 pg pk pe pi1 pg1 w0 nfp f3
  generalize hs4 : ({ s3 with heap := pushCells (s3.heap.push { cls := .type "dict", data := .dict #[] }) scope.names } : Shared) = s4 at I4 ⊢
  have st4 : tn 0 s4.heap := T.keep _ _ _ st3 fun b _ o e => by rw [← hs4]; exact pushCells_keeps _ _ _ _ (Heap.get?_push_of_some _ e)
  have stat : ∀ {σ' : L2.St} {H' : Hp} {s' : Shared}, Inv (X.blk s3 H3 scope ce fp) [] σ' H' s' → (∀ b ∈ fp, H' b = none) → ∀ b ∈ fp, FpOk (X.blk s3 H3 scope ce fp) [] H' b := fun {σ' H' s'} I' hn b hb =>
    ⟨hn b hb, (I'.ok.exf b hb).1, I'.ok.exfs b hb, .inl hb, fun x c e => (I'.ok.exf b hb).2 x c e, fun p hp => absurd (show p ∈ ([] : List (Addr × Obj)) ++ [] from hp) (by simp)⟩
  have loop : codeAny (model X.prog X.w) X.A (.compLoop (dc2E kx vx tg iter tg1 iter1 scope pos) 0 (.ref it) (.ref D) ce) (compPost (model X.prog X.w) X.A X.xe use Qf (.ref D) s3.heap.objs.size) s4 := by
    refine dc2_loop0 (hs1 ce) (fun n s' => ∃ i H', Inv (X.blk s3 H3 scope ce fp) [] (wipe σ (own.map (·.2))) H' s' ∧ tn i s'.heap ∧ (∀ b ∈ fp, H' b = none) ∧ W i n H') ?_ m0 ⟨0, H3, I4, st4, nfp, w0⟩
    rintro n s5 ⟨i, H5, I5, st5, n5, w5⟩
    rcases turn i n H5 w5 with ⟨stop, qq⟩ | ⟨go, Nx, hNx, step⟩
    · refine thnF (T.done (X.blk s3 H3 scope ce fp) rfl rfl rfl hc i [] s5 _ H5 (fun _ _ => False) I5 (stat I5 n5) st5 stop) fun r s6 ⟨hr, I6⟩ => ?_
      subst hr
      have I7 : Inv X pins σ H5 s6 := I3.call' (ch := fp) I6.os I6.base I6.hok I6.bare fun b hb => ⟨(f3 b hb).1.2.2.2.1, (f3 b hb).1.2.1, (f3 b hb).1.2.2.2.2.1, (f3 b hb).1.2.2.2.2.2⟩
      have nC : H5 s3.heap.objs.size = none := by
        have z : H5 ce.locals = none := I6.free
        rw [cL] at z
        exact z
      obtain ⟨m, hn, _⟩ := I6.loc
      have hn : s6.heap.Ns ce.locals m := hn
      rw [cL] at hn
      exact hRR D s3.heap.objs.size s6 m H5 I7 qq hn (I3.fpOk (Nat.le_refl _) nC)
    · refine thnF (T.item (X.blk s3 H3 scope ce fp) rfl rfl rfl hc i [] s5 _ H5 (fun _ _ => False) I5 (stat I5 n5) st5 go) fun r s6 ⟨u, hr, h6⟩ => ?_
      subst hr
      refine thnF h6 fun _ s7 ⟨x, H7, I7, r7, y7, st7, n7⟩ => ?_
      have I7' := I7.pinned (stat I7 n7) (T.obj _ _ st7)
      refine thnF (pg.run _ s7 _ H7 x u _ I7' r7 (step x H7 y7)) fun _ s8 ⟨σ8, H8, I8, hw8, q8⟩ => ?_
      obtain ⟨hl8, hk8⟩ := wipe_keep hw8
      have hk9 : ∀ (j : Nat) v, (wipe σ (own.map (·.2)))[j]? = some (some v) → (wipe σ8 vs1)[j]? = some (some v) := fun j v e => by
        rw [← hw8] at e
        obtain ⟨e1, e2⟩ := wipe_some e
        rw [wipe_out fun z => e2 (hv j z)]
        exact e1
      refine thnF (pi1.run _ s8 σ8 H8 _ I8 q8) fun xv s10 hx => thnF hx fun itv s11 h11 => ?_
      obtain ⟨it1, fp1, tn1, J1, H11, e1, I11, T1, st11, f11, W1, ⟨m1, w1⟩, turn1⟩ := h11
      subst e1
      have stat1 : ∀ {H' : Hp}, (∀ b ∈ fp1, H' b = none) → ∀ b ∈ fp1, FpOk (X.blk s3 H3 scope ce fp) ([] ++ pinsAt fp s7.heap) H' b := fun hn b hb => ⟨hn b hb, (f11 b hb).2⟩
      have loop1 : codeAny (model X.prog X.w) X.A (.compLoop (dc2E kx vx tg iter tg1 iter1 scope pos) 1 (.ref it1) (.ref D) ce)
          (fun r s' => match r with
            | .ok _ => ∃ m, m < n ∧ ∃ i H', Inv (X.blk s3 H3 scope ce fp) [] (wipe σ (own.map (·.2))) H' s' ∧ tn i s'.heap ∧ (∀ b ∈ fp, H' b = none) ∧ W i m H'
            | .error _ => False) s11 := by
        refine dc2_loop1 (fun k s' => ∃ j H', Inv (X.blk s3 H3 scope ce fp) ([] ++ pinsAt fp s7.heap) (wipe σ8 vs1) H' s' ∧ tn1 j s'.heap ∧ (∀ b ∈ fp1, H' b = none) ∧ W1 j k H') ?_ m1 ⟨0, H11, I11.weak (wipe_length _ _) (fun j v e => (wipe_some e).1), st11, fun b hb => (f11 b hb).1, w1⟩
        rintro k s12 ⟨j, H12, I12, st12, n12, w12⟩
        rcases turn1 j k H12 w12 with ⟨stop1, nx1⟩ | ⟨go1, Nx1, hNx1, step1⟩
        · refine thnF (T1.done (X.blk s3 H3 scope ce fp) rfl rfl rfl hc j _ s12 (wipe σ8 vs1) H12 (fun _ _ => False) I12 (stat1 n12) st12 stop1) fun r s13 ⟨hr, I13⟩ => ?_
          subst hr
          obtain ⟨m', hm, w'⟩ := hNx H12 nx1
          have pin' : ∀ b ∈ fp, ∀ o, s7.heap.get? b = some o → s13.heap.get? b = some o ∧ H12 b = none := fun b hb o e =>
            let z := I13.pin (b, o) (List.mem_append_right _ (List.mem_append_right _ (mem_pinsAt hb e)))
            ⟨z.1, z.2.1⟩
          refine ⟨m', hm, i + 1, H12, (I13.unpinned (pins := [])).weak (hl8.trans (wipe_length σ8 vs1).symm) hk9, T.keep _ _ _ st7 fun b hb o e => (pin' b hb o e).1, fun b hb => ?_, w'⟩
          obtain ⟨o, e, _⟩ := T.obj _ _ st7 b hb
          exact (pin' b hb o e).2
        · refine thnF (T1.item (X.blk s3 H3 scope ce fp) rfl rfl rfl hc j _ s12 (wipe σ8 vs1) H12 (fun _ _ => False) I12 (stat1 n12) st12 go1) fun r s13 ⟨u1, hr, h13⟩ => ?_
          subst hr
          refine thnF h13 fun _ s14 ⟨x1, H14, I14, r14, y14, st14, n14⟩ => ?_
          have I14' := I14.pinned (stat1 n14) (T1.obj _ _ st14)
          refine thnF (pg1.run _ s14 (wipe σ8 vs1) H14 x1 u1 _ I14' r14 (step1 x1 H14 y14)) fun _ s15 ⟨σ15, H15, I15, hw15, q15⟩ => ?_
          refine thnF (pk.run _ s15 σ15 H15 _ I15 q15) fun z s16 ⟨yk, H16, I16, r16, q16⟩ => ?_
          refine thnF (pe.run _ s16 σ15 H16 _ I16 q16) fun z2 s17 ⟨yv, H17, I17, r17, kvs, ky, ek, hD17, hz17, nx⟩ => ?_
          subst ek
          refine d_dictSet (X := X.blk s3 H3 scope ce fp) I17 hD17 hz17 r16 r17 fun s18 I18 => ?_
          obtain ⟨m', hm, w'⟩ := hNx1 _ nx
          have pin' : ∀ b ∈ fp1, ∀ o, s14.heap.get? b = some o → s18.heap.get? b = some o ∧ (upd H17 D (.dK (putK kvs ky yv))) b = none := fun b hb o e =>
            let z := I18.pin (b, o) (List.mem_append_right _ (List.mem_append_right _ (mem_pinsAt hb e)))
            ⟨z.1, z.2.1⟩
          obtain ⟨hl15, hk15⟩ := wipe_keep hw15
          refine ⟨m', hm, j + 1, _, I18.unpinned.weak hl15 hk15, T1.keep _ _ _ st14 fun b hb o e => (pin' b hb o e).1, fun b hb => ?_, w'⟩
          obtain ⟨o, e, _⟩ := T1.obj _ _ st14 b hb
          exact (pin' b hb o e).2
      exact dc2_start1 loop1 (T1.self X.A 0 _ _ _ st11 loop1)
  exact codeAny_compStart_dict loop (T.self X.A 0 _ _ _ st4 loop)
theorem pe_dc2 {kx vx tg iter tg1 iter1 : Expr} {scope : Scope} {own : List (Str × Nat)} {vs1 : List Nat} {pos : Pos} {wi wi1 : TI} {g g1 : TG} {tk tv : TE} (hc : X.calm = true) (hN : X.N.Nodup) (hi : PI X tg iter wi) (ok : BlkOk X.N X.env.scope scope own) (hv : ∀ i ∈ vs1, i ∈ own.map (·.2))
    (hg : ∀ (s : Shared) (H : Hp) (C : Addr) (cl : List (Str × Addr)) (fp : List Addr), PG (X.blk s H scope (compEnvC scope cl C X.env) fp) tg g)
    (hi1 : ∀ (s : Shared) (H : Hp) (C : Addr) (cl : List (Str × Addr)) (fp : List Addr), PI (X.blk s H scope (compEnvC scope cl C X.env) fp) tg1 iter1 wi1)
    (hg1 : ∀ (s : Shared) (H : Hp) (C : Addr) (cl : List (Str × Addr)) (fp : List Addr), PG (X.blk s H scope (compEnvC scope cl C X.env) fp) tg1 g1)
    (hk : ∀ (s : Shared) (H : Hp) (C : Addr) (cl : List (Str × Addr)) (fp : List Addr), PE (X.blk s H scope (compEnvC scope cl C X.env) fp) kx tk)
    (he : ∀ (s : Shared) (H : Hp) (C : Addr) (cl : List (Str × Addr)) (fp : List Addr), PE (X.blk s H scope (compEnvC scope cl C X.env) fp) vx tv)
    (hs : ∀ x, foldedSetIterable iter X.env x = pure x := by intro _; rfl) (hs1 : ∀ env x, foldedSetIterable iter1 env x = pure x := by intro _ _; rfl) :
    PE X (dc2E kx vx tg iter tg1 iter1 scope pos) (tDc2 wi g wi1 g1 tk tv (own.map (·.2)) vs1) := by
  refine ⟨fun pins s σ H Q I h => ?_⟩
  rw [arm_eval_DictComp]
  refine dc2_core hc hN I hi ok hv hg hi1 hg1 hk he hs hs1 h fun D C s' m H' I' q hn f => ⟨m, hn, fun h'' sb => ?_⟩
  obtain ⟨f0, f1, f2, f3, f4, f5⟩ := f
  exact ⟨.ref D, H', I'.turned (t' := s'.toks) (fun b o hb e => (sb.2 b hb).trans e) f0 f1 f3 f4 f5, rfl, q⟩
end
end Cl

set_option Elab.async false
set_option linter.all false
set_option maxRecDepth 100000
set_option maxHeartbeats 4000000
namespace Cl
open PySem L2 PySem.Spec PyProof.Rows
def dcEv {T : Type} (g : PyData → Ev → Option Ev) (bk bv : Ev → T → Option (Rs T PyData)) (Γ : Ev) : List PyData → List (Key × PyData) → T → Option (List (Key × PyData) × T)
  | [], acc, w => some (acc, w)
  | d :: r, acc, w => match g d Γ with
    | none => none
    | some Γ1 => match bk Γ1 w with
      | some (.ok (.int i) w1) => match bv Γ1 w1 with
        | some (.ok y w2) => if acc.length < 100000 then dcEv g bk bv Γ r (putP acc (.inl i) y) w2 else none
        | _ => none
      | _ => none
def dc2Ev {T : Type} (g : PyData → Ev → Option Ev) (it1 : Ev → T → Option (Rs T (List PyData))) (g1 : PyData → Ev → Option Ev) (bk bv : Ev → T → Option (Rs T PyData)) (vs1 : List Nat) (Γ : Ev) : List PyData → List (Key × PyData) → T → Option (List (Key × PyData) × T)
  | [], acc, w => some (acc, w)
  | d :: r, acc, w => match g d Γ with
    | none => none
    | some Γ1 => match it1 Γ1 w with
      | some (.ok items w1) => match dcEv g1 bk bv (wipeE Γ1 vs1) items acc w1 with
        | some (acc', w2) => dc2Ev g it1 g1 bk bv vs1 Γ r acc' w2
        | none => none
      | _ => none
theorem wipe_wipe {vs : List Nat} : ∀ (us : List Nat) (τ : L2.St), (∀ i ∈ us, i ∈ vs) → wipe (wipe τ us) vs = wipe τ vs
  | [], τ, _ => rfl
  | u :: us, τ, hu => by
    have e : wipe τ (u :: us) = (wipe τ us).set u none := rfl
    rw [e, wipe_set (hu u (by simp))]
    exact wipe_wipe us τ fun i hi => hu i (List.mem_cons_of_mem _ hi)
def SE.dc2 {C : Cf} (it : SI C) (g : SG C.z) (it1 : SI C.z) (g1 : SG C.z) (a b : SE C.z) (vs vs1 : List Nat) (hg : g.sl.all (fun i => vs.contains i) = true) (hg1 : g1.sl.all (fun i => vs1.contains i) = true) : SE C where
  t := tDc2 it.t g.t it1.t g1.t a.t b.t vs vs1
  ev := fun Γ w => bindR (it.ev Γ w) fun items w1 => match dc2Ev g.asg it1.ev g1.asg a.evD b.evD vs1 (wipeE Γ vs) items [] w1 with
      | some (ys, w2) => some (.ok (.new (.dic ys)) w2)
      | none => none
  ok := by
    intro sE HE s H σ Γ w res S h e Q q
    have hg' : ∀ i ∈ g.sl, i ∈ vs := fun i hi => by
      have := List.all_eq_true.mp hg i hi
      simpa using this
    have hg1' : ∀ i ∈ g1.sl, i ∈ vs1 := fun i hi => by
      have := List.all_eq_true.mp hg1 i hi
      simpa using this
    rcases bindR_cases e with ⟨items, w1, e1, e2⟩ | ⟨x, w1, e1, rfl⟩
    · refine it.ok S h e1 _ fun s1 H1 l1 h1 J wk D hD => ?_
      split at e2
      · rename_i ys w2 e3
        cases e2
        let St : Nat → Hp → Prop := fun i H2 => ∃ s2 w3 acc ds, Le s1 H1 s2 H2 ∧ HO' C.K C.Wd s2 H2 w3 ∧ H2 D = some (.dK acc) ∧ s2.H0 D = none ∧ s2.HW D = none ∧ RpG C.K s2.H0 acc ds ∧ dc2Ev g.asg it1.ev g1.asg a.evD b.evD vs1 (wipeE Γ vs) (items.drop i) ds w3 = some (ys, w2)
        refine ⟨fun i m H2 => m = items.length - i ∧ i ≤ items.length ∧ St i H2, ⟨_, rfl, Nat.zero_le _, s1, w1, [], [], Le.new hD, h1.new hD, upd_same, h1.none0 hD, h1.noneW hD, .nil, e3⟩, ?_⟩
        rintro i m H2 ⟨rfl, hi, s2, w3, acc, ds, l2, h2, eD, n0, nw, ra, e4⟩
        by_cases hlt : i < items.length
        · refine .inr ⟨wk.go h2 l2.h0 hlt, St (i + 1), fun H' z => ⟨_, by omega, rfl, hlt, z⟩, fun x H' y => ?_⟩
          obtain ⟨s3, d, hd, l3, h3, r3⟩ := wk.yld h2 l2.h0 hlt y
          have ed : items.drop i = d :: items.drop (i + 1) := by
            obtain ⟨_, e⟩ := List.getElem?_eq_some_iff.mp hd
            rw [List.drop_eq_getElem_cons hlt, e]
          rw [ed] at e4
          unfold dc2Ev at e4
          have S3 := ((S.le l1).le (l2.trans l3)).wipe vs
          split at e4
          · cases e4
          · rename_i Γ1 e5
            refine g.okT S3 h3.ex r3 e5 _ fun σ3 T4 wp => ⟨by rw [wp vs hg']; exact wipe_wipe vs σ fun _ hi => hi, ?_⟩
            have S4 := T4 s3 H' (Ex.refl _) S3
            have eD3 := l3.fr D _ eD nw
            have n03 := l3.nf D _ eD (NT.dK _) n0
            have nw3 := l3.nw D _ eD nw
            split at e4
            · rename_i items1 w4 e6
              split at e4
              · rename_i ds2 w5 e7
                refine it1.ok S4 h3 e6 _ fun s4 H4 l4 h4 J1 wk1 => ?_
                let St1 : Nat → Hp → Prop := fun j H5 => ∃ s5 w6 acc ds, Le s1 H1 s5 H5 ∧ Ex s4.H0 s5.H0 ∧ HO' C.K C.Wd s5 H5 w6 ∧ H5 D = some (.dK acc) ∧ s5.H0 D = none ∧ s5.HW D = none ∧ RpG C.K s5.H0 acc ds ∧ dcEv g1.asg a.evD b.evD (wipeE Γ1 vs1) (items1.drop j) ds w6 = some (ds2, w5)
                refine ⟨fun j k H5 => k = items1.length - j ∧ j ≤ items1.length ∧ St1 j H5, ⟨_, rfl, Nat.zero_le _, s4, w4, acc, ds, (l2.trans l3).trans l4, Ex.refl _, h4, l4.fr D _ eD3 nw3, l4.nf D _ eD3 (NT.dK _) n03, l4.nw D _ eD3 nw3, (ra.mono l3.h0).mono l4.h0, e7⟩, ?_⟩
                rintro j k H5 ⟨rfl, hj, s5, w6, acc5, ds5, l5, x5, h5, eD5, n05, nw5, ra5, e8⟩
                by_cases hjt : j < items1.length
                · refine .inr ⟨wk1.go h5 x5 hjt, St1 (j + 1), fun H' z => ⟨_, by omega, rfl, hjt, z⟩, fun x1 H6 y1 => ?_⟩
                  obtain ⟨s6, d1, hd1, l6, h6, r6⟩ := wk1.yld h5 x5 hjt y1
                  have ed1 : items1.drop j = d1 :: items1.drop (j + 1) := by
                    obtain ⟨_, e⟩ := List.getElem?_eq_some_iff.mp hd1
                    rw [List.drop_eq_getElem_cons hjt, e]
                  rw [ed1] at e8
                  unfold dcEv at e8
                  have S6 := (T4 s6 H6 (l4.h0.trans (x5.trans l6.h0)) (((S.le l1).le (l5.trans l6)).wipe vs)).wipe vs1
                  split at e8
                  · cases e8
                  · rename_i Γ2 e9
                    refine g1.ok S6 h6.ex r6 e9 _ fun σ6 S7 wp1 => ⟨by rw [wp1 vs1 hg1']; exact wipe_wipe vs1 σ3 fun _ hi => hi, ?_⟩
                    have eD6 := l6.fr D _ eD5 nw5
                    have n06 := l6.nf D _ eD5 (NT.dK _) n05
                    have nw6 := l6.nw D _ eD5 nw5
                    split at e8
                    · rename_i ki w7 e10
                      split at e8
                      · rename_i yv w8 e11
                        split at e8
                        · rename_i hlen
                          refine a.okD S7 h6 e10 _ fun s7 H7 l7 h7 v7 r7 => ?_
                          refine b.okD (S7.le l7) h7 e11 _ fun s8 H8 l8 h8 v8 r8 => ?_
                          have l78 := l7.trans l8
                          have eD8 := l78.fr D _ eD6 nw6
                          have n08 := l78.nf D _ eD6 (NT.dK _) n06
                          have nw8 := l78.nw D _ eD6 nw6
                          have hk : v7 = kV (.inl ki) := by
                            have r7 : Rp C.K s7.H0 v7 (.int ki) := r7
                            cases r7; rfl
                          refine ⟨acc5, .inl ki, hk, eD8, by rw [ra5.length]; exact Nat.lt_of_lt_of_le hlen (by decide), s8, w8, putK acc5 (.inl ki) v8, putP ds5 (.inl ki) yv, ((l5.trans l6).trans l78).mut hD, x5.trans (l6.h0.trans l78.h0), h8.mut n08 nw8, upd_same, n08, nw8, RpG.put _ r8 ((ra5.mono l6.h0).mono l78.h0), e8⟩
                        · cases e8
                      · cases e8
                    · cases e8
                · have ej : j = items1.length := by omega
                  subst ej
                  rw [List.drop_length] at e8
                  cases e8
                  exact .inl ⟨wk1.stop h5 x5, s5, _, acc5, _, l5, h5, eD5, n05, nw5, ra5, e4⟩
              · cases e4
            · cases e4
        · have ei : i = items.length := by omega
          subst ei
          rw [List.drop_length] at e4
          cases e4
          exact .inl ⟨wk.stop h2 l2.h0, q s2 H2 (l1.trans l2) h2 _ ⟨D, .dK acc, rfl, l1.none0 hD, eD, n0, nw, acc, rfl, ra⟩⟩
      · cases e2
    · exact it.ok S h e1 _ q.ex
section
variable {X : Cx} {Wd : World}
theorem ce_dc2 {kx vx tg iter tg1 iter1 : Expr} {scope : Scope} {pos : Pos} {it it1 : SI (cf X Wd)} {g g1 : SG (cf X Wd)} {sa sb : SE (cf X Wd)} (own : List (Str × Nat)) (vs1 : List Nat) {hgs : (g.sl.all fun i => (own.map (·.2)).contains i) = true} {hgs1 : (g1.sl.all fun i => vs1.contains i) = true}
    (hN : X.N.Nodup) (hi : CI X tg iter it) (ok : BlkOk X.N X.env.scope scope own)
    (hg : ∀ (s : Shared) (H : Hp) (C : Addr) (cl : List (Str × Addr)) (fp : List Addr), CG (X.blk s H scope (compEnvC scope cl C X.env) fp) tg g)
    (hi1 : ∀ (s : Shared) (H : Hp) (C : Addr) (cl : List (Str × Addr)) (fp : List Addr), CI (X.blk s H scope (compEnvC scope cl C X.env) fp) tg1 iter1 it1)
    (hg1 : ∀ (s : Shared) (H : Hp) (C : Addr) (cl : List (Str × Addr)) (fp : List Addr), CG (X.blk s H scope (compEnvC scope cl C X.env) fp) tg1 g1)
    (hk : ∀ (s : Shared) (H : Hp) (C : Addr) (cl : List (Str × Addr)) (fp : List Addr), CE (X.blk s H scope (compEnvC scope cl C X.env) fp) kx sa)
    (he : ∀ (s : Shared) (H : Hp) (C : Addr) (cl : List (Str × Addr)) (fp : List Addr), CE (X.blk s H scope (compEnvC scope cl C X.env) fp) vx sb)
    (hv : ∀ i ∈ vs1, i ∈ own.map (·.2) := by decide) (hc : X.calm = true := by rfl) (hs : ∀ x, foldedSetIterable iter X.env x = pure x := by intro _; rfl) (hs1 : ∀ env x, foldedSetIterable iter1 env x = pure x := by intro _ _; rfl) :
    CE X (dc2E kx vx tg iter tg1 iter1 scope pos) (SE.dc2 it g it1 g1 sa sb (own.map (·.2)) vs1 hgs hgs1) := pe_dc2 hc hN hi ok hv hg hi1 hg1 hk he hs hs1
end
end Cl

set_option Elab.async false
set_option linter.all false
set_option maxRecDepth 100000
set_option maxHeartbeats 4000000
namespace Cl
open PySem L2 PySem.Spec PyProof.Rows
theorem sw_dc2 {kx vx : Expr} {gs : List Comprehension} {scope : Scope} {pos py : Pos} {y : Str} {l : Nat} {env : Env} (hk : env.scope.kind = .function) (hy : env.scope.names.lookup y = some .local) (hl : (py.line == pos.line) = true)
    (ha : (scope.names.any fun (n, k) => n == y && (k == .local || k == .cell)) = false) : swapsWith (.DictComp kx vx gs scope pos) (some (.Name y py)) l env = pure true := by
  have ky : env.kindOf y = some .local := hy
  have hb : env.blockKind = .function := by unfold Env.blockKind; rw [hk]; rfl
  unfold swapsWith
  simp only [hb, ky, ha, Expr.pos, hl]
  rfl
section
variable {X : Cx} {Wd : World}
theorem cs_dc2D {kx vx tg iter tg1 iter1 : Expr} {scope : Scope} {pos spos : Pos} {it it1 : SI (cf X Wd)} {g g1 : SG (cf X Wd)} {sa sb : SE (cf X Wd)} (i : Nat) {y : Str} {py : Pos} (own : List (Str × Nat)) (vs1 : List Nat) {hgs : (g.sl.all fun i => (own.map (·.2)).contains i) = true} {hgs1 : (g1.sl.all fun i => vs1.contains i) = true}
    (hN : X.N.Nodup) (hi : CI X tg iter it) (ok : BlkOk X.N X.env.scope scope own)
    (hg : ∀ (s : Shared) (H : Hp) (C : Addr) (cl : List (Str × Addr)) (fp : List Addr), CG (X.blk s H scope (compEnvC scope cl C X.env) fp) tg g)
    (hi1 : ∀ (s : Shared) (H : Hp) (C : Addr) (cl : List (Str × Addr)) (fp : List Addr), CI (X.blk s H scope (compEnvC scope cl C X.env) fp) tg1 iter1 it1)
    (hg1 : ∀ (s : Shared) (H : Hp) (C : Addr) (cl : List (Str × Addr)) (fp : List Addr), CG (X.blk s H scope (compEnvC scope cl C X.env) fp) tg1 g1)
    (hk : ∀ (s : Shared) (H : Hp) (C : Addr) (cl : List (Str × Addr)) (fp : List Addr), CE (X.blk s H scope (compEnvC scope cl C X.env) fp) kx sa)
    (he : ∀ (s : Shared) (H : Hp) (C : Addr) (cl : List (Str × Addr)) (fp : List Addr), CE (X.blk s H scope (compEnvC scope cl C X.env) fp) vx sb)
    (hv : ∀ i ∈ vs1, i ∈ own.map (·.2) := by decide) (hy : X.N[i]? = some y := by rfl) (hyl : X.env.scope.names.lookup y = some .local := by rfl) (hkd : X.env.scope.kind = .function := by rfl) (hl : (py.line == pos.line) = true := by rfl)
    (hn : (scope.names.any fun (n, k) => n == y && (k == .local || k == .cell)) = false := by decide +kernel) (hc : X.calm = true := by rfl) (hs : ∀ x, foldedSetIterable iter X.env x = pure x := by intro _; rfl) (hs1 : ∀ env x, foldedSetIterable iter1 env x = pure x := by intro _ _; rfl) :
    CS X (.Assign [.Name y py] (dc2E kx vx tg iter tg1 iter1 scope pos) spos) (SS.asgD i (SE.dc2 it g it1 g1 sa sb (own.map (·.2)) vs1 hgs hgs1)) := by
  refine ⟨fun pins s σ H D I h => ?_⟩
  rw [exec_Assign_Name_used _ _ _ _ (sw_dc2 hkd hyl hl hn)]
  refine wpAny_bind (wpAny_standAt (wpAny_bind ?_))
  show wpAny _ X.A (do let _ ← comprehension (dc2E kx vx tg iter tg1 iter1 scope pos) scope X.env (firstIterPos [⟨tg, iter, [], 0⟩, ⟨tg1, iter1, [], 0⟩] pos) newDict false (eval iter X.env) (some (assign (.Name y py) X.env))) _ _ s
  have h : tDc2 it.t g.t it1.t g1.t sa.t sb.t (own.map (·.2)) vs1 σ H (fun x H1 => gName i x σ H1 D.nx) := h
  refine wpAny_bind (thn (dc2_core (Qf := fun _ s' => SP X pins D .next s') hc hN I hi ok hv hg hi1 hg1 hk he hs hs1 h fun L C s' m H' I' q hns f => ?_) fun _ s' hq => wpAny_pure (wpAny_pure hq))
  show wpAny _ _ (assign (.Name y py) X.env (.ref L)) _ _ _
  refine wpAny_assign_Name (store_ok2 (v := V.ref L) I' hN hy (.inl hyl) rfl (fun s2 I2 ⟨a, sb, ha⟩ => ?_) (.inr hyl))
  obtain ⟨f0, f1, f2, f3, f4, f5⟩ := f
  have haC : C ≠ a := by
    rcases ha with z | z
    · rw [z]; exact f1
    · exact fun e => f4 y a z e.symm
  refine ⟨m, hns.sameBut sb haC, fun h3 sb3 => ?_⟩
  exact ⟨_, H', I2.turned (t' := s2.toks) (fun b o hb e => (sb3.2 b hb).trans e) f0 f1 f3 f4 f5, q⟩
end
end Cl

set_option Elab.async false
set_option linter.all false
set_option maxRecDepth 100000
set_option maxHeartbeats 4000000
namespace Cl
open PySem L2 PySem.Spec PyProof.Rows
/-! ### list(range(..)) -/
def rLrg2 : R2 := fun x y H Q => ∃ i j, x = .int i ∧ y = .int j ∧ (RgOk i j ∧ ∀ q, H q = none → Q (.ref q) (upd H q (.lst (rgV i j))))
def rLrg1 : V → Hp → VK → Prop := fun x H Q => ∃ n, x = .int n ∧ (RgOk 0 n ∧ ∀ q, H q = none → Q (.ref q) (upd H q (.lst (rgV 0 n))))
def lrgF2 (d e : PyData) : Option Rv := match d, e with
  | .int i, .int j => if -100000 ≤ i ∧ i ≤ 100000 ∧ -100000 ≤ j ∧ j ≤ 100000 then some (.new (.lst (ranD i (j - i).toNat))) else none
  | _, _ => none
def lrgF1 (d : PyData) : Option Rv := match d with
  | .int j => if -100000 ≤ j ∧ j ≤ 100000 then some (.new (.lst (ranD 0 j.toNat))) else none
  | _ => none
theorem rgD {K : PySem.W.Frag} {H : Hp} {i j : Int} : RpA K H (rgV i j) (ranD i (j - i).toNat) := by
  have e1 : rgV i j = ((List.range (j - i).toNat).map fun (k : Nat) => i + (k : Int)).map V.int := by unfold rgV; rw [List.map_map]; rfl
  have e2 : ranD i (j - i).toNat = ((List.range (j - i).toNat).map fun (k : Nat) => i + (k : Int)).map PyData.int := by unfold ranD; rw [List.map_map]; rfl
  rw [e1, e2]
  exact RpA.ofInts _
theorem rgOk_small {i j : Int} (h : -100000 ≤ i ∧ i ≤ 100000 ∧ -100000 ≤ j ∧ j ≤ 100000) : RgOk i j := by
  obtain ⟨h1, h2, h3, h4⟩ := h
  have e : (2 : Int) ^ 62 = 4611686018427387904 := by decide
  have e2 : (2 : Nat) ^ 24 = 16777216 := by decide
  refine ⟨?_, ?_, ?_, ?_, ?_⟩
  · rw [e]; omega
  · rw [e]; omega
  · rw [e]; omega
  · rw [e]; omega
  · rw [e2]; omega
theorem lrg2_ok {C : Cf} : BinOk C rLrg2 lrgF2 := by
  refine ⟨?_⟩
  intro s H w x y d e rv h vx vy ef Q q
  have rx := vx.rp h.ex
  have ry := vy.rp h.ex
  cases d with
  | int i =>
    cases e with
    | int j =>
      cases rx; cases ry
      by_cases hs : -100000 ≤ i ∧ i ≤ 100000 ∧ -100000 ≤ j ∧ j ≤ 100000
      · have e1 : lrgF2 (.int i) (.int j) = some (.new (.lst (ranD i (j - i).toNat))) := if_pos hs
        rw [e1] at ef; cases ef
        exact ⟨i, j, rfl, rfl, rgOk_small hs, fun p hp => q.new h rgD hp⟩
      · have e1 : lrgF2 (.int i) (.int j) = none := if_neg hs
        rw [e1] at ef; cases ef
    | _ => exact nomatch (show (none : Option Rv) = some rv from ef)
  | _ => exact nomatch (show (none : Option Rv) = some rv from ef)
theorem lrg1_ok {C : Cf} : UnOk C rLrg1 lrgF1 := by
  refine ⟨?_⟩
  intro s H w x d rv h vx ef Q q
  have rx := vx.rp h.ex
  cases d with
  | int j =>
    cases rx
    by_cases hs : -100000 ≤ j ∧ j ≤ 100000
    · have e1 : lrgF1 (.int j) = some (.new (.lst (ranD 0 j.toNat))) := if_pos hs
      rw [e1] at ef; cases ef
      refine ⟨j, rfl, rgOk_small ⟨by omega, by omega, hs.1, hs.2⟩, fun p hp => ?_⟩
      have := @rgD C.K s.H0 0 j
      rw [Int.sub_zero] at this
      exact q.new h this hp
    · have e1 : lrgF1 (.int j) = none := if_neg hs
      rw [e1] at ef; cases ef
  | _ => exact nomatch (show (none : Option Rv) = some rv from ef)
@[simp] abbrev SE.lrg2 {C : Cf} (a b : SE C) : SE C := .bin rLrg2 lrgF2 lrg2_ok a b
@[simp] abbrev SE.lrg1 {C : Cf} (a : SE C) : SE C := .un rLrg1 lrgF1 lrg1_ok a
section
variable {X : Cx} {Wd : World} {a b : Expr} {sa sb : SE (cf X Wd)} {pos p p2 pos2 : Pos}
theorem ce_lrg2 (T : Bts X.mg) (ha : CE X a sa) (hb : CE X b sb) (hc : X.calm = true := by rfl) (hg : Gl X "list" := by rfl) (hg2 : Gl X "range" := by rfl) (na : starEach [.Call (.Name "range" p2) [a, b] [] pos2] X.env = (false, eval (.Call (.Name "range" p2) [a, b] [] pos2) X.env) :: starEach [] X.env := by rfl)
    (n1 : starEach [a, b] X.env = (false, eval a X.env) :: starEach [b] X.env := by rfl) (n2 : starEach [b] X.env = (false, eval b X.env) :: starEach [] X.env := by rfl) (hp : (backTo pos2 (starEach [b] X.env)).any (·.1) = false := by rfl) :
    CE X (.Call (.Name "list" p) [.Call (.Name "range" p2) [a, b] [] pos2] [] pos) (SE.lrg2 sa sb) := pe_listRg hc hg T.list (prg_2 hg2 T.range ha hb n1 n2 hp) na
theorem ce_lrg1 (T : Bts X.mg) (ha : CE X a sa) (hc : X.calm = true := by rfl) (hg : Gl X "list" := by rfl) (hg2 : Gl X "range" := by rfl) (na : starEach [.Call (.Name "range" p2) [a] [] pos2] X.env = (false, eval (.Call (.Name "range" p2) [a] [] pos2) X.env) :: starEach [] X.env := by rfl)
    (n1 : starEach [a] X.env = (false, eval a X.env) :: starEach [] X.env := by rfl) :
    CE X (.Call (.Name "list" p) [.Call (.Name "range" p2) [a] [] pos2] [] pos) (SE.lrg1 sa) := pe_listRg hc hg T.list (prg_1 hg2 T.range ha n1) na
end
end Cl

set_option Elab.async false
set_option linter.all false
set_option maxRecDepth 100000
set_option maxHeartbeats 4000000
namespace Cl
open PySem L2 PySem.Spec PyProof.Rows
abbrev n_l_cell_gaps : List Str := ["_law_table", "_law_goal", "_law_result", "_law_count", "_law_row", "_law_k"]
abbrev p_l_cell_gaps : List Str := ["_law_table", "_law_goal"]
def b_l_cell_gaps (K : PySem.W.Frag) (mg : Str → Option Value) (W : World) : SS ⟨K, mg, W, E0⟩ :=
  (.seq (.par2 2 3 (.cons (.lst .nil) (.cons (.len (.var 1)) .nil))) (.seq (.for (.range (.var 3)) (.name 4) (.for (.range (.len (.ix (.var 1) (.var 4)))) (.name 5) (.ite (.of (.isn (.ix (.ix (.var 1) (.var 4)) (.var 5)) .non)) (.app 2 (.tup (.cons (.var 4) (.cons (.add (.var 3) (.var 5)) (.cons (.sub (.ix (.ix (.var 1) (.var 4)) (.var 5)) (.ix (.ix (.ix (.var 0) (.int 0)) (.var 4)) (.var 5))) .nil))))) .nop))) (.ret (.var 2))))

abbrev n_l_rows : List Str := ["_law_costs", "_law_result", "_law_cost", "_law_longer", "_law_delta", "_law_row"]
abbrev p_l_rows : List Str := ["_law_costs"]
def b_l_rows (K : PySem.W.Frag) (mg : Str → Option Value) (W : World) : SS ⟨K, mg, W, E0⟩ :=
  (.seq (.asgD 1 (.lst (.cons (.tup .nil) .nil))) (.seq (.for (.seq (.var 0)) (.name 2) (.seq (.asgD 3 (.lst .nil)) (.seq (.for (.seq (.ite (.of (.isn (.var 2) .non)) (.lrg2 (.sub (.int 0) (.int 4)) (.int 5)) (.lst (.cons (.int 0) .nil)))) (.name 4) (.asgD 3 (.add (.var 3) (.lc (.seq (.var 1)) (.name 5) .yes (.add (.var 5) (.tup (.cons (.var 4) .nil))) [5] rfl)))) (.asgD 1 (.var 3))))) (.ret (.var 1))))

abbrev n_law : List Str := ["_law_script", "_law_state", "_law_table", "_law_costs", "_law_rows_here", "_law_turn", "_law_goal", "_law_totals", "_law_counts", "_law_gaps", "_law_row", "_law_actual", "_law_one", "_law_other", "_law_gap", "_law_k", "_law_delta"]
abbrev p_law : List Str := ["_law_script"]
def b_law (K : PySem.W.Frag) (mg : Str → Option Value) (g_l_random_table : PF Ws) (g_l_line_costs : PF Ws) (g_l_rows : PF Ws) (g_l_random_goal : PF Ws) (g_l_cell_gaps : PF Ws) (g_minimum_cost : PF Ws) (g_minimum_steps : PF Ws) (g_find_contradiction : PF Ws) : SS ⟨K, mg, Ws, E0⟩ :=
  (.seq (.asgD 2 (.call 3 g_l_random_table (.cons (.var 1) (.cons (.int 2) (.cons (.int 3) .nil))))) (.seq (.asgD 3 (.call 1 g_l_line_costs (.cons (.var 2) .nil))) (.seq (.asgD 4 (.call 1 g_l_rows (.cons (.var 3) .nil))) (.seq (.for (.range (.int 3)) (.name 5) (.seq (.par3 6 7 8 (.cons (.call 3 g_l_random_goal (.cons (.var 1) (.cons (.var 2) (.cons (.int 1) .nil)))) (.cons (.lst .nil) (.cons (.lst .nil) .nil)))) (.seq (.frzq 6) (.seq (.asgD 9 (.call 2 g_l_cell_gaps (.cons (.var 2) (.cons (.var 6) .nil)))) (.seq (.for (.seq (.var 4)) (.name 10) (.ite (.of (.eq (.lc (.seq (.var 9)) (.tup 3 (.cons (.name 12) (.cons (.name 13) (.cons (.name 14) .nil)))) (.of (.ne (.add (.ix (.var 10) (.var 12)) (.ix (.var 10) (.var 13))) (.var 14))) (.var 12) [12, 13, 14] rfl) (.lst .nil))) (.seq (.app 7 (.sum (.lc (.range (.len (.var 10))) (.name 15) .yes (.mul (.abs (.ix (.var 10) (.var 15))) (.orI (.ix (.var 3) (.var 15)) (.int 0))) [15] rfl))) (.app 8 (.sum (.lc (.seq (.var 10)) (.name 16) .yes (.abs (.var 16)) [16] rfl)))) .nop)) (.seq (.frzq 6) (.seq (.asgD 11 (.call 2 g_minimum_cost (.cons (.var 2) (.cons (.var 6) .nil)))) (.seq (.ite (.of (.ne (.ite (.of (.is (.var 11) .non)) .non (.ix (.var 11) (.int 0))) (.ite (.of (.ne (.var 7) (.lst .nil))) (.min (.var 7)) .non))) (.ret (.bl false)) .nop) (.seq (.frzq 6) (.seq (.ite (.of (.ne (.call 2 g_minimum_steps (.cons (.var 2) (.cons (.var 6) .nil))) (.ite (.of (.ne (.var 8) (.lst .nil))) (.min (.var 8)) .non))) (.ret (.bl false)) .nop) (.seq (.frzq 6) (.ite (.of (.ne (.is (.call 2 g_find_contradiction (.cons (.var 2) (.cons (.var 6) .nil))) .non) (.ne (.var 7) (.lst .nil)))) (.ret (.bl false)) .nop)))))))))))) (.ret (.bl true))))))

end Cl

set_option Elab.async false
set_option linter.all false
set_option maxRecDepth 100000
set_option maxHeartbeats 4000000
namespace Cl
open PySem L2 PySem.Spec PyProof.Rows
def topS (i : Nat) : Stmt := PySem.Challenge.pw_crosslift_k04_all_shifts_tried.main.body.getD i (.Pass ⟨0, 0, 0, 0⟩)
abbrev restOf (l : List Stmt) : List Stmt := l.tail
abbrev s_is_integer : Stmt := topS 8
theorem sc_is_integer : FnScope n_is_integer p_is_integer (defScope s_is_integer) := ⟨rfl, rfl, rfl, by decide +kernel, rfl, by decide +kernel, by decide +kernel⟩
theorem c_is_integer {P : Program} {w : PySem.World} {K : PySem.W.Frag} {mg : Str → Option Value} {base : Heap} {k : Nat} {W : World} (T : Bts mg) {f : Addr} {cdv : Value} {A : Around} {outer : List Env} {s : Shared} {H : Hp} {E : XK}
    (hr : Room k (A.deeper (envOfC "is_integer" (defScope s_is_integer) s.heap.objs.size f cdv))) :
    CSs (cxOf CX0 P w K mg base n_is_integer "is_integer" (defScope s_is_integer) f cdv A outer s H E).nox (defBody s_is_integer) (b_is_integer K mg W) :=
  (css_one (cs_ret (ce_and (ce_isi_int T (ce_var 0)) (ce_and (ce_not (ce_isi_bool T (ce_var 0))) (ce_one (ce_chain_le_le (ce_var 1) (ce_var 0) (ce_var 2)))))))

abbrev s_is_cell : Stmt := topS 9
theorem sc_is_cell : FnScope n_is_cell p_is_cell (defScope s_is_cell) := ⟨rfl, rfl, rfl, by decide +kernel, rfl, by decide +kernel, by decide +kernel⟩
theorem c_is_cell {P : Program} {w : PySem.World} {K : PySem.W.Frag} {mg : Str → Option Value} {base : Heap} {k : Nat} {W : World} {g_is_integer : PF W} (T : Bts mg) {u_MAX_VALUE : Value} (m_MAX_VALUE : mg "MAX_VALUE" = some u_MAX_VALUE) (r_MAX_VALUE : RelV v_MAX_VALUE u_MAX_VALUE) (F_is_integer : Fn P w K mg base W k "is_integer" 3 g_is_integer) {f : Addr} {cdv : Value} {A : Around} {outer : List Env} {s : Shared} {H : Hp} {E : XK}
    (hr : Room k (A.deeper (envOfC "is_cell" (defScope s_is_cell) s.heap.objs.size f cdv))) :
    CSs (cxOf CX0 P w K mg base n_is_cell "is_cell" (defScope s_is_cell) f cdv A outer s H E).nox (defBody s_is_cell) (b_is_cell K mg W g_is_integer) :=
  (css_one (cs_ret (ce_call F_is_integer hr (ca_cons (ce_var 0) (ca_cons (ce_neg (ce_glob m_MAX_VALUE r_MAX_VALUE)) (ca_cons (ce_glob m_MAX_VALUE r_MAX_VALUE) ca_nil))))))

abbrev s_is_cost : Stmt := topS 10
theorem sc_is_cost : FnScope n_is_cost p_is_cost (defScope s_is_cost) := ⟨rfl, rfl, rfl, by decide +kernel, rfl, by decide +kernel, by decide +kernel⟩
theorem c_is_cost {P : Program} {w : PySem.World} {K : PySem.W.Frag} {mg : Str → Option Value} {base : Heap} {k : Nat} {W : World} {g_is_integer : PF W} (T : Bts mg) {u_MAX_COST : Value} (m_MAX_COST : mg "MAX_COST" = some u_MAX_COST) (r_MAX_COST : RelV v_MAX_COST u_MAX_COST) (F_is_integer : Fn P w K mg base W k "is_integer" 3 g_is_integer) {f : Addr} {cdv : Value} {A : Around} {outer : List Env} {s : Shared} {H : Hp} {E : XK}
    (hr : Room k (A.deeper (envOfC "is_cost" (defScope s_is_cost) s.heap.objs.size f cdv))) :
    CSs (cxOf CX0 P w K mg base n_is_cost "is_cost" (defScope s_is_cost) f cdv A outer s H E).nox (defBody s_is_cost) (b_is_cost K mg W g_is_integer) :=
  (css_one (cs_ret (ce_or (ce_is (ce_var 0) ce_non) (ce_one (ce_call F_is_integer hr (ca_cons (ce_var 0) (ca_cons ce_int (ca_cons (ce_glob m_MAX_COST r_MAX_COST) ca_nil))))))))

abbrev s_check_costs : Stmt := topS 11
theorem sc_check_costs : FnScope n_check_costs p_check_costs (defScope s_check_costs) := ⟨rfl, rfl, rfl, by decide +kernel, rfl, by decide +kernel, by decide +kernel⟩
theorem c_check_costs {P : Program} {w : PySem.World} {K : PySem.W.Frag} {mg : Str → Option Value} {base : Heap} {k : Nat} {W : World} {g_is_cost : PF W} (T : Bts mg) (F_is_cost : Fn P w K mg base W k "is_cost" 1 g_is_cost) {f : Addr} {cdv : Value} {A : Around} {outer : List Env} {s : Shared} {H : Hp} {E : XK}
    (hr : Room k (A.deeper (envOfC "check_costs" (defScope s_check_costs) s.heap.objs.size f cdv))) :
    CSs (cxOf CX0 P w K mg base n_check_costs "check_costs" (defScope s_check_costs) f cdv A outer s H E).nox (defBody s_check_costs) (b_check_costs K mg W g_is_cost) :=
  (css_cons (cs_if (ct_not (ct_val (ce_isi_tuple T (ce_var 1)))) css_never css_nil) (css_cons (cs_for PassesOwn.never (ci_enum T (ce_var 1)) (cg_tup (cgs_cons (cg_name 3 sc_check_costs.nd) (cgs_cons (cg_name 4 sc_check_costs.nd) cgs_nil))) (css_one (cs_if (ct_w (cw_or (ct_eq hr (ce_var 3) (ce_var 2)) (cw_or1 (ct_not (ct_val (ce_call F_is_cost hr (ca_cons (ce_var 4) ca_nil))))))) css_never css_nil))) (css_one (cs_if (ct_lt (ce_len T (ce_var 1)) (ce_var 2)) css_never css_nil))))

abbrev s_is_row : Stmt := topS 12
theorem sc_is_row : FnScope n_is_row p_is_row (defScope s_is_row) := ⟨rfl, rfl, rfl, by decide +kernel, rfl, by decide +kernel, by decide +kernel⟩
theorem c_is_row {P : Program} {w : PySem.World} {K : PySem.W.Frag} {mg : Str → Option Value} {base : Heap} {k : Nat} {W : World} {g_is_cell : PF W} (T : Bts mg) (F_is_cell : Fn P w K mg base W k "is_cell" 1 g_is_cell) {f : Addr} {cdv : Value} {A : Around} {outer : List Env} {s : Shared} {H : Hp} {E : XK}
    (hr : Room k (A.deeper (envOfC "is_row" (defScope s_is_row) s.heap.objs.size f cdv))) :
    CSs (cxOf CX0 P w K mg base n_is_row "is_row" (defScope s_is_row) f cdv A outer s H E).nox (defBody s_is_row) (b_is_row K mg W g_is_cell) :=
  (css_one (cs_ret (ce_and (ce_isi_tuple T (ce_var 0)) (ce_and (ce_eq hr (ce_len T (ce_var 0)) (ce_var 1)) (ce_one (ce_all T (ce_lc [("value", 2)] sc_is_row.nd (ci_seq (ce_var 0)) (by exact blkOk_by (N := n_is_row) (sc := defScope s_is_row) (by decide +kernel)) (fun _ _ _ _ _ => (cg_name 2 sc_is_row.nd)) (fun _ _ _ _ _ => cts_nil) (fun _ _ _ _ _ => (ce_call F_is_cell hr (ca_cons (ce_var 2) ca_nil))))))))))

abbrev s_check_cells : Stmt := topS 13
theorem sc_check_cells : FnScope n_check_cells p_check_cells (defScope s_check_cells) := ⟨rfl, rfl, rfl, by decide +kernel, rfl, by decide +kernel, by decide +kernel⟩
theorem c_check_cells {P : Program} {w : PySem.World} {K : PySem.W.Frag} {mg : Str → Option Value} {base : Heap} {k : Nat} {W : World} {g_is_row : PF W} (T : Bts mg) {u_MAX_LINES : Value} (m_MAX_LINES : mg "MAX_LINES" = some u_MAX_LINES) (r_MAX_LINES : RelV v_MAX_LINES u_MAX_LINES) (F_is_row : Fn P w K mg base W k "is_row" 2 g_is_row) {f : Addr} {cdv : Value} {A : Around} {outer : List Env} {s : Shared} {H : Hp} {E : XK}
    (hr : Room k (A.deeper (envOfC "check_cells" (defScope s_check_cells) s.heap.objs.size f cdv))) :
    CSs (cxOf CX0 P w K mg base n_check_cells "check_cells" (defScope s_check_cells) f cdv A outer s H E).nox (defBody s_check_cells) (b_check_cells K mg W g_is_row) :=
  (css_cons (cs_if (ct_w (cw_or (ct_not (ct_val (ce_isi_tuple T (ce_var 0)))) (cw_or1 (ct_eq hr (ce_var 0) (ce_tup ca_nil))))) css_never css_nil) (css_cons (cs_asgD 1 sc_check_cells.nd (ce_ite (ct_val (ce_isi_tuple T (ce_ix (ce_var 0) ce_int))) (ce_len T (ce_ix (ce_var 0) ce_int)) ce_int)) (css_one (cs_for PassesOwn.never (ci_enum T (ce_var 0)) (cg_tup (cgs_cons (cg_name 2 sc_check_cells.nd) (cgs_cons (cg_name 3 sc_check_cells.nd) cgs_nil))) (css_one (cs_if (ct_w (cw_or (ct_eq hr (ce_var 2) (ce_glob m_MAX_LINES r_MAX_LINES)) (cw_or (ct_not (ct_chain_le_le ce_int (ce_var 1) (ce_glob m_MAX_LINES r_MAX_LINES))) (cw_or1 (ct_not (ct_val (ce_call F_is_row hr (ca_cons (ce_var 3) (ca_cons (ce_var 1) ca_nil))))))))) css_never css_nil))))))

abbrev s_check_table : Stmt := topS 14
theorem sc_check_table : FnScope n_check_table p_check_table (defScope s_check_table) := ⟨rfl, rfl, rfl, by decide +kernel, rfl, by decide +kernel, by decide +kernel⟩
theorem c_check_table {P : Program} {w : PySem.World} {K : PySem.W.Frag} {mg : Str → Option Value} {base : Heap} {k : Nat} {W : World} {g_check_cells : PF W} {g_check_costs : PF W} (T : Bts mg) (F_check_cells : Fn P w K mg base W k "check_cells" 1 g_check_cells) (F_check_costs : Fn P w K mg base W k "check_costs" 3 g_check_costs) {f : Addr} {cdv : Value} {A : Around} {outer : List Env} {s : Shared} {H : Hp} {E : XK}
    (hr : Room k (A.deeper (envOfC "check_table" (defScope s_check_table) s.heap.objs.size f cdv))) :
    CSs (cxOf CX0 P w K mg base n_check_table "check_table" (defScope s_check_table) f cdv A outer s H E).nox (defBody s_check_table) (b_check_table K mg W g_check_cells g_check_costs) :=
  (css_cons (cs_if (ct_w (cw_or (ct_not (ct_val (ce_isi_tuple T (ce_var 0)))) (cw_or1 (ct_ne hr (ce_len T (ce_var 0)) ce_int)))) css_never css_nil) (css_cons (cs_unp (cg_tup (cgs_cons (cg_name 1 sc_check_table.nd) (cgs_cons (cg_name 2 sc_check_table.nd) (cgs_cons (cg_name 3 sc_check_table.nd) cgs_nil)))) (ce_var 0)) (css_cons (cs_drop (ce_call F_check_cells hr (ca_cons (ce_var 1) ca_nil))) (css_cons (cs_drop (ce_call F_check_costs hr (ca_cons ce_int (ca_cons (ce_var 2) (ca_cons (ce_len T (ce_var 1)) ca_nil))))) (css_one (cs_drop (ce_call F_check_costs hr (ca_cons ce_int (ca_cons (ce_var 3) (ca_cons (ce_len T (ce_ix (ce_var 1) ce_int)) ca_nil))))))))))

abbrev s_check_goal : Stmt := topS 15
theorem sc_check_goal : FnScope n_check_goal p_check_goal (defScope s_check_goal) := ⟨rfl, rfl, rfl, by decide +kernel, rfl, by decide +kernel, by decide +kernel⟩
theorem c_check_goal {P : Program} {w : PySem.World} {K : PySem.W.Frag} {mg : Str → Option Value} {base : Heap} {k : Nat} {W : World} {g_is_cell : PF W} (T : Bts mg) (F_is_cell : Fn P w K mg base W k "is_cell" 1 g_is_cell) {f : Addr} {cdv : Value} {A : Around} {outer : List Env} {s : Shared} {H : Hp} {E : XK}
    (hr : Room k (A.deeper (envOfC "check_goal" (defScope s_check_goal) s.heap.objs.size f cdv))) :
    CSs (cxOf CX0 P w K mg base n_check_goal "check_goal" (defScope s_check_goal) f cdv A outer s H E).nox (defBody s_check_goal) (b_check_goal K mg W g_is_cell) :=
  (css_cons (cs_par2 2 3 sc_check_goal.nd (cm_cons (ce_len T (ce_ix (ce_var 0) ce_int)) (cm_cons (ce_len T (ce_ix (ce_ix (ce_var 0) ce_int) ce_int)) cm_nil))) (css_cons (cs_if (ct_not (ct_val (ce_isi_tuple T (ce_var 1)))) css_never css_nil) (css_cons (cs_for PassesOwn.never (ci_enum T (ce_var 1)) (cg_tup (cgs_cons (cg_name 4 sc_check_goal.nd) (cgs_cons (cg_name 5 sc_check_goal.nd) cgs_nil))) (css_cons (cs_if (ct_w (cw_or (ct_eq hr (ce_var 4) (ce_var 2)) (cw_or1 (ct_not (ct_val (ce_isi_tuple T (ce_var 5))))))) css_never css_nil) (css_cons (cs_for PassesOwn.never (ci_enum T (ce_var 5)) (cg_tup (cgs_cons (cg_name 6 sc_check_goal.nd) (cgs_cons (cg_name 7 sc_check_goal.nd) cgs_nil))) (css_one (cs_if (ct_w (cw_or (ct_eq hr (ce_var 6) (ce_var 3)) (cw_or1 (ct_not (ct_w (cw_or (ct_is (ce_var 7) ce_non) (cw_or1 (ct_val (ce_call F_is_cell hr (ca_cons (ce_var 7) ca_nil)))))))))) css_never css_nil))) (css_one (cs_if (ct_lt (ce_len T (ce_var 5)) (ce_var 3)) css_never css_nil))))) (css_one (cs_if (ct_lt (ce_len T (ce_var 1)) (ce_var 2)) css_never css_nil)))))

abbrev s_line_costs : Stmt := topS 16
theorem sc_line_costs : FnScope n_line_costs p_line_costs (defScope s_line_costs) := ⟨rfl, rfl, rfl, by decide +kernel, rfl, by decide +kernel, by decide +kernel⟩
theorem c_line_costs {P : Program} {w : PySem.World} {K : PySem.W.Frag} {mg : Str → Option Value} {base : Heap} {k : Nat} {W : World} (T : Bts mg) {f : Addr} {cdv : Value} {A : Around} {outer : List Env} {s : Shared} {H : Hp} {E : XK}
    (hr : Room k (A.deeper (envOfC "line_costs" (defScope s_line_costs) s.heap.objs.size f cdv))) :
    CSs (cxOf CX0 P w K mg base n_line_costs "line_costs" (defScope s_line_costs) f cdv A outer s H E).nox (defBody s_line_costs) (b_line_costs K mg W) :=
  (css_one (cs_ret (ce_add (ce_ix (ce_var 0) ce_int) (ce_ix (ce_var 0) ce_int))))

abbrev s_cell_gaps : Stmt := topS 17
theorem sc_cell_gaps : FnScope n_cell_gaps p_cell_gaps (defScope s_cell_gaps) := ⟨rfl, rfl, rfl, by decide +kernel, rfl, by decide +kernel, by decide +kernel⟩
theorem c_cell_gaps {P : Program} {w : PySem.World} {K : PySem.W.Frag} {mg : Str → Option Value} {base : Heap} {k : Nat} {W : World} (T : Bts mg) {f : Addr} {cdv : Value} {A : Around} {outer : List Env} {s : Shared} {H : Hp} {E : XK}
    (hr : Room k (A.deeper (envOfC "cell_gaps" (defScope s_cell_gaps) s.heap.objs.size f cdv))) :
    CSs (cxOf CX0 P w K mg base n_cell_gaps "cell_gaps" (defScope s_cell_gaps) f cdv A outer s H E).nox (defBody s_cell_gaps) (b_cell_gaps K mg W) :=
  (css_cons (cs_asg 2 sc_cell_gaps.nd ce_dnewT) (css_cons (cs_for PassesOwn.never (ci_enum T (ce_var 1)) (cg_tup (cgs_cons (cg_name 3 sc_cell_gaps.nd) (cgs_cons (cg_name 4 sc_cell_gaps.nd) cgs_nil))) (css_one (cs_for PassesOwn.never (ci_enum T (ce_var 4)) (cg_tup (cgs_cons (cg_name 5 sc_cell_gaps.nd) (cgs_cons (cg_name 6 sc_cell_gaps.nd) cgs_nil))) (css_one (cs_if (ct_isn (ce_var 6) ce_non) (css_one (cs_dputT 2 hr (ca_cons (ce_var 3) (ca_cons (ce_add (ce_len T (ce_var 1)) (ce_var 5)) ca_nil)) (ce_sub (ce_var 6) (ce_ix (ce_ix (ce_ix (ce_var 0) ce_int) (ce_var 3)) (ce_var 5))))) css_nil))))) (css_one (cs_ret (ce_var 2)))))

abbrev s_Component___init__ : Stmt := inClass (topS 19) 0
theorem sc_Component___init__ : FnScope n_Component___init__ p_Component___init__ (defScope s_Component___init__) := ⟨rfl, rfl, rfl, by decide +kernel, rfl, by decide +kernel, by decide +kernel⟩
theorem c_Component___init__ {P : Program} {w : PySem.World} {K : PySem.W.Frag} {mg : Str → Option Value} {base : Heap} {k : Nat} {A_Component : Addr} {g_line_costs : PF (Wc A_Component)} {g_Component_neighbors_h : PF (Wc A_Component)} {g_Component_path_to_h : PF (Wc A_Component)} (T : Bts mg) (hc_Component : Cls K A_Component) (hn_Component_gaps : NoAttr K A_Component "gaps") (hn_Component_costs : NoAttr K A_Component "costs") (hn_Component_offsets : NoAttr K A_Component "offsets") (hn_Component_signs : NoAttr K A_Component "signs") (hn_Component_parents : NoAttr K A_Component "parents") (hn_Component_cycle : NoAttr K A_Component "cycle") (hn_Component_lines : NoAttr K A_Component "lines") (F_line_costs : Fn P w K mg base (Wc A_Component) k "line_costs" 1 g_line_costs) (F_Component_neighbors_h : FnM P w K mg base (Wc A_Component) k A_Component "neighbors" 1 g_Component_neighbors_h) (F_Component_path_to_h : FnM P w K mg base (Wc A_Component) k A_Component "path_to" 1 g_Component_path_to_h) {f : Addr} {cdv : Value} {A : Around} {outer : List Env} {s : Shared} {H : Hp} {E : XK}
    (hr : Room k (A.deeper (envOfC "Component.__init__" (defScope s_Component___init__) s.heap.objs.size f cdv))) :
    CSs (cxOf CX0 P w K mg base n_Component___init__ "Component.__init__" (defScope s_Component___init__) f cdv A outer s H E).nox (defBody s_Component___init__) (b_Component___init__ K mg A_Component hc_Component hn_Component_gaps hn_Component_costs hn_Component_offsets hn_Component_signs hn_Component_parents hn_Component_cycle hn_Component_lines g_line_costs g_Component_neighbors_h g_Component_path_to_h) :=
  (css_cons (cs_cset 0 (ce_var 2)) (css_cons (cs_cset 0 (ce_call F_line_costs hr (ca_cons (ce_var 1) ca_nil))) (css_cons (cs_csetO 0 (ce_disp1 3 ce_int)) (css_cons (cs_csetO 0 (ce_disp1 3 ce_int)) (css_cons (cs_csetO 0 (ce_disp1 3 ce_non)) (css_cons (cs_cset 0 ce_non) (css_cons (cs_asg 4 sc_Component___init__.nd (ce_lst (ca_cons (ce_var 3) ca_nil))) (css_cons (cs_while 20 PassesOwn.never (ct_ne hr (ce_var 4) (ce_lst ca_nil)) (css_cons (cs_pop0 5 4 sc_Component___init__.nd) (css_one (cs_for PassesOwn.never (ci_seq (ce_cmeth 0 F_Component_neighbors_h hr (ca_cons (ce_var 5) ca_nil))) (cg_tup (cgs_cons (cg_name 6 sc_Component___init__.nd) (cgs_cons (cg_name 7 sc_Component___init__.nd) cgs_nil))) (css_one (cs_if (ct_cnin hr 0 6) (css_cons (cs_cput hr 0 6 (ce_sub (ce_var 7) (ce_cget hr 0 5))) (css_cons (cs_cput hr 0 6 (ce_sub ce_int (ce_cget hr 0 5))) (css_cons (cs_cput hr 0 6 (ce_var 5)) (css_one (cs_app' 4 (ce_var 6)))))) (css_one (cs_if (ct_w (cw_and (ct_is (ce_cfld 0) ce_non) (cw_and1 (ct_ne hr (ce_add (ce_cget hr 0 6) (ce_cget hr 0 5)) (ce_var 7))))) (css_one (cs_cset 0 (ce_add (ce_cmeth 0 F_Component_path_to_h hr (ca_cons (ce_var 5) ca_nil)) (ce_rev (ce_cmeth 0 F_Component_path_to_h hr (ca_cons (ce_var 6) ca_nil)))))) css_nil)))))))) (css_one (cs_cset 0 (ce_csorted T 0)))))))))))

abbrev s_Component_neighbors_h : Stmt := inClass (topS 19) 1
theorem sc_Component_neighbors_h : FnScope n_Component_neighbors_h p_Component_neighbors_h (defScope s_Component_neighbors_h) := ⟨rfl, rfl, rfl, by decide +kernel, rfl, by decide +kernel, by decide +kernel⟩
theorem c_Component_neighbors_h {P : Program} {w : PySem.World} {K : PySem.W.Frag} {mg : Str → Option Value} {base : Heap} {k : Nat} {A_Component : Addr} (T : Bts mg) (hc_Component : Cls K A_Component) (hn_Component_gaps : NoAttr K A_Component "gaps") {f : Addr} {cdv : Value} {A : Around} {outer : List Env} {s : Shared} {H : Hp} {E : XK}
    (hr : Room k (A.deeper (envOfC "Component.neighbors" (defScope s_Component_neighbors_h) s.heap.objs.size f cdv))) :
    CSs (cxOf CX0 P w K mg base n_Component_neighbors_h "Component.neighbors" (defScope s_Component_neighbors_h) f cdv A outer s H E).nox (defBody s_Component_neighbors_h) (b_Component_neighbors_h K mg A_Component hc_Component hn_Component_gaps) :=
  (css_cons (cs_lcD 2 [("row", 3), ("column", 4), ("gap", 5)] sc_Component_neighbors_h.nd (ci_itemsF (ce_cfld 0)) (by exact blkOk_by (N := n_Component_neighbors_h) (sc := defScope s_Component_neighbors_h) (by decide +kernel)) (fun _ _ _ _ _ => (cg_tup (cgs_cons (cg_tup (cgs_cons (cg_name 3 sc_Component_neighbors_h.nd) (cgs_cons (cg_name 4 sc_Component_neighbors_h.nd) cgs_nil))) (cgs_cons (cg_name 5 sc_Component_neighbors_h.nd) cgs_nil)))) (fun _ _ _ _ _ => (cts_one (ct_eq hr (ce_var 3) (ce_var 1)))) (fun _ _ _ _ _ => (ce_tup (ca_cons (ce_var 4) (ca_cons (ce_var 5) ca_nil))))) (css_one (cs_ret (ce_add (ce_var 2) (ce_lc [("row", 3), ("column", 4), ("gap", 5)] sc_Component_neighbors_h.nd (ci_itemsF (ce_cfld 0)) (by exact blkOk_by (N := n_Component_neighbors_h) (sc := defScope s_Component_neighbors_h) (by decide +kernel)) (fun _ _ _ _ _ => (cg_tup (cgs_cons (cg_tup (cgs_cons (cg_name 3 sc_Component_neighbors_h.nd) (cgs_cons (cg_name 4 sc_Component_neighbors_h.nd) cgs_nil))) (cgs_cons (cg_name 5 sc_Component_neighbors_h.nd) cgs_nil)))) (fun _ _ _ _ _ => (cts_one (ct_eq hr (ce_var 4) (ce_var 1)))) (fun _ _ _ _ _ => (ce_tup (ca_cons (ce_var 3) (ca_cons (ce_var 5) ca_nil)))))))))

abbrev s_Component_path_to : Stmt := inClass (topS 19) 2
theorem sc_Component_path_to : FnScope n_Component_path_to p_Component_path_to (defScope s_Component_path_to) := ⟨rfl, rfl, rfl, by decide +kernel, rfl, by decide +kernel, by decide +kernel⟩
theorem c_Component_path_to {P : Program} {w : PySem.World} {K : PySem.W.Frag} {mg : Str → Option Value} {base : Heap} {k : Nat} {W : World} {A_Component : Addr} (T : Bts mg) (hc_Component : Cls K A_Component) (hn_Component_parents : NoAttr K A_Component "parents") {f : Addr} {cdv : Value} {A : Around} {outer : List Env} {s : Shared} {H : Hp} {E : XK}
    (hr : Room k (A.deeper (envOfC "Component.path_to" (defScope s_Component_path_to) s.heap.objs.size f cdv))) :
    CSs (cxOf CX0 P w K mg base n_Component_path_to "Component.path_to" (defScope s_Component_path_to) f cdv A outer s H E).nox (defBody s_Component_path_to) (b_Component_path_to K mg W A_Component hc_Component hn_Component_parents) :=
  (css_cons (cs_asg 2 sc_Component_path_to.nd (ce_lst ca_nil)) (css_cons (cs_while 20 PassesOwn.never (ct_isn (ce_var 1) ce_non) (css_cons (cs_app' 2 (ce_var 1)) (css_one (cs_asgD 1 sc_Component_path_to.nd (ce_dget hr (ce_fld (ce_var 0)) (ce_var 1)))))) (css_one (cs_ret (ce_rev (ce_var 2))))))

abbrev s_Component_path_to_h : Stmt := inClass (topS 19) 2
theorem sc_Component_path_to_h : FnScope n_Component_path_to_h p_Component_path_to_h (defScope s_Component_path_to_h) := ⟨rfl, rfl, rfl, by decide +kernel, rfl, by decide +kernel, by decide +kernel⟩
theorem c_Component_path_to_h {P : Program} {w : PySem.World} {K : PySem.W.Frag} {mg : Str → Option Value} {base : Heap} {k : Nat} {A_Component : Addr} (T : Bts mg) (hc_Component : Cls K A_Component) (hn_Component_parents : NoAttr K A_Component "parents") {f : Addr} {cdv : Value} {A : Around} {outer : List Env} {s : Shared} {H : Hp} {E : XK}
    (hr : Room k (A.deeper (envOfC "Component.path_to" (defScope s_Component_path_to_h) s.heap.objs.size f cdv))) :
    CSs (cxOf CX0 P w K mg base n_Component_path_to_h "Component.path_to" (defScope s_Component_path_to_h) f cdv A outer s H E).nox (defBody s_Component_path_to_h) (b_Component_path_to_h K mg A_Component hc_Component hn_Component_parents) :=
  (css_cons (cs_asg 2 sc_Component_path_to_h.nd (ce_lst ca_nil)) (css_cons (cs_while 20 PassesOwn.never (ct_isn (ce_var 1) ce_non) (css_cons (cs_app' 2 (ce_var 1)) (css_one (cs_asgD 1 sc_Component_path_to_h.nd (ce_cget hr 0 1))))) (css_one (cs_ret (ce_rev (ce_var 2))))))

abbrev s_Component_locked_lines : Stmt := inClass (topS 19) 3
theorem sc_Component_locked_lines : FnScope n_Component_locked_lines p_Component_locked_lines (defScope s_Component_locked_lines) := ⟨rfl, rfl, rfl, by decide +kernel, rfl, by decide +kernel, by decide +kernel⟩
theorem c_Component_locked_lines {P : Program} {w : PySem.World} {K : PySem.W.Frag} {mg : Str → Option Value} {base : Heap} {k : Nat} {W : World} {A_Component : Addr} (T : Bts mg) (hc_Component : Cls K A_Component) (hn_Component_lines : NoAttr K A_Component "lines") (hn_Component_costs : NoAttr K A_Component "costs") {f : Addr} {cdv : Value} {A : Around} {outer : List Env} {s : Shared} {H : Hp} {E : XK}
    (hr : Room k (A.deeper (envOfC "Component.locked_lines" (defScope s_Component_locked_lines) s.heap.objs.size f cdv))) :
    CSs (cxOf CX0 P w K mg base n_Component_locked_lines "Component.locked_lines" (defScope s_Component_locked_lines) f cdv A outer s H E).nox (defBody s_Component_locked_lines) (b_Component_locked_lines K mg W A_Component hc_Component hn_Component_lines hn_Component_costs) :=
  (css_one (cs_ret (ce_lc [("line", 1)] sc_Component_locked_lines.nd (ci_seq (ce_fld (ce_var 0))) (by exact blkOk_by (N := n_Component_locked_lines) (sc := defScope s_Component_locked_lines) (by decide +kernel)) (fun _ _ _ _ _ => (cg_name 1 sc_Component_locked_lines.nd)) (fun _ _ _ _ _ => (cts_one (ct_is (ce_ix (ce_fld (ce_var 0)) (ce_var 1)) ce_non))) (fun _ _ _ _ _ => (ce_var 1)))))

abbrev s_Component_zero_point : Stmt := inClass (topS 19) 4
theorem sc_Component_zero_point : FnScope n_Component_zero_point p_Component_zero_point (defScope s_Component_zero_point) := ⟨rfl, rfl, rfl, by decide +kernel, rfl, by decide +kernel, by decide +kernel⟩
theorem c_Component_zero_point {P : Program} {w : PySem.World} {K : PySem.W.Frag} {mg : Str → Option Value} {base : Heap} {k : Nat} {W : World} {A_Component : Addr} (T : Bts mg) (hc_Component : Cls K A_Component) (hn_Component_signs : NoAttr K A_Component "signs") (hn_Component_offsets : NoAttr K A_Component "offsets") {f : Addr} {cdv : Value} {A : Around} {outer : List Env} {s : Shared} {H : Hp} {E : XK}
    (hr : Room k (A.deeper (envOfC "Component.zero_point" (defScope s_Component_zero_point) s.heap.objs.size f cdv))) :
    CSs (cxOf CX0 P w K mg base n_Component_zero_point "Component.zero_point" (defScope s_Component_zero_point) f cdv A outer s H E).nox (defBody s_Component_zero_point) (b_Component_zero_point K mg W A_Component hc_Component hn_Component_signs hn_Component_offsets) :=
  (css_one (cs_ret (ce_sub ce_int (ce_mul (ce_dget hr (ce_fld (ce_var 0)) (ce_var 1)) (ce_dget hr (ce_fld (ce_var 0)) (ce_var 1))))))

abbrev s_Component_contradiction : Stmt := inClass (topS 19) 5
theorem sc_Component_contradiction : FnScope n_Component_contradiction p_Component_contradiction (defScope s_Component_contradiction) := ⟨rfl, rfl, rfl, by decide +kernel, rfl, by decide +kernel, by decide +kernel⟩
theorem c_Component_contradiction {P : Program} {w : PySem.World} {K : PySem.W.Frag} {mg : Str → Option Value} {base : Heap} {k : Nat} {W : World} {A_Component : Addr} {g_Component_locked_lines : PF W} {g_Component_zero_point : PF W} {g_Component_path_to : PF W} (T : Bts mg) (hc_Component : Cls K A_Component) (hn_Component_cycle : NoAttr K A_Component "cycle") (F_Component_locked_lines : FnM P w K mg base W k A_Component "locked_lines" 0 g_Component_locked_lines) (F_Component_zero_point : FnM P w K mg base W k A_Component "zero_point" 1 g_Component_zero_point) (F_Component_path_to : FnM P w K mg base W k A_Component "path_to" 1 g_Component_path_to) {f : Addr} {cdv : Value} {A : Around} {outer : List Env} {s : Shared} {H : Hp} {E : XK}
    (hr : Room k (A.deeper (envOfC "Component.contradiction" (defScope s_Component_contradiction) s.heap.objs.size f cdv))) :
    CSs (cxOf CX0 P w K mg base n_Component_contradiction "Component.contradiction" (defScope s_Component_contradiction) f cdv A outer s H E).nox (defBody s_Component_contradiction) (b_Component_contradiction K mg W A_Component hc_Component hn_Component_cycle g_Component_locked_lines g_Component_zero_point g_Component_path_to) :=
  (css_cons (cs_if (ct_isn (ce_fld (ce_var 0)) ce_non) (css_one (cs_ret (ce_fld (ce_var 0)))) css_nil) (css_cons (cs_asgD 1 sc_Component_contradiction.nd (ce_meth0 F_Component_locked_lines hr (ce_var 0))) (css_cons (cs_for PassesOwn.never (ci_seq (ce_sl (ce_var 1) (co_so ce_int) co_no)) (cg_name 2 sc_Component_contradiction.nd) (css_one (cs_if (ct_ne hr (ce_meth F_Component_zero_point hr (ce_var 0) (ca_cons (ce_var 2) ca_nil)) (ce_meth F_Component_zero_point hr (ce_var 0) (ca_cons (ce_ix (ce_var 1) ce_int) ca_nil))) (css_one (cs_ret (ce_add (ce_rev (ce_meth F_Component_path_to hr (ce_var 0) (ca_cons (ce_ix (ce_var 1) ce_int) ca_nil))) (ce_sl (ce_meth F_Component_path_to hr (ce_var 0) (ca_cons (ce_var 2) ca_nil)) (co_so ce_int) co_no)))) css_nil))) (css_one (cs_ret ce_non)))))

abbrev s_Component_shift : Stmt := inClass (topS 19) 6
theorem sc_Component_shift : FnScope n_Component_shift p_Component_shift (defScope s_Component_shift) := ⟨rfl, rfl, rfl, by decide +kernel, rfl, by decide +kernel, by decide +kernel⟩
theorem c_Component_shift {P : Program} {w : PySem.World} {K : PySem.W.Frag} {mg : Str → Option Value} {base : Heap} {k : Nat} {W : World} {A_Component : Addr} (T : Bts mg) (hc_Component : Cls K A_Component) (hn_Component_offsets : NoAttr K A_Component "offsets") (hn_Component_signs : NoAttr K A_Component "signs") {f : Addr} {cdv : Value} {A : Around} {outer : List Env} {s : Shared} {H : Hp} {E : XK}
    (hr : Room k (A.deeper (envOfC "Component.shift" (defScope s_Component_shift) s.heap.objs.size f cdv))) :
    CSs (cxOf CX0 P w K mg base n_Component_shift "Component.shift" (defScope s_Component_shift) f cdv A outer s H E).nox (defBody s_Component_shift) (b_Component_shift K mg W A_Component hc_Component hn_Component_offsets hn_Component_signs) :=
  (css_one (cs_ret (ce_add (ce_dget hr (ce_fld (ce_var 0)) (ce_var 1)) (ce_mul (ce_dget hr (ce_fld (ce_var 0)) (ce_var 1)) (ce_var 2)))))

abbrev s_all_components : Stmt := topS 20
theorem sc_all_components : FnScope n_all_components p_all_components (defScope s_all_components) := ⟨rfl, rfl, rfl, by decide +kernel, rfl, by decide +kernel, by decide +kernel⟩
theorem c_all_components {P : Program} {w : PySem.World} {K : PySem.W.Frag} {mg : Str → Option Value} {base : Heap} {k : Nat} {W : World} {A_Component : Addr} {g_cell_gaps : PF W} {g_line_costs : PF W} {gi_Component : PF (Wc A_Component)} (T : Bts mg) (hc_Component : Cls K A_Component) (hn_Component_offsets : NoAttr K A_Component "offsets") (F_cell_gaps : Fn P w K mg base W k "cell_gaps" 2 g_cell_gaps) (F_line_costs : Fn P w K mg base W k "line_costs" 1 g_line_costs) (F_mk_Component : FnI P w K mg base k A_Component "Component" 3 gi_Component) {f : Addr} {cdv : Value} {A : Around} {outer : List Env} {s : Shared} {H : Hp} {E : XK}
    (hr : Room k (A.deeper (envOfC "all_components" (defScope s_all_components) s.heap.objs.size f cdv))) :
    CSs (cxOf CX0 P w K mg base n_all_components "all_components" (defScope s_all_components) f cdv A outer s H E).nox (defBody s_all_components) (b_all_components K mg W A_Component hc_Component hn_Component_offsets g_cell_gaps g_line_costs gi_Component) :=
  (css_cons (cs_par3 2 3 4 sc_all_components.nd (cm_cons (ce_lockT (ce_call F_cell_gaps hr (ca_cons (ce_var 0) (ca_cons (ce_var 1) ca_nil)))) (cm_cons ce_dnewK (cm_cons (ce_lst ca_nil) cm_nil)))) (css_cons (cs_for PassesOwn.never (ci_range T (ce_len T (ce_call F_line_costs hr (ca_cons (ce_var 0) ca_nil)))) (cg_name 5 sc_all_components.nd) (css_one (cs_if (ct_dnin hr (ce_var 5) (ce_var 3)) (css_cons (cs_asgD 6 sc_all_components.nd (ce_make F_mk_Component hr (ca_cons (ce_var 0) (ca_cons (ce_var 2) (ca_cons (ce_var 5) ca_nil))))) (css_cons (cs_dupd 3 (ce_fld (ce_var 6))) (css_one (cs_app' 4 (ce_var 6))))) css_nil))) (css_one (cs_ret (ce_var 4)))))

abbrev s_any_contradiction : Stmt := topS 21
theorem sc_any_contradiction : FnScope n_any_contradiction p_any_contradiction (defScope s_any_contradiction) := ⟨rfl, rfl, rfl, by decide +kernel, rfl, by decide +kernel, by decide +kernel⟩
theorem c_any_contradiction {P : Program} {w : PySem.World} {K : PySem.W.Frag} {mg : Str → Option Value} {base : Heap} {k : Nat} {W : World} {A_Component : Addr} {g_all_components : PF W} {g_Component_contradiction : PF W} (T : Bts mg) (F_all_components : Fn P w K mg base W k "all_components" 2 g_all_components) (F_Component_contradiction : FnM P w K mg base W k A_Component "contradiction" 0 g_Component_contradiction) {f : Addr} {cdv : Value} {A : Around} {outer : List Env} {s : Shared} {H : Hp} {E : XK}
    (hr : Room k (A.deeper (envOfC "any_contradiction" (defScope s_any_contradiction) s.heap.objs.size f cdv))) :
    CSs (cxOf CX0 P w K mg base n_any_contradiction "any_contradiction" (defScope s_any_contradiction) f cdv A outer s H E).nox (defBody s_any_contradiction) (b_any_contradiction K mg W A_Component g_all_components g_Component_contradiction) :=
  (css_cons (cs_lcD 2 [("component", 4)] sc_any_contradiction.nd (ci_seq (ce_call F_all_components hr (ca_cons (ce_var 0) (ca_cons (ce_var 1) ca_nil)))) (by exact blkOk_by (N := n_any_contradiction) (sc := defScope s_any_contradiction) (by decide +kernel)) (fun _ _ _ _ _ => (cg_name 4 sc_any_contradiction.nd)) (fun _ _ _ _ _ => cts_nil) (fun _ _ _ _ _ => (ce_meth0 F_Component_contradiction hr (ce_var 4)))) (css_cons (cs_lcD 3 [("path", 5)] sc_any_contradiction.nd (ci_seq (ce_var 2)) (by exact blkOk_by (N := n_any_contradiction) (sc := defScope s_any_contradiction) (by decide +kernel)) (fun _ _ _ _ _ => (cg_name 5 sc_any_contradiction.nd)) (fun _ _ _ _ _ => (cts_one (ct_isn (ce_var 5) ce_non))) (fun _ _ _ _ _ => (ce_var 5))) (css_one (cs_ret (ce_ite (ct_ne hr (ce_var 3) (ce_lst ca_nil)) (ce_ix (ce_var 3) ce_int) ce_non)))))

abbrev s_find_contradiction : Stmt := topS 22
theorem sc_find_contradiction : FnScope n_find_contradiction p_find_contradiction (defScope s_find_contradiction) := ⟨rfl, rfl, rfl, by decide +kernel, rfl, by decide +kernel, by decide +kernel⟩
theorem c_find_contradiction {P : Program} {w : PySem.World} {K : PySem.W.Frag} {mg : Str → Option Value} {base : Heap} {k : Nat} {W : World} {g_check_table : PF W} {g_check_goal : PF W} {g_any_contradiction : PF W} (T : Bts mg) (F_check_table : Fn P w K mg base W k "check_table" 1 g_check_table) (F_check_goal : Fn P w K mg base W k "check_goal" 2 g_check_goal) (F_any_contradiction : Fn P w K mg base W k "any_contradiction" 2 g_any_contradiction) {f : Addr} {cdv : Value} {A : Around} {outer : List Env} {s : Shared} {H : Hp} {E : XK}
    (hr : Room k (A.deeper (envOfC "find_contradiction" (defScope s_find_contradiction) s.heap.objs.size f cdv))) :
    CSs (cxOf CX0 P w K mg base n_find_contradiction "find_contradiction" (defScope s_find_contradiction) f cdv A outer s H E).nox (defBody s_find_contradiction) (b_find_contradiction K mg W g_check_table g_check_goal g_any_contradiction) :=
  (css_cons (cs_drop (ce_call F_check_table hr (ca_cons (ce_var 0) ca_nil))) (css_cons (cs_drop (ce_call F_check_goal hr (ca_cons (ce_var 0) (ca_cons (ce_var 1) ca_nil)))) (css_one (cs_ret (ce_call F_any_contradiction hr (ca_cons (ce_var 0) (ca_cons (ce_var 1) ca_nil)))))))

abbrev s_optimal_range : Stmt := topS 24
theorem sc_optimal_range : FnScope n_optimal_range p_optimal_range (defScope s_optimal_range) := ⟨rfl, rfl, rfl, by decide +kernel, rfl, by decide +kernel, by decide +kernel⟩
theorem c_optimal_range {P : Program} {w : PySem.World} {K : PySem.W.Frag} {mg : Str → Option Value} {base : Heap} {k : Nat} {W : World} {A_Component : Addr} {g_Component_zero_point : PF W} (T : Bts mg) (hc_Component : Cls K A_Component) (hn_Component_lines : NoAttr K A_Component "lines") (F_Component_zero_point : FnM P w K mg base W k A_Component "zero_point" 1 g_Component_zero_point) {f : Addr} {cdv : Value} {A : Around} {outer : List Env} {s : Shared} {H : Hp} {E : XK}
    (hr : Room k (A.deeper (envOfC "optimal_range" (defScope s_optimal_range) s.heap.objs.size f cdv))) :
    CSs (cxOf CX0 P w K mg base n_optimal_range "optimal_range" (defScope s_optimal_range) f cdv A outer s H E).nox (defBody s_optimal_range) (b_optimal_range K mg W A_Component hc_Component hn_Component_lines g_Component_zero_point) :=
  (css_cons (cs_lcD 2 [("line", 10)] sc_optimal_range.nd (ci_seq (ce_fld (ce_var 0))) (by exact blkOk_by (N := n_optimal_range) (sc := defScope s_optimal_range) (by decide +kernel)) (fun _ _ _ _ _ => (cg_name 10 sc_optimal_range.nd)) (fun _ _ _ _ _ => (cts_one (ct_is (ce_ix (ce_var 1) (ce_var 10)) ce_non))) (fun _ _ _ _ _ => (ce_var 10))) (css_cons (cs_if (ct_ne hr (ce_var 2) (ce_lst ca_nil)) (css_one (cs_ret (ce_tup (ca_cons (ce_meth F_Component_zero_point hr (ce_var 0) (ca_cons (ce_ix (ce_var 2) ce_int) ca_nil)) (ca_cons (ce_meth F_Component_zero_point hr (ce_var 0) (ca_cons (ce_ix (ce_var 2) ce_int) ca_nil)) ca_nil))))) css_nil) (css_cons (cs_asgD 3 sc_optimal_range.nd (ce_sorted T (ce_lc [("line", 10)] sc_optimal_range.nd (ci_seq (ce_fld (ce_var 0))) (by exact blkOk_by (N := n_optimal_range) (sc := defScope s_optimal_range) (by decide +kernel)) (fun _ _ _ _ _ => (cg_name 10 sc_optimal_range.nd)) (fun _ _ _ _ _ => cts_nil) (fun _ _ _ _ _ => (ce_tup (ca_cons (ce_meth F_Component_zero_point hr (ce_var 0) (ca_cons (ce_var 10) ca_nil)) (ca_cons (ce_ix (ce_var 1) (ce_var 10)) ca_nil))))))) (css_cons (cs_asgD 6 sc_optimal_range.nd (ce_sum T (ce_lc [("point", 4), ("cost", 5)] sc_optimal_range.nd (ci_seq (ce_var 3)) (by exact blkOk_by (N := n_optimal_range) (sc := defScope s_optimal_range) (by decide +kernel)) (fun _ _ _ _ _ => (cg_tup (cgs_cons (cg_name 4 sc_optimal_range.nd) (cgs_cons (cg_name 5 sc_optimal_range.nd) cgs_nil)))) (fun _ _ _ _ _ => cts_nil) (fun _ _ _ _ _ => (ce_var 5))))) (css_cons (cs_parT (.cons (i := 7) sc_optimal_range.nd (.cons (i := 8) sc_optimal_range.nd (.cons (i := 9) sc_optimal_range.nd .nil))) (cm_cons ce_non (cm_cons ce_non (cm_cons ce_int cm_nil)))) (css_cons (cs_for PassesOwn.never (ci_seq (ce_var 3)) (cg_tup (cgs_cons (cg_name 4 sc_optimal_range.nd) (cgs_cons (cg_name 5 sc_optimal_range.nd) cgs_nil))) (css_cons (cs_aug 9 sc_optimal_range.nd ip_add (ce_var 5)) (css_cons (cs_if (ct_w (cw_and (ct_is (ce_var 7) ce_non) (cw_and1 (ct_ge (ce_mul ce_int (ce_var 9)) (ce_var 6))))) (css_one (cs_asg 7 sc_optimal_range.nd (ce_var 4))) css_nil) (css_one (cs_if (ct_w (cw_and (ct_is (ce_var 8) ce_non) (cw_and1 (ct_gt (ce_mul ce_int (ce_var 9)) (ce_var 6))))) (css_one (cs_asg 8 sc_optimal_range.nd (ce_var 4))) css_nil))))) (css_frzq 7 (css_frzq 8 (css_one (cs_ret (ce_tup (ca_cons (ce_var 7) (ca_cons (ce_var 8) ca_nil)))))))))))))

abbrev s_Solution___init__ : Stmt := inClass (topS 25) 0
theorem sc_Solution___init__ : FnScope n_Solution___init__ p_Solution___init__ (defScope s_Solution___init__) := ⟨rfl, rfl, rfl, by decide +kernel, rfl, by decide +kernel, by decide +kernel⟩
theorem c_Solution___init__ {P : Program} {w : PySem.World} {K : PySem.W.Frag} {mg : Str → Option Value} {base : Heap} {k : Nat} {A_Solution : Addr} {A_Component : Addr} {g_line_costs : PF (Wc A_Solution)} {g_all_components : PF (Wc A_Solution)} {g_optimal_range : PF (Wc A_Solution)} {g_Component_contradiction : PF (Wc A_Solution)} (T : Bts mg) (hc_Solution : Cls K A_Solution) (hn_Solution_costs : NoAttr K A_Solution "costs") (hn_Solution_parts : NoAttr K A_Solution "parts") (hn_Solution_is_reachable : NoAttr K A_Solution "is_reachable") (hn_Solution_first_shifts : NoAttr K A_Solution "first_shifts") (F_line_costs : Fn P w K mg base (Wc A_Solution) k "line_costs" 1 g_line_costs) (F_all_components : Fn P w K mg base (Wc A_Solution) k "all_components" 2 g_all_components) (F_optimal_range : Fn P w K mg base (Wc A_Solution) k "optimal_range" 2 g_optimal_range) (F_Component_contradiction : FnM P w K mg base (Wc A_Solution) k A_Component "contradiction" 0 g_Component_contradiction) {f : Addr} {cdv : Value} {A : Around} {outer : List Env} {s : Shared} {H : Hp} {E : XK}
    (hr : Room k (A.deeper (envOfC "Solution.__init__" (defScope s_Solution___init__) s.heap.objs.size f cdv))) :
    CSs (cxOf CX0 P w K mg base n_Solution___init__ "Solution.__init__" (defScope s_Solution___init__) f cdv A outer s H E).nox (defBody s_Solution___init__) (b_Solution___init__ K mg A_Solution A_Component hc_Solution hn_Solution_costs hn_Solution_parts hn_Solution_is_reachable hn_Solution_first_shifts g_line_costs g_all_components g_optimal_range g_Component_contradiction) :=
  (css_cons (cs_cset 0 (ce_call F_line_costs hr (ca_cons (ce_var 1) ca_nil))) (css_cons (cs_cset 0 (ce_call F_all_components hr (ca_cons (ce_var 1) (ca_cons (ce_var 2) ca_nil)))) (css_cons (cs_cset 0 (ce_all T (ce_lc [("component", 3)] sc_Solution___init__.nd (ci_seq (ce_cfld 0)) (by exact blkOk_by (N := n_Solution___init__) (sc := defScope s_Solution___init__) (by decide +kernel)) (fun _ _ _ _ _ => (cg_name 3 sc_Solution___init__.nd)) (fun _ _ _ _ _ => cts_nil) (fun _ _ _ _ _ => (ce_is (ce_meth0 F_Component_contradiction hr (ce_var 3)) ce_non))))) (css_one (cs_cset 0 (ce_lc [("component", 3)] sc_Solution___init__.nd (ci_seq (ce_cfld 0)) (by exact blkOk_by (N := n_Solution___init__) (sc := defScope s_Solution___init__) (by decide +kernel)) (fun _ _ _ _ _ => (cg_name 3 sc_Solution___init__.nd)) (fun _ _ _ _ _ => cts_nil) (fun _ _ _ _ _ => (ce_ix (ce_call F_optimal_range hr (ca_cons (ce_var 3) (ca_cons (ce_cfld 0) ca_nil))) ce_int))))))))

abbrev s_Solution_line_shifts : Stmt := inClass (topS 25) 1
theorem sc_Solution_line_shifts : FnScope n_Solution_line_shifts p_Solution_line_shifts (defScope s_Solution_line_shifts) := ⟨rfl, rfl, rfl, by decide +kernel, rfl, by decide +kernel, by decide +kernel⟩
theorem c_Solution_line_shifts {P : Program} {w : PySem.World} {K : PySem.W.Frag} {mg : Str → Option Value} {base : Heap} {k : Nat} {W : World} {A_Solution : Addr} {A_Component : Addr} {g_Component_shift : PF W} (T : Bts mg) (hc_Solution : Cls K A_Solution) (hc_Component : Cls K A_Component) (hn_Solution_costs : NoAttr K A_Solution "costs") (hn_Solution_parts : NoAttr K A_Solution "parts") (hn_Solution_first_shifts : NoAttr K A_Solution "first_shifts") (hn_Component_lines : NoAttr K A_Component "lines") (F_Component_shift : FnM P w K mg base W k A_Component "shift" 2 g_Component_shift) {f : Addr} {cdv : Value} {A : Around} {outer : List Env} {s : Shared} {H : Hp} {E : XK}
    (hr : Room k (A.deeper (envOfC "Solution.line_shifts" (defScope s_Solution_line_shifts) s.heap.objs.size f cdv))) :
    CSs (cxOf CX0 P w K mg base n_Solution_line_shifts "Solution.line_shifts" (defScope s_Solution_line_shifts) f cdv A outer s H E).nox (defBody s_Solution_line_shifts) (b_Solution_line_shifts K mg W A_Solution A_Component hc_Solution hc_Component hn_Solution_costs hn_Solution_parts hn_Solution_first_shifts hn_Component_lines g_Component_shift) :=
  (css_cons (cs_asg 1 sc_Solution_line_shifts.nd (ce_mul (ce_lst (ca_cons ce_int ca_nil)) (ce_len T (ce_fld (ce_var 0))))) (css_cons (cs_for PassesOwn.never (ci_zip T (ce_fld (ce_var 0)) (ce_fld (ce_var 0))) (cg_tup (cgs_cons (cg_name 2 sc_Solution_line_shifts.nd) (cgs_cons (cg_name 3 sc_Solution_line_shifts.nd) cgs_nil))) (css_one (cs_for PassesOwn.never (ci_seq (ce_fld (ce_var 2))) (cg_name 4 sc_Solution_line_shifts.nd) (css_one (cs_setIx 1 (ce_meth F_Component_shift hr (ce_var 2) (ca_cons (ce_var 4) (ca_cons (ce_var 3) ca_nil))) (pv 1) (ce_var 4)))))) (css_one (cs_ret (ce_var 1)))))

abbrev s_Solution_cost : Stmt := inClass (topS 25) 2
theorem sc_Solution_cost : FnScope n_Solution_cost p_Solution_cost (defScope s_Solution_cost) := ⟨rfl, rfl, rfl, by decide +kernel, rfl, by decide +kernel, by decide +kernel⟩
theorem c_Solution_cost {P : Program} {w : PySem.World} {K : PySem.W.Frag} {mg : Str → Option Value} {base : Heap} {k : Nat} {W : World} {A_Solution : Addr} {g_Solution_line_shifts : PF W} (T : Bts mg) (hc_Solution : Cls K A_Solution) (hn_Solution_costs : NoAttr K A_Solution "costs") (F_Solution_line_shifts : FnM P w K mg base W k A_Solution "line_shifts" 0 g_Solution_line_shifts) {f : Addr} {cdv : Value} {A : Around} {outer : List Env} {s : Shared} {H : Hp} {E : XK}
    (hr : Room k (A.deeper (envOfC "Solution.cost" (defScope s_Solution_cost) s.heap.objs.size f cdv))) :
    CSs (cxOf CX0 P w K mg base n_Solution_cost "Solution.cost" (defScope s_Solution_cost) f cdv A outer s H E).nox (defBody s_Solution_cost) (b_Solution_cost K mg W A_Solution hc_Solution hn_Solution_costs g_Solution_line_shifts) :=
  (css_one (cs_ret (ce_sum T (ce_lc [("shift", 1), ("cost", 2)] sc_Solution_cost.nd (ci_zip T (ce_meth0 F_Solution_line_shifts hr (ce_var 0)) (ce_fld (ce_var 0))) (by exact blkOk_by (N := n_Solution_cost) (sc := defScope s_Solution_cost) (by decide +kernel)) (fun _ _ _ _ _ => (cg_tup (cgs_cons (cg_name 1 sc_Solution_cost.nd) (cgs_cons (cg_name 2 sc_Solution_cost.nd) cgs_nil)))) (fun _ _ _ _ _ => cts_nil) (fun _ _ _ _ _ => (ce_mul (ce_abs T (ce_var 1)) (ce_orI (ce_var 2) (ce_one ce_int))))))))

abbrev s_check_both : Stmt := topS 26
theorem sc_check_both : FnScope n_check_both p_check_both (defScope s_check_both) := ⟨rfl, rfl, rfl, by decide +kernel, rfl, by decide +kernel, by decide +kernel⟩
theorem c_check_both {P : Program} {w : PySem.World} {K : PySem.W.Frag} {mg : Str → Option Value} {base : Heap} {k : Nat} {W : World} {g_check_table : PF W} {g_check_goal : PF W} (T : Bts mg) (F_check_table : Fn P w K mg base W k "check_table" 1 g_check_table) (F_check_goal : Fn P w K mg base W k "check_goal" 2 g_check_goal) {f : Addr} {cdv : Value} {A : Around} {outer : List Env} {s : Shared} {H : Hp} {E : XK}
    (hr : Room k (A.deeper (envOfC "check_both" (defScope s_check_both) s.heap.objs.size f cdv))) :
    CSs (cxOf CX0 P w K mg base n_check_both "check_both" (defScope s_check_both) f cdv A outer s H E).nox (defBody s_check_both) (b_check_both K mg W g_check_table g_check_goal) :=
  (css_cons (cs_drop (ce_call F_check_table hr (ca_cons (ce_var 0) ca_nil))) (css_one (cs_drop (ce_call F_check_goal hr (ca_cons (ce_var 0) (ca_cons (ce_var 1) ca_nil))))))

abbrev s_minimum_cost : Stmt := topS 27
theorem sc_minimum_cost : FnScope n_minimum_cost p_minimum_cost (defScope s_minimum_cost) := ⟨rfl, rfl, rfl, by decide +kernel, rfl, by decide +kernel, by decide +kernel⟩
theorem c_minimum_cost {P : Program} {w : PySem.World} {K : PySem.W.Frag} {mg : Str → Option Value} {base : Heap} {k : Nat} {W : World} {A_Solution : Addr} {g_check_both : PF W} {g_Solution_cost : PF W} {g_Solution_line_shifts : PF W} {gi_Solution : PF (Wc A_Solution)} (T : Bts mg) (hc_Solution : Cls K A_Solution) (hn_Solution_is_reachable : NoAttr K A_Solution "is_reachable") (F_check_both : Fn P w K mg base W k "check_both" 2 g_check_both) (F_Solution_cost : FnM P w K mg base W k A_Solution "cost" 0 g_Solution_cost) (F_Solution_line_shifts : FnM P w K mg base W k A_Solution "line_shifts" 0 g_Solution_line_shifts) (F_mk_Solution : FnI P w K mg base k A_Solution "Solution" 2 gi_Solution) {f : Addr} {cdv : Value} {A : Around} {outer : List Env} {s : Shared} {H : Hp} {E : XK}
    (hr : Room k (A.deeper (envOfC "minimum_cost" (defScope s_minimum_cost) s.heap.objs.size f cdv))) :
    CSs (cxOf CX0 P w K mg base n_minimum_cost "minimum_cost" (defScope s_minimum_cost) f cdv A outer s H E).nox (defBody s_minimum_cost) (b_minimum_cost K mg W A_Solution hc_Solution hn_Solution_is_reachable g_check_both g_Solution_cost g_Solution_line_shifts gi_Solution) :=
  (css_cons (cs_drop (ce_call F_check_both hr (ca_cons (ce_var 0) (ca_cons (ce_var 1) ca_nil)))) (css_cons (cs_asgD 2 sc_minimum_cost.nd (ce_make F_mk_Solution hr (ca_cons (ce_var 0) (ca_cons (ce_var 1) ca_nil)))) (css_one (cs_ret (ce_ite (ct_val (ce_fld (ce_var 2))) (ce_tup (ca_cons (ce_meth0 F_Solution_cost hr (ce_var 2)) (ca_cons (ce_meth0 F_Solution_line_shifts hr (ce_var 2)) ca_nil))) ce_non)))))

abbrev s_with_unit_costs : Stmt := topS 28
theorem sc_with_unit_costs : FnScope n_with_unit_costs p_with_unit_costs (defScope s_with_unit_costs) := ⟨rfl, rfl, rfl, by decide +kernel, rfl, by decide +kernel, by decide +kernel⟩
theorem c_with_unit_costs {P : Program} {w : PySem.World} {K : PySem.W.Frag} {mg : Str → Option Value} {base : Heap} {k : Nat} {W : World} (T : Bts mg) {f : Addr} {cdv : Value} {A : Around} {outer : List Env} {s : Shared} {H : Hp} {E : XK}
    (hr : Room k (A.deeper (envOfC "with_unit_costs" (defScope s_with_unit_costs) s.heap.objs.size f cdv))) :
    CSs (cxOf CX0 P w K mg base n_with_unit_costs "with_unit_costs" (defScope s_with_unit_costs) f cdv A outer s H E).nox (defBody s_with_unit_costs) (b_with_unit_costs K mg W) :=
  (css_cons (cs_unpS 1 2 sc_with_unit_costs.nd (ce_var 0) (.cons (i := 1) sc_with_unit_costs.nd (.cons (i := 2) sc_with_unit_costs.nd .nil))) (css_frzq 2 (css_cons (cs_unpL (ce_lc [("side", 5)] sc_with_unit_costs.nd (ci_seq (ce_var 2)) (by exact blkOk_by (N := n_with_unit_costs) (sc := defScope s_with_unit_costs) (by decide +kernel)) (fun _ _ _ _ _ => (cg_name 5 sc_with_unit_costs.nd)) (fun _ _ _ _ _ => cts_nil) (fun _ _ _ _ _ => (ce_tuple T (ce_lc [("cost", 6)] sc_with_unit_costs.nd (ci_seq (ce_var 5)) (by exact blkOk_by (by rfl)) (fun _ _ _ _ _ => (cg_name 6 sc_with_unit_costs.nd)) (fun _ _ _ _ _ => cts_nil) (fun _ _ _ _ _ => (ce_ite (ct_is (ce_var 6) ce_non) ce_non ce_int)))))) (.cons (i := 3) sc_with_unit_costs.nd (.cons (i := 4) sc_with_unit_costs.nd .nil))) (css_one (cs_ret (ce_tup (ca_cons (ce_var 1) (ca_cons (ce_var 3) (ca_cons (ce_var 4) ca_nil)))))))))

abbrev s_minimum_steps : Stmt := topS 29
theorem sc_minimum_steps : FnScope n_minimum_steps p_minimum_steps (defScope s_minimum_steps) := ⟨rfl, rfl, rfl, by decide +kernel, rfl, by decide +kernel, by decide +kernel⟩
theorem c_minimum_steps {P : Program} {w : PySem.World} {K : PySem.W.Frag} {mg : Str → Option Value} {base : Heap} {k : Nat} {W : World} {A_Solution : Addr} {g_check_both : PF W} {g_any_contradiction : PF W} {g_with_unit_costs : PF W} {g_Solution_cost : PF W} {gi_Solution : PF (Wc A_Solution)} (T : Bts mg) (F_check_both : Fn P w K mg base W k "check_both" 2 g_check_both) (F_any_contradiction : Fn P w K mg base W k "any_contradiction" 2 g_any_contradiction) (F_with_unit_costs : Fn P w K mg base W k "with_unit_costs" 1 g_with_unit_costs) (F_Solution_cost : FnM P w K mg base W k A_Solution "cost" 0 g_Solution_cost) (F_mk_Solution : FnI P w K mg base k A_Solution "Solution" 2 gi_Solution) {f : Addr} {cdv : Value} {A : Around} {outer : List Env} {s : Shared} {H : Hp} {E : XK}
    (hr : Room k (A.deeper (envOfC "minimum_steps" (defScope s_minimum_steps) s.heap.objs.size f cdv))) :
    CSs (cxOf CX0 P w K mg base n_minimum_steps "minimum_steps" (defScope s_minimum_steps) f cdv A outer s H E).nox (defBody s_minimum_steps) (b_minimum_steps K mg W A_Solution g_check_both g_any_contradiction g_with_unit_costs g_Solution_cost gi_Solution) :=
  (css_cons (cs_drop (ce_call F_check_both hr (ca_cons (ce_var 0) (ca_cons (ce_var 1) ca_nil)))) (css_one (cs_ret (ce_ite (ct_is (ce_call F_any_contradiction hr (ca_cons (ce_var 0) (ca_cons (ce_var 1) ca_nil))) ce_non) (ce_meth0 F_Solution_cost hr (ce_make F_mk_Solution hr (ca_cons (ce_call F_with_unit_costs hr (ca_cons (ce_var 0) ca_nil)) (ca_cons (ce_var 1) ca_nil)))) ce_non))))

abbrev s_l_drawn : Stmt := topS 32
theorem sc_l_drawn : FnScope n_l_drawn p_l_drawn (defScope s_l_drawn) := ⟨rfl, rfl, rfl, by decide +kernel, rfl, by decide +kernel, by decide +kernel⟩
theorem c_l_drawn {P : Program} {w : PySem.World} {K : PySem.W.Frag} {mg : Str → Option Value} {base : Heap} {k : Nat} (T : Bts mg) {f : Addr} {cdv : Value} {A : Around} {outer : List Env} {s : Shared} {H : Hp} {E : XK}
    (hr : Room k (A.deeper (envOfC "_law_drawn" (defScope s_l_drawn) s.heap.objs.size f cdv))) :
    CSs (cxOf CX0 P w K mg base n_l_drawn "_law_drawn" (defScope s_l_drawn) f cdv A outer s H E).nox (defBody s_l_drawn) (b_l_drawn K mg) :=
  (css_cons (cs_if (ct_gt (ce_wix 0 3) ce_int) (css_cons (cs_asgD 2 sc_l_drawn.nd (ce_mod (ce_wix 0 3) (ce_var 1))) (css_cons (cs_wset 0 3 (ce_fdiv (ce_wix 0 3) (ce_var 1))) (css_one (cs_ret (ce_var 2))))) css_nil) (css_cons (cs_wset 0 1 (ce_add (ce_wix 0 1) ce_int)) (css_cons (cs_if (ct_le (ce_wix 0 1) (ce_wlen T (ce_wix 0 0))) (css_cons (cs_asgD 3 sc_l_drawn.nd (ce_wat (ce_wix 0 0) (ce_sub (ce_wix 0 1) ce_int))) (css_cons (cs_wset 0 3 (ce_ite (ct_ge (ce_var 3) (ce_pow ce_int ce_int)) (ce_fdiv (ce_var 3) (ce_var 1)) ce_int)) (css_one (cs_ret (ce_mod (ce_var 3) (ce_var 1)))))) css_nil) (css_cons (cs_wset 0 2 (ce_mod (ce_add (ce_mul (ce_wix 0 2) ce_int) ce_int) ce_int)) (css_one (cs_ret (ce_mod (ce_fdiv (ce_wix 0 2) ce_int) (ce_var 1))))))))

abbrev s_l_random_table : Stmt := topS 33
theorem sc_l_random_table : FnScope n_l_random_table p_l_random_table (defScope s_l_random_table) := ⟨rfl, rfl, rfl, by decide +kernel, rfl, by decide +kernel, by decide +kernel⟩
theorem c_l_random_table {P : Program} {w : PySem.World} {K : PySem.W.Frag} {mg : Str → Option Value} {base : Heap} {k : Nat} {W : World} {g_l_drawn : PF W} (T : Bts mg) (F_l_drawn : Fn P w K mg base W k "_law_drawn" 2 g_l_drawn) {f : Addr} {cdv : Value} {A : Around} {outer : List Env} {s : Shared} {H : Hp} {E : XK}
    (hr : Room k (A.deeper (envOfC "_law_random_table" (defScope s_l_random_table) s.heap.objs.size f cdv))) :
    CSs (cxOf CX0 P w K mg base n_l_random_table "_law_random_table" (defScope s_l_random_table) f cdv A outer s H E).nox (defBody s_l_random_table) (b_l_random_table K mg W g_l_drawn) :=
  (css_cons (cs_parT (.cons (i := 3) sc_l_random_table.nd (.cons (i := 4) sc_l_random_table.nd .nil)) (cm_cons (ce_add ce_int (ce_call F_l_drawn hr (ca_cons (ce_var 0) (ca_cons (ce_var 1) ca_nil)))) (cm_cons (ce_add ce_int (ce_call F_l_drawn hr (ca_cons (ce_var 0) (ca_cons (ce_var 1) ca_nil)))) cm_nil))) (css_cons (cs_lcD 5 [("_law_row", 10)] sc_l_random_table.nd (ci_range T (ce_var 3)) (by exact blkOk_by (N := n_l_random_table) (sc := defScope s_l_random_table) (by decide +kernel)) (fun _ _ _ _ _ => (cg_name 10 sc_l_random_table.nd)) (fun _ _ _ _ _ => cts_nil) (fun _ _ _ _ _ => (ce_tuple T (ce_lc [("_law_k", 11)] sc_l_random_table.nd (ci_range T (ce_var 4)) (by exact blkOk_by (by rfl)) (fun _ _ _ _ _ => (cg_name 11 sc_l_random_table.nd)) (fun _ _ _ _ _ => cts_nil) (fun _ _ _ _ _ => (ce_sub (ce_call F_l_drawn hr (ca_cons (ce_var 0) (ca_cons (ce_add (ce_mul ce_int (ce_var 2)) ce_int) ca_nil))) (ce_var 2))))))) (css_cons (cs_par3 6 7 8 sc_l_random_table.nd (cm_cons (ce_ix (ce_lst (ca_cons ce_int (ca_cons ce_int (ca_cons ce_int ca_nil)))) (ce_call F_l_drawn hr (ca_cons (ce_var 0) (ca_cons ce_int ca_nil)))) (cm_cons (ce_ix (ce_lst (ca_cons ce_int (ca_cons ce_int (ca_cons ce_int ca_nil)))) (ce_call F_l_drawn hr (ca_cons (ce_var 0) (ca_cons ce_int ca_nil)))) (cm_cons (ce_lst ca_nil) cm_nil)))) (css_cons (cs_for PassesOwn.never (ci_range T (ce_add (ce_var 3) (ce_var 4))) (cg_name 9 sc_l_random_table.nd) (css_frzq 6 (css_frzq 7 (css_one (cs_app' 8 (ce_ite (ct_eq hr (ce_call F_l_drawn hr (ca_cons (ce_var 0) (ca_cons (ce_var 6) ca_nil))) ce_int) ce_non (ce_add ce_int (ce_call F_l_drawn hr (ca_cons (ce_var 0) (ca_cons (ce_var 7) ca_nil)))))))))) (css_one (cs_ret (ce_tup (ca_cons (ce_tuple T (ce_var 5)) (ca_cons (ce_tuple T (ce_sl (ce_var 8) co_no (co_so (ce_var 3)))) (ca_cons (ce_tuple T (ce_sl (ce_var 8) (co_so (ce_var 3)) co_no)) ca_nil))))))))))

abbrev s_l_line_costs : Stmt := topS 34
theorem sc_l_line_costs : FnScope n_l_line_costs p_l_line_costs (defScope s_l_line_costs) := ⟨rfl, rfl, rfl, by decide +kernel, rfl, by decide +kernel, by decide +kernel⟩
theorem c_l_line_costs {P : Program} {w : PySem.World} {K : PySem.W.Frag} {mg : Str → Option Value} {base : Heap} {k : Nat} {W : World} (T : Bts mg) {f : Addr} {cdv : Value} {A : Around} {outer : List Env} {s : Shared} {H : Hp} {E : XK}
    (hr : Room k (A.deeper (envOfC "_law_line_costs" (defScope s_l_line_costs) s.heap.objs.size f cdv))) :
    CSs (cxOf CX0 P w K mg base n_l_line_costs "_law_line_costs" (defScope s_l_line_costs) f cdv A outer s H E).nox (defBody s_l_line_costs) (b_l_line_costs K mg W) :=
  (css_one (cs_ret (ce_add (ce_list T (ce_ix (ce_var 0) ce_int)) (ce_list T (ce_ix (ce_var 0) ce_int)))))

abbrev s_l_shifted : Stmt := topS 35
theorem sc_l_shifted : FnScope n_l_shifted p_l_shifted (defScope s_l_shifted) := ⟨rfl, rfl, rfl, by decide +kernel, rfl, by decide +kernel, by decide +kernel⟩
theorem c_l_shifted {P : Program} {w : PySem.World} {K : PySem.W.Frag} {mg : Str → Option Value} {base : Heap} {k : Nat} {W : World} (T : Bts mg) {f : Addr} {cdv : Value} {A : Around} {outer : List Env} {s : Shared} {H : Hp} {E : XK}
    (hr : Room k (A.deeper (envOfC "_law_shifted" (defScope s_l_shifted) s.heap.objs.size f cdv))) :
    CSs (cxOf CX0 P w K mg base n_l_shifted "_law_shifted" (defScope s_l_shifted) f cdv A outer s H E).nox (defBody s_l_shifted) (b_l_shifted K mg W) :=
  (css_cons (cs_asgD 2 sc_l_shifted.nd (ce_len T (ce_var 0))) (css_cons (cs_asg 3 sc_l_shifted.nd (ce_lst ca_nil)) (css_cons (cs_for PassesOwn.never (ci_range T (ce_var 2)) (cg_name 4 sc_l_shifted.nd) (css_cons (cs_asg 5 sc_l_shifted.nd (ce_lst ca_nil)) (css_cons (cs_for PassesOwn.never (ci_range T (ce_len T (ce_ix (ce_var 0) (ce_var 4)))) (cg_name 6 sc_l_shifted.nd) (css_one (cs_app' 5 (ce_add (ce_add (ce_ix (ce_ix (ce_var 0) (ce_var 4)) (ce_var 6)) (ce_ix (ce_var 1) (ce_var 4))) (ce_ix (ce_var 1) (ce_add (ce_var 2) (ce_var 6))))))) (css_one (cs_app' 3 (ce_tuple T (ce_var 5))))))) (css_one (cs_ret (ce_tuple T (ce_var 3)))))))

abbrev s_l_random_goal : Stmt := topS 36
theorem sc_l_random_goal : FnScope n_l_random_goal p_l_random_goal (defScope s_l_random_goal) := ⟨rfl, rfl, rfl, by decide +kernel, rfl, by decide +kernel, by decide +kernel⟩
theorem c_l_random_goal {P : Program} {w : PySem.World} {K : PySem.W.Frag} {mg : Str → Option Value} {base : Heap} {k : Nat} {W : World} {g_l_drawn : PF W} {g_l_shifted : PF W} {g_l_line_costs : PF W} (T : Bts mg) (F_l_drawn : Fn P w K mg base W k "_law_drawn" 2 g_l_drawn) (F_l_shifted : Fn P w K mg base W k "_law_shifted" 2 g_l_shifted) (F_l_line_costs : Fn P w K mg base W k "_law_line_costs" 1 g_l_line_costs) {f : Addr} {cdv : Value} {A : Around} {outer : List Env} {s : Shared} {H : Hp} {E : XK}
    (hr : Room k (A.deeper (envOfC "_law_random_goal" (defScope s_l_random_goal) s.heap.objs.size f cdv))) :
    CSs (cxOf CX0 P w K mg base n_l_random_goal "_law_random_goal" (defScope s_l_random_goal) f cdv A outer s H E).nox (defBody s_l_random_goal) (b_l_random_goal K mg W g_l_drawn g_l_shifted g_l_line_costs) :=
  (css_cons (cs_par3 3 4 5 sc_l_random_goal.nd (cm_cons (ce_call F_l_line_costs hr (ca_cons (ce_var 1) ca_nil)) (cm_cons (ce_call F_l_drawn hr (ca_cons (ce_var 0) (ca_cons ce_int ca_nil))) (cm_cons (ce_ix (ce_lst (ca_cons ce_int (ca_cons ce_int (ca_cons ce_int (ca_cons ce_int ca_nil))))) (ce_call F_l_drawn hr (ca_cons (ce_var 0) (ca_cons ce_int ca_nil)))) cm_nil)))) (css_frzq 3 (css_cons (cs_lcD 6 [("_law_cost", 11)] sc_l_random_goal.nd (ci_seq (ce_var 3)) (by exact blkOk_by (N := n_l_random_goal) (sc := defScope s_l_random_goal) (by decide +kernel)) (fun _ _ _ _ _ => (cg_name 11 sc_l_random_goal.nd)) (fun _ _ _ _ _ => cts_nil) (fun _ _ _ _ _ => (ce_ite (ct_is (ce_var 11) ce_non) ce_int (ce_sub (ce_call F_l_drawn hr (ca_cons (ce_var 0) (ca_cons (ce_add (ce_mul ce_int (ce_var 2)) ce_int) ca_nil))) (ce_var 2))))) (css_mxL1 7 T [("_law_row", 7)] rfl sc_l_random_goal.nd (ci_seq (ce_call F_l_shifted hr (ca_cons (ce_ix (ce_var 1) ce_int) (ca_cons (ce_var 6) ca_nil)))) (by exact blkOk_by (N := n_l_random_goal) (sc := defScope s_l_random_goal) (by decide +kernel)) (cms_forLen T PassesOwn.never (cg_name 7 sc_l_random_goal.nd) (cmss_one (cms_forRow 7 T PassesOwn.never (cg_name 9 sc_l_random_goal.nd) (cmss_cons (cms_lift (cs_asgD 10 sc_l_random_goal.nd (ce_call F_l_drawn hr (ca_cons (ce_var 0) (ca_cons ce_int ca_nil))))) (cmss_cons (cms_if (ct_w (cw_and (ct_eq hr (ce_var 4) ce_int) (cw_and1 (ct_eq hr (ce_var 10) ce_int)))) (cmss_one (cms_put1 7 9 (ce_call F_l_drawn hr (ca_cons (ce_var 0) (ca_cons (ce_var 2) ca_nil))))) (cmss_lift css_nil)) (cmss_one (cms_if (ct_w (cw_or (ct_eq hr (ce_call F_l_drawn hr (ca_cons (ce_var 0) (ca_cons (ce_add (ce_var 5) ce_int) ca_nil))) ce_int) (cw_or1 (ct_w (cw_and (ct_eq hr (ce_var 5) ce_int) (cw_and1 (ct_lt (ce_var 10) ce_int))))))) (cmss_one (cms_put 7 9 ce_non)) (cmss_lift css_nil)))))))) (css_one (cs_ret (ce_tuple T (ce_lc [("_law_row", 7)] sc_l_random_goal.nd (ci_seq (ce_var 8)) (by exact blkOk_by (N := n_l_random_goal) (sc := defScope s_l_random_goal) (by decide +kernel)) (fun _ _ _ _ _ => (cg_name 7 sc_l_random_goal.nd)) (fun _ _ _ _ _ => cts_nil) (fun _ _ _ _ _ => (ce_tuple T (ce_var 7))))))) (hg := fun _ _ _ _ _ => pg_namev 7 sc_l_random_goal.nd) (he := fun _ _ _ _ _ => pe_listv 7 T)))))

abbrev s_l_cell_gaps : Stmt := topS 37
theorem sc_l_cell_gaps : FnScope n_l_cell_gaps p_l_cell_gaps (defScope s_l_cell_gaps) := ⟨rfl, rfl, rfl, by decide +kernel, rfl, by decide +kernel, by decide +kernel⟩
theorem c_l_cell_gaps {P : Program} {w : PySem.World} {K : PySem.W.Frag} {mg : Str → Option Value} {base : Heap} {k : Nat} {W : World} (T : Bts mg) {f : Addr} {cdv : Value} {A : Around} {outer : List Env} {s : Shared} {H : Hp} {E : XK}
    (hr : Room k (A.deeper (envOfC "_law_cell_gaps" (defScope s_l_cell_gaps) s.heap.objs.size f cdv))) :
    CSs (cxOf CX0 P w K mg base n_l_cell_gaps "_law_cell_gaps" (defScope s_l_cell_gaps) f cdv A outer s H E).nox (defBody s_l_cell_gaps) (b_l_cell_gaps K mg W) :=
  (css_cons (cs_par2 2 3 sc_l_cell_gaps.nd (cm_cons (ce_lst ca_nil) (cm_cons (ce_len T (ce_var 1)) cm_nil))) (css_cons (cs_for PassesOwn.never (ci_range T (ce_var 3)) (cg_name 4 sc_l_cell_gaps.nd) (css_one (cs_for PassesOwn.never (ci_range T (ce_len T (ce_ix (ce_var 1) (ce_var 4)))) (cg_name 5 sc_l_cell_gaps.nd) (css_one (cs_if (ct_isn (ce_ix (ce_ix (ce_var 1) (ce_var 4)) (ce_var 5)) ce_non) (css_one (cs_app' 2 (ce_tup (ca_cons (ce_var 4) (ca_cons (ce_add (ce_var 3) (ce_var 5)) (ca_cons (ce_sub (ce_ix (ce_ix (ce_var 1) (ce_var 4)) (ce_var 5)) (ce_ix (ce_ix (ce_ix (ce_var 0) ce_int) (ce_var 4)) (ce_var 5))) ca_nil)))))) css_nil))))) (css_one (cs_ret (ce_var 2)))))

abbrev s_l_rows : Stmt := topS 38
theorem sc_l_rows : FnScope n_l_rows p_l_rows (defScope s_l_rows) := ⟨rfl, rfl, rfl, by decide +kernel, rfl, by decide +kernel, by decide +kernel⟩
theorem c_l_rows {P : Program} {w : PySem.World} {K : PySem.W.Frag} {mg : Str → Option Value} {base : Heap} {k : Nat} {W : World} (T : Bts mg) {f : Addr} {cdv : Value} {A : Around} {outer : List Env} {s : Shared} {H : Hp} {E : XK}
    (hr : Room k (A.deeper (envOfC "_law_rows" (defScope s_l_rows) s.heap.objs.size f cdv))) :
    CSs (cxOf CX0 P w K mg base n_l_rows "_law_rows" (defScope s_l_rows) f cdv A outer s H E).nox (defBody s_l_rows) (b_l_rows K mg W) :=
  (css_cons (cs_asgD 1 sc_l_rows.nd (ce_lst (ca_cons (ce_tup ca_nil) ca_nil))) (css_cons (cs_for PassesOwn.never (ci_seq (ce_var 0)) (cg_name 2 sc_l_rows.nd) (css_cons (cs_asgD 3 sc_l_rows.nd (ce_lst ca_nil)) (css_cons (cs_for PassesOwn.never (ci_seq (ce_ite (ct_isn (ce_var 2) ce_non) (ce_lrg2 T (ce_sub ce_int ce_int) ce_int) (ce_lst (ca_cons ce_int ca_nil)))) (cg_name 4 sc_l_rows.nd) (css_one (cs_asgD 3 sc_l_rows.nd (ce_add (ce_var 3) (ce_lc [("_law_row", 5)] sc_l_rows.nd (ci_seq (ce_var 1)) (by exact blkOk_by (N := n_l_rows) (sc := defScope s_l_rows) (by decide +kernel)) (fun _ _ _ _ _ => (cg_name 5 sc_l_rows.nd)) (fun _ _ _ _ _ => cts_nil) (fun _ _ _ _ _ => (ce_add (ce_var 5) (ce_tup (ca_cons (ce_var 4) ca_nil))))))))) (css_one (cs_asgD 1 sc_l_rows.nd (ce_var 3)))))) (css_one (cs_ret (ce_var 1)))))

abbrev s_law : Stmt := topS 39
theorem sc_law : FnScope n_law p_law (defScope s_law) := ⟨rfl, rfl, rfl, by decide +kernel, rfl, by decide +kernel, by decide +kernel⟩
theorem c_law {P : Program} {w : PySem.World} {K : PySem.W.Frag} {mg : Str → Option Value} {base : Heap} {k : Nat} {g_l_random_table : PF Ws} {g_l_line_costs : PF Ws} {g_l_rows : PF Ws} {g_l_random_goal : PF Ws} {g_l_cell_gaps : PF Ws} {g_minimum_cost : PF Ws} {g_minimum_steps : PF Ws} {g_find_contradiction : PF Ws} (T : Bts mg) (F_l_random_table : Fn P w K mg base Ws k "_law_random_table" 3 g_l_random_table) (F_l_line_costs : Fn P w K mg base Ws k "_law_line_costs" 1 g_l_line_costs) (F_l_rows : Fn P w K mg base Ws k "_law_rows" 1 g_l_rows) (F_l_random_goal : Fn P w K mg base Ws k "_law_random_goal" 3 g_l_random_goal) (F_l_cell_gaps : Fn P w K mg base Ws k "_law_cell_gaps" 2 g_l_cell_gaps) (F_minimum_cost : Fn P w K mg base Ws k "minimum_cost" 2 g_minimum_cost) (F_minimum_steps : Fn P w K mg base Ws k "minimum_steps" 2 g_minimum_steps) (F_find_contradiction : Fn P w K mg base Ws k "find_contradiction" 2 g_find_contradiction) {f : Addr} {cdv : Value} {A : Around} {outer : List Env} {s : Shared} {H : Hp} {E : XK}
    (hr : Room k (A.deeper (envOfC "law" (defScope s_law) s.heap.objs.size f cdv))) :
    CSs (cxOf CX0 P w K mg base n_law "law" (defScope s_law) f cdv A outer s H E).nox (restOf (defBody s_law)) (b_law K mg g_l_random_table g_l_line_costs g_l_rows g_l_random_goal g_l_cell_gaps g_minimum_cost g_minimum_steps g_find_contradiction) :=
  (css_cons (cs_asgD 2 sc_law.nd (ce_call F_l_random_table hr (ca_cons (ce_var 1) (ca_cons ce_int (ca_cons ce_int ca_nil))))) (css_cons (cs_asgD 3 sc_law.nd (ce_call F_l_line_costs hr (ca_cons (ce_var 2) ca_nil))) (css_cons (cs_asgD 4 sc_law.nd (ce_call F_l_rows hr (ca_cons (ce_var 3) ca_nil))) (css_cons (cs_for PassesOwn.never (ci_range T ce_int) (cg_name 5 sc_law.nd) (css_cons (cs_par3 6 7 8 sc_law.nd (cm_cons (ce_call F_l_random_goal hr (ca_cons (ce_var 1) (ca_cons (ce_var 2) (ca_cons ce_int ca_nil)))) (cm_cons (ce_lst ca_nil) (cm_cons (ce_lst ca_nil) cm_nil)))) (css_frzq 6 (css_cons (cs_asgD 9 sc_law.nd (ce_call F_l_cell_gaps hr (ca_cons (ce_var 2) (ca_cons (ce_var 6) ca_nil)))) (css_cons (cs_for PassesOwn.never (ci_seq (ce_var 4)) (cg_name 10 sc_law.nd) (css_one (cs_if (ct_eq hr (ce_lc [("_law_one", 12), ("_law_other", 13), ("_law_gap", 14)] sc_law.nd (ci_seq (ce_var 9)) (by exact blkOk_by (N := n_law) (sc := defScope s_law) (by decide +kernel)) (fun _ _ _ _ _ => (cg_tup (cgs_cons (cg_name 12 sc_law.nd) (cgs_cons (cg_name 13 sc_law.nd) (cgs_cons (cg_name 14 sc_law.nd) cgs_nil))))) (fun _ _ _ _ _ => (cts_one (ct_ne hr (ce_add (ce_ix (ce_var 10) (ce_var 12)) (ce_ix (ce_var 10) (ce_var 13))) (ce_var 14)))) (fun _ _ _ _ _ => (ce_var 12))) (ce_lst ca_nil)) (css_cons (cs_app' 7 (ce_sum T (ce_lc [("_law_k", 15)] sc_law.nd (ci_range T (ce_len T (ce_var 10))) (by exact blkOk_by (N := n_law) (sc := defScope s_law) (by decide +kernel)) (fun _ _ _ _ _ => (cg_name 15 sc_law.nd)) (fun _ _ _ _ _ => cts_nil) (fun _ _ _ _ _ => (ce_mul (ce_abs T (ce_ix (ce_var 10) (ce_var 15))) (ce_orI (ce_ix (ce_var 3) (ce_var 15)) (ce_one ce_int))))))) (css_one (cs_app' 8 (ce_sum T (ce_lc [("_law_delta", 16)] sc_law.nd (ci_seq (ce_var 10)) (by exact blkOk_by (N := n_law) (sc := defScope s_law) (by decide +kernel)) (fun _ _ _ _ _ => (cg_name 16 sc_law.nd)) (fun _ _ _ _ _ => cts_nil) (fun _ _ _ _ _ => (ce_abs T (ce_var 16)))))))) css_nil))) (css_frzq 6 (css_cons (cs_asgD 11 sc_law.nd (ce_call F_minimum_cost hr (ca_cons (ce_var 2) (ca_cons (ce_var 6) ca_nil)))) (css_cons (cs_if (ct_ne hr (ce_ite (ct_is (ce_var 11) ce_non) ce_non (ce_ix (ce_var 11) ce_int)) (ce_ite (ct_ne hr (ce_var 7) (ce_lst ca_nil)) (ce_min T (ce_var 7)) ce_non)) (css_one (cs_ret ce_bl)) css_nil) (css_frzq 6 (css_cons (cs_if (ct_ne hr (ce_call F_minimum_steps hr (ca_cons (ce_var 2) (ca_cons (ce_var 6) ca_nil))) (ce_ite (ct_ne hr (ce_var 8) (ce_lst ca_nil)) (ce_min T (ce_var 8)) ce_non)) (css_one (cs_ret ce_bl)) css_nil) (css_frzq 6 (css_one (cs_if (ct_ne hr (ce_is (ce_call F_find_contradiction hr (ca_cons (ce_var 2) (ca_cons (ce_var 6) ca_nil))) ce_non) (ce_ne hr (ce_var 7) (ce_lst ca_nil))) (css_one (cs_ret ce_bl)) css_nil))))))))))))) (css_one (cs_ret ce_bl))))))

end Cl

set_option Elab.async false
set_option linter.all false
set_option maxRecDepth 100000
set_option maxHeartbeats 4000000
namespace Cl
open PySem L2 PySem.Spec PyProof.Rows
abbrev FnP (K : PySem.W.Frag) (x qual : Str) (st : Stmt) (f : Addr) (fd : FuncData) : Prop := FunD K x qual (defArgs st) (defBody st) (defScope st) [] [] f fd
section
variable {P : Program} {w : PySem.World} {K : PySem.W.Frag} {mg : Str → Option Value} {base : Heap} {Wd : World}
theorem fnOkD {x qual : Str} {st : Stmt} {f : Addr} {fd : FuncData} {N ps : List Str} {k : Nat} (F : FnP K x qual st f fd) (S : FnScope N ps (defScope st)) (body : SS ⟨K, mg, Wd, E0⟩)
    (hb : ∀ (cdv : Value) (A : Around) (outer : List Env) (s : Shared) (H : Hp) (E : XK), Room k (A.deeper (envOfC qual (defScope st) s.heap.objs.size f cdv)) →
      CSs (cxOf CX0 P w K mg base N qual (defScope st) f cdv A outer s H E).nox (defBody st) body) :
    FnOk P w K mg base CX0 (k + 1) f fd ps (spF K mg Wd ps.length (runF N.length body)) := by
  refine FunD.ok F S (fun vs H Q E h => h.1) (fun cdv A outer s H vs Q E hr h => ⟨_, PSs.nox (hb cdv A outer s H E hr), ?_⟩)
  obtain ⟨hl, s0, as, w0, res, h0, ra, eg, q⟩ := h
  have eg : outF (body.ev (startE N.length as) w0) = some res := eg
  cases e : body.ev (startE N.length as) w0 with
  | none => rw [e] at eg; cases eg
  | some fl =>
    rw [e] at eg
    refine body.ok (Sl.start ra) h0 e _ ?_
    cases fl with
    | nx Γ' w' =>
      cases eg
      exact fun s' H' σ' x S' h' => q s' H' S'.en h' .non .non
    | rt r w' =>
      cases eg
      exact fun v s' H' l h' r' => q s' H' l h' v r'
    | bk Γ' w' => cases eg
    | ct Γ' w' => cases eg
    | ex x w' => cases eg
/-- a def of which nothing is promised -/
theorem fnNo {x qual : Str} {st : Stmt} {f : Addr} {fd : FuncData} {N ps : List Str} {n : Nat} (F : FnP K x qual st f fd) (S : FnScope N ps (defScope st)) : FnOk P w K mg base CX0 1 f fd ps (spF K mg Wd n fun _ _ => none) := by
  refine FunD.ok F S (fun vs H Q E h => ?_) (fun cdv A outer s H vs Q E hr h => ?_)
  · obtain ⟨hl, s0, as, w0, res, h0, ra, eg, q⟩ := h
    cases eg
  · obtain ⟨hl, s0, as, w0, res, h0, ra, eg, q⟩ := h
    cases eg
theorem FnM.mono {k j : Nat} {A : Addr} {m : Str} {n : Nat} {g : PF Wd} (h : FnM P w K mg base Wd k A m n g) (hk : k ≤ j) : FnM P w K mg base Wd j A m n g := by
  obtain ⟨f, fd, ps, h1, h2⟩ := h.ex
  exact ⟨f, fd, ps, h1.mono hk, h2⟩
theorem FnI.mono {k j : Nat} {A : Addr} {x : Str} {n : Nat} {g : PF (Wc A)} (h : FnI P w K mg base k A x n g) (hk : k ≤ j) : FnI P w K mg base j A x n g := by
  obtain ⟨f, fd, ps, i, hi, h1, h2⟩ := h.ex
  exact ⟨f, fd, ps, i, by omega, h1, h2⟩
theorem FnP.fn {x : Str} {st : Stmt} {fd : FuncData} {ps : List Str} {k n : Nat} {g : PF Wd} {f : Addr} (F : FnP K x x st f fd) (hg : mg x = some (.ref f)) (h : FnOk P w K mg base CX0 k f fd ps (spF K mg Wd n g))
    (hb : ∀ (kV doc pm : Value) (an : Option Addr) (cdv ct : Value) (us : List Value), us.length = ps.length → bindArgs (PySem.W.fnOf x x (defArgs st) (defBody st) (defScope st) .none kV doc pm an cdv ct) ⟨us, []⟩ = pure (ps.zip us)) : Fn P w K mg base Wd k x n g :=
  ⟨f, fd, ps, h, hg, F.kp, FunD.bindsN F hb⟩
theorem FnP.fnM {x qual : Str} {st : Stmt} {fd : FuncData} {ps : List Str} {k n : Nat} {g : PF Wd} {f A : Addr} (F : FnP K x qual st f fd) (hc : Cls K A) (hm : Meth K A x f) (h : FnOk P w K mg base CX0 k f fd ps (spF K mg Wd (n + 1) g))
    (hb : ∀ (kV doc pm : Value) (an : Option Addr) (cdv ct : Value) (us : List Value), us.length = ps.length → bindArgs (PySem.W.fnOf x qual (defArgs st) (defBody st) (defScope st) .none kV doc pm an cdv ct) ⟨us, []⟩ = pure (ps.zip us)) : FnM P w K mg base Wd k A x n g :=
  ⟨f, fd, ps, h, hc, hm, FunD.bindsN F hb⟩
theorem FnP.fnI {qual y : Str} {st : Stmt} {fd : FuncData} {ps : List Str} {k n : Nat} {f A : Addr} {g : PF (Wc A)} (F : FnP K "__init__" qual st f fd) (hm : Mk K A f) (hg : mg y = some (.ref A)) (h : FnOk P w K mg base CX0 k f fd ps (spF K mg (Wc A) (n + 1) g))
    (hb : ∀ (kV doc pm : Value) (an : Option Addr) (cdv ct : Value) (us : List Value), us.length = ps.length → bindArgs (PySem.W.fnOf "__init__" qual (defArgs st) (defBody st) (defScope st) .none kV doc pm an cdv ct) ⟨us, []⟩ = pure (ps.zip us)) : FnI P w K mg base (k + 1) A y n g :=
  ⟨f, fd, ps, k, Nat.le_refl _, h, hm, hg, FunD.bindsN F hb⟩
end
end Cl

set_option Elab.async false
set_option linter.all false
set_option maxRecDepth 100000
set_option maxHeartbeats 4000000
namespace Cl
open PySem L2 PySem.Spec PyProof.Rows
/-! ### laws that begin by state = start(script) -/
def spStart (K : PySem.W.Frag) : Sp := fun vs H Q _ => ∃ (a : Addr) (ns : List Int), vs = [.ref a] ∧ SqL K H a (ns.map V.int) ∧ ∀ (m : Int) (p : Addr), H p = none → Q (.ref p) (upd H p (.lst [.ref a, .int 0, .int m, .int 0]))
def spLaw (K : PySem.W.Frag) : Sp := fun vs H Q _ => ∃ (a : Addr) (ns : List Int), vs = [.ref a] ∧ SqL K H a (ns.map V.int) ∧ ns.length ≤ 63 ∧ ∀ H', Q (.bl true) H'
def tStart (K : PySem.W.Frag) : TS := tSeq (tAsg (tC (.int 1)) (gName 1)) (tSeq (tFor (iList K (tVar 0)) (gName 2) (tAsg (tOp (rI (fun _ j => 0 < j) fun i j => .int (i % j)) (tOp (rI0 fun i j => .int (i + j)) (tOp (rI0 fun i j => .int (i + j)) (tOp (rMulA K) (tVar 1) (tC (.int 48271))) (tVar 2)) (tC (.int 7))) (tC (.int 2147483647))) (gName 1))) (tRet (tLst (tCons (tVar 0) (tCons (tC (.int 0)) (tCons (tVar 1) (tCons (tC (.int 0)) tNil)))))))
theorem start_read {K : PySem.W.Frag} {vs : List V} {H : Hp} {Q : VK} {E : XK} (h : spStart K vs H Q E) : tStart K { nx := fun _ H' => Q .non H', rt := Q } (L2.start ["_law_script", "_law_mixed", "_law_cell"] vs) H := by
  obtain ⟨a, ns, rfl, hS, hQ⟩ := h
  refine ⟨_, rfl, a, rfl, ⟨_, hS⟩, for_list (K := K) (a := a) (xs := ns.map V.int) (fun i σ H' => H' = H ∧ ∃ (m : Int) (x : Option V), σ = [some (.ref a), some (.int m), x]) ⟨rfl, 1, none, rfl⟩ (fun i σ H' _ h => by rw [h.1]; exact hS) ?_ ?_⟩
  · rintro i y σ H' hi ⟨rfl, m, x, rfl⟩
    obtain ⟨u, rfl⟩ : ∃ u, y = V.int u := by
      rw [List.getElem?_map] at hi
      cases e : ns[i]? with
      | none => rw [e] at hi; cases hi
      | some u => rw [e] at hi; exact ⟨u, (Option.some.inj hi).symm⟩
    refine ⟨_, rfl, .inl ⟨_, _, rfl, rfl, .inr ⟨by decide, by decide⟩, ?_⟩⟩
    refine ⟨_, rfl, _, _, rfl, rfl, _, _, rfl, rfl, _, _, rfl, rfl, by show (0 : Int) < 2147483647; decide, ?_⟩
    exact ⟨rfl, _, _, rfl⟩
  · rintro σ H' ⟨rfl, m, x, rfl⟩
    refine ⟨_, rfl, _, rfl, by show 4 ≤ sizeLine; decide, fun p hp => ?_⟩
    exact hQ m p hp
theorem law_read {K : PySem.W.Frag} {mg : Str → Option Value} {body : SS (cs K mg E0)} {N : List Str} {n : Nat} (hN : N.length = n + 2) (hb : ∀ (ns : List Int) (m : Int), ns.length ≤ 63 → ∃ w', body.ev (none :: some (.hd 0) :: List.replicate n none) (some (ns, 0, m, 0)) = some (.rt (.dat (.bool true)) w'))
    {vs : List V} {H : Hp} {Q : VK} {E : XK} (h : spLaw K vs H Q E) : tSeq (tAsg (tCall (spStart K) [] E0 (tCons (tVar 0) tNil)) (gName 1)) body.t { nx := fun _ H' => Q .non H', rt := Q } (L2.start N vs) H := by
  obtain ⟨a, ns, rfl, hS, hl, hQ⟩ := h
  have hs : L2.start N [V.ref a] = some (.ref a) :: none :: List.replicate n none := by
    unfold L2.start
    have : N.length - [V.ref a].length = n + 1 := by simp; omega
    rw [this, List.replicate_succ]; rfl
  rw [hs]
  refine ⟨_, rfl, a, ns, rfl, hS, fun m p hp => ?_⟩
  show body.t _ (some (.ref a) :: some (.ref p) :: List.replicate n none) _
  obtain ⟨w', e⟩ := hb ns m hl
  let s1 : Sh := { H0 := H, HW := upd (fun _ => none) p (.lst [.ref a, .int 0, .int m, .int 0]), ad := [p, a] }
  have hH : HO' K Ws s1 (upd H p (.lst [.ref a, .int 0, .int m, .int 0])) (some (ns, 0, m, 0)) := by
    refine ⟨Ex.new hp, fun b o e => ?_, fun b o e t => ?_, p, a, rfl, rfl, (show upd (fun _ => none) p (.lst [.ref a, .int 0, .int m, .int 0]) p = some (.lst [.ref a, .int 0, .int m, .int 0]) from upd_same), hS⟩
    · have e : upd (fun _ => none) p (.lst [.ref a, .int 0, .int m, .int 0]) b = some o := e
      by_cases hb : b = p
      · subst hb; rw [upd_same] at e ⊢; exact e
      · rw [upd_ne hb] at e; cases e
    · show upd (fun _ => none) p (.lst [.ref a, .int 0, .int m, .int 0]) b = none
      rw [upd_ne (ne_of_none e hp)]
  have hS1 : Sl K s1 (upd H p (.lst [.ref a, .int 0, .int m, .int 0])) s1 (upd H p (.lst [.ref a, .int 0, .int m, .int 0])) (some (.ref a) :: some (.ref p) :: List.replicate n none) (none :: some (.hd 0) :: List.replicate n none) := by
    have hno : ∀ (i : Nat) (x : Sv), (none :: some (.hd 0) :: List.replicate n none : Ev)[i]? = some (some x) → i = 1 ∧ x = .hd 0 := by
      intro i x e
      match i with
      | 0 => simp at e
      | 1 => simp at e; exact ⟨rfl, e.symm⟩
      | i + 2 =>
        simp only [List.getElem?_cons_succ, List.getElem?_replicate] at e
        split at e
        · cases e
        · cases e
    refine ⟨Le.refl _ _, by simp, fun i x e => ?_, fun i j q ds es hij e1 e2 => ?_⟩
    · obtain ⟨rfl, rfl⟩ := hno i x e
      exact ⟨.ref p, rfl, p, rfl, rfl⟩
    · obtain ⟨_, h⟩ := hno i _ e1
      cases h
  refine body.ok hS1 hH e _ ?_
  intro v s' H' l h' r
  have : v = .bl true := by
    have r : Rp K s'.H0 v (.bool true) := r
    cases r; rfl
  rw [this]
  exact hQ H'
end Cl

set_option Elab.async false
set_option linter.all false
set_option maxRecDepth 100000
set_option maxHeartbeats 4000000
namespace Cl
open PySem L2 PySem.Spec PyProof.Rows
theorem drawn_ok {K mg} {n : Int} (hn : 0 < n) (hn2 : n < 1073741824) {ns : List Int} {i m r : Int} (hi : 0 ≤ i) (hl : ns.length ≤ 100000) :
    ∃ v d', runF (C := cs K mg E0) n_l_drawn.length (b_l_drawn K mg) [.hd 0, .dat (.int n)] (some (ns, i, m, r)) = some (.ok (.dat (.int v)) (some d')) ∧ 0 ≤ v ∧ v < n ∧ 0 ≤ d'.2.1 ∧ d'.1 = ns := by
  by_cases hr : 0 < r
  · refine ⟨r % n, (ns, i, m, r / n), ?_, Int.emod_nonneg _ (by omega), Int.emod_lt_of_pos _ hn, hi, rfl⟩
    simp [runF, b_l_drawn, startE, drAt, drSet, wixK, wsetK, wlenK, watK, hd0, hr, hn, hn2]
  · by_cases hc : i + 1 ≤ ns.length
    · obtain ⟨c, ec⟩ : ∃ c, ns[i.toNat]? = some c := ⟨ns[i.toNat]'(by omega), List.getElem?_eq_getElem _⟩
      have ex : ixN ns.length i = some i.toNat := by unfold ixN; rw [if_pos hi, if_pos (by omega)]
      refine ⟨c % n, (ns, i + 1, m, if 1000000000000000000 ≤ c then c / n else 0), ?_, Int.emod_nonneg _ (by omega), Int.emod_lt_of_pos _ hn, by simp only; omega, rfl⟩
      by_cases hb : (1000000000000000000 : Int) ≤ c <;>
      simp [runF, b_l_drawn, startE, drAt, drSet, wixK, wsetK, wlenK, watK, hd0, hr, hn, hn2, powF, hc, hl, ex, ec, L2.atI, hb]
    · have hm : mulC m 48271 = true := mulC_r (by decide) (by decide)
      refine ⟨((m * 48271 + 11) % 2147483647) / 7 % n, (ns, i + 1, (m * 48271 + 11) % 2147483647, r), ?_, Int.emod_nonneg _ (by omega), Int.emod_lt_of_pos _ hn, by simp only; omega, rfl⟩
      simp [runF, b_l_drawn, startE, drAt, drSet, wixK, wsetK, wlenK, watK, hd0, hr, hn, hn2, hm, hc, hl]
/-- a source that stands -/
def DrOk (ns : List Int) (w : Option Dr) : Prop := ns.length ≤ 100000 ∧ ∃ i m r, w = some (ns, i, m, r) ∧ 0 ≤ i
/-- draws: below the count, the source stands -/
def gc_drawn (K : PySem.W.Frag) (mg : Str → Option Value) : PF Ws := runF (C := cs K mg E0) n_l_drawn.length (b_l_drawn K mg)
section
variable {K : PySem.W.Frag} {mg : Str → Option Value}
theorem drawn {ns : List Int} {w : Option Dr} (n : Int) (h : DrOk ns w) (hn : 0 < n) (hn2 : n < 1073741824) : ∃ (v : Nat) (w' : Option Dr), gc_drawn K mg [.hd 0, .dat (.int n)] w = some (.ok (.dat (.int (v : Nat))) w') ∧ (v : Int) < n ∧ DrOk ns w' := by
  obtain ⟨hl, i, m, r, rfl, hi⟩ := h
  obtain ⟨v, d', e, h1, h2, h3, h4⟩ := drawn_ok (K := K) (mg := mg) hn hn2 (m := m) (r := r) hi hl
  obtain ⟨ns', i', m', r'⟩ := d'
  cases h4
  refine ⟨v.toNat, _, ?_, by omega, hl, i', m', r', rfl, h3⟩
  rw [show ((v.toNat : Nat) : Int) = v by omega]
  exact e
end
end Cl

set_option Elab.async false
set_option linter.all false
set_option maxRecDepth 100000
set_option maxHeartbeats 4000000
namespace Cl
open PySem L2 PySem.Spec PyProof.Rows
section
variable {C : Cf} {Γ : Ev}
theorem mapEv_draw {α : Type} {g : PyData → Ev → Option Ev} {b : Ev → C.T → Option (Rs C.T PyData)} {e : Nat → PyData} (dec : α → PyData) (I : C.T → Prop) (R : Nat → α → Prop) : ∀ (l : List Nat) {w : C.T}, I w →
    (∀ j ∈ l, ∀ w, I w → ∃ Γ1 a w2, g (e j) Γ = some Γ1 ∧ b Γ1 w = some (.ok (dec a) w2) ∧ R j a ∧ I w2) →
    ∃ (as : List α) (w' : C.T), mapEv g (fun _ w => some (.ok true w)) b Γ (l.map e) w = some (as.map dec, w') ∧ I w' ∧ as.length = l.length ∧ ∀ (i j : Nat) (a : α), l[i]? = some j → as[i]? = some a → R j a
  | [], w, h, _ => ⟨[], w, rfl, h, rfl, fun i j a e _ => by simp at e⟩
  | k :: r, w, h, hs => by
    obtain ⟨Γ1, a, w2, e1, e2, h1, h2⟩ := hs k (List.mem_cons_self ..) w h
    obtain ⟨as, w', e3, h3, h4, h5⟩ := mapEv_draw (g := g) (b := b) (e := e) dec I R r h2 fun j hj => hs j (List.mem_cons_of_mem _ hj)
    refine ⟨a :: as, w', ?_, h3, by simp [h4], fun i j a' e4 e5 => ?_⟩
    · rw [List.map_cons]
      unfold mapEv
      rw [e1]
      simp only [e2, e3, List.map_cons]
    · cases i with
      | zero => simp at e4 e5; rw [← e4, ← e5]; exact h1
      | succ i => simp at e4 e5; exact h5 i j a' e4 e5
/-- a comprehension that draws -/
theorem lc_draw {α : Type} [Inhabited α] {it : SI C} {g : SG C.z} {x : SE C.z} {vs : List Nat} {hg} {w w1 : C.T} {n : Nat} {e : Nat → PyData} (dec : α → PyData) (I : C.T → Prop) (R : Nat → α → Prop) (hn : n ≤ 100000) (ei : it.ev Γ w = some (.ok (rng n e) w1)) (h0 : I w1)
    (hs : ∀ j, j < n → ∀ w, I w → ∃ Γ1 a w2, g.asg (e j) (wipeE Γ vs) = some Γ1 ∧ x.evD Γ1 w = some (.ok (dec a) w2) ∧ R j a ∧ I w2) :
    ∃ (f : Nat → α) (w' : C.T), (SE.lc it g ST.yes x vs hg).ev Γ w = some (.ok (.new (.lst (rng n fun j => dec (f j)))) w') ∧ I w' ∧ ∀ j, j < n → R j (f j) := by
  obtain ⟨as, w', e1, h1, h2, h3⟩ := mapEv_draw (C := C.z) (Γ := wipeE Γ vs) (g := g.asg) (b := x.evD) (e := e) dec I R (List.range n) h0 fun j hj => hs j (List.mem_range.mp hj)
  rw [List.length_range] at h2
  have ea : as.map dec = rng n fun j => dec ((as[j]?).getD default) := by
    apply List.ext_getElem?
    intro i
    by_cases hi : i < n
    · rw [rng_get hi, List.getElem?_map, List.getElem?_eq_getElem (by omega)]; rfl
    · rw [rng_none hi, List.getElem?_eq_none (by simp; omega)]
  refine ⟨fun j => (as[j]?).getD default, w', ?_, h1, fun j hj => ?_⟩
  · rw [lc_ev, ei, bindR_ok, if_pos (by simpa using hn)]
    have : mapEv g.asg (ST.yes (C := C.z)).ev x.evD (wipeE Γ vs) (rng n e) w1 = some (as.map dec, w') := e1
    rw [this, ea]
  · have : as[j]? = some (as[j]'(by omega)) := List.getElem?_eq_getElem _
    show R j ((as[j]?).getD default)
    rw [this]
    exact h3 j j _ (by simp [hj]) this
end
section
variable {K : PySem.W.Frag} {mg : Str → Option Value}
variable (K mg) in
def gc_random_table : PF Ws := runF (C := cs K mg E0) n_l_random_table.length (b_l_random_table K mg Ws (gc_drawn K mg))
@[simp] theorem ixF_ofNat {ds : List PyData} {v : Nat} : ixF (.list ds) (.int (v : Nat)) = (ds[v]?).map .dat := by simp
theorem range_ev {C : Cf} {a : SE C} {Γ : Ev} {w w1 : C.T} {n : Nat} (h : a.evV Γ w = some (.ok (.int (n : Nat)) w1)) (hn : n ≤ 100000) : (SI.range a).ev Γ w = some (.ok (rng n fun j => .int (j : Nat)) w1) := by
  rw [irange_ev, h, bindR_ok]
  have a1 : (n : Int) ≤ 100000 := by omega
  have a2 : (-100000 : Int) ≤ (n : Int) := by omega
  simp only [evO_S, a1, a2, and_self, if_true, Option.map_some, Int.toNat_natCast, ranD_rng]
theorem randomTable {ns : List Int} {w : Option Dr} {most high : Int} (h : DrOk ns w) (hm : 1 ≤ most ∧ most ≤ 7) (hh : 0 ≤ high ∧ high ≤ 1000) :
    ∃ hh wd t c w', gc_random_table K mg [.hd 0, .dat (.int most), .dat (.int high)] w = some (.ok (.dat (tabD hh wd t c)) w') ∧ DrOk ns w' ∧ SzOk hh wd ∧ (hh : Int) ≤ most ∧ (wd : Int) ≤ most ∧ (∀ r k, r < hh → k < wd → -high ≤ t r k ∧ t r k ≤ high) ∧ COk c := by
  obtain ⟨v1, w1, e1, b1, D1⟩ := drawn (K := K) (mg := mg) most h (by omega) (by omega)
  obtain ⟨v2, w2, e2, b2, D2⟩ := drawn (K := K) (mg := mg) most D1 (by omega) (by omega)
  -- the cells
  obtain ⟨t, w3, e3, D3, ht⟩ := lc_draw (C := cs K mg E0) (α := Nat → Int) (Γ := [some (.hd 0), some (.dat (.int most)), some (.dat (.int high)), some (.dat (.int (1 + (v1 : Nat)))), some (.dat (.int (1 + (v2 : Nat)))), none, none, none, none, none, none, none]) (w := w2) (w1 := w2)
    (it := .range (.var 3)) (g := .name 10) (x := .tuple (.lc (.range (.var 4)) (.name 11) .yes (.sub (.call 2 (gc_drawn K mg) (.cons (.var 0) (.cons (.add (.mul (.int 2) (.var 2)) (.int 1)) .nil))) (.var 2)) [11] rfl)) (vs := [10]) (hg := rfl) (n := 1 + v1) (e := fun j => .int (j : Nat))
    (fun f => .tuple (rng (1 + v2) fun k => .int (f k))) (DrOk ns) (fun _ f => ∀ k, k < 1 + v2 → -high ≤ f k ∧ f k ≤ high) (by omega) (range_ev (by simp) (by omega)) D2 (by
      intro j hj w hw
      obtain ⟨f, w', e4, h4, h5⟩ := lc_draw (C := (cs K mg E0).z) (α := Int) (Γ := [some (.hd 0), some (.dat (.int most)), some (.dat (.int high)), some (.dat (.int (1 + (v1 : Nat)))), some (.dat (.int (1 + (v2 : Nat)))), none, none, none, none, none, some (.dat (.int (j : Nat))), none]) (w := w) (w1 := w)
        (it := .range (.var 4)) (g := .name 11) (x := .sub (.call 2 (gc_drawn K mg) (.cons (.var 0) (.cons (.add (.mul (.int 2) (.var 2)) (.int 1)) .nil))) (.var 2)) (vs := [11]) (hg := rfl) (n := 1 + v2) (e := fun j => .int (j : Nat)) .int (DrOk ns) (fun _ x => -high ≤ x ∧ x ≤ high) (by omega) (range_ev (by simp) (by omega)) hw (by
          intro k hk w hw
          obtain ⟨v, w', e5, b5, D5⟩ := drawn (K := K) (mg := mg) (2 * high + 1) hw (by omega) (by omega)
          have hmul : mulC 2 high = true := mulC_l (by decide) (by decide)
          exact ⟨_, (v : Int) - high, w', rfl, by simp [wipeE, hmul, e5], by omega, D5⟩)
      refine ⟨_, f, w', rfl, ?_, h5, h4⟩
      simp only [evD_S, cb1_ev, evV_S, wipeE, List.set]
      erw [e4]
      simp)
  obtain ⟨v3, w4, e4, b4, D4⟩ := drawn (K := K) (mg := mg) 3 D3 (by omega) (by omega)
  obtain ⟨v5, w5, e5, b5, D5⟩ := drawn (K := K) (mg := mg) 3 D4 (by omega) (by omega)
  obtain ⟨ra, era, hra⟩ : ∃ ra : Int, ([PyData.int 3, .int 12, .int 60] : List PyData)[v3]? = some (.int ra) ∧ 0 < ra ∧ ra < 100 := by
    have : v3 = 0 ∨ v3 = 1 ∨ v3 = 2 := by omega
    rcases this with rfl | rfl | rfl
    · exact ⟨3, rfl, by omega⟩
    · exact ⟨12, rfl, by omega⟩
    · exact ⟨60, rfl, by omega⟩
  obtain ⟨li, eli, hli⟩ : ∃ ra : Int, ([PyData.int 2, .int 9, .int 99] : List PyData)[v5]? = some (.int ra) ∧ 0 < ra ∧ ra < 100 := by
    have : v5 = 0 ∨ v5 = 1 ∨ v5 = 2 := by omega
    rcases this with rfl | rfl | rfl
    · exact ⟨2, rfl, by omega⟩
    · exact ⟨9, rfl, by omega⟩
    · exact ⟨99, rfl, by omega⟩
  suffices hsuf : ∃ (L : List (Option Int)) (w' : Option Dr), L.length = 1 + v1 + (1 + v2) ∧ (∀ x ∈ L, ∀ i, x = some i → 1 ≤ i ∧ i ≤ 99) ∧ DrOk ns w' ∧ gc_random_table K mg [.hd 0, .dat (.int most), .dat (.int high)] w = some (.ok (.dat (.tuple [.tuple (rng (1 + v1) fun r => .tuple (rng (1 + v2) fun k => .int (t r k))), .tuple ((L.take (1 + v1)).map optD), .tuple ((L.drop (1 + v1)).map optD)])) w') by
    obtain ⟨L, w', hL, hx, D', e⟩ := hsuf
    refine ⟨1 + v1, 1 + v2, t, fun l => (L[l]?).getD none, w', ?_, D', ⟨by omega, by omega, by omega, by omega⟩, by omega, by omega, fun r k hr hk => ht r hr k hk, ?_⟩
    · rw [e]
      congr 6
      · congr 1
        apply List.ext_getElem?
        intro i
        by_cases hi : i < 1 + v1
        · rw [rng_get hi, List.getElem?_map, List.getElem?_take, if_pos hi]
          show _ = some (optD ((L[i]?).getD none))
          rw [List.getElem?_eq_getElem (by omega)]; rfl
        · rw [rng_none hi, List.getElem?_eq_none (by simp; omega)]
      · congr 2
        apply List.ext_getElem?
        intro i
        by_cases hi : i < 1 + v2
        · rw [rng_get hi, List.getElem?_map, List.getElem?_drop]
          show _ = some (optD ((L[1 + v1 + i]?).getD none))
          rw [List.getElem?_eq_getElem (by omega)]; rfl
        · rw [rng_none hi, List.getElem?_eq_none (by simp; omega)]
    · intro l x el
      have el : (L[l]?).getD none = some x := el
      cases e6 : L[l]? with
      | none => rw [e6] at el; cases el
      | some y =>
        rw [e6] at el
        exact hx y (List.mem_of_getElem? e6) x el
  -- the walk
  unfold gc_random_table
  refine Wp.run (C := cs K mg E0) (R := fun o => ∃ (L : List (Option Int)) (w' : Option Dr), L.length = 1 + v1 + (1 + v2) ∧ (∀ x ∈ L, ∀ i, x = some i → 1 ≤ i ∧ i ≤ 99) ∧ DrOk ns w' ∧ o = some (.ok (.dat (.tuple [.tuple (rng (1 + v1) fun r => .tuple (rng (1 + v2) fun k => .int (t r k))), .tuple ((L.take (1 + v1)).map optD), .tuple ((L.drop (1 + v1)).map optD)])) w')) ?_
  unfold b_l_random_table
  refine Wp.step (by simp [startE, e1, e2]; and_intros <;> rfl) ?_
  refine Wp.step (Γ' := [some (.hd 0), some (.dat (.int most)), some (.dat (.int high)), some (.dat (.int (1 + (v1 : Nat)))), some (.dat (.int (1 + (v2 : Nat)))), some (.dat (.list (rng (1 + v1) fun r => .tuple (rng (1 + v2) fun k => .int (t r k))))), none, none, none, none, none, none]) (w' := w3) (by
    simp only [asgD_ev, evD_S]
    erw [e3]
    simp) ?_
  refine Wp.step (Γ' := [some (.hd 0), some (.dat (.int most)), some (.dat (.int high)), some (.dat (.int (1 + (v1 : Nat)))), some (.dat (.int (1 + (v2 : Nat)))), some (.dat (.list (rng (1 + v1) fun r => .tuple (rng (1 + v2) fun k => .int (t r k))))), some (.dat (.int ra)), some (.dat (.int li)), some (.own (.lst [])), none, none, none]) (w' := w5) (by
    simp [e4, e5, era, eli]) ?_
  refine Wp.seq (Wp.for_ (n := 1 + v1 + (1 + v2)) (e := fun j => .int (j : Nat)) (fun j Γ w' => DrOk ns w' ∧ ∃ (L : List (Option Int)) (x9 : Option Sv), Γ = [some (.hd 0), some (.dat (.int most)), some (.dat (.int high)), some (.dat (.int (1 + (v1 : Nat)))), some (.dat (.int (1 + (v2 : Nat)))), some (.dat (.list (rng (1 + v1) fun r => .tuple (rng (1 + v2) fun k => .int (t r k))))), some (.dat (.int ra)), some (.dat (.int li)), some (.own (.lst (L.map optD))), x9, none, none] ∧ L.length = j ∧ ∀ x ∈ L, ∀ i, x = some i → 1 ≤ i ∧ i ≤ 99)
    (range_ev (by simp) (by omega)) ⟨D5, [], none, rfl, rfl, by simp⟩ ?_ ?_)
  · rintro j Γ w' hj ⟨D, L, x9, rfl, hL, hx⟩
    have hL2 : L.length < 100000 := by omega
    obtain ⟨a, wa, ea, ba, Da⟩ := drawn (K := K) (mg := mg) ra D hra.1 (by omega)
    obtain ⟨b, wb, eb, bb, Db⟩ := drawn (K := K) (mg := mg) li Da hli.1 (by omega)
    refine ⟨_, rfl, ?_⟩
    refine Wp.step (by simp; and_intros <;> rfl) ?_
    refine Wp.step (by simp; and_intros <;> rfl) ?_
    by_cases hz : a = 0
    · subst hz
      refine Wp.mk (f := .nx _ _) (by simp at ea; simp [ea, hL2]; and_intros <;> rfl) ⟨Da, L ++ [none], some (.dat (.int (j : Nat))), by simp, by simp [hL], ?_⟩
      intro x hx2 i e
      rcases List.mem_append.mp hx2 with h | h
      · exact hx x h i e
      · simp at h; subst h; cases e
    · refine Wp.mk (f := .nx _ _) (by simp [ea, hL2, hz, eb]; and_intros <;> rfl) ⟨Db, L ++ [some (1 + (b : Int))], some (.dat (.int (j : Nat))), by simp, by simp [hL], ?_⟩
      intro x hx2 i e
      rcases List.mem_append.mp hx2 with h | h
      · exact hx x h i e
      · simp at h; subst h; cases e; omega
  · rintro Γ w' ⟨D, L, x9, rfl, hL, hx⟩
    have c1 : (some (1 + (v1 : Int))) = some ((1 + v1 : Nat) : Int) := by congr 1
    refine Wp.mk (f := .rt (.dat (.tuple [.tuple (rng (1 + v1) fun r => .tuple (rng (1 + v2) fun k => .int (t r k))), .tuple ((L.take (1 + v1)).map optD), .tuple ((L.drop (1 + v1)).map optD)])) w') ?_ ⟨L, w', hL, hx, D, rfl⟩
    simp [c1, cutD_take, cutD_drop, List.map_take, List.map_drop]
end
end Cl

set_option Elab.async false
set_option linter.all false
set_option maxRecDepth 100000
set_option maxHeartbeats 4000000
namespace Cl
open PySem L2 PySem.Spec PyProof.Rows
/-! ### rows that are changed in place -/
def MWp {C : Cf} {i : Nat} (m : MS C i) (rows : Rows) (Γ : Ev) (w : C.T) (Q : Rows → Ev → C.T → Prop) : Prop := ∃ r, m.ev rows Γ w = some r ∧ Q r.1 r.2.1 r.2.2
section
variable {C : Cf} {i : Nat} {rows : Rows} {Γ : Ev} {w : C.T} {Q : Rows → Ev → C.T → Prop}
theorem MWp.mk {m : MS C i} {rows' : Rows} {Γ' : Ev} {w' : C.T} (e : m.ev rows Γ w = some (rows', Γ', w')) (q : Q rows' Γ' w') : MWp m rows Γ w Q := ⟨_, e, q⟩
theorem MWp.seq {a b : MS C i} (h : MWp a rows Γ w fun rows Γ w => MWp b rows Γ w Q) : MWp (.seq a b) rows Γ w Q := by
  obtain ⟨r, e, h⟩ := h
  obtain ⟨r2, e2, h2⟩ := h
  refine ⟨r2, ?_, h2⟩
  show (a.ev rows Γ w).bind _ = _
  rw [e, Option.bind_some]; exact e2
theorem MWp.lift {b : SS C} {Γ' : Ev} {w' : C.T} (e : b.ev Γ w = some (.nx Γ' w')) (hp : isPt Γ'[i]? = true) (q : Q rows Γ' w') : MWp (.lift (i := i) b) rows Γ w Q := by
  refine ⟨(rows, Γ', w'), ?_, q⟩
  show (match b.ev Γ w with | some (.nx Γ' w') => if isPt Γ'[i]? = true then some (rows, Γ', w') else none | _ => none) = _
  rw [e]; simp only [hp, if_true]
theorem MWp.ite {c : ST C} {a b : MS C i} {x : Bool} {w1 : C.T} (e : c.ev Γ w = some (.ok x w1)) (h : MWp (if x = true then a else b) rows Γ w1 Q) : MWp (.ite c a b) rows Γ w Q := by
  obtain ⟨r, e2, h⟩ := h
  refine ⟨r, ?_, h⟩
  show (match c.ev Γ w with | some (.ok true w1) => a.ev rows Γ w1 | some (.ok false w1) => b.ev rows Γ w1 | _ => none) = _
  rw [e]
  cases x <;> exact e2
theorem forM_wp {g : SG C} {b : MS C i} (P : Nat → Rows → Ev → C.T → Prop) (n : Nat) (h0 : P 0 rows Γ w)
    (hs : ∀ j rows Γ w, j < n → P j rows Γ w → ∃ Γ1, g.asg (.int (j : Nat)) Γ = some Γ1 ∧ isPt Γ1[i]? = true ∧ MWp b rows Γ1 w (P (j + 1))) :
    ∃ rows' Γ' w', forM i g.asg b.ev (ranD 0 n) rows Γ w = some (rows', Γ', w') ∧ P n rows' Γ' w' := by
  have := forM_inv (i := i) (g := g.asg) (b := b.ev) P (items := ranD 0 n) (n := 0) h0 (fun j d rows Γ w e p => by
    rw [ranD_rng] at e
    by_cases hj : j < n
    · rw [rng_get hj] at e
      cases e
      rw [Nat.zero_add] at p ⊢
      obtain ⟨Γ1, h1, h2, r, h3, h4⟩ := hs j rows Γ w hj p
      exact ⟨Γ1, r.1, r.2.1, r.2.2, h1, h2, h3, h4⟩
    · rw [rng_none hj] at e; cases e)
  obtain ⟨rows', Γ', w', e, h⟩ := this
  rw [Nat.zero_add, ranD_rng, rng_length] at h
  exact ⟨rows', Γ', w', e, h⟩
theorem MWp.forLen {g : SG C} {b : MS C i} (P : Nat → Rows → Ev → C.T → Prop) (hn : rows.length ≤ 100000) (h0 : P 0 rows Γ w)
    (hs : ∀ j rows1 Γ w, j < rows.length → P j rows1 Γ w → ∃ Γ1, g.asg (.int (j : Nat)) Γ = some Γ1 ∧ isPt Γ1[i]? = true ∧ MWp b rows1 Γ1 w (P (j + 1)))
    (q : ∀ rows1 Γ w, P rows.length rows1 Γ w → Q rows1 Γ w) : MWp (.forLen g b) rows Γ w Q := by
  obtain ⟨rows', Γ', w', e, h⟩ := forM_wp P rows.length h0 hs
  refine ⟨(rows', Γ', w'), ?_, q _ _ _ h⟩
  show (if rows.length ≤ 100000 then forM i g.asg b.ev (ranD 0 rows.length) rows Γ w else none) = _
  rw [if_pos hn]; exact e
theorem MWp.forRow {g : SG C} {b : MS C i} {j k : Nat} {row : List PyData} (P : Nat → Rows → Ev → C.T → Prop) (hj : intAt Γ j = some (k : Int)) (hr : rows[k]? = some row) (hn : row.length ≤ 100000) (h0 : P 0 rows Γ w)
    (hs : ∀ j rows1 Γ w, j < row.length → P j rows1 Γ w → ∃ Γ1, g.asg (.int (j : Nat)) Γ = some Γ1 ∧ isPt Γ1[i]? = true ∧ MWp b rows1 Γ1 w (P (j + 1)))
    (q : ∀ rows1 Γ w, P row.length rows1 Γ w → Q rows1 Γ w) : MWp (.forRow j g b) rows Γ w Q := by
  obtain ⟨rows', Γ', w', e, h⟩ := forM_wp P row.length h0 hs
  refine ⟨(rows', Γ', w'), ?_, q _ _ _ h⟩
  show ((intAt Γ j).bind fun k => (atI rows k).bind fun row => if row.length ≤ 100000 then forM i g.asg b.ev (ranD 0 row.length) rows Γ w else none) = _
  have : atI rows (k : Int) = rows[k]? := by
    unfold L2.atI
    have hk : k < rows.length := (List.getElem?_eq_some_iff.mp hr).1
    rw [ixN_nat hk]; rfl
  rw [hj, Option.bind_some, this, hr, Option.bind_some, if_pos hn]; exact e
end
/-- rows told by a function -/
def rowsL (h wd : Nat) (g : Nat → Nat → Option Int) : Rows := rng h fun r => rng wd fun k => optD (g r k)
theorem rowsL_set {h wd : Nat} {g : Nat → Nat → Option Int} {r k : Nat} (hr : r < h) (hk : k < wd) (x : Option Int) : (rowsL h wd g).set r ((rng wd fun k => optD (g r k)).set k (optD x)) = rowsL h wd (setG g r k x) := by
  unfold rowsL
  apply List.ext_getElem?
  intro i
  rw [List.getElem?_set]
  by_cases hi : i < h
  · rw [rng_get hi, rng_get hi]
    by_cases e : r = i
    · subst e
      rw [if_pos rfl, if_pos (by simpa using hr)]
      congr 1
      apply List.ext_getElem?
      intro j
      rw [List.getElem?_set]
      by_cases hj : j < wd
      · rw [rng_get hj, rng_get hj]
        by_cases e2 : k = j
        · subst e2; rw [if_pos rfl, if_pos (by simpa using hk)]; simp [setG]
        · rw [if_neg e2]; simp [setG, Ne.symm e2]
      · rw [rng_none hj, rng_none hj]
        have : ¬ k = j := by omega
        rw [if_neg this]
    · rw [if_neg e]
      congr 1
      apply rng_congr
      intro j _
      simp [setG, Ne.symm e]
  · rw [rng_none hi, rng_none hi, if_neg (by omega)]
section
variable {C : Cf} {i : Nat} {Γ : Ev} {w : C.T} {Q : Rows → Ev → C.T → Prop}
theorem MWp.put {h wd : Nat} {g : Nat → Nat → Option Int} {jr jk r k : Nat} {a : SE C} {x : Option Int} {w1 : C.T} (hr : r < h) (hk : k < wd) (er : intAt Γ jr = some (r : Int)) (ek : intAt Γ jk = some (k : Int)) (ea : a.evD Γ w = some (.ok (optD x) w1)) (q : Q (rowsL h wd (setG g r k x)) Γ w1) : MWp (.put (i := i) jr jk a) (rowsL h wd g) Γ w Q := by
  refine ⟨(rowsL h wd (setG g r k x), Γ, w1), ?_, q⟩
  show (match a.evD Γ w with
    | some (.ok d w1) => (intAt Γ jr).bind fun x => (intAt Γ jk).bind fun y => (ixN (rowsL h wd g).length x).bind fun m => ((rowsL h wd g)[m]?).bind fun row => (ixN row.length y).map fun n => ((rowsL h wd g).set m (row.set n d), Γ, w1)
    | _ => none) = _
  rw [ea]
  simp only [er, ek, Option.bind_some]
  have e1 : ixN (rowsL h wd g).length (r : Int) = some r := ixN_nat (by simpa [rowsL] using hr)
  have e2 : (rowsL h wd g)[r]? = some (rng wd fun k => optD (g r k)) := rng_get hr
  have e3 : ixN (rng wd fun k => optD (g r k)).length (k : Int) = some k := ixN_nat (by simpa using hk)
  rw [e1, Option.bind_some, e2, Option.bind_some, e3, Option.map_some, rowsL_set hr hk]
theorem MWp.put1 {h wd : Nat} {g : Nat → Nat → Option Int} {jr jk r k : Nat} {a : SE C} {z d : Int} {w1 : C.T} (hr : r < h) (hk : k < wd) (er : intAt Γ jr = some (r : Int)) (ek : intAt Γ jk = some (k : Int)) (ez : g r k = some z) (ea : a.evV Γ w = some (.ok (.int d) w1)) (q : Q (rowsL h wd (setG g r k (some (z + 1 + d)))) Γ w1) : MWp (.put1 (i := i) jr jk a) (rowsL h wd g) Γ w Q := by
  refine ⟨(rowsL h wd (setG g r k (some (z + 1 + d))), Γ, w1), ?_, q⟩
  show ((intAt Γ jr).bind fun x => (intAt Γ jk).bind fun y => (ixN (rowsL h wd g).length x).bind fun m => ((rowsL h wd g)[m]?).bind fun row => (ixN row.length y).bind fun n => match row[n]? with
    | some (.int z) => (match a.evV Γ w with
      | some (.ok (.int d) w1) => some ((rowsL h wd g).set m (row.set n (.int (z + 1 + d))), Γ, w1)
      | _ => none)
    | _ => none) = _
  simp only [er, ek, Option.bind_some]
  have e1 : ixN (rowsL h wd g).length (r : Int) = some r := ixN_nat (by simpa [rowsL] using hr)
  have e2 : (rowsL h wd g)[r]? = some (rng wd fun k => optD (g r k)) := rng_get hr
  have e3 : ixN (rng wd fun k => optD (g r k)).length (k : Int) = some k := ixN_nat (by simpa using hk)
  have e4 : (rng wd fun k => optD (g r k))[k]? = some (.int z) := by rw [rng_get hk, ez]; rfl
  rw [e1, Option.bind_some, e2, Option.bind_some, e3, Option.bind_some, e4]
  simp only [ea]
  exact congrArg (fun L => some (L, Γ, w1)) (rowsL_set hr hk (some (z + 1 + d)))
end
end Cl

set_option Elab.async false
set_option linter.all false
set_option maxRecDepth 100000
set_option maxHeartbeats 4000000
namespace Cl
open PySem L2 PySem.Spec PyProof.Rows
theorem rowsOf_rng {h : Nat} {f : Nat → List PyData} : rowsOf (rng h fun r => .tuple (f r)) = some (rng h f) := by
  unfold rng
  generalize List.range h = l
  induction l with
  | nil => rfl
  | cons a r ih => rw [List.map_cons, List.map_cons, rowsOf, ih]; rfl
section
variable {K : PySem.W.Frag} {mg : Str → Option Value}
variable (K mg) in
def gc_l_line_costs : PF Ws := runF (C := cs K mg E0) n_l_line_costs.length (b_l_line_costs K mg Ws)
variable (K mg) in
def gc_l_shifted : PF Ws := runF (C := cs K mg E0) n_l_shifted.length (b_l_shifted K mg Ws)
variable (K mg) in
def gc_l_random_goal : PF Ws := runF (C := cs K mg E0) n_l_random_goal.length (b_l_random_goal K mg Ws (gc_drawn K mg) (gc_l_shifted K mg) (gc_l_line_costs K mg))
theorem lLineCosts {x : PyData} {h wd : Nat} {c : Nat → Option Int} {w : Option Dr} (hs : h + wd ≤ 100) : gc_l_line_costs K mg [.dat (.tuple [x, costsD h c, costsD wd fun k => c (h + k)])] w = some (.ok (.new (.lst (rng (h + wd) fun i => optD (c i)))) w) := by
  have : h + wd ≤ 100000 := by omega
  have e := rng_append (n := h) (m := wd) (f := fun i => optD (c i))
  simp [gc_l_line_costs, runF, b_l_line_costs, startE, this, e]
theorem lShifted {h wd : Nat} {t : Nat → Nat → Int} {s : Nat → Int} {w : Option Dr} (S : SzOk h wd) : gc_l_shifted K mg [.dat (cellsD h wd t), .dat (.list (rng (h + wd) fun l => .int (s l)))] w = some (.ok (.dat (cellsD h wd fun r k => t r k + s r + s (h + k))) w) := by
  have h2 := S.h2
  have w2 := S.w2
  unfold gc_l_shifted
  refine Wp.run1 (C := cs K mg E0) ?_
  unfold b_l_shifted
  refine Wp.step (by simp [startE]; and_intros <;> rfl) ?_
  refine Wp.step (by simp; and_intros <;> rfl) ?_
  refine Wp.seq (Wp.for_ (n := h) (e := fun j => .int (j : Nat)) (fun j Γ w' => w' = w ∧ ∃ x4 x5 x6, Γ = [some (.dat (cellsD h wd t)), some (.dat (.list (rng (h + wd) fun l => .int (s l)))), some (.dat (.int (h : Nat))), some (.own (.lst (rng j fun r => .tuple (rng wd fun k => .int (t r k + s r + s (h + k)))))), x4, x5, x6]) (range_ev (by simp) (by omega)) ⟨rfl, none, none, none, rfl⟩ ?_ ?_)
  · rintro j Γ w' hj ⟨rfl, x4, x5, x6, rfl⟩
    have er : (rng h fun r => PyData.tuple (rng wd fun k => .int (t r k)))[j]? = some (.tuple (rng wd fun k => .int (t j k))) := rng_get hj
    have es : (rng (h + wd) fun l => PyData.int (s l))[j]? = some (.int (s j)) := rng_get (by omega)
    refine ⟨_, rfl, ?_⟩
    refine Wp.step (by simp; and_intros <;> rfl) ?_
    refine Wp.seq (Wp.for_ (n := wd) (e := fun k => .int (k : Nat)) (fun k Γ w'' => w'' = w' ∧ ∃ x6, Γ = [some (.dat (cellsD h wd t)), some (.dat (.list (rng (h + wd) fun l => .int (s l)))), some (.dat (.int (h : Nat))), some (.own (.lst (rng j fun r => .tuple (rng wd fun k => .int (t r k + s r + s (h + k)))))), some (.dat (.int (j : Nat))), some (.own (.lst (rng k fun k => .int (t j k + s j + s (h + k))))), x6]) (range_ev (by simp [er]) (by omega)) ⟨rfl, x6, rfl⟩ ?_ ?_)
    · rintro k Γ w'' hk ⟨rfl, x6, rfl⟩
      have ek : (rng wd fun k => PyData.int (t j k))[k]? = some (.int (t j k)) := rng_get hk
      have es2 : (rng (h + wd) fun l => PyData.int (s l))[h + k]? = some (.int (s (h + k))) := rng_get (by omega)
      have hl : k < 100000 := by omega
      exact ⟨_, rfl, Wp.mk (f := .nx _ _) (by simp [er, es, ek, es2, hl]; and_intros <;> rfl) ⟨rfl, some (.dat (.int (k : Nat))), by rw [rng_succ]⟩⟩
    · rintro Γ w'' ⟨rfl, x6, rfl⟩
      have hl : j < 100000 := by omega
      exact Wp.mk (f := .nx _ _) (by simp [hl]; and_intros <;> rfl) ⟨rfl, some (.dat (.int (j : Nat))), some (.own (.lst (rng wd fun k => .int (t j k + s j + s (h + k))))), x6, by rw [rng_succ]⟩
  · rintro Γ w' ⟨rfl, x4, x5, x6, rfl⟩
    exact Wp.mk (f := .rt _ _) (by simp; try (and_intros <;> rfl)) rfl
theorem randomGoalS {ns : List Int} {w : Option Dr} {h wd : Nat} {t : Nat → Nat → Int} {c : Nat → Option Int} {span : Int} (D : DrOk ns w) (S : SzOk h wd) (hsp : 1 ≤ span ∧ span ≤ 1000) :
    ∃ (g : Nat → Nat → Option Int) (s : Nat → Int) (w' : Option Dr), gc_l_random_goal K mg [.hd 0, .dat (tabD h wd t c), .dat (.int span)] w = some (.ok (.dat (goalD h wd g)) w') ∧ DrOk ns w' ∧ (∀ l, l < h + wd → (c l = none → s l = 0) ∧ -span ≤ s l ∧ s l ≤ span) ∧ ∀ r k x, r < h → k < wd → g r k = some x → t r k + s r + s (h + k) ≤ x ∧ x ≤ t r k + s r + s (h + k) + span := by
  have h2 := S.h2
  have w2 := S.w2
  have elc := @lLineCosts K mg (cellsD h wd t) h wd c w (by omega)
  obtain ⟨br, w1, e1, b1, D1⟩ := drawn (K := K) (mg := mg) 4 D (by omega) (by omega)
  obtain ⟨v2, w2', e2, b2, D2⟩ := drawn (K := K) (mg := mg) 4 D1 (by omega) (by omega)
  obtain ⟨ra, era, hra⟩ : ∃ ra : Int, ([PyData.int 1, .int 2, .int 3, .int 9] : List PyData)[v2]? = some (.int ra) ∧ 0 < ra ∧ ra < 100 := by
    have : v2 = 0 ∨ v2 = 1 ∨ v2 = 2 ∨ v2 = 3 := by omega
    rcases this with rfl | rfl | rfl | rfl
    · exact ⟨1, rfl, by omega⟩
    · exact ⟨2, rfl, by omega⟩
    · exact ⟨3, rfl, by omega⟩
    · exact ⟨9, rfl, by omega⟩
  have hmul : mulC 2 span = true := mulC_l (by decide) (by decide)
  obtain ⟨s, w3, e3, D3, hs⟩ := lc_draw (C := cs K mg E0) (α := Int) (Γ := [some (.hd 0), some (.dat (tabD h wd t c)), some (.dat (.int span)), some (.dat (.list (rng (h + wd) fun i => optD (c i)))), some (.dat (.int (br : Nat))), some (.dat (.int ra)), none, none, none, none, none, none]) (w := w2') (w1 := w2')
    (it := .seq (.var 3)) (g := .name 11) (x := .ite (.of (.is (.var 11) .non)) (.int 0) (.sub (.call 2 (gc_drawn K mg) (.cons (.var 0) (.cons (.add (.mul (.int 2) (.var 2)) (.int 1)) .nil))) (.var 2))) (vs := [11]) (hg := rfl) (n := h + wd) (e := fun j => optD (c j))
    .int (DrOk ns) (fun j x => (c j = none → x = 0) ∧ -span ≤ x ∧ x ≤ span) (by omega) (by simp) D2 (by
      intro j hj w hw
      cases hc : c j with
      | none => exact ⟨_, 0, w, rfl, by simp [wipeE], ⟨fun _ => rfl, by omega, by omega⟩, hw⟩
      | some y =>
        obtain ⟨v, w', e5, b5, D5⟩ := drawn (K := K) (mg := mg) (2 * span + 1) hw (by omega) (by omega)
        exact ⟨_, (v : Int) - span, w', rfl, by simp [wipeE, hmul, e5], ⟨fun z => (nomatch z), by omega, by omega⟩, D5⟩)
  have esh := @lShifted K mg h wd t s w3 S
  unfold gc_l_random_goal
  refine Wp.run (C := cs K mg E0) (R := fun o => ∃ (g : Nat → Nat → Option Int) (s : Nat → Int) (w' : Option Dr), o = some (.ok (.dat (goalD h wd g)) w') ∧ DrOk ns w' ∧ (∀ l, l < h + wd → (c l = none → s l = 0) ∧ -span ≤ s l ∧ s l ≤ span) ∧ ∀ r k x, r < h → k < wd → g r k = some x → t r k + s r + s (h + k) ≤ x ∧ x ≤ t r k + s r + s (h + k) + span) ?_
  unfold b_l_random_goal
  refine Wp.step (Γ' := [some (.hd 0), some (.dat (tabD h wd t c)), some (.dat (.int span)), some (.own (.lst (rng (h + wd) fun i => optD (c i)))), some (.dat (.int (br : Nat))), some (.dat (.int ra)), none, none, none, none, none, none]) (w' := w2') (by simp [startE, elc, e1, e2, era]) ?_
  refine Wp.step (by simp; and_intros <;> rfl) ?_
  refine Wp.step (Γ' := [some (.hd 0), some (.dat (tabD h wd t c)), some (.dat (.int span)), some (.dat (.list (rng (h + wd) fun i => optD (c i)))), some (.dat (.int (br : Nat))), some (.dat (.int ra)), some (.dat (.list (rng (h + wd) fun l => .int (s l)))), none, none, none, none, none]) (w' := w3) (by
    simp only [asgD_ev, evD_S]
    erw [e3]
    simp) ?_
  -- the rows, changed in place
  have key : ∃ (g : Nat → Nat → Option Int) (w' : Option Dr) (x7 x9 x10 : Option Sv), (SS.mxL (C := cs K mg E0) 8 7 (.seq (.call 2 (gc_l_shifted K mg) (.cons (.ix (.var 1) (.int 0)) (.cons (.var 6) .nil)))) (.forLen (.name 7) (.forRow 7 (.name 9) (.seq (.lift (.asgD 10 (.call 2 (gc_drawn K mg) (.cons (.var 0) (.cons (.int 20) .nil))))) (.seq (.ite (.and (.of (.eq (.var 4) (.int 0))) (.of (.eq (.var 10) (.int 0)))) (.put1 7 9 (.call 2 (gc_drawn K mg) (.cons (.var 0) (.cons (.var 2) .nil)))) (.lift .nop)) (.ite (.or (.of (.eq (.call 2 (gc_drawn K mg) (.cons (.var 0) (.cons (.add (.var 5) (.int 1)) .nil))) (.int 0))) (.and (.of (.eq (.var 5) (.int 1))) (.of (.lt (.var 10) (.int 9))))) (.put 7 9 .non) (.lift .nop))))))).ev
      [some (.hd 0), some (.dat (tabD h wd t c)), some (.dat (.int span)), some (.dat (.list (rng (h + wd) fun i => optD (c i)))), some (.dat (.int (br : Nat))), some (.dat (.int ra)), some (.dat (.list (rng (h + wd) fun l => .int (s l)))), none, none, none, none, none] w3 =
      some (.nx [some (.hd 0), some (.dat (tabD h wd t c)), some (.dat (.int span)), some (.dat (.list (rng (h + wd) fun i => optD (c i)))), some (.dat (.int (br : Nat))), some (.dat (.int ra)), some (.dat (.list (rng (h + wd) fun l => .int (s l)))), x7, some (.dat (.list ((rowsL h wd g).map .list))), x9, x10, none] w') ∧ DrOk ns w' ∧ (∀ x, x ∈ [x7, x9, x10] → notPt x = true) ∧ ∀ r k x, r < h → k < wd → g r k = some x → t r k + s r + s (h + k) ≤ x ∧ x ≤ t r k + s r + s (h + k) + span := by
    have hit : (SI.seq (C := cs K mg E0) (.call 2 (gc_l_shifted K mg) (.cons (.ix (.var 1) (.int 0)) (.cons (.var 6) .nil)))).ev [some (.hd 0), some (.dat (tabD h wd t c)), some (.dat (.int span)), some (.dat (.list (rng (h + wd) fun i => optD (c i)))), some (.dat (.int (br : Nat))), some (.dat (.int ra)), some (.dat (.list (rng (h + wd) fun l => .int (s l)))), none, none, none, none, none] w3 = some (.ok (rng h fun r => .tuple (rng wd fun k => .int (t r k + s r + s (h + k)))) w3) := by simp [esh]
    let P : Nat → Nat → (Nat → Nat → Option Int) → Prop := fun j m g => ∀ r k, r < h → k < wd → (if r < j ∨ (r = j ∧ k < m) then ∀ x, g r k = some x → t r k + s r + s (h + k) ≤ x ∧ x ≤ t r k + s r + s (h + k) + span else g r k = some (t r k + s r + s (h + k)))
    have hmw := MWp.forLen (C := cs K mg E0) (i := 8) (g := .name 7) (b := .forRow 7 (.name 9) (.seq (.lift (.asgD 10 (.call 2 (gc_drawn K mg) (.cons (.var 0) (.cons (.int 20) .nil))))) (.seq (.ite (.and (.of (.eq (.var 4) (.int 0))) (.of (.eq (.var 10) (.int 0)))) (.put1 7 9 (.call 2 (gc_drawn K mg) (.cons (.var 0) (.cons (.var 2) .nil)))) (.lift .nop)) (.ite (.or (.of (.eq (.call 2 (gc_drawn K mg) (.cons (.var 0) (.cons (.add (.var 5) (.int 1)) .nil))) (.int 0))) (.and (.of (.eq (.var 5) (.int 1))) (.of (.lt (.var 10) (.int 9))))) (.put 7 9 .non) (.lift .nop)))))
      (rows := rowsL h wd fun r k => some (t r k + s r + s (h + k))) (Γ := [some (.hd 0), some (.dat (tabD h wd t c)), some (.dat (.int span)), some (.dat (.list (rng (h + wd) fun i => optD (c i)))), some (.dat (.int (br : Nat))), some (.dat (.int ra)), some (.dat (.list (rng (h + wd) fun l => .int (s l)))), none, some .pt, none, none, none]) (w := w3)
      (Q := fun rows Γ w => ∃ g x7 x9 x10, rows = rowsL h wd g ∧ Γ = [some (.hd 0), some (.dat (tabD h wd t c)), some (.dat (.int span)), some (.dat (.list (rng (h + wd) fun i => optD (c i)))), some (.dat (.int (br : Nat))), some (.dat (.int ra)), some (.dat (.list (rng (h + wd) fun l => .int (s l)))), x7, some .pt, x9, x10, none] ∧ (∀ x, x ∈ [x7, x9, x10] → notPt x = true) ∧ P h 0 g ∧ DrOk ns w)
      (fun j rows Γ w => ∃ g x7 x9 x10, rows = rowsL h wd g ∧ Γ = [some (.hd 0), some (.dat (tabD h wd t c)), some (.dat (.int span)), some (.dat (.list (rng (h + wd) fun i => optD (c i)))), some (.dat (.int (br : Nat))), some (.dat (.int ra)), some (.dat (.list (rng (h + wd) fun l => .int (s l)))), x7, some .pt, x9, x10, none] ∧ (∀ x, x ∈ [x7, x9, x10] → notPt x = true) ∧ P j 0 g ∧ DrOk ns w)
      (by simp [rowsL]; omega) ⟨_, none, none, none, rfl, rfl, by simp [notPt], fun r k hr hk => by rw [if_neg (by omega)], D3⟩ (by
        rintro j rows Γ w hj ⟨g, x7, x9, x10, rfl, rfl, hnp, hP, D⟩
        have hj : j < h := by simpa [rowsL] using hj
        refine ⟨_, rfl, rfl, ?_⟩
        refine MWp.forRow (k := j) (row := rng wd fun k => optD (g j k)) (fun m rows Γ w => ∃ g x9 x10, rows = rowsL h wd g ∧ Γ = [some (.hd 0), some (.dat (tabD h wd t c)), some (.dat (.int span)), some (.dat (.list (rng (h + wd) fun i => optD (c i)))), some (.dat (.int (br : Nat))), some (.dat (.int ra)), some (.dat (.list (rng (h + wd) fun l => .int (s l)))), some (.dat (.int (j : Nat))), some .pt, x9, x10, none] ∧ (∀ x, x ∈ [x9, x10] → notPt x = true) ∧ P j m g ∧ DrOk ns w) rfl (rng_get hj) (by simp; omega) ⟨g, x9, x10, rfl, rfl, fun x hx => hnp x (List.mem_cons_of_mem _ hx), hP, D⟩ ?_ ?_
        · rintro k rows Γ w hk ⟨g, x9, x10, rfl, rfl, hnp, hP, D⟩
          have hk : k < wd := by simpa using hk
          have hcell : g j k = some (t j k + s j + s (h + k)) := by
            have := hP j k hj hk
            rw [if_neg (by omega)] at this
            exact this
          have bs1 := (hs j (by omega)).2
          have bs2 := (hs (h + k) (by omega)).2
          obtain ⟨ch, wa, ea, ba, Da⟩ := drawn (K := K) (mg := mg) 20 D (by omega) (by omega)
          refine ⟨_, rfl, rfl, ?_⟩
          refine MWp.seq (MWp.lift (by simp [ea]; and_intros <;> rfl) rfl ?_)
          refine MWp.seq ?_
          -- behind the first test: the cell has a number within bounds
          have step2 : ∀ (g' : Nat → Nat → Option Int) (w : Option Dr) (z : Int), DrOk ns w → g' = setG g j k (some z) → (t j k + s j + s (h + k) ≤ z ∧ z ≤ t j k + s j + s (h + k) + span) → MWp (C := cs K mg E0) (i := 8) (.ite (.or (.of (.eq (.call 2 (gc_drawn K mg) (.cons (.var 0) (.cons (.add (.var 5) (.int 1)) .nil))) (.int 0))) (.and (.of (.eq (.var 5) (.int 1))) (.of (.lt (.var 10) (.int 9))))) (.put 7 9 .non) (.lift .nop)) (rowsL h wd g')
              [some (.hd 0), some (.dat (tabD h wd t c)), some (.dat (.int span)), some (.dat (.list (rng (h + wd) fun i => optD (c i)))), some (.dat (.int (br : Nat))), some (.dat (.int ra)), some (.dat (.list (rng (h + wd) fun l => .int (s l)))), some (.dat (.int (j : Nat))), some .pt, some (.dat (.int (k : Nat))), some (.dat (.int (ch : Nat))), none] w
              (fun rows Γ w => ∃ g x9 x10, rows = rowsL h wd g ∧ Γ = [some (.hd 0), some (.dat (tabD h wd t c)), some (.dat (.int span)), some (.dat (.list (rng (h + wd) fun i => optD (c i)))), some (.dat (.int (br : Nat))), some (.dat (.int ra)), some (.dat (.list (rng (h + wd) fun l => .int (s l)))), some (.dat (.int (j : Nat))), some .pt, x9, x10, none] ∧ (∀ x, x ∈ [x9, x10] → notPt x = true) ∧ P j (k + 1) g ∧ DrOk ns w) := by
            rintro g' w z D rfl hz
            obtain ⟨q, wb, eb, bb, Db⟩ := drawn (K := K) (mg := mg) (ra + 1) D (by omega) (by omega)
            have hPset : ∀ y : Option Int, (∀ x, y = some x → t j k + s j + s (h + k) ≤ x ∧ x ≤ t j k + s j + s (h + k) + span) → ∀ g2, (∀ r k', ¬ (r = j ∧ k' = k) → g2 r k' = g r k') → g2 j k = y → P j (k + 1) g2 := by
              intro y hy g2 h1 h2 r k' hr hk'
              by_cases e : r = j ∧ k' = k
              · rw [if_pos (by omega)]
                intro x hx
                rw [e.1, e.2] at hx ⊢
                rw [h2] at hx
                exact hy x hx
              · rw [h1 r k' e]
                have := hP r k' hr hk'
                by_cases e2 : r < j ∨ r = j ∧ k' < k
                · rw [if_pos e2] at this
                  rw [if_pos (by omega)]; exact this
                · rw [if_neg e2] at this
                  rw [if_neg (by omega)]; exact this
            refine MWp.ite (x := decide ((q : Int) = 0) || (decide (ra = 1) && decide ((ch : Int) < 9))) (w1 := wb) (by
              by_cases q0 : q = 0
              · subst q0
                simp at eb; simp [eb]
              · by_cases r1 : ra = 1
                · have eb2 := eb
                  rw [r1] at eb2
                  simp at eb2
                  simp [eb2, q0, r1]
                · simp [eb, q0, r1]) ?_
            split
            · refine MWp.put (x := none) hj hk rfl rfl (by simp) ⟨_, _, _, rfl, rfl, by simp [notPt], ?_, Db⟩
              exact hPset none (fun x hx => by cases hx) _ (fun r k' hne => by simp [setG, hne]) (by simp [setG])
            · refine MWp.lift (by simp; and_intros <;> rfl) rfl ⟨_, _, _, rfl, rfl, by simp [notPt], ?_, Db⟩
              exact hPset (some z) (fun x hx => by cases hx; exact hz) _ (fun r k' hne => by simp [setG, hne]) (by simp [setG])
          by_cases hq : br = 0 ∧ ch = 0
          · obtain ⟨d, wc, ec, bc, Dc⟩ := drawn (K := K) (mg := mg) span Da (by omega) (by omega)
            refine MWp.ite (x := true) (w1 := wa) (by simp [hq.1, hq.2]) ?_
            rw [if_pos rfl]
            refine MWp.put1 (z := t j k + s j + s (h + k)) (d := d) hj hk rfl rfl hcell (by simp [ec]; rfl) ?_
            exact step2 _ wc _ Dc rfl (by omega)
          · refine MWp.ite (x := false) (w1 := wa) (by
              by_cases b0 : br = 0
              · have : ¬ ch = 0 := fun z => hq ⟨b0, z⟩
                simp [b0, this]
              · simp [b0]) ?_
            rw [if_neg (by simp)]
            refine MWp.lift (by simp; and_intros <;> rfl) rfl ?_
            refine step2 _ wa (t j k + s j + s (h + k)) Da ?_ (by omega)
            funext r k'
            unfold setG
            split
            · rename_i e; rw [e.1, e.2, hcell]
            · rfl
        · rintro rows Γ w ⟨g, x9, x10, rfl, rfl, hnp, hP, D⟩
          refine ⟨g, _, x9, x10, rfl, rfl, ?_, ?_, D⟩
          · intro x hx
            simp at hx
            rcases hx with rfl | rfl | rfl
            · rfl
            · exact hnp _ (by simp)
            · exact hnp _ (by simp)
          · intro r k hr hk
            have := hP r k hr hk
            simp only [rng_length] at this
            by_cases e : r < j ∨ r = j
            · rw [if_pos (by omega)] at this
              rw [if_pos (by omega)]; exact this
            · rw [if_neg (by omega)] at this
              rw [if_neg (by omega)]; exact this)
      (fun rows Γ w h => by simpa [rowsL] using h)
    obtain ⟨⟨rows', Γ', w'⟩, er, g, x7, x9, x10, rfl, rfl, hnp, hP, D'⟩ := hmw
    refine ⟨g, w', x7, x9, x10, ?_, D', hnp, fun r k x hr hk => ?_⟩
    · unfold SS.mxL
      simp only [hit]
      have hpl : rowsOf (rng h fun r => .tuple (rng wd fun k => PyData.int (t r k + s r + s (h + k)))) = some (rowsL h wd fun r k => some (t r k + s r + s (h + k))) := rowsOf_rng
      have hn1 := hnp x7 (by simp)
      have hn2 := hnp x9 (by simp)
      have hn3 := hnp x10 (by simp)
      rw [if_pos (by simp [notPt]), if_pos (by simp; omega), hpl]
      simp only
      erw [er]
      have m1 : ∀ d, notPt (some (.dat d)) = true := fun _ => rfl
      have m2 : ∀ d, notPt (some (.hd d)) = true := fun _ => rfl
      have m3 : notPt none = true := rfl
      simp [hn1, hn2, hn3, m1, m2, m3]
    · have := hP r k hr hk
      rw [if_pos (by omega)] at this
      exact this x
  obtain ⟨g, w', x7, x9, x10, ek, D', hnp, hg⟩ := key
  refine Wp.step ek ?_
  have e5 := lc_all (C := cs K mg E0) (Γ := [some (.hd 0), some (.dat (tabD h wd t c)), some (.dat (.int span)), some (.dat (.list (rng (h + wd) fun i => optD (c i)))), some (.dat (.int (br : Nat))), some (.dat (.int ra)), some (.dat (.list (rng (h + wd) fun l => .int (s l)))), x7, some (.dat (.list ((rowsL h wd g).map .list))), x9, x10, none]) (w := w') (it := .seq (.var 8)) (g := .name 7) (x := .tuple (.var 7)) (vs := [7]) (hg := rfl) (n := h) (e := fun r => .list (rng wd fun k => optD (g r k))) (fun r => .tuple (rng wd fun k => optD (g r k))) (by omega) (by simp [rowsL, rng_map]) (by
    intro j hj
    exact ⟨_, rfl, by simp [wipeE]⟩)
  refine Wp.mk (f := .rt (.dat (goalD h wd g)) w') (by
    simp only [ret_ev, cb1_ev, evV_S]
    erw [e5]
    simp) ⟨g, s, w', rfl, D', hs, hg⟩
theorem randomGoal {ns : List Int} {w : Option Dr} {h wd : Nat} {t : Nat → Nat → Int} {c : Nat → Option Int} {span B : Int} (D : DrOk ns w) (S : SzOk h wd) (hsp : 1 ≤ span ∧ span ≤ 1000) (ht : ∀ r k, r < h → k < wd → -B ≤ t r k ∧ t r k ≤ B) :
    ∃ g w', gc_l_random_goal K mg [.hd 0, .dat (tabD h wd t c), .dat (.int span)] w = some (.ok (.dat (goalD h wd g)) w') ∧ DrOk ns w' ∧ ∀ r k x, r < h → k < wd → g r k = some x → -(B + 2 * span) ≤ x ∧ x ≤ B + 3 * span := by
  obtain ⟨g, s, w', e, D', hs, hg⟩ := @randomGoalS K mg ns w h wd t c span D S hsp
  refine ⟨g, w', e, D', fun r k x hr hk hx => ?_⟩
  have := hg r k x hr hk hx
  have := ht r k hr hk
  have := (hs r (by omega)).2
  have := (hs (h + k) (by omega)).2
  omega
end
end Cl

set_option linter.all false
namespace Mi
/-! ### how large shifts get -/
/-- every gap is at most B -/
def GapB (g : Gaps) (B : Int) : Prop := ∀ a b x, ((a, b), x) ∈ g → -B ≤ x ∧ x ≤ B
def OffB (B : Int) (ns : List Nd) : Prop := ∀ i (hi : i < ns.length), -(B * i) ≤ (ns[i]).o ∧ (ns[i]).o ≤ B * i
theorem visit_off {g : Gaps} {B : Int} (hB : 0 ≤ B) {line : Nat} {b : BS} {e : Nat × Int} (ho : OffB B b.ns) (hx : -B ≤ e.2 ∧ e.2 ≤ B) (hk : ∃ n, fnd b.ns line = some n) : OffB B (visit line b e).ns := by
  unfold visit
  split
  · intro i hi
    simp only [List.length_append, List.length_singleton] at hi
    by_cases h2 : i < b.ns.length
    · simp only [List.getElem_append_left h2]
      exact ho i h2
    · have : i = b.ns.length := by omega
      subst this
      obtain ⟨n, hn⟩ := hk
      have om : offA b.ns line = n.o := by unfold offA; rw [hn]; rfl
      obtain ⟨j, hj, ej⟩ := List.mem_iff_getElem.mp (fnd_some hn).1
      have h3 := ho j hj
      rw [ej] at h3
      have h4 : B * (j : Int) + B ≤ B * (b.ns.length : Int) := by
        have : B * ((j : Int) + 1) ≤ B * (b.ns.length : Int) := Int.mul_le_mul_of_nonneg_left (by omega) hB
        rw [Int.mul_add, Int.mul_one] at this
        exact this
      simp only [List.getElem_append_right (Nat.le_refl _), Nat.sub_self, List.getElem_singleton, om]
      omega
  · split <;> exact ho
theorem visits_off {g : Gaps} {h N first line : Nat} {done : List Nat} {B : Int} (hB : 0 ≤ B) (hg : GapB g B) (hN : h ≤ N) (Bp : Bip h N g) (hl : line ∈ done) : ∀ (es : List (Nat × Int)) (b : BS), (∀ e ∈ es, Adj g line e.1 e.2) → Inv g h N first done b → OffB B b.ns → OffB B (es.foldl (visit line) b).ns
  | [], b, _, _, ho => ho
  | e :: es, b, ha, I, ho => by
    have hk : ∃ n, fnd b.ns line = some n := by
      have : line ∈ b.ns.map (·.l) := by rw [I.ks]; exact List.mem_append_left _ hl
      obtain ⟨m, h1, h2⟩ := List.mem_map.mp this
      exact ⟨m, by rw [← h2]; exact fnd_of I.nd h1⟩
    have hx : -B ≤ e.2 ∧ e.2 ≤ B := (ha e (List.mem_cons_self ..)).elim (hg _ _ _) (hg _ _ _)
    exact visits_off hB hg hN Bp hl es (visit line b e) (fun e' h => ha e' (List.mem_cons_of_mem _ h)) (visit_inv hN Bp I hl (ha e (List.mem_cons_self ..))).1 (visit_off (g := g) hB ho hx hk)
theorem bfs_off {g : Gaps} {h N first : Nat} {B : Int} (hB : 0 ≤ B) (hg : GapB g B) (hN : h ≤ N) (Bp : Bip h N g) : ∀ (f : Nat) (done : List Nat) (b : BS), Inv g h N first done b → OffB B b.ns → OffB B (bfs g f b).ns
  | 0, done, b, I, ho => ho
  | f + 1, done, b, I, ho => by
    unfold bfs
    split
    · exact ho
    · rename_i l q hq
      have I0 : Inv g h N first (done ++ [l]) { b with q := q } := { nd := I.nd, lt := I.lt, hd := I.hd, snd := I.snd, side := I.side, conn := I.conn, ks := by show List.map _ b.ns = _; rw [I.ks, hq]; simp, par := I.par, bad := I.bad }
      obtain ⟨I1, g1, d1⟩ := visits_inv hN Bp (by simp) (nbs g l) _ (fun e he => mem_nbs.mp he) I0
      exact bfs_off hB hg hN Bp f (done ++ [l]) _ I1 (visits_off hB hg hN Bp (by simp) (nbs g l) _ (fun e he => mem_nbs.mp he) I0 ho)
theorem comp_off {g : Gaps} {h N first : Nat} {B : Int} (hB : 0 ≤ B) (hg : GapB g B) (hN : h ≤ N) (Bp : Bip h N g) (hf : first < N) (hN2 : N ≤ 18) {l : Nat} (hl : l ∈ (comp g first).lines) : -(B * 18) ≤ offA (comp g first).ns l ∧ offA (comp g first).ns l ≤ B * 18 := by
  have o := comp_ok hN hN2 Bp hf
  have ho : OffB B (comp g first).ns := bfs_off hB hg hN Bp 20 [] (bfs0 first) (inv0 hf) (by
    intro i hi
    simp [bfs0] at hi
    subst hi
    simp [bfs0])
  obtain ⟨n, hn, rfl⟩ := o.mem.mp hl
  rw [(o.at_ hn).1]
  obtain ⟨i, hi, e⟩ := List.mem_iff_getElem.mp hn
  have h1 := ho i hi
  rw [e] at h1
  have hlen : (comp g first).ns.length ≤ N := by
    have : ((comp g first).ns.map (·.l)) ⊆ List.range N := by
      intro k hk
      obtain ⟨n, hn, rfl⟩ := List.mem_map.mp hk
      exact List.mem_range.mpr (o.lt n hn)
    have := List.Nodup.length_le_of_subset o.nd this
    simpa using this
  have : B * (i : Int) ≤ B * 18 := Int.mul_le_mul_of_nonneg_left (by omega) hB
  omega
theorem allC_form {g : Gaps} : ∀ (N : Nat) {m : Cm}, m ∈ (List.range N).foldl (addC g) [] → ∃ l, l < N ∧ m = comp g l
  | 0, m, h => nomatch h
  | N + 1, m, h => by
    rw [List.range_succ, List.foldl_append, List.foldl_cons, List.foldl_nil] at h
    unfold addC at h
    split at h
    · obtain ⟨l, h1, h2⟩ := allC_form N h
      exact ⟨l, by omega, h2⟩
    · rcases List.mem_append.mp h with h | h
      · obtain ⟨l, h1, h2⟩ := allC_form N h
        exact ⟨l, by omega, h2⟩
      · simp at h
        exact ⟨N, by omega, h⟩
/-- a solution with shifts that are not large -/
theorem small_sol {g : Gaps} {h N : Nat} {c : Nat → Option Int} {B : Int} (hB : 0 ≤ B) (hg : GapB g B) (hN : h ≤ N) (Bp : Bip h N g) (hN2 : N ≤ 18) (hs : ∃ s, Sol g N c s) : ∃ s, Sol g N c s ∧ ∀ l, l < N → (s l).natAbs ≤ 36 * B := by
  have A := allC_ok hN hN2 Bp
  have hr : Reach c (allC g N) := Classical.byContradiction fun z => A.unreach z hs
  -- the first shift: 0, or that of a locked line
  let x : Nat → Int := fun f => match (allC g N).find? fun m => m.first = f with
    | some m => (match m.locked c with | a :: _ => m.zero a | [] => 0)
    | none => 0
  have hxm : ∀ m ∈ allC g N, x m.first = match m.locked c with | a :: _ => m.zero a | [] => 0 := by
    intro m hm
    show (match (allC g N).find? fun m' => m'.first = m.first with
    | some m => (match m.locked c with | a :: _ => m.zero a | [] => 0)
    | none => 0) = _
    cases e : (allC g N).find? fun m' => m'.first = m.first with
    | none => have := List.find?_eq_none.mp e m hm; simp at this
    | some m' =>
      have h1 := List.mem_of_find?_eq_some e
      have h2 := List.find?_some e
      simp at h2
      have : m' = m := A.uniq h1 hm (A.ok m' h1).first_mem (by rw [h2]; exact (A.ok m hm).first_mem)
      rw [this]
  have hok : ∀ m ∈ allC g N, OkX c m (x m.first) := by
    intro m hm
    rw [hxm m hm, (A.ok m hm).okx]
    intro l hl
    have hc := hr m hm
    have hcy := contra_cyc hc
    unfold Cm.contra at hc
    rw [hcy] at hc
    simp only at hc
    cases hk : m.locked c with
    | nil => rw [hk] at hl; cases hl
    | cons a r =>
      rw [hk] at hl hc
      simp only [Option.map_eq_none_iff, List.find?_eq_none] at hc
      rcases List.mem_cons.mp hl with rfl | hl
      · rfl
      · have := hc l hl; simp at this; exact this.symm
  refine ⟨glue (allC g N) x, A.glue_sol hN Bp (fun m hm => contra_cyc (hr m hm)) hok, fun l hl => ?_⟩
  obtain ⟨m, hm, hlm⟩ := A.all l hl
  rw [A.glue_at x hm hlm, hxm m hm]
  obtain ⟨f, hf, rfl⟩ := allC_form N hm
  have o1 := comp_off hB hg hN Bp hf hN2 hlm
  have o := A.ok _ hm
  unfold Cm.shift
  cases hk : (comp g f).locked c with
  | nil => simp only [Int.mul_zero, Int.add_zero]; omega
  | cons a r =>
    have ha : a ∈ (comp g f).lines := (mem_locked.mp (by rw [hk]; exact List.mem_cons_self ..)).1
    have o2 := comp_off hB hg hN Bp hf hN2 ha
    simp only
    unfold Cm.zero
    rcases o.sgn1 hlm with e1 | e1 <;> rcases o.sgn1 ha with e2 | e2 <;> rw [e1, e2] <;> omega
theorem cost_bound {N : Nat} {c : Nat → Option Int} {s : Nat → Int} {D : Int} (hD : 0 ≤ D) (hc : ∀ l k, c l = some k → 1 ≤ k ∧ k ≤ 99) (hs : ∀ l, l < N → ((s l).natAbs : Int) ≤ D) : costN N c s ≤ N * (D * 99) := by
  unfold costN
  have key : ∀ n, n ≤ N → ((List.range n).map fun l => ((s l).natAbs : Int) * (c l).getD 0).sum ≤ n * (D * 99) := by
    intro n
    induction n with
    | zero => intro _; simp
    | succ n ih =>
      intro hn
      have h1 := ih (by omega)
      rw [List.range_succ, List.map_append, List.sum_append]
      simp only [List.map_cons, List.map_nil, List.sum_cons, List.sum_nil, Int.add_zero]
      have h2 : ((s n).natAbs : Int) * (c n).getD 0 ≤ D * 99 := by
        have h3 := hs n (by omega)
        cases e : c n with
        | none =>
          simp only [Option.getD_none, Int.mul_zero]
          exact Int.mul_nonneg hD (by omega)
        | some k =>
          have := hc n k e
          simp only [Option.getD_some]
          exact Int.mul_le_mul h3 (by omega) (by omega) hD
      have h4 : ((n + 1 : Nat) : Int) * (D * 99) = n * (D * 99) + D * 99 := by
        rw [Int.natCast_add, Int.add_mul]; simp
      omega
  exact key N (Nat.le_refl _)
/-- the least cost is not large -/
theorem least_bound {g : Gaps} {h N : Nat} {c : Nat → Option Int} {B : Int} (hB : 0 ≤ B) (hg : GapB g B) (hN : h ≤ N) (Bp : Bip h N g) (hN2 : N ≤ 18) (hc : ∀ l k, c l = some k → 1 ≤ k ∧ k ≤ 99) {k : Int} (hk : Least g N c k) : k ≤ 18 * (36 * B * 99) := by
  obtain ⟨⟨s, hs, _⟩, hm⟩ := hk
  obtain ⟨s', h1, h2⟩ := small_sol hB hg hN Bp hN2 ⟨s, hs⟩
  have h3 := hm s' h1
  have h4 := cost_bound (D := 36 * B) (by omega) hc h2
  have h5 : (N : Int) * (36 * B * 99) ≤ 18 * (36 * B * 99) := Int.mul_le_mul_of_nonneg_right (by omega) (by omega)
  omega
end Mi

set_option linter.all false
namespace Mi
/-- the least cost, or a large number -/
def vK (g : Gaps) (N : Nat) (c : Nat → Option Int) : Int := ((minCost g N c).map (·.1)).getD 1000000000000
section
variable {g g' : Gaps} {h N : Nat} {c c' : Nat → Option Int}
theorem vK_least (hN : h ≤ N) (hN2 : N ≤ 18) (B : Bip h N g) (hc : CostOk c) {k : Int} (hk : Least g N c k) : vK g N c = k := by
  unfold vK
  rw [(minCost_least hN hN2 B hc).mpr hk]; rfl
theorem vK_none (hN : h ≤ N) (hN2 : N ≤ 18) (B : Bip h N g) (hc : CostOk c) (hn : ¬ ∃ s, Sol g N c s) : vK g N c = 1000000000000 := by
  unfold vK
  rw [(minCost_none hN hN2 B hc).mpr hn]; rfl
theorem least_ex (hN : h ≤ N) (hN2 : N ≤ 18) (B : Bip h N g) (hc : CostOk c) (hs : ∃ s, Sol g N c s) : ∃ k, Least g N c k := by
  cases e : minCost g N c with
  | none => exact absurd hs ((minCost_none hN hN2 B hc).mp e)
  | some kl =>
    exact ⟨kl.1, (minCost_least hN hN2 B hc).mp (by rw [e]; rfl)⟩
theorem vK_le (hN : h ≤ N) (hN2 : N ≤ 18) (B : Bip h N g) (hc : ∀ l k, c l = some k → 1 ≤ k ∧ k ≤ 99) {b : Int} (hb : 0 ≤ b ∧ b ≤ 10000) (hg : GapB g b) : vK g N c ≤ 1000000000000 := by
  have hc' : CostOk c := fun l k e => (hc l k e).1
  by_cases hs : ∃ s, Sol g N c s
  · obtain ⟨k, hk⟩ := least_ex hN hN2 B hc' hs
    rw [vK_least hN hN2 B hc' hk]
    have := least_bound hb.1 hg hN B hN2 hc hk
    omega
  · rw [vK_none hN hN2 B hc' hs]; exact Int.le_refl _
/-- more solutions cost no more -/
theorem vK_mono (hN : h ≤ N) (hN2 : N ≤ 18) (B : Bip h N g) (B' : Bip h N g') (hc : CostOk c) (hc' : ∀ l k, c' l = some k → 1 ≤ k ∧ k ≤ 99) {b : Int} (hb : 0 ≤ b ∧ b ≤ 10000) (hg' : GapB g' b)
    (hsub : ∀ s, Sol g N c s → Sol g' N c' s ∧ costN N c' s = costN N c s) : vK g' N c' ≤ vK g N c := by
  have hc2 : CostOk c' := fun l k e => (hc' l k e).1
  by_cases hs : ∃ s, Sol g N c s
  · obtain ⟨k, hk⟩ := least_ex hN hN2 B hc hs
    obtain ⟨⟨s, h1, h2⟩, h3⟩ := id hk
    obtain ⟨h4, h5⟩ := hsub s h1
    obtain ⟨k', hk'⟩ := least_ex hN hN2 B' hc2 ⟨s, h4⟩
    rw [vK_least hN hN2 B hc hk, vK_least hN hN2 B' hc2 hk']
    have := hk'.2 s h4
    omega
  · rw [vK_none hN hN2 B hc hs]
    exact vK_le hN hN2 B' hc' hb hg'
theorem costN_neg {s : Nat → Int} : costN N c (fun l => - s l) = costN N c s := by
  unfold costN
  congr 1
  apply List.map_congr_left
  intro l _
  rw [Int.natAbs_neg]
theorem costN_add {s u : Nat → Int} (hc : CostOk c) : costN N c (fun l => s l + u l) ≤ costN N c s + costN N c u := by
  unfold costN
  have key : ∀ L : List Nat, (L.map fun l => ((s l + u l).natAbs : Int) * (c l).getD 0).sum ≤ (L.map fun l => ((s l).natAbs : Int) * (c l).getD 0).sum + (L.map fun l => ((u l).natAbs : Int) * (c l).getD 0).sum := by
    intro L
    induction L with
    | nil => simp
    | cons a r ih =>
      simp only [List.map_cons, List.sum_cons]
      have h0 : 0 ≤ (c a).getD 0 := by
        cases e : c a with
        | none => simp
        | some k => have := hc a k e; simp; omega
      have h1 : ((s a + u a).natAbs : Int) ≤ ((s a).natAbs : Int) + ((u a).natAbs : Int) := by omega
      have h2 := Int.mul_le_mul_of_nonneg_right h1 h0
      rw [Int.add_mul] at h2
      omega
  exact key _
end
section
variable {h w : Nat} {c : Nat → Option Int} {d d' d2 : Nat → Nat → Option Int}
theorem sol_gapsL {s : Nat → Int} : Sol (gapsL h w d) (h + w) c s ↔ (∀ r k x, r < h → k < w → d r k = some x → s r + s (h + k) = x) ∧ ∀ l, l < h + w → c l = none → s l = 0 :=
  ⟨fun H => ⟨solves_gapsL.mp H.e, H.z⟩, fun H => ⟨solves_gapsL.mpr H.1, H.2⟩⟩
theorem gapB_gapsL {B : Int} (hB : ∀ r k x, r < h → k < w → d r k = some x → -B ≤ x ∧ x ≤ B) : GapB (gapsL h w d) B := by
  intro a b x e
  obtain ⟨k, h1, h2, rfl, e'⟩ := mem_gapsL.mp e
  exact hB a k x h1 h2 e'
/-- the way back costs the same -/
theorem vK_back (hN2 : h + w ≤ 18) (hc : CostOk c) (hd : ∀ r k, r < h → k < w → d' r k = (d r k).map fun x => -x) : vK (gapsL h w d') (h + w) c = vK (gapsL h w d) (h + w) c := by
  have key : ∀ s, Sol (gapsL h w d) (h + w) c s ↔ Sol (gapsL h w d') (h + w) c (fun l => - s l) := by
    intro s
    rw [sol_gapsL, sol_gapsL]
    constructor
    · rintro ⟨h1, h2⟩
      refine ⟨fun r k x hr hk e => ?_, fun l hl e => by rw [h2 l hl e]; rfl⟩
      rw [hd r k hr hk] at e
      obtain ⟨y, e1, rfl⟩ := Option.map_eq_some_iff.mp e
      have := h1 r k y hr hk e1
      omega
    · rintro ⟨h1, h2⟩
      refine ⟨fun r k x hr hk e => ?_, fun l hl e => by have := h2 l hl e; omega⟩
      have := h1 r k (-x) hr hk (by rw [hd r k hr hk, e]; rfl)
      omega
  have hN : h ≤ h + w := by omega
  have B := bip_gapsL h w d
  have B' := bip_gapsL h w d'
  by_cases hs : ∃ s, Sol (gapsL h w d) (h + w) c s
  · obtain ⟨k, hk⟩ := least_ex hN hN2 B hc hs
    rw [vK_least hN hN2 B hc hk]
    refine vK_least hN hN2 B' hc ⟨?_, fun s' hs' => ?_⟩
    · obtain ⟨⟨s, h1, h2⟩, _⟩ := hk
      exact ⟨_, (key s).mp h1, by rw [costN_neg]; exact h2⟩
    · have e : (fun l => - (- s' l)) = s' := by funext l; omega
      have := hk.2 (fun l => - s' l) ((key _).mpr (by rw [e]; exact hs'))
      rwa [costN_neg] at this
  · rw [vK_none hN hN2 B hc hs]
    refine vK_none hN hN2 B' hc ?_
    rintro ⟨s', hs'⟩
    have e : (fun l => - (- s' l)) = s' := by funext l; omega
    exact hs ⟨fun l => - s' l, (key _).mpr (by rw [e]; exact hs')⟩
/-- two ways, one behind the other -/
theorem vK_sum (hN2 : h + w ≤ 18) (hc : CostOk c) (hd : ∀ r k, r < h → k < w → ∃ x y, d r k = some x ∧ d' r k = some y ∧ d2 r k = some (x + y))
    (h1 : ∃ s, Sol (gapsL h w d) (h + w) c s) (h2 : ∃ s, Sol (gapsL h w d') (h + w) c s) : vK (gapsL h w d2) (h + w) c ≤ vK (gapsL h w d) (h + w) c + vK (gapsL h w d') (h + w) c := by
  have hN : h ≤ h + w := by omega
  obtain ⟨k1, L1⟩ := least_ex hN hN2 (bip_gapsL h w d) hc h1
  obtain ⟨k2, L2⟩ := least_ex hN hN2 (bip_gapsL h w d') hc h2
  rw [vK_least hN hN2 (bip_gapsL h w d) hc L1, vK_least hN hN2 (bip_gapsL h w d') hc L2]
  obtain ⟨⟨s1, a1, a2⟩, _⟩ := L1
  obtain ⟨⟨s2, b1, b2⟩, _⟩ := L2
  have hs : Sol (gapsL h w d2) (h + w) c (fun l => s1 l + s2 l) := by
    rw [sol_gapsL] at a1 b1 ⊢
    refine ⟨fun r k x hr hk e => ?_, fun l hl e => by rw [a1.2 l hl e, b1.2 l hl e]; rfl⟩
    obtain ⟨x1, y1, e1, e2, e3⟩ := hd r k hr hk
    rw [e3] at e; cases e
    have := a1.1 r k x1 hr hk e1
    have := b1.1 r k y1 hr hk e2
    omega
  obtain ⟨k3, L3⟩ := least_ex hN hN2 (bip_gapsL h w d2) hc ⟨_, hs⟩
  rw [vK_least hN hN2 (bip_gapsL h w d2) hc L3]
  have := L3.2 _ hs
  have := costN_add (N := h + w) (s := s1) (u := s2) hc
  omega
end
end Mi

set_option linter.all false
namespace Mi
/-- the component of a line -/
def compOf (ms : List Cm) (l : Nat) : Option Cm := ms.find? fun m => m.lines.contains l
def inR (c : Nat → Option Int) (m : Cm) (l : Nat) : Bool := decide ((m.range c).1 ≤ m.zero l) && decide (m.zero l ≤ (m.range c).2)
/-- may be locked at no cost -/
def lockP (c : Nat → Option Int) (ms : List Cm) (l : Nat) : Bool := (c l).isSome && (match compOf ms l with
  | some m => inR c m l
  | none => false)
def lockC (c : Nat → Option Int) (r : Nat) : Nat → Option Int := fun l => if l = r then none else c l
section
variable {g : Gaps} {h N : Nat} {ms : List Cm} {c : Nat → Option Int}
theorem lockP_at (A : AllOk g h N N ms) {m : Cm} (hm : m ∈ ms) {l : Nat} (hl : l ∈ m.lines) : lockP c ms l = ((c l).isSome && inR c m l) := by
  unfold lockP compOf
  rw [A.find hm hl]
/-- another solution with the first shift of one component changed -/
theorem AllOk.swap (A : AllOk g h N N ms) (hN : h ≤ N) (B : Bip h N g) (hr : Reach c ms) {m : Cm} (hm : m ∈ ms) {y : Int} (hy : Best c m y) (hc : CostOk c) :
    ∃ s, Sol g N c s ∧ (∀ s', Sol g N c s' → costN N c s ≤ costN N c s') ∧ s m.first = y := by
  let x : Nat → Int := fun f => if f = m.first then y else bestX c ms f
  have hxm : ∀ m' ∈ ms, Best c m' (x m'.first) := by
    intro m' hm'
    show Best c m' (if m'.first = m.first then y else bestX c ms m'.first)
    split
    · rename_i e
      have : m' = m := A.uniq hm' hm (A.ok m' hm').first_mem (by rw [e]; exact (A.ok m hm).first_mem)
      rw [this]; exact hy
    · rw [A.bestX_at hm']
      obtain ⟨h1, h2⟩ := (A.ok m' hm').range_spec hc (hr m' hm')
      exact (h2 _).mpr ⟨Int.le_refl _, h1⟩
  have hs : Sol g N c (glue ms x) := A.glue_sol hN B (fun m hm => contra_cyc (hr m hm)) (x := x) (fun m hm => (hxm m hm).1)
  have hb := (A.best_iff hN B hr (s := glue ms x)).mpr ⟨hs.e, fun m' hm' => by rw [A.glue_first x hm']; exact hxm m' hm'⟩
  refine ⟨_, hb.1, hb.2, ?_⟩
  rw [A.glue_first x hm]
  show (if m.first = m.first then y else _) = y
  rw [if_pos rfl]
theorem lockP_iff (A : AllOk g h N N ms) (hN : h ≤ N) (B : Bip h N g) (hr : Reach c ms) (hc : CostOk c) {l : Nat} (hl : l < N) :
    lockP c ms l = true ↔ c l ≠ none ∧ ∃ s, Sol g N c s ∧ (∀ s', Sol g N c s' → costN N c s ≤ costN N c s') ∧ s l = 0 := by
  obtain ⟨m, hm, hlm⟩ := A.all l hl
  rw [lockP_at A hm hlm]
  have o := A.ok m hm
  obtain ⟨h1, h2⟩ := o.range_spec hc (hr m hm)
  unfold inR
  simp only [Bool.and_eq_true, decide_eq_true_eq, Option.isSome_iff_ne_none]
  constructor
  · rintro ⟨a, b1, b2⟩
    refine ⟨a, ?_⟩
    obtain ⟨s, s1, s2, s3⟩ := A.swap hN B hr hm ((h2 (m.zero l)).mpr ⟨b1, b2⟩) hc
    refine ⟨s, s1, s2, ?_⟩
    rw [A.sol_at s1.e hm hlm, s3]
    exact (o.zero_iff hlm _).mpr rfl
  · rintro ⟨a, s, s1, s2, s3⟩
    refine ⟨a, ?_⟩
    have hb := ((A.best_iff hN B hr (s := s)).mp ⟨s1, s2⟩).2 m hm
    have := (h2 _).mp hb
    rw [A.sol_at s1.e hm hlm] at s3
    rw [(o.zero_iff hlm _).mp s3] at this
    exact this
theorem sol_lock {l : Nat} (hl : l < N) {s : Nat → Int} : Sol g N (lockC c l) s ↔ Sol g N c s ∧ s l = 0 := by
  constructor
  · intro hs
    refine ⟨⟨hs.e, fun k hk e => hs.z k hk (by unfold lockC; split; rfl; exact e)⟩, hs.z l hl (by unfold lockC; rw [if_pos rfl])⟩
  · rintro ⟨hs, h0⟩
    refine ⟨hs.e, fun k hk e => ?_⟩
    unfold lockC at e
    split at e
    · rename_i e2; rw [e2]; exact h0
    · exact hs.z k hk e
theorem cost_lock {l : Nat} {s : Nat → Int} (h0 : s l = 0) : costN N (lockC c l) s = costN N c s := by
  unfold costN
  congr 1
  apply List.map_congr_left
  intro k _
  unfold lockC
  split
  · rename_i e; rw [e, h0]; simp
  · rfl
theorem lock_pos {l : Nat} (hc : CostOk c) : CostOk (lockC c l) := by
  intro k x e
  unfold lockC at e
  split at e
  · cases e
  · exact hc k x e
/-- locking costs nothing exactly if the line may be locked -/
theorem lockP_cost (hN : h ≤ N) (hN2 : N ≤ 18) (B : Bip h N g) (hc : CostOk c) {l : Nat} (hl : l < N) {k : Int} (hk : (minCost g N c).map (·.1) = some k) : (c l ≠ none ∧ (minCost g N (lockC c l)).map (·.1) = some k) ↔ lockP c (allC g N) l = true := by
  have A := allC_ok hN hN2 B
  have L := (minCost_least hN hN2 B hc).mp hk
  have hr : Reach c (allC g N) := Classical.byContradiction fun z => A.unreach z (let ⟨⟨s, h1, _⟩, _⟩ := L; ⟨s, h1⟩)
  rw [lockP_iff A hN B hr hc hl]
  refine and_congr_right fun _ => ?_
  rw [minCost_least hN hN2 B (lock_pos hc)]
  constructor
  · rintro ⟨⟨s, s1, s2⟩, s3⟩
    obtain ⟨t1, t2⟩ := (sol_lock hl).mp s1
    rw [cost_lock t2] at s2
    exact ⟨s, t1, fun s' hs' => by rw [s2]; exact L.2 s' hs', t2⟩
  · rintro ⟨s, s1, s2, s3⟩
    have hl2 : Sol g N (lockC c l) s := (sol_lock hl).mpr ⟨s1, s3⟩
    obtain ⟨s0, p1, p2⟩ := L.1
    have := s2 s0 p1
    have := L.2 s s1
    refine ⟨⟨s, hl2, by rw [cost_lock s3]; omega⟩, fun s' hs' => ?_⟩
    obtain ⟨t1, t2⟩ := (sol_lock hl).mp hs'
    rw [cost_lock t2]
    exact L.2 s' t1
/-- locking never costs less -/
theorem lock_le (hN : h ≤ N) (hN2 : N ≤ 18) (B : Bip h N g) (hc : CostOk c) {l : Nat} (hl : l < N) {k k' : Int} (hk : (minCost g N c).map (·.1) = some k) (hk' : (minCost g N (lockC c l)).map (·.1) = some k') : k ≤ k' := by
  have L := (minCost_least hN hN2 B hc).mp hk
  obtain ⟨⟨s, s1, s2⟩, _⟩ := (minCost_least hN hN2 B (lock_pos hc)).mp hk'
  obtain ⟨t1, t2⟩ := (sol_lock hl).mp s1
  rw [cost_lock t2] at s2
  have := L.2 s t1
  omega
/-- the lines that may be locked, as they are found, sorted -/
theorem lock_sorted (A : AllOk g h N N ms) : ((ms.flatMap fun m => m.lines.filter fun l => (c l).isSome && inR c m l).mergeSort leN) = (List.range N).filter (lockP c ms) := by
  have e1 : (ms.flatMap fun m => m.lines.filter fun l => (c l).isSome && inR c m l) = (ms.flatMap (·.lines)).filter (lockP c ms) := by
    have key : ∀ L : List Cm, (∀ m ∈ L, m ∈ ms) → (L.flatMap fun m => m.lines.filter fun l => (c l).isSome && inR c m l) = (L.flatMap (·.lines)).filter (lockP c ms) := by
      intro L
      induction L with
      | nil => intro _; rfl
      | cons m r ih =>
        intro hL
        rw [List.flatMap_cons, List.flatMap_cons, List.filter_append, ih fun m' h => hL m' (List.mem_cons_of_mem _ h)]
        congr 1
        apply List.filter_congr
        intro l hl
        rw [lockP_at A (hL m (List.mem_cons_self ..)) hl]
    exact key ms fun _ h => h
  rw [e1]
  have hp := (A.perm.filter (lockP c ms))
  have s1 : ((ms.flatMap (·.lines)).filter (lockP c ms)).mergeSort leN = (((List.range N).filter (lockP c ms)).mergeSort leN) := by
    apply List.Perm.eq_of_pairwise (le := fun a b => a ≤ b)
    · intro a b _ _ h1 h2; omega
    · exact (List.pairwise_mergeSort (le := leN) (by intro a b c h1 h2; simp [leN] at *; omega) (by intro a b; simp [leN]; omega) _).imp fun h => by simpa [leN] using h
    · exact (List.pairwise_mergeSort (le := leN) (by intro a b c h1 h2; simp [leN] at *; omega) (by intro a b; simp [leN]; omega) _).imp fun h => by simpa [leN] using h
    · exact (List.mergeSort_perm _ _).trans (hp.trans (List.mergeSort_perm _ _).symm)
  rw [s1]
  apply List.mergeSort_of_pairwise
  exact (List.Pairwise.filter _ (List.pairwise_lt_range (n := N))).imp fun h => by simp [leN]; omega
end
end Mi

set_option linter.all false
namespace Mi
section
variable {g : Gaps} {h N : Nat} {ms : List Cm} {c : Nat → Option Int}
theorem CmOk.node {first : Nat} {m : Cm} (o : CmOk g h N first m) {l : Nat} (hl : l ∈ m.lines) : ∃ n ∈ m.ns, n.l = l := by
  rw [o.ls] at hl
  have := (List.mergeSort_perm _ _).mem_iff.mp hl
  obtain ⟨n, h1, h2⟩ := List.mem_map.mp this
  exact ⟨n, h1, h2⟩
/-- a row line and a column line of one component: their sum is the same in all solutions -/
theorem forced_same {first : Nat} {m : Cm} (o : CmOk g h N first m) {a b : Nat} (ha : a ∈ m.lines) (hb : b ∈ m.lines) (h1 : a < h) (h2 : ¬ b < h) {s s' : Nat → Int} (hs : Solves g s) (hs' : Solves g s') : s a + s b = s' a + s' b := by
  obtain ⟨n, hn, rfl⟩ := o.node ha
  obtain ⟨n', hn', rfl⟩ := o.node hb
  rw [o.snd n hn s hs, o.snd n' hn' s hs, o.snd n hn s' hs', o.snd n' hn' s' hs', o.side n hn, o.side n' hn']
  by_cases hf : first < h
  · rw [if_pos (by simp [h1, hf]), if_neg (by simp [h2, hf])]; omega
  · rw [if_neg (by simp [h1, hf]), if_pos (by simp [h2, hf])]; omega
/-- lines of a pinned component: their shift is the same in all solutions -/
theorem forced_pin {first : Nat} {m : Cm} (o : CmOk g h N first m) {a l : Nat} (ha : a ∈ m.lines) (hl : l ∈ m.lines) (hc : c l = none) {s s' : Nat → Int} (hs : Sol g N c s) (hs' : Sol g N c s') : s a = s' a := by
  obtain ⟨n, hn, rfl⟩ := o.node ha
  obtain ⟨n', hn', rfl⟩ := o.node hl
  have z := hs.z n'.l (o.lt n' hn') hc
  have z' := hs'.z n'.l (o.lt n' hn') hc
  rw [o.snd n' hn' s hs.e, o.side n' hn'] at z
  rw [o.snd n' hn' s' hs'.e, o.side n' hn'] at z'
  rw [o.snd n hn s hs.e, o.snd n hn s' hs'.e]
  have : s first = s' first := by split at z <;> simp_all <;> omega
  rw [this]
/-- a component without locked lines may be moved -/
theorem AllOk.move (A : AllOk g h N N ms) (hN : h ≤ N) (B : Bip h N g) (hr : Reach c ms) {m : Cm} (hm : m ∈ ms) (hp : ∀ l ∈ m.lines, c l ≠ none) {s : Nat → Int} (hs : Sol g N c s) (d : Int) :
    ∃ s', Sol g N c s' ∧ (∀ m' ∈ ms, m' ≠ m → ∀ l ∈ m'.lines, s' l = s l) ∧ ∀ l ∈ m.lines, s' l = s l + (if (l < h ↔ m.first < h) then d else -d) := by
  let x : Nat → Int := fun f => if f = m.first then s f + d else s f
  have hne : ∀ m' ∈ ms, m' ≠ m → m'.first ≠ m.first := fun m' hm' z e => z (A.uniq hm' hm (A.ok m' hm').first_mem (by rw [e]; exact (A.ok m hm).first_mem))
  have hx : ∀ m' ∈ ms, OkX c m' (x m'.first) := by
    intro m' hm'
    by_cases e : m' = m
    · subst e
      exact fun l hl z => absurd z (hp l hl)
    · show OkX c m' (if m'.first = m.first then s m'.first + d else s m'.first)
      rw [if_neg (hne m' hm' e)]
      exact A.sol_okx hs hm'
  refine ⟨glue ms x, A.glue_sol hN B (fun m hm => contra_cyc (hr m hm)) hx, fun m' hm' e l hl => ?_, fun l hl => ?_⟩
  · rw [A.glue_at x hm' hl, A.sol_at hs.e hm' hl]
    show m'.shift l (if m'.first = m.first then s m'.first + d else s m'.first) = _
    rw [if_neg (hne m' hm' e)]
  · rw [A.glue_at x hm hl, A.sol_at hs.e hm hl]
    show m.shift l (if m.first = m.first then s m.first + d else s m.first) = _
    rw [if_pos rfl]
    unfold Cm.shift
    rw [(A.ok m hm).sgn hl]
    split <;> omega
/-- lines of two components, one of which has no locked lines: any sum can be had -/
theorem free_sum (A : AllOk g h N N ms) (hN : h ≤ N) (B : Bip h N g) (hr : Reach c ms) {m m' : Cm} (hm : m ∈ ms) (hm' : m' ∈ ms) (hne : m ≠ m') {a b : Nat} (ha : a ∈ m.lines) (hb : b ∈ m'.lines)
    (hp : (∀ l ∈ m.lines, c l ≠ none) ∨ ∀ l ∈ m'.lines, c l ≠ none) {s : Nat → Int} (hs : Sol g N c s) (d : Int) : ∃ s', Sol g N c s' ∧ s' a + s' b = s a + s b + d := by
  rcases hp with hp | hp
  · obtain ⟨s', h1, h2, h3⟩ := A.move hN B hr hm hp hs (if (a < h ↔ m.first < h) then d else -d)
    refine ⟨s', h1, ?_⟩
    rw [h2 m' hm' (Ne.symm hne) b hb, h3 a ha]
    split <;> omega
  · obtain ⟨s', h1, h2, h3⟩ := A.move hN B hr hm' hp hs (if (b < h ↔ m'.first < h) then d else -d)
    refine ⟨s', h1, ?_⟩
    rw [h2 m hm hne a ha, h3 b hb]
    split <;> omega
end
end Mi

set_option linter.all false
namespace Mi
section
variable {g : Gaps} {h N : Nat} {ms : List Cm} {c : Nat → Option Int}
/-- the place of the component of a line -/
def idx (ms : List Cm) (l : Nat) : Nat := ms.findIdx fun m => m.lines.contains l
def pinned (c : Nat → Option Int) (ms : List Cm) (l : Nat) : Bool := match compOf ms l with
  | some m => !(m.locked c).isEmpty
  | none => false
theorem AllOk.idx_at (A : AllOk g h N N ms) {i : Nat} {m : Cm} (hm : ms[i]? = some m) {l : Nat} (hl : l ∈ m.lines) : idx ms l = i := by
  obtain ⟨hi, e⟩ := List.getElem?_eq_some_iff.mp hm
  unfold idx
  rw [List.findIdx_eq hi]
  refine ⟨by rw [e]; simpa using hl, fun j hj => ?_⟩
  have hji : j < ms.length := by omega
  have := List.pairwise_iff_getElem.mp A.apart j i hji hi hj
  cases hc : (ms[j]).lines.contains l with
  | false => rfl
  | true =>
    have h1 : l ∈ (ms[j]).lines := by simpa using hc
    exact absurd (by rw [e]; exact hl) (this l h1)
theorem AllOk.idx_get (A : AllOk g h N N ms) {l : Nat} (hl : l < N) : ∃ m, ms[idx ms l]? = some m ∧ m ∈ ms ∧ l ∈ m.lines := by
  obtain ⟨m, hm, hlm⟩ := A.all l hl
  obtain ⟨i, hi, e⟩ := List.mem_iff_getElem.mp hm
  have e1 : ms[i]? = some m := by rw [List.getElem?_eq_getElem hi, e]
  exact ⟨m, by rw [A.idx_at e1 hlm]; exact e1, hm, hlm⟩
theorem pinned_at (A : AllOk g h N N ms) {m : Cm} (hm : m ∈ ms) {l : Nat} (hl : l ∈ m.lines) : pinned c ms l = !(m.locked c).isEmpty := by
  unfold pinned compOf
  rw [A.find hm hl]
/-- the same sum in all solutions -/
def forcedB (c : Nat → Option Int) (ms : List Cm) (a b : Nat) : Bool := decide (idx ms a = idx ms b) || (pinned c ms a && pinned c ms b)
theorem forced_iff (A : AllOk g h N N ms) (hN : h ≤ N) (B : Bip h N g) (hr : Reach c ms) {a b : Nat} (ha : a < h) (hb : ¬ b < h) (hbN : b < N) {s : Nat → Int} (hs : Sol g N c s) :
    (forcedB c ms a b = true → ∀ s', Sol g N c s' → s' a + s' b = s a + s b) ∧ (forcedB c ms a b = false → ∀ d : Int, ∃ s', Sol g N c s' ∧ s' a + s' b = s a + s b + d) := by
  obtain ⟨m, e1, hm, hl⟩ := A.idx_get (by omega : a < N)
  obtain ⟨m', e2, hm', hl'⟩ := A.idx_get hbN
  unfold forcedB
  rw [pinned_at A hm hl, pinned_at A hm' hl']
  have emp : ∀ {m : Cm}, (m.locked c).isEmpty = true → ∀ l ∈ m.lines, c l ≠ none := by
    intro m z l hl hc
    have : l ∈ m.locked c := mem_locked.mpr ⟨hl, hc⟩
    rw [List.isEmpty_iff] at z
    rw [z] at this; cases this
  have nem : ∀ {m : Cm}, (m.locked c).isEmpty = false → ∃ l ∈ m.lines, c l = none := by
    intro m z
    cases hk : m.locked c with
    | nil => rw [hk] at z; cases z
    | cons l r =>
      have : l ∈ m.locked c := by rw [hk]; simp
      exact ⟨l, mem_locked.mp this⟩
  constructor
  · intro hf s' hs'
    rw [Bool.or_eq_true, decide_eq_true_eq, Bool.and_eq_true] at hf
    rcases hf with hf | ⟨hf1, hf2⟩
    · rw [hf, e2] at e1
      cases e1
      exact forced_same (A.ok m hm) hl hl' ha hb hs'.e hs.e
    · obtain ⟨l1, p1, p2⟩ := nem (m := m) (by simpa using hf1)
      obtain ⟨l2, q1, q2⟩ := nem (m := m') (by simpa using hf2)
      rw [forced_pin (A.ok m hm) hl p1 p2 hs' hs, forced_pin (A.ok m' hm') hl' q1 q2 hs' hs]
  · intro hf d
    rw [Bool.or_eq_false_iff, decide_eq_false_iff_not, Bool.and_eq_false_iff] at hf
    obtain ⟨hf1, hf2⟩ := hf
    refine free_sum A hN B hr hm hm' (fun e => hf1 ?_) hl hl' ?_ hs d
    · subst e
      exact (A.idx_at e2 hl).trans rfl
    · rcases hf2 with z | z
      · exact .inl (emp (by simpa using z))
      · exact .inr (emp (by simpa using z))
end
end Mi

set_option linter.all false
namespace Mi
section
variable {g : Gaps} {h N : Nat} {ms : List Cm} {c : Nat → Option Int}
theorem wsum_pos : ∀ {ps : Pts}, ps ≠ [] → (∀ e ∈ ps, 0 < e.2) → 0 < wsum ps
  | [], h, _ => absurd rfl h
  | e :: r, _, h => by
    rw [wsum_cons]
    have h1 := h e (by simp)
    have h2 := wsum_nonneg (ps := r) fun e he => Int.le_of_lt (h e (List.mem_cons_of_mem _ he))
    omega
/-- the first optimal shift is one at which some line stands still -/
theorem CmOk.range_zero {first : Nat} {m : Cm} (o : CmOk g h N first m) (hc : CostOk c) : ∃ z ∈ m.lines, (m.range c).1 = m.zero z := by
  unfold Cm.range
  cases hl : m.locked c with
  | cons a r =>
    have : a ∈ m.locked c := by rw [hl]; simp
    exact ⟨a, (mem_locked.mp this).1, rfl⟩
  | nil =>
    have hpm := List.mergeSort_perm (m.pts c) leP2
    have h0 : ∀ e ∈ m.pts c, 0 < e.2 := by
      intro e he
      obtain ⟨l, h1, rfl⟩ := List.mem_map.mp he
      cases e2 : c l with
      | none =>
        have := mem_locked.mpr ⟨h1, e2⟩
        rw [hl] at this; cases this
      | some k => have := hc l k e2; simp only [e2, Option.getD_some]; omega
    have hne : m.pts c ≠ [] := by
      intro z
      have hf := o.first_mem
      unfold Cm.pts at z
      rw [List.map_eq_nil_iff.mp z] at hf; cases hf
    have hp := wsum_pos hne h0
    have e1 := wsum_perm hpm
    obtain ⟨A, p, k, B, e, _, _, e3⟩ := lowS_spec (total := wsum ((m.pts c).mergeSort leP2)) ((m.pts c).mergeSort leP2) 0 (by omega) (by omega)
    have hm : (p, k) ∈ m.pts c := hpm.mem_iff.mp (by rw [e]; simp)
    obtain ⟨z, hz, e4⟩ := List.mem_map.mp hm
    refine ⟨z, hz, ?_⟩
    simp only [e3, Option.getD_some]
    exact (congrArg Prod.fst e4).symm
/-- at most two lines on the side of z: all that hangs together with z is near -/
theorem near {u : Nat → Int} {p : Nat → Prop} {z l : Nat} (hu : ∀ a b x, Adj g a b x → 0 ≤ u a + u b ∧ u a + u b ≤ 1) (side : ∀ a b x, Adj g a b x → (p a ↔ ¬ p b)) (hz : p z)
    (two : ∀ a b x a' b' x', Adj g a b x → Adj g a' b' x' → p a → p a' → a ≠ z → a' ≠ z → a = a') (conn : ∀ S, Closed g S → (S l ↔ S z)) : ((u l).natAbs : Int) ≤ (u z).natAbs + 2 := by
  by_cases hA : ∃ a k x y, Adj g z k x ∧ Adj g a k y ∧ a ≠ z
  · obtain ⟨a, k, x, y, h1, h2, ha⟩ := hA
    have p1 := (side z k x h1).mp hz
    have pa : p a := (side a k y h2).mpr p1
    have b1 := hu z k x h1
    have b2 := hu a k y h2
    have all : ∀ q d x, Adj g q d x → p q → ((u q).natAbs : Int) ≤ (u z).natAbs + 2 ∧ ((u d).natAbs : Int) ≤ (u z).natAbs + 2 := by
      intro q d x h3 pq
      have b3 := hu q d x h3
      by_cases e : q = z
      · subst e; omega
      · have := two q d x a k y h3 h2 pq pa e ha
        subst this; omega
    refine (conn (fun k => ((u k).natAbs : Int) ≤ (u z).natAbs + 2) fun a1 b1 x e => ?_).mpr (by omega)
    have e1 : Adj g a1 b1 x := .inl e
    by_cases pq : p a1
    · have := all a1 b1 x e1 pq
      exact ⟨fun _ => this.2, fun _ => this.1⟩
    · have pb : p b1 := by
        have := side b1 a1 x e1.symm
        exact this.mpr pq
      have := all b1 a1 x e1.symm pb
      exact ⟨fun _ => this.1, fun _ => this.2⟩
  · have key : ∀ q d x, Adj g q d x → p q → ((q = z ∨ ∃ x, Adj g z q x) ↔ (d = z ∨ ∃ x, Adj g z d x)) := by
      intro q d x h3 pq
      have pd := (side q d x h3).mp pq
      by_cases e : q = z
      · subst e
        exact ⟨fun _ => .inr ⟨x, h3⟩, fun _ => .inl rfl⟩
      · constructor
        · rintro (z1 | ⟨y, z1⟩)
          · exact absurd z1 e
          · exact absurd pq ((side z q y z1).mp hz)
        · rintro (z1 | ⟨y, z1⟩)
          · subst z1; exact absurd hz pd
          · exact absurd ⟨q, d, y, x, z1, h3, e⟩ hA
    have := (conn (fun k => k = z ∨ ∃ x, Adj g z k x) fun a1 b1 x e => by
      have e1 : Adj g a1 b1 x := .inl e
      by_cases pq : p a1
      · exact key a1 b1 x e1 pq
      · have pb : p b1 := (side b1 a1 x e1.symm).mpr pq
        exact (key b1 a1 x e1.symm pb).symm).mpr (.inl rfl)
    rcases this with e | ⟨x, h1⟩
    · rw [e]; omega
    · have := hu z l x h1
      omega
/-- a goal that is near has an optimal solution that is near -/
theorem small_opt (hN : h ≤ N) (hN2 : N ≤ 18) (hh : h ≤ 2) (hw : N ≤ h + 2) (B : Bip h N g) (hc : CostOk c) {s0 : Nat → Int} (hs0 : ∀ l, l < N → (s0 l).natAbs ≤ 1) (he : ∀ a b x, ((a, b), x) ∈ g → 0 ≤ x - s0 a - s0 b ∧ x - s0 a - s0 b ≤ 1)
    (hr : Reach c (allC g N)) : ∀ l, l < N → (bestS c (allC g N) l).natAbs ≤ 4 := by
  intro l hl
  have A := allC_ok hN hN2 B
  obtain ⟨hsol, _⟩ := A.best_sol hN B hc hr
  obtain ⟨m, hm, hlm⟩ := A.all l hl
  have o := A.ok m hm
  obtain ⟨z, hz, ez⟩ := o.range_zero hc
  have hzN := o.ltN hz
  have hs : ∀ k ∈ m.lines, bestS c (allC g N) k = m.shift k (m.range c).1 := fun k hk => by
    unfold bestS
    rw [A.glue_at _ hm hk, A.bestX_at hm]
  have h0 : bestS c (allC g N) z = 0 := by rw [hs z hz, ez]; exact (o.zero_iff hz _).mpr rfl
  generalize bestS c (allC g N) = s at hsol h0 hs ⊢
  have hu : ∀ a b x, Adj g a b x → 0 ≤ (s a - s0 a) + (s b - s0 b) ∧ (s a - s0 a) + (s b - s0 b) ≤ 1 := by
    intro a b x e
    have e1 := hsol.e.adj e
    rcases e with e | e
    · have := he a b x e; omega
    · have := he b a x e; omega
  have conn : ∀ S, Closed g S → (S l ↔ S z) := fun S hS => (o.least hS hlm).trans (o.least hS hz).symm
  have ltA : ∀ a b x, Adj g a b x → a < N ∧ b < N := fun a b x e => ⟨(B.adj e.symm hN).2, (B.adj e hN).2⟩
  have fin : ((s l - s0 l).natAbs : Int) ≤ (s z - s0 z).natAbs + 2 := by
    by_cases hzh : z < h
    · refine near (u := fun k => s k - s0 k) (p := fun k => k < h) hu (fun a b x e => (B.adj e hN).1) hzh (fun a b x a' b' x' _ _ pa pa' ha ha' => by omega) conn
    · refine near (u := fun k => s k - s0 k) (p := fun k => ¬ k < h) hu (fun a b x e => ?_) hzh (fun a b x a' b' x' e e' pa pa' ha ha' => ?_) conn
      · have := (B.adj e hN).1
        constructor
        · intro q w; exact q (this.mpr w)
        · intro q w; exact q (fun y => (this.mp w) y)
      · have := (ltA a b x e).1
        have := (ltA a' b' x' e').1
        omega
  have := hs0 l hl
  have := hs0 z hzN
  omega
end
end Mi

set_option Elab.async false
set_option linter.all false
set_option maxRecDepth 100000
set_option maxHeartbeats 4000000
namespace Cl
open PySem L2 PySem.Spec PyProof.Rows
/-! ### rows of shifts -/
def ds4 (x : Option Int) : List Int := match x with
  | some _ => [-4, -3, -2, -1, 0, 1, 2, 3, 4]
  | none => [0]
theorem ds4_mem {x : Option Int} {d : Int} : d ∈ ds4 x ↔ (-4 ≤ d ∧ d ≤ 4) ∧ (x = none → d = 0) := by
  cases x with
  | none => simp [ds4]; omega
  | some y => simp [ds4]; omega
theorem ds4_len {x : Option Int} : (ds4 x).length ≤ 9 := by cases x <;> simp [ds4]
def stepR (R : List (List Int)) (ds : List Int) : List (List Int) := ds.flatMap fun d => R.map fun r => r ++ [d]
theorem stepR_len {R : List (List Int)} {ds : List Int} : (stepR R ds).length = ds.length * R.length := by
  unfold stepR
  induction ds with
  | nil => simp
  | cons d r ih => rw [List.flatMap_cons, List.length_append, ih, List.length_map, List.length_cons, Nat.succ_mul]; omega
def rowsP (c : Nat → Option Int) : Nat → List (List Int)
  | 0 => [[]]
  | n + 1 => stepR (rowsP c n) (ds4 (c n))
theorem rowsP_len {c : Nat → Option Int} : ∀ n, (rowsP c n).length ≤ 9 ^ n
  | 0 => by simp [rowsP]
  | n + 1 => by
    have ih := rowsP_len (c := c) n
    show (stepR (rowsP c n) (ds4 (c n))).length ≤ _
    rw [stepR_len, Nat.pow_succ, Nat.mul_comm]
    exact Nat.mul_le_mul ih ds4_len
theorem rowsP_mem {c : Nat → Option Int} : ∀ n {r : List Int}, r ∈ rowsP c n ↔ r.length = n ∧ ∀ i x, r[i]? = some x → (-4 ≤ x ∧ x ≤ 4) ∧ (c i = none → x = 0)
  | 0, r => by
    constructor
    · intro h
      have : r = [] := by simpa [rowsP] using h
      subst this; simp
    · rintro ⟨h, _⟩
      have : r = [] := List.eq_nil_of_length_eq_zero h
      subst this; simp [rowsP]
  | n + 1, r => by
    have ih := @rowsP_mem c n
    show r ∈ stepR (rowsP c n) (ds4 (c n)) ↔ _
    unfold stepR
    constructor
    · intro h
      obtain ⟨d, hd, h1⟩ := List.mem_flatMap.mp h
      obtain ⟨q, hq, rfl⟩ := List.mem_map.mp h1
      obtain ⟨k1, k2⟩ := ih.mp hq
      refine ⟨by simp [k1], fun i x e => ?_⟩
      by_cases hi : i < n
      · rw [List.getElem?_append_left (by omega)] at e
        exact k2 i x e
      · rw [List.getElem?_append_right (by omega)] at e
        by_cases hi2 : i = n
        · subst hi2
          rw [k1, Nat.sub_self] at e
          cases e
          exact ds4_mem.mp hd
        · rw [List.getElem?_eq_none (by simp; omega)] at e; cases e
    · rintro ⟨h1, h2⟩
      have hne : r ≠ [] := by intro z; rw [z] at h1; simp at h1
      have e := List.dropLast_concat_getLast hne
      refine List.mem_flatMap.mpr ⟨r.getLast hne, ?_, List.mem_map.mpr ⟨r.dropLast, ?_, e⟩⟩
      · refine ds4_mem.mpr (h2 n _ ?_)
        rw [List.getLast_eq_getElem, List.getElem?_eq_getElem (by omega)]
        simp [h1]
      · refine ih.mpr ⟨by simp [h1], fun i x ex => h2 i x ?_⟩
        rw [List.getElem?_dropLast] at ex
        split at ex
        · exact ex
        · cases ex
def sR (r : List Int) (l : Nat) : Int := (r[l]?).getD 0
theorem sR_get {r : List Int} {l : Nat} (h : l < r.length) : r[l]? = some (sR r l) := by unfold sR; rw [List.getElem?_eq_getElem h]; rfl
theorem sR_rng {r : List Int} : r = (List.range r.length).map (sR r) := by
  apply List.ext_getElem?
  intro i
  by_cases hi : i < r.length
  · rw [sR_get hi]; simp [hi]
  · rw [List.getElem?_eq_none (by omega), List.getElem?_eq_none (by simp; omega)]
def triG (e : (Nat × Nat) × Int) : PyData := .tuple [natD e.1.1, natD e.1.2, .int e.2]
def badE (r : List Int) (e : (Nat × Nat) × Int) : Bool := !decide (sR r e.1.1 + sR r e.1.2 = e.2)
def goodR (G : Mi.Gaps) (r : List Int) : Bool := (G.filter (badE r)).isEmpty
theorem goodR_iff {G : Mi.Gaps} {r : List Int} : goodR G r = true ↔ Mi.Solves G (sR r) := by
  unfold goodR
  rw [List.isEmpty_iff, List.filter_eq_nil_iff]
  constructor
  · intro H a b x e
    have := H ((a, b), x) e
    simpa [badE] using this
  · rintro H ⟨⟨a, b⟩, x⟩ e
    have := H a b x e
    simp [badE, this]
def allT (G : Mi.Gaps) (N : Nat) (c c' : Nat → Option Int) : List Int := ((rowsP c N).filter (goodR G)).map fun r => Mi.costN N c' (sR r)
/-- trying them one by one finds the least -/
theorem allT_min {G : Mi.Gaps} {h N : Nat} {c c' : Nat → Option Int} (hN : h ≤ N) (hN2 : N ≤ 18) (hh : h ≤ 2) (hw : N ≤ h + 2) (B : Mi.Bip h N G) (hc : Mi.CostOk c') (hcc : ∀ l, c' l = none ↔ c l = none) {s0 : Nat → Int} (hs0 : ∀ l, l < N → (s0 l).natAbs ≤ 1) (he : ∀ a b x, ((a, b), x) ∈ G → 0 ≤ x - s0 a - s0 b ∧ x - s0 a - s0 b ≤ 1) :
    (Mi.minCost G N c' = none ∧ allT G N c c' = []) ∨ ∃ k L, Mi.minCost G N c' = some (k, L) ∧ allT G N c c' ≠ [] ∧ minL (allT G N c c') = k := by
  have A := Mi.allC_ok hN hN2 B
  have hmem : ∀ r ∈ (rowsP c N).filter (goodR G), Mi.Sol G N c' (sR r) := by
    intro r hr
    obtain ⟨h1, h2⟩ := List.mem_filter.mp hr
    obtain ⟨k1, k2⟩ := (rowsP_mem N).mp h1
    exact ⟨goodR_iff.mp h2, fun l hl z => (k2 l _ (sR_get (by omega))).2 ((hcc l).mp z)⟩
  cases e : Mi.minCost G N c' with
  | none =>
    refine .inl ⟨rfl, ?_⟩
    have hno := (Mi.minCost_none hN hN2 B hc).mp e
    unfold allT
    rw [List.map_eq_nil_iff, List.eq_nil_iff_forall_not_mem]
    exact fun r hr => hno ⟨_, hmem r hr⟩
  | some p =>
    obtain ⟨k, L⟩ := p
    refine .inr ⟨k, L, rfl, ?_⟩
    have hl := (Mi.minCost_least hN hN2 B hc).mp (by rw [e]; rfl : (Mi.minCost G N c').map (·.1) = some k)
    have hr : Mi.Reach c' (Mi.allC G N) := Classical.byContradiction fun z => A.unreach z (let ⟨⟨s, h1, _⟩, _⟩ := hl; ⟨s, h1⟩)
    have hsm := Mi.small_opt hN hN2 hh hw B hc hs0 he hr
    obtain ⟨hb1, hb2⟩ := A.best_sol hN B hc hr
    generalize Mi.bestS c' (Mi.allC G N) = s at hsm hb1 hb2
    have hk : Mi.costN N c' s = k := by
      obtain ⟨⟨s1, q1, q2⟩, q3⟩ := hl
      have := hb2 s1 q1
      have := q3 s hb1
      omega
    have hrow : (List.range N).map s ∈ (rowsP c N).filter (goodR G) := by
      have hsr : ∀ l, l < N → sR ((List.range N).map s) l = s l := fun l hl => by simp [sR, hl]
      refine List.mem_filter.mpr ⟨(rowsP_mem N).mpr ⟨by simp, fun i x ex => ?_⟩, goodR_iff.mpr fun a b x ex => ?_⟩
      · by_cases hi : i < N
        · have : x = s i := by simp [hi] at ex; exact ex.symm
          subst this
          refine ⟨by have := hsm i hi; omega, fun z => hb1.z i hi ((hcc i).mpr z)⟩
        · rw [List.getElem?_eq_none (by simp; omega)] at ex; cases ex
      · have := B a b x ex
        rw [hsr a (by omega), hsr b (by omega)]
        exact hb1.e a b x ex
    have hcost : Mi.costN N c' (sR ((List.range N).map s)) = k := by
      rw [← hk]
      unfold Mi.costN
      congr 1
      apply List.map_congr_left
      intro l hl
      have : sR ((List.range N).map s) l = s l := by simp [sR, List.mem_range.mp hl]
      rw [this]
    have hkT : k ∈ allT G N c c' := List.mem_map.mpr ⟨_, hrow, hcost⟩
    have hne : allT G N c c' ≠ [] := fun z => by rw [z] at hkT; cases hkT
    refine ⟨hne, ?_⟩
    have h1 := minL_le hkT
    obtain ⟨r, hr1, hr2⟩ := List.mem_map.mp (minL_mem hne)
    have := hl.2 _ (hmem r hr1)
    have h4 : minL (allT G N c c') = Mi.costN N c' (sR r) := hr2.symm
    have h3 : k ≤ minL (allT G N c c') := by rw [h4]; exact this
    omega
theorem minC_any {g : Mi.Gaps} {N : Nat} {c : Nat → Option Int} : (Mi.anyContra c (Mi.allC g N)).isNone = (Mi.minCost g N c).isSome := by
  unfold Mi.minCost
  cases h : Mi.reachB c (Mi.allC g N) with
  | true =>
    rw [if_pos rfl, Mi.anyContra_none.mpr (Mi.reachB_iff.mp h)]; rfl
  | false =>
    rw [if_neg (by simp)]
    cases e : Mi.anyContra c (Mi.allC g N) with
    | none =>
      have := Mi.reachB_iff.mpr (Mi.anyContra_none.mp e)
      rw [h] at this; cases this
    | some p => rfl
@[simp] theorem lrgF2_i {i j : Int} : lrgF2 (.int i) (.int j) = if -100000 ≤ i ∧ i ≤ 100000 ∧ -100000 ≤ j ∧ j ≤ 100000 then some (.new (.lst (ranD i (j - i).toNat))) else none := rfl
theorem ran9 : ranD (-4) 9 = (ds4 (some 0)).map .int := rfl
@[simp] theorem minF_l {ds : List PyData} : minF (.list ds) = (ints? ds).bind fun ns => if ns = [] then none else some (.dat (.int (minL ns))) := rfl
@[simp] theorem eqF_nn {neg : Bool} : eqF neg .none .none = some (.dat (.bool (!neg))) := by
  rw [eqF_ok (k := 0) (j := 0) .non .non (by omega) (by omega)]
  cases neg <;> rfl
theorem minD0 {p : Option (Int × List Int)} {k : Int} {L : List Int} (e : p = some (k, L)) : minD p = .tuple [.int k, .list (L.map .int)] := by subst e; rfl
section
variable {K : PySem.W.Frag} {mg : Str → Option Value} {X : PC K}
variable (K mg) in
def gc_l_cell_gaps : PF Ws := runF (C := cs K mg E0) n_l_cell_gaps.length (b_l_cell_gaps K mg Ws)
variable (K mg) in
def gc_l_rows : PF Ws := runF (C := cs K mg E0) n_l_rows.length (b_l_rows K mg Ws)
theorem lCellGaps {h wd : Nat} {t : Nat → Nat → Int} {c : Nat → Option Int} {g : Nat → Nat → Option Int} {w : Option Dr} (S : SzOk h wd) : gc_l_cell_gaps K mg [.dat (tabD h wd t c), .dat (goalD h wd g)] w = some (.ok (.new (.lst ((Mi.gapsL h wd (gapF t g)).map triG))) w) := by
  have w2 := S.w2
  have h2 := S.h2
  unfold gc_l_cell_gaps
  refine Wp.run1 (C := cs K mg E0) ?_
  unfold b_l_cell_gaps
  refine Wp.step (Γ' := [some (.dat (tabD h wd t c)), some (.dat (goalD h wd g)), some (.own (.lst [])), some (.dat (.int (h : Nat))), none, none]) (w' := w) (by simp [startE]) ?_
  refine Wp.seq (Wp.for_ (n := h) (e := fun j => .int (j : Nat)) (fun j Γ w' => w' = w ∧ ∃ e f, Γ = [some (.dat (tabD h wd t c)), some (.dat (goalD h wd g)), some (.own (.lst ((Mi.gapsR h wd (gapF t g) j 0).map triG))), some (.dat (.int (h : Nat))), e, f]) (range_ev (by simp) (by omega)) ⟨rfl, none, none, rfl⟩ ?_ ?_)
  · rintro j Γ w' hj ⟨rfl, e, f, rfl⟩
    refine ⟨_, rfl, ?_⟩
    have q1 : (rng h fun r => PyData.tuple (rng wd fun k => optD (g r k)))[j]? = some (.tuple (rng wd fun k => optD (g j k))) := rng_get hj
    have e1 : (rng h fun r => PyData.tuple (rng wd fun k => .int (t r k)))[j]? = some (.tuple (rng wd fun k => .int (t j k))) := rng_get hj
    refine Wp.for_ (n := wd) (e := fun j => .int (j : Nat)) (fun k Γ w'' => w'' = w' ∧ ∃ f, Γ = [some (.dat (tabD h wd t c)), some (.dat (goalD h wd g)), some (.own (.lst ((Mi.gapsR h wd (gapF t g) j k).map triG))), some (.dat (.int (h : Nat))), some (.dat (.int (j : Nat))), f]) (range_ev (by simp [q1]) (by omega)) ⟨rfl, f, rfl⟩ ?_ ?_
    · rintro k Γ w'' hk ⟨rfl, f, rfl⟩
      have q2 : (rng wd fun k => optD (g j k))[k]? = some (optD (g j k)) := rng_get hk
      have e2 : (rng wd fun k => PyData.int (t j k))[k]? = some (.int (t j k)) := rng_get hk
      have e3 : ((Mi.gapsR h wd (gapF t g) j k)).length < 100000 := by
        have := @Mi.gapsR_len h wd (gapF t g) j k
        have : j * wd ≤ 7 * 7 := Nat.mul_le_mul (by omega) w2
        omega
      cases hx : g j k with
      | none => exact ⟨_, rfl, Wp.mk (f := .nx _ _) (by simp [q1, q2, hx]; and_intros <;> rfl) ⟨rfl, some (.dat (.int (k : Nat))), by rw [Mi.gapsR_none (by simp [gapF, hx])]⟩⟩
      | some x =>
        refine ⟨_, rfl, Wp.mk (f := .nx [some (.dat (tabD h wd t c)), some (.dat (goalD h wd g)), some (.own (.lst ((Mi.gapsR h wd (gapF t g) j (k + 1)).map triG))), some (.dat (.int (h : Nat))), some (.dat (.int (j : Nat))), some (.dat (.int (k : Nat)))] w'') ?_ ⟨rfl, _, rfl⟩⟩
        rw [Mi.gapsR_some (show gapF t g j k = some (x - t j k) by simp [gapF, hx])]
        simp [q1, q2, e1, e2, e3, hx, triG, natD]
    · rintro Γ w'' ⟨rfl, f, rfl⟩
      exact ⟨rfl, some (.dat (.int (j : Nat))), f, by rw [Mi.gapsR_row]⟩
  · rintro Γ w' ⟨rfl, e, f, rfl⟩
    refine Wp.mk (f := .rt (.new (.lst ((Mi.gapsR h wd (gapF t g) h 0).map triG))) w') (by simp) ?_
    rw [Mi.gapsR_all]; rfl
theorem lRows {N : Nat} {c : Nat → Option Int} {w : Option Dr} (hN : N ≤ 4) : gc_l_rows K mg [.dat (.list (rng N fun i => optD (c i)))] w = some (.ok (.dat (.list ((rowsP c N).map tupD))) w) := by
  unfold gc_l_rows
  refine Wp.run1 (C := cs K mg E0) ?_
  unfold b_l_rows
  refine Wp.step (Γ' := [some (.dat (.list (rng N fun i => optD (c i)))), some (.dat (.list ((rowsP c 0).map tupD))), none, none, none, none]) (w' := w) (by simp [startE]; rfl) ?_
  refine Wp.seq (Wp.for_ (n := N) (e := fun j => optD (c j)) (fun j Γ w' => w' = w ∧ ∃ x2 x3 x4 x5, Γ = [some (.dat (.list (rng N fun i => optD (c i)))), some (.dat (.list ((rowsP c j).map tupD))), x2, x3, x4, x5]) (by simp) ⟨rfl, none, none, none, none, rfl⟩ ?_ ?_)
  · rintro j Γ w' hj ⟨rfl, x2, x3, x4, x5, rfl⟩
    refine ⟨_, rfl, ?_⟩
    have hlen := rowsP_len (c := c) j
    have h9 : 9 ^ j ≤ 9 ^ 3 := Nat.pow_le_pow_right (by omega) (by omega)
    have h93 : (9 : Nat) ^ 3 = 729 := by decide
    refine Wp.step (Γ' := [some (.dat (.list (rng N fun i => optD (c i)))), some (.dat (.list ((rowsP c j).map tupD))), some (.dat (optD (c j))), some (.dat (.list [])), x4, x5]) (w' := w') (by simp) ?_
    refine Wp.seq (Wp.forL (l := ds4 (c j)) (e := .int) (fun i Γ w'' => w'' = w' ∧ ∃ x4 x5, Γ = [some (.dat (.list (rng N fun i => optD (c i)))), some (.dat (.list ((rowsP c j).map tupD))), some (.dat (optD (c j))), some (.dat (.list ((stepR (rowsP c j) ((ds4 (c j)).take i)).map tupD))), x4, x5]) (by
      cases hcj : c j with
      | none => simp [ds4]
      | some y =>
        have := ran9
        simp [this]
        rfl) ⟨rfl, x4, x5, by simp [stepR]⟩ ?_ ?_)
    · rintro i d Γ w'' hi ⟨rfl, x4, x5, rfl⟩
      refine ⟨_, rfl, ?_⟩
      have hi9 : i < 9 := by
        have := (List.getElem?_eq_some_iff.mp hi).1
        have := @ds4_len (c j)
        omega
      have hsl : (stepR (rowsP c j) ((ds4 (c j)).take i)).length + (rowsP c j).length ≤ 100000 := by
        rw [stepR_len, List.length_take]
        have : min i (ds4 (c j)).length * (rowsP c j).length ≤ 9 * 729 := Nat.mul_le_mul (by omega) (by omega)
        omega
      have e5 := lc_mapA (C := cs K mg E0) (Γ := [some (.dat (.list (rng N fun i => optD (c i)))), some (.dat (.list ((rowsP c j).map tupD))), some (.dat (optD (c j))), some (.dat (.list ((stepR (rowsP c j) ((ds4 (c j)).take i)).map tupD))), some (.dat (.int d)), x5]) (w := w'') (it := .seq (.var 1)) (g := .name 5) (x := .add (.var 5) (.tup (.cons (.var 4) .nil))) (vs := [5]) (hg := rfl) (l := rowsP c j) (e := tupD) (fun r => tupD (r ++ [d])) (by omega) (by simp) (by
        intro r hr
        have := ((rowsP_mem j).mp hr).1
        have hl : r.length ≤ 99999 := by omega
        exact ⟨_, rfl, by simp [wipeE, tupD, hl]⟩)
      have est : stepR (rowsP c j) ((ds4 (c j)).take (i + 1)) = stepR (rowsP c j) ((ds4 (c j)).take i) ++ (rowsP c j).map fun r => r ++ [d] := by
        unfold stepR
        rw [List.take_succ, hi, List.flatMap_append]
        simp
      have hsl2 : (stepR (rowsP c j) ((ds4 (c j)).take i)).length + ((rowsP c j).map fun r => r ++ [d]).length ≤ 100000 := by rw [List.length_map]; exact hsl
      refine Wp.mk (f := .nx [some (.dat (.list (rng N fun i => optD (c i)))), some (.dat (.list ((rowsP c j).map tupD))), some (.dat (optD (c j))), some (.dat (.list ((stepR (rowsP c j) ((ds4 (c j)).take (i + 1))).map tupD))), some (.dat (.int d)), x5] w'') (by
        simp [-lc_ev]
        erw [e5]
        simp [hsl]
        rw [est, List.map_append, List.map_map]
        rfl) ⟨rfl, _, _, rfl⟩
    · rintro Γ w'' ⟨rfl, x4, x5, rfl⟩
      rw [List.take_length]
      exact Wp.mk (f := .nx _ _) (by simp; and_intros <;> rfl) ⟨rfl, _, _, _, _, rfl⟩
  · rintro Γ w' ⟨rfl, x2, x3, x4, x5, rfl⟩
    exact Wp.mk (f := .rt _ _) (by simp; try rfl) rfl
variable (mg X) in
def bLaw : SS (cs K mg E0) := b_law K mg (gc_random_table K mg) (gc_l_line_costs K mg) (gc_l_rows K mg) (gc_l_random_goal K mg) (gc_l_cell_gaps K mg) (gc_minimum_cost mg X Ws) (gc_minimum_steps mg X Ws) (gc_find mg X Ws)
theorem law_true {ns : List Int} (hl : ns.length ≤ 100000) (m : Int) : ∃ w', (bLaw mg X).ev (none :: some (.hd 0) :: List.replicate 15 none) (some (ns, 0, m, 0)) = some (.rt (.dat (.bool true)) w') := by
  suffices hh : Wp (bLaw mg X) (none :: some (.hd 0) :: List.replicate 15 none) (some (ns, 0, m, 0)) fun f => ∃ w', f = .rt (.dat (.bool true)) w' by
    obtain ⟨f, e, w', rfl⟩ := hh
    exact ⟨w', e⟩
  unfold bLaw b_law
  have D0 : DrOk ns (some (ns, 0, m, 0)) := ⟨hl, 0, m, 0, rfl, by omega⟩
  obtain ⟨h, wd, t, c, w1, e1, D1, S, hh, hw, ht, hc⟩ := randomTable (K := K) (mg := mg) D0 (most := 2) (high := 3) (by omega) (by omega)
  have h1 := S.h1
  have h2 := S.h2
  have u1 := S.w1
  have u2 := S.w2
  have hN : h ≤ h + wd := by omega
  have hN2 : h + wd ≤ 18 := by omega
  have hN4 : h + wd ≤ 4 := by omega
  have hT : TOk h wd t := fun r k hr hk => by have := ht r k hr hk; constructor <;> omega
  have elc := @lLineCosts K mg (cellsD h wd t) h wd c w1 (by omega)
  have elr := @lRows K mg (h + wd) c w1 hN4
  have hrl : (rowsP c (h + wd)).length ≤ 6561 := by
    have := rowsP_len (c := c) (h + wd)
    have : 9 ^ (h + wd) ≤ 9 ^ 4 := Nat.pow_le_pow_right (by omega) hN4
    have : (9 : Nat) ^ 4 = 6561 := by decide
    omega
  refine Wp.step (Γ' := [none, some (.hd 0), some (.dat (tabD h wd t c)), none, none, none, none, none, none, none, none, none, none, none, none, none, none]) (w' := w1) (by simp [e1]) ?_
  refine Wp.step (Γ' := [none, some (.hd 0), some (.dat (tabD h wd t c)), some (.dat (.list (rng (h + wd) fun i => optD (c i)))), none, none, none, none, none, none, none, none, none, none, none, none, none]) (w' := w1) (by simp [elc]) ?_
  refine Wp.step (Γ' := [none, some (.hd 0), some (.dat (tabD h wd t c)), some (.dat (.list (rng (h + wd) fun i => optD (c i)))), some (.dat (.list ((rowsP c (h + wd)).map tupD))), none, none, none, none, none, none, none, none, none, none, none, none]) (w' := w1) (by simp [elr]) ?_
  refine Wp.seq (Wp.for_ (n := 3) (e := fun j => .int (j : Nat)) (fun j Γ w => DrOk ns w ∧ ∃ x5 x6 x7 x8 x9 x10 x11 x12 x13 x14 x15 x16, Γ = [none, some (.hd 0), some (.dat (tabD h wd t c)), some (.dat (.list (rng (h + wd) fun i => optD (c i)))), some (.dat (.list ((rowsP c (h + wd)).map tupD))), x5, x6, x7, x8, x9, x10, x11, x12, x13, x14, x15, x16]) (range_ev (by simp) (by omega)) ⟨D1, none, none, none, none, none, none, none, none, none, none, none, none, rfl⟩ ?_ ?_)
  · rintro j Γ w hj ⟨D, x5, x6, x7, x8, x9, x10, x11, x12, x13, x14, x15, x16, rfl⟩
    refine ⟨_, rfl, ?_⟩
    obtain ⟨g, s0, w2, e2, D2, hs0, hg⟩ := randomGoalS (K := K) (mg := mg) (t := t) (c := c) (span := 1) D S (by omega)
    have hG : GOk h wd g := fun r k x hr hk e => by
      have := hg r k x hr hk e
      have := ht r k hr hk
      have := hs0 r (by omega)
      have := hs0 (h + k) (by omega)
      constructor <;> omega
    have B := Mi.bip_gapsL h wd (gapF t g)
    have hgap : ∀ a b x, ((a, b), x) ∈ Mi.gapsL h wd (gapF t g) → 0 ≤ x - s0 a - s0 b ∧ x - s0 a - s0 b ≤ 1 := fun a b x e => by
      obtain ⟨k, p1, p2, rfl, p3⟩ := Mi.mem_gapsL.mp e
      unfold gapF at p3
      cases eg : g a k with
      | none => rw [eg] at p3; cases p3
      | some y =>
        rw [eg] at p3
        have := hg a k y p1 p2 eg
        simp at p3
        omega
    have hss : ∀ l, l < h + wd → (s0 l).natAbs ≤ 1 := fun l hl => by have := hs0 l hl; omega
    have hcp : Mi.CostOk c := hc.pos
    have M1 := allT_min (c := c) (c' := c) hN hN2 (by omega) (by omega) B hcp (fun l => Iff.rfl) hss hgap
    have M2 := allT_min (c := c) (c' := Mi.unitC c) hN hN2 (by omega) (by omega) B Mi.unit_pos (fun l => by unfold Mi.unitC; simp) hss hgap
    have eg := @lCellGaps K mg h wd t c g w2 S
    have emin := @minimumCost K mg X Ws w2 h wd t c g S hT hc hG
    have estp := @minimumSteps K mg X Ws w2 h wd t c g S hT hc hG
    have efind := @find_ok K mg X Ws w2 h wd t c g S hT hc hG
    have hany := @minC_any (Mi.gapsL h wd (gapF t g)) (h + wd) c
    unfold Mi.minSteps at estp
    have hGl := @gaps_len h wd (gapF t g) S
    generalize hGd : Mi.gapsL h wd (gapF t g) = G at *
    refine Wp.step (Γ' := [none, some (.hd 0), some (.dat (tabD h wd t c)), some (.dat (.list (rng (h + wd) fun i => optD (c i)))), some (.dat (.list ((rowsP c (h + wd)).map tupD))), some (.dat (.int (j : Nat))), some (.dat (goalD h wd g)), some (.own (.lst [])), some (.own (.lst [])), x9, x10, x11, x12, x13, x14, x15, x16]) (w' := w2) (by simp [e2]) ?_
    refine Wp.step (by simp; try (and_intros <;> rfl)) ?_
    refine Wp.step (Γ' := [none, some (.hd 0), some (.dat (tabD h wd t c)), some (.dat (.list (rng (h + wd) fun i => optD (c i)))), some (.dat (.list ((rowsP c (h + wd)).map tupD))), some (.dat (.int (j : Nat))), some (.dat (goalD h wd g)), some (.own (.lst [])), some (.own (.lst [])), some (.dat (.list (G.map triG))), x10, x11, x12, x13, x14, x15, x16]) (w' := w2) (by simp [eg]) ?_
    refine Wp.seq (Wp.forL (l := rowsP c (h + wd)) (e := tupD) (fun i Γ w => w = w2 ∧ ∃ x10, Γ = [none, some (.hd 0), some (.dat (tabD h wd t c)), some (.dat (.list (rng (h + wd) fun i => optD (c i)))), some (.dat (.list ((rowsP c (h + wd)).map tupD))), some (.dat (.int (j : Nat))), some (.dat (goalD h wd g)), some (.own (.lst (((((rowsP c (h + wd)).take i).filter (goodR G)).map fun r => Mi.costN (h + wd) c (sR r)).map .int))), some (.own (.lst (((((rowsP c (h + wd)).take i).filter (goodR G)).map fun r => Mi.costN (h + wd) (Mi.unitC c) (sR r)).map .int))), some (.dat (.list (G.map triG))), x10, x11, x12, x13, x14, x15, x16]) (by simp) ⟨rfl, x10, by simp⟩ ?_ ?_)
    · rintro i r Γ w hi ⟨rfl, x10, rfl⟩
      refine ⟨_, rfl, ?_⟩
      obtain ⟨r1, r2⟩ := (rowsP_mem (h + wd)).mp (List.mem_of_getElem? hi)
      have rget : ∀ l, l < h + wd → (r.map PyData.int)[l]? = some (.int (sR r l)) := fun l hl => by rw [List.getElem?_map, sR_get (by omega)]; rfl
      have hil : i < (rowsP c (h + wd)).length := (List.getElem?_eq_some_iff.mp hi).1
      have hfl : (((rowsP c (h + wd)).take i).filter (goodR G)).length < 100000 := by
        have := List.length_filter_le (goodR G) ((rowsP c (h + wd)).take i)
        rw [List.length_take] at this
        omega
      have htk : ((rowsP c (h + wd)).take (i + 1)).filter (goodR G) = ((rowsP c (h + wd)).take i).filter (goodR G) ++ (if goodR G r = true then [r] else []) := by
        rw [List.take_succ, hi, List.filter_append]
        congr 1
        simp [List.filter_cons]
      generalize hL : ((rowsP c (h + wd)).take i).filter (goodR G) = L at hfl htk
      have eb := lc_map (C := cs K mg E0) (Γ := [none, some (.hd 0), some (.dat (tabD h wd t c)), some (.dat (.list (rng (h + wd) fun i => optD (c i)))), some (.dat (.list ((rowsP c (h + wd)).map tupD))), some (.dat (.int (j : Nat))), some (.dat (goalD h wd g)), some (.own (.lst ((L.map fun r => Mi.costN (h + wd) c (sR r)).map .int))), some (.own (.lst ((L.map fun r => Mi.costN (h + wd) (Mi.unitC c) (sR r)).map .int))), some (.dat (.list (G.map triG))), some (.dat (tupD r)), x11, x12, x13, x14, x15, x16]) (w := w) (it := .seq (.var 9)) (g := .tup 3 (.cons (.name 12) (.cons (.name 13) (.cons (.name 14) .nil)))) (t := .of (.ne (.add (.ix (.var 10) (.var 12)) (.ix (.var 10) (.var 13))) (.var 14))) (x := .var 12) (vs := [12, 13, 14]) (hg := rfl) (l := G) (e := triG) (badE r) (fun e => natD e.1.1) (by omega) (by simp) (by
        rintro ⟨⟨a, b⟩, x⟩ he
        have hb := B a b x he
        have ga := rget a (by omega)
        have gb := rget b (by omega)
        refine ⟨_, rfl, by simp [wipeE, natD, tupD, ga, gb, badE], fun _ => by simp [wipeE, natD]⟩)
      have enil : eqF false (.list ((G.filter (badE r)).map fun e => natD e.1.1)) (.list []) = some (.dat (.bool (goodR G r))) := by
        rw [eqF_nil (k := 0) (by intro d hd; obtain ⟨l, _, rfl⟩ := List.mem_map.mp hd; exact .int) (by omega)]
        simp [goodR]
      have ec := lc_all (C := cs K mg E0) (Γ := [none, some (.hd 0), some (.dat (tabD h wd t c)), some (.dat (.list (rng (h + wd) fun i => optD (c i)))), some (.dat (.list ((rowsP c (h + wd)).map tupD))), some (.dat (.int (j : Nat))), some (.dat (goalD h wd g)), some (.own (.lst ((L.map fun r => Mi.costN (h + wd) c (sR r)).map .int))), some (.own (.lst ((L.map fun r => Mi.costN (h + wd) (Mi.unitC c) (sR r)).map .int))), some (.dat (.list (G.map triG))), some (.dat (tupD r)), x11, x12, x13, x14, x15, x16]) (w := w) (it := .range (.len (.var 10))) (g := .name 15) (x := .mul (.abs (.ix (.var 10) (.var 15))) (.orI (.ix (.var 3) (.var 15)) (.int 0))) (vs := [15]) (hg := rfl) (n := h + wd) (e := fun j => .int (j : Nat)) (fun k => .int (absI (sR r k) * (c k).getD 0)) (by omega) (range_ev (by simp [tupD, r1]) (by omega)) (by
        intro k hk
        have g1 := rget k hk
        have g2 : (rng (h + wd) fun i => optD (c i))[k]? = some (optD (c k)) := rng_get hk
        have hm : ∀ x : Int, 0 ≤ x → x ≤ 99 → mulC (absI (sR r k)) x = true := fun x h1 h2 => mulC_small h1 h2
        refine ⟨_, rfl, ?_⟩
        cases e : c k with
        | none =>
          have hm2 := hm 0 (by omega) (by omega)
          simp [wipeE, tupD, g1, g2, e, hm2]
        | some y =>
          have hk2 : (y != 0) = true := by have := (hc k y e).1; simp; omega
          have hm2 := hm y (by have := (hc k y e).1; omega) (hc k y e).2
          simp [wipeE, tupD, g1, g2, e, hk2, hm2])
      have ecost : (rng (h + wd) fun k => absI (sR r k) * (c k).getD 0).sum = Mi.costN (h + wd) c (sR r) := by
        simp only [absI_eq]; rfl
      have ed := fun x7 => lc_mapA (C := cs K mg E0) (Γ := [none, some (.hd 0), some (.dat (tabD h wd t c)), some (.dat (.list (rng (h + wd) fun i => optD (c i)))), some (.dat (.list ((rowsP c (h + wd)).map tupD))), some (.dat (.int (j : Nat))), some (.dat (goalD h wd g)), x7, some (.own (.lst ((L.map fun r => Mi.costN (h + wd) (Mi.unitC c) (sR r)).map .int))), some (.dat (.list (G.map triG))), some (.dat (tupD r)), x11, x12, x13, x14, x15, x16]) (w := w) (it := .seq (.var 10)) (g := .name 16) (x := .abs (.var 16)) (vs := [16]) (hg := rfl) (l := r) (e := .int) (fun d => .int (absI d)) (by omega) (by simp [tupD]) (by
        intro d hd
        exact ⟨_, rfl, by simp [wipeE]⟩)
      have ecount : (r.map absI).sum = Mi.costN (h + wd) (Mi.unitC c) (sR r) := by
        have : r.map absI = (List.range (h + wd)).map fun l => absI (sR r l) := by
          conv => lhs; rw [sR_rng (r := r)]
          rw [List.map_map, r1]; rfl
        rw [this]
        unfold Mi.costN
        congr 1
        apply List.map_congr_left
        intro l hl
        rw [absI_eq]
        unfold Mi.unitC
        cases e : c l with
        | some y => simp
        | none =>
          have := (r2 l _ (sR_get (by have := List.mem_range.mp hl; omega))).2 e
          rw [this]; simp
      cases hgood : goodR G r with
      | false =>
        refine Wp.ite (b := false) (w1 := w) (by
          simp only [of_ev, bin_ev, evV_S]
          erw [eb]
          simp [enil, hgood]) ?_
        rw [if_neg (by simp)]
        exact Wp.mk (f := .nx _ _) rfl ⟨rfl, some (.dat (tupD r)), by rw [htk, hgood, if_neg (by simp), List.append_nil]; rfl⟩
      | true =>
        refine Wp.ite (b := true) (w1 := w) (by
          simp only [of_ev, bin_ev, evV_S]
          erw [eb]
          simp [enil, hgood]) ?_
        rw [if_pos rfl]
        refine Wp.step (Γ' := [none, some (.hd 0), some (.dat (tabD h wd t c)), some (.dat (.list (rng (h + wd) fun i => optD (c i)))), some (.dat (.list ((rowsP c (h + wd)).map tupD))), some (.dat (.int (j : Nat))), some (.dat (goalD h wd g)), some (.own (.lst (((L ++ [r]).map fun r => Mi.costN (h + wd) c (sR r)).map .int))), some (.own (.lst ((L.map fun r => Mi.costN (h + wd) (Mi.unitC c) (sR r)).map .int))), some (.dat (.list (G.map triG))), some (.dat (tupD r)), x11, x12, x13, x14, x15, x16]) (w' := w) (by
          simp only [app_ev, evD_S, cb1_ev, evV_S]
          erw [ec]
          simp [ints_rng, hfl]
          exact ecost) ?_
        refine Wp.mk (f := .nx [none, some (.hd 0), some (.dat (tabD h wd t c)), some (.dat (.list (rng (h + wd) fun i => optD (c i)))), some (.dat (.list ((rowsP c (h + wd)).map tupD))), some (.dat (.int (j : Nat))), some (.dat (goalD h wd g)), some (.own (.lst (((L ++ [r]).map fun r => Mi.costN (h + wd) c (sR r)).map .int))), some (.own (.lst (((L ++ [r]).map fun r => Mi.costN (h + wd) (Mi.unitC c) (sR r)).map .int))), some (.dat (.list (G.map triG))), some (.dat (tupD r)), x11, x12, x13, x14, x15, x16] w) (by
          simp only [app_ev, evD_S, cb1_ev, evV_S]
          erw [ed]
          simp [ints_map, hfl]
          exact ecount) ⟨rfl, some (.dat (tupD r)), by rw [htk, hgood, if_pos rfl]⟩
    · rintro Γ w ⟨rfl, x10, rfl⟩
      rw [List.take_length]
      have f1 : ((((rowsP c (h + wd)).filter (goodR G)).map fun r => Mi.costN (h + wd) c (sR r)).map PyData.int) = (allT G (h + wd) c c).map .int := rfl
      have f2 : ((((rowsP c (h + wd)).filter (goodR G)).map fun r => Mi.costN (h + wd) (Mi.unitC c) (sR r)).map PyData.int) = (allT G (h + wd) c (Mi.unitC c)).map .int := rfl
      rw [f1, f2]
      clear f1 f2
      generalize allT G (h + wd) c c = T1 at M1
      generalize allT G (h + wd) c (Mi.unitC c) = T2 at M2
      have n1 : ∀ neg, eqF neg (.list (T1.map .int)) (.list []) = some (.dat (.bool (if neg then !T1.isEmpty else T1.isEmpty))) := fun neg => by
        rw [eqF_nil (k := 0) (by intro d hd; obtain ⟨l, _, rfl⟩ := List.mem_map.mp hd; exact .int) (by omega)]
        simp
      have n2 : ∀ neg, eqF neg (.list (T2.map .int)) (.list []) = some (.dat (.bool (if neg then !T2.isEmpty else T2.isEmpty))) := fun neg => by
        rw [eqF_nil (k := 0) (by intro d hd; obtain ⟨l, _, rfl⟩ := List.mem_map.mp hd; exact .int) (by omega)]
        simp
      refine Wp.step (by simp; try (and_intros <;> rfl)) ?_
      refine Wp.step (Γ' := [none, some (.hd 0), some (.dat (tabD h wd t c)), some (.dat (.list (rng (h + wd) fun i => optD (c i)))), some (.dat (.list ((rowsP c (h + wd)).map tupD))), some (.dat (.int (j : Nat))), some (.dat (goalD h wd g)), some (.own (.lst (T1.map .int))), some (.own (.lst (T2.map .int))), some (.dat (.list (G.map triG))), x10, some (.dat (minD (Mi.minCost G (h + wd) c))), x12, x13, x14, x15, x16]) (w' := w) (by simp [emin]) ?_
      refine Wp.seq (Wp.ite (b := false) (w1 := w) (by
        rcases M1 with ⟨a1, a2⟩ | ⟨k, L, a1, a2, a3⟩
        · rw [a1, a2]
          rw [a2] at n1
          simp at n1
          simp [minD, n1]
        · have a4 : T1.isEmpty = false := by cases T1 with
            | nil => exact absurd rfl a2
            | cons _ _ => rfl
          rw [minD0 a1]
          simp [n1, a4, a2, a3]) ?_)
      rw [if_neg (by simp)]
      refine Wp.mk (f := .nx _ _) rfl ?_
      refine Wp.step (by simp; try (and_intros <;> rfl)) ?_
      refine Wp.seq (Wp.ite (b := false) (w1 := w) (by
        rcases M2 with ⟨a1, a2⟩ | ⟨k, L, a1, a2, a3⟩
        · rw [a1] at estp
          rw [a2]
          rw [a2] at n2
          simp at n2
          simp at estp
          simp [estp, n2]
        · have a4 : T2.isEmpty = false := by cases T2 with
            | nil => exact absurd rfl a2
            | cons _ _ => rfl
          rw [a1] at estp
          simp at estp
          simp [estp, n2, a4, a2, a3]) ?_)
      rw [if_neg (by simp)]
      refine Wp.mk (f := .nx _ _) rfl ?_
      refine Wp.step (by simp; try (and_intros <;> rfl)) ?_
      refine Wp.ite (b := false) (w1 := w) (by
        rcases M1 with ⟨a1, a2⟩ | ⟨k, L, a1, a2, a3⟩
        · rw [a1] at hany
          rw [a2]
          rw [a2] at n1
          simp at n1
          have : isNone (pathD (Mi.anyContra c (Mi.allC G (h + wd)))) = false := by rw [pathD_none]; exact hany
          simp [efind, n1, this]
        · have a4 : T1.isEmpty = false := by cases T1 with
            | nil => exact absurd rfl a2
            | cons _ _ => rfl
          rw [a1] at hany
          have : isNone (pathD (Mi.anyContra c (Mi.allC G (h + wd)))) = true := by rw [pathD_none]; exact hany
          simp [efind, n1, a4, this]) ?_
      rw [if_neg (by simp)]
      exact Wp.mk (f := .nx _ _) rfl ⟨D2, _, _, _, _, _, _, _, _, _, _, _, _, rfl⟩
  · rintro Γ w ⟨D, x5, x6, x7, x8, x9, x10, x11, x12, x13, x14, x15, x16, rfl⟩
    exact Wp.mk (f := .rt _ _) (by simp; try (and_intros <;> rfl)) ⟨w, rfl⟩
end
end Cl

set_option Elab.async false
set_option linter.all false
set_option maxRecDepth 100000
set_option maxHeartbeats 0
namespace Cl
open PySem L2 PySem.Spec PyProof.Rows
abbrev s_l_start : Stmt := topS 31
theorem sc_l_start : FnScope ["_law_script", "_law_mixed", "_law_cell"] ["_law_script"] (defScope s_l_start) := ⟨rfl, rfl, rfl, by decide +kernel, rfl, by decide +kernel, by decide +kernel⟩
def d04_0 : He.DefD := ⟨("is_integer", none), "is_integer", "is_integer", defArgs s_is_integer, defBody s_is_integer, defScope s_is_integer, [], []⟩
def d04_1 : He.DefD := ⟨("is_cell", none), "is_cell", "is_cell", defArgs s_is_cell, defBody s_is_cell, defScope s_is_cell, [], []⟩
def d04_2 : He.DefD := ⟨("is_cost", none), "is_cost", "is_cost", defArgs s_is_cost, defBody s_is_cost, defScope s_is_cost, [], []⟩
def d04_3 : He.DefD := ⟨("check_costs", none), "check_costs", "check_costs", defArgs s_check_costs, defBody s_check_costs, defScope s_check_costs, [], []⟩
def d04_4 : He.DefD := ⟨("is_row", none), "is_row", "is_row", defArgs s_is_row, defBody s_is_row, defScope s_is_row, [], []⟩
def d04_5 : He.DefD := ⟨("check_cells", none), "check_cells", "check_cells", defArgs s_check_cells, defBody s_check_cells, defScope s_check_cells, [], []⟩
def d04_6 : He.DefD := ⟨("check_table", none), "check_table", "check_table", defArgs s_check_table, defBody s_check_table, defScope s_check_table, [], []⟩
def d04_7 : He.DefD := ⟨("check_goal", none), "check_goal", "check_goal", defArgs s_check_goal, defBody s_check_goal, defScope s_check_goal, [], []⟩
def d04_8 : He.DefD := ⟨("line_costs", none), "line_costs", "line_costs", defArgs s_line_costs, defBody s_line_costs, defScope s_line_costs, [], []⟩
def d04_9 : He.DefD := ⟨("cell_gaps", none), "cell_gaps", "cell_gaps", defArgs s_cell_gaps, defBody s_cell_gaps, defScope s_cell_gaps, [], []⟩
def d04_10 : He.DefD := ⟨("Component", some "__init__"), "__init__", "Component.__init__", defArgs s_Component___init__, defBody s_Component___init__, defScope s_Component___init__, [], []⟩
def d04_11 : He.DefD := ⟨("Component", some "neighbors"), "neighbors", "Component.neighbors", defArgs s_Component_neighbors_h, defBody s_Component_neighbors_h, defScope s_Component_neighbors_h, [], []⟩
def d04_12 : He.DefD := ⟨("Component", some "path_to"), "path_to", "Component.path_to", defArgs s_Component_path_to, defBody s_Component_path_to, defScope s_Component_path_to, [], []⟩
def d04_13 : He.DefD := ⟨("Component", some "locked_lines"), "locked_lines", "Component.locked_lines", defArgs s_Component_locked_lines, defBody s_Component_locked_lines, defScope s_Component_locked_lines, [], []⟩
def d04_14 : He.DefD := ⟨("Component", some "zero_point"), "zero_point", "Component.zero_point", defArgs s_Component_zero_point, defBody s_Component_zero_point, defScope s_Component_zero_point, [], []⟩
def d04_15 : He.DefD := ⟨("Component", some "contradiction"), "contradiction", "Component.contradiction", defArgs s_Component_contradiction, defBody s_Component_contradiction, defScope s_Component_contradiction, [], []⟩
def d04_16 : He.DefD := ⟨("Component", some "shift"), "shift", "Component.shift", defArgs s_Component_shift, defBody s_Component_shift, defScope s_Component_shift, [], []⟩
def d04_17 : He.DefD := ⟨("all_components", none), "all_components", "all_components", defArgs s_all_components, defBody s_all_components, defScope s_all_components, [], []⟩
def d04_18 : He.DefD := ⟨("any_contradiction", none), "any_contradiction", "any_contradiction", defArgs s_any_contradiction, defBody s_any_contradiction, defScope s_any_contradiction, [], []⟩
def d04_19 : He.DefD := ⟨("optimal_range", none), "optimal_range", "optimal_range", defArgs s_optimal_range, defBody s_optimal_range, defScope s_optimal_range, [], []⟩
def d04_20 : He.DefD := ⟨("Solution", some "__init__"), "__init__", "Solution.__init__", defArgs s_Solution___init__, defBody s_Solution___init__, defScope s_Solution___init__, [], []⟩
def d04_21 : He.DefD := ⟨("Solution", some "line_shifts"), "line_shifts", "Solution.line_shifts", defArgs s_Solution_line_shifts, defBody s_Solution_line_shifts, defScope s_Solution_line_shifts, [], []⟩
def d04_22 : He.DefD := ⟨("Solution", some "cost"), "cost", "Solution.cost", defArgs s_Solution_cost, defBody s_Solution_cost, defScope s_Solution_cost, [], []⟩
def d04_23 : He.DefD := ⟨("check_both", none), "check_both", "check_both", defArgs s_check_both, defBody s_check_both, defScope s_check_both, [], []⟩
def d04_24 : He.DefD := ⟨("minimum_cost", none), "minimum_cost", "minimum_cost", defArgs s_minimum_cost, defBody s_minimum_cost, defScope s_minimum_cost, [], []⟩
def d04_25 : He.DefD := ⟨("with_unit_costs", none), "with_unit_costs", "with_unit_costs", defArgs s_with_unit_costs, defBody s_with_unit_costs, defScope s_with_unit_costs, [], []⟩
def d04_26 : He.DefD := ⟨("minimum_steps", none), "minimum_steps", "minimum_steps", defArgs s_minimum_steps, defBody s_minimum_steps, defScope s_minimum_steps, [], []⟩
def d04_27 : He.DefD := ⟨("find_contradiction", none), "find_contradiction", "find_contradiction", defArgs s_find_contradiction, defBody s_find_contradiction, defScope s_find_contradiction, [], []⟩
def d04_28 : He.DefD := ⟨("_law_drawn", none), "_law_drawn", "_law_drawn", defArgs s_l_drawn, defBody s_l_drawn, defScope s_l_drawn, [], []⟩
def d04_29 : He.DefD := ⟨("_law_random_table", none), "_law_random_table", "_law_random_table", defArgs s_l_random_table, defBody s_l_random_table, defScope s_l_random_table, [], []⟩
def d04_30 : He.DefD := ⟨("_law_line_costs", none), "_law_line_costs", "_law_line_costs", defArgs s_l_line_costs, defBody s_l_line_costs, defScope s_l_line_costs, [], []⟩
def d04_31 : He.DefD := ⟨("_law_shifted", none), "_law_shifted", "_law_shifted", defArgs s_l_shifted, defBody s_l_shifted, defScope s_l_shifted, [], []⟩
def d04_32 : He.DefD := ⟨("_law_random_goal", none), "_law_random_goal", "_law_random_goal", defArgs s_l_random_goal, defBody s_l_random_goal, defScope s_l_random_goal, [], []⟩
def d04_33 : He.DefD := ⟨("_law_cell_gaps", none), "_law_cell_gaps", "_law_cell_gaps", defArgs s_l_cell_gaps, defBody s_l_cell_gaps, defScope s_l_cell_gaps, [], []⟩
def d04_34 : He.DefD := ⟨("_law_rows", none), "_law_rows", "_law_rows", defArgs s_l_rows, defBody s_l_rows, defScope s_l_rows, [], []⟩
def d04_35 : He.DefD := ⟨("law", none), "law", "law", defArgs s_law, defBody s_law, defScope s_law, [], []⟩
def d04_36 : He.DefD := ⟨("_law_start", none), "_law_start", "_law_start", defArgs s_l_start, defBody s_l_start, defScope s_l_start, [], []⟩
def fn04 : List He.DefD := [d04_0, d04_1, d04_2, d04_3, d04_4, d04_5, d04_6, d04_7, d04_8, d04_9, d04_10, d04_11, d04_12, d04_13, d04_14, d04_15, d04_16, d04_17, d04_18, d04_19, d04_20, d04_21, d04_22, d04_23, d04_24, d04_25, d04_26, d04_27, d04_28, d04_29, d04_30, d04_31, d04_32, d04_33, d04_34, d04_35, d04_36]
def fa04 : List He.Fa := [.glo "is_integer", .glo "is_cell", .glo "is_cost", .glo "check_costs", .glo "is_row", .glo "check_cells", .glo "check_table", .glo "check_goal", .glo "line_costs", .glo "cell_gaps", .glo "all_components", .glo "any_contradiction", .glo "optimal_range", .glo "check_both", .glo "minimum_cost", .glo "with_unit_costs", .glo "minimum_steps", .glo "find_contradiction", .glo "_law_drawn", .glo "_law_random_table", .glo "_law_line_costs", .glo "_law_shifted", .glo "_law_random_goal", .glo "_law_cell_gaps", .glo "_law_rows", .glo "law", .glo "_law_start", .glo "Component", .cls "Component", .mkr "Component", .glo "Solution", .cls "Solution", .mkr "Solution", .meth "Component" "neighbors", .meth "Component" "path_to", .meth "Component" "locked_lines", .meth "Component" "zero_point", .meth "Component" "contradiction", .meth "Component" "shift", .meth "Solution" "line_shifts", .meth "Solution" "cost", .noat "Component" "gaps", .noat "Component" "costs", .noat "Component" "offsets", .noat "Component" "signs", .noat "Component" "parents", .noat "Component" "cycle", .noat "Component" "lines", .noat "Solution" "costs", .noat "Solution" "parts", .noat "Solution" "is_reachable", .noat "Solution" "first_shifts", .free "len", .free "range", .free "abs", .free "int", .free "sum", .free "min", .free "max", .free "all", .free "list", .free "tuple", .free "sorted", .free "isinstance", .free "zip", .free "enumerate", .free "str", .free "bool", .free "dict", .int "MAX_COST" 99, .int "MAX_LINES" 7, .int "MAX_VALUE" 1000000]
abbrev R04 : PySem.W.OpenRow := PySem.W.OpenLaw.row PySem.Challenge.rw_crosslift_k04_all_shifts_tried
abbrev hk04 : PySem.W.Hook := He.hookD 4 fa04 fn04
def ob04 (s : PySem.W.SharedT) : He.AlD := He.obsDG 4 fa04 fn04 (HandSHeadRun.getT s)
theorem ob04_eq (s : PySem.W.SharedT) : ob04 s = hk04.obs s.abs := He.obsDG_eq (HandSHeadRun.getT_eq s)
def lo04_0 : List Str := ["LiftError", "InvalidTable", "InvalidGoal", "MAX_LINES", "MAX_VALUE", "MAX_COST", "is_integer", "is_cell", "is_cost", "check_costs", "is_row", "check_cells"]
def lo04_1 : List Str := ["check_table", "check_goal", "line_costs", "cell_gaps", "Component", "all_components", "any_contradiction", "find_contradiction", "optimal_range", "Solution", "check_both", "minimum_cost"]
def lo04_2 : List Str := ["with_unit_costs", "minimum_steps", "_law_start", "_law_drawn", "_law_random_table", "_law_line_costs", "_law_shifted", "_law_random_goal", "_law_cell_gaps", "_law_rows"]
def lo04 : List Str := lo04_0 ++ lo04_1 ++ lo04_2
theorem run04 (w : PySem.World) : HandSHeadRun.RunEq R04 (PySem.W.view R04.prog [39]) hk04 ob04 9000 lo04 w := by
  intro os
  kernel_rfl
section
variable {P : Program} {w : PySem.World} {K : PySem.W.Frag} {mg : Str → Option Value} {base h : Heap}
theorem bts04 (KX : K.In h) (G : h.Ns mainGlobals mg) (c : He.SaysD fa04 fn04 K) : Bts mg where
  len := He.free_ok KX G (c.fact 52 (f := .free "len") rfl)
  range := He.free_ok KX G (c.fact 53 (f := .free "range") rfl)
  abs := He.free_ok KX G (c.fact 54 (f := .free "abs") rfl)
  int := He.free_ok KX G (c.fact 55 (f := .free "int") rfl)
  sum := He.free_ok KX G (c.fact 56 (f := .free "sum") rfl)
  min := He.free_ok KX G (c.fact 57 (f := .free "min") rfl)
  max := He.free_ok KX G (c.fact 58 (f := .free "max") rfl)
  all := He.free_ok KX G (c.fact 59 (f := .free "all") rfl)
  list := He.free_ok KX G (c.fact 60 (f := .free "list") rfl)
  tuple := He.free_ok KX G (c.fact 61 (f := .free "tuple") rfl)
  sorted := He.free_ok KX G (c.fact 62 (f := .free "sorted") rfl)
  isinstance := He.free_ok KX G (c.fact 63 (f := .free "isinstance") rfl)
  zip := He.free_ok KX G (c.fact 64 (f := .free "zip") rfl)
  enumerate := He.free_ok KX G (c.fact 65 (f := .free "enumerate") rfl)
  str := He.free_ok KX G (c.fact 66 (f := .free "str") rfl)
  bool := He.free_ok KX G (c.fact 67 (f := .free "bool") rfl)
abbrev pc04 (c : He.SaysD fa04 fn04 K) : PC K where
  A := He.ga K "Component"
  S := He.ga K "Solution"
  hA := He.cls_ok (c.fact 28 (f := .cls "Component") rfl)
  hS := He.cls_ok (c.fact 31 (f := .cls "Solution") rfl)
  a1 := He.noat_ok (c.fact 41 (f := .noat "Component" "gaps") rfl)
  a2 := He.noat_ok (c.fact 42 (f := .noat "Component" "costs") rfl)
  a3 := He.noat_ok (c.fact 43 (f := .noat "Component" "offsets") rfl)
  a4 := He.noat_ok (c.fact 44 (f := .noat "Component" "signs") rfl)
  a5 := He.noat_ok (c.fact 45 (f := .noat "Component" "parents") rfl)
  a6 := He.noat_ok (c.fact 46 (f := .noat "Component" "cycle") rfl)
  a7 := He.noat_ok (c.fact 47 (f := .noat "Component" "lines") rfl)
  s1 := He.noat_ok (c.fact 48 (f := .noat "Solution" "costs") rfl)
  s2 := He.noat_ok (c.fact 49 (f := .noat "Solution" "parts") rfl)
  s3 := He.noat_ok (c.fact 50 (f := .noat "Solution" "is_reachable") rfl)
  s4 := He.noat_ok (c.fact 51 (f := .noat "Solution" "first_shifts") rfl)
theorem F04_is_integer (KX : K.In h) (G : h.Ns mainGlobals mg) (c : He.SaysD fa04 fn04 K) (W : World) : Fn P w K mg base W 1 "is_integer" 3 (gc_is_integer K mg W) := by
  obtain ⟨fd, F⟩ := c.def_ 0 (d := d04_0) rfl
  have F : FnP K "is_integer" "is_integer" s_is_integer _ fd := F
  exact FnP.fn F (He.glo_ok KX G (c.fact 0 (f := .glo "is_integer") rfl)) (fnOkD F sc_is_integer _ fun cdv A outer s H E hr => c_is_integer (bts04 KX G c) hr) (fun _ _ _ _ _ _ us hl => match us, hl with | [_, _, _], _ => rfl)
theorem F04_is_cell (KX : K.In h) (G : h.Ns mainGlobals mg) (c : He.SaysD fa04 fn04 K) (W : World) : Fn P w K mg base W 2 "is_cell" 1 (gc_is_cell K mg W) := by
  obtain ⟨fd, F⟩ := c.def_ 1 (d := d04_1) rfl
  have F : FnP K "is_cell" "is_cell" s_is_cell _ fd := F
  exact FnP.fn F (He.glo_ok KX G (c.fact 1 (f := .glo "is_cell") rfl)) (fnOkD F sc_is_cell _ fun cdv A outer s H E hr => c_is_cell (bts04 KX G c) (He.int_ok KX G (c.fact 71 (f := .int "MAX_VALUE" 1000000) rfl)).choose_spec ⟨_, rfl⟩ ((F04_is_integer (P := P) (w := w) (base := base) KX G c W).mono (by decide)) hr) (fun _ _ _ _ _ _ us hl => match us, hl with | [_], _ => rfl)
theorem F04_is_cost (KX : K.In h) (G : h.Ns mainGlobals mg) (c : He.SaysD fa04 fn04 K) (W : World) : Fn P w K mg base W 2 "is_cost" 1 (gc_is_cost K mg W) := by
  obtain ⟨fd, F⟩ := c.def_ 2 (d := d04_2) rfl
  have F : FnP K "is_cost" "is_cost" s_is_cost _ fd := F
  exact FnP.fn F (He.glo_ok KX G (c.fact 2 (f := .glo "is_cost") rfl)) (fnOkD F sc_is_cost _ fun cdv A outer s H E hr => c_is_cost (bts04 KX G c) (He.int_ok KX G (c.fact 69 (f := .int "MAX_COST" 99) rfl)).choose_spec ⟨_, rfl⟩ ((F04_is_integer (P := P) (w := w) (base := base) KX G c W).mono (by decide)) hr) (fun _ _ _ _ _ _ us hl => match us, hl with | [_], _ => rfl)
theorem F04_check_costs (KX : K.In h) (G : h.Ns mainGlobals mg) (c : He.SaysD fa04 fn04 K) (W : World) : Fn P w K mg base W 3 "check_costs" 3 (gc_check_costs K mg W) := by
  obtain ⟨fd, F⟩ := c.def_ 3 (d := d04_3) rfl
  have F : FnP K "check_costs" "check_costs" s_check_costs _ fd := F
  exact FnP.fn F (He.glo_ok KX G (c.fact 3 (f := .glo "check_costs") rfl)) (fnOkD F sc_check_costs _ fun cdv A outer s H E hr => c_check_costs (bts04 KX G c) ((F04_is_cost (P := P) (w := w) (base := base) KX G c W).mono (by decide)) hr) (fun _ _ _ _ _ _ us hl => match us, hl with | [_, _, _], _ => rfl)
theorem F04_is_row (KX : K.In h) (G : h.Ns mainGlobals mg) (c : He.SaysD fa04 fn04 K) (W : World) : Fn P w K mg base W 3 "is_row" 2 (gc_is_row K mg W) := by
  obtain ⟨fd, F⟩ := c.def_ 4 (d := d04_4) rfl
  have F : FnP K "is_row" "is_row" s_is_row _ fd := F
  exact FnP.fn F (He.glo_ok KX G (c.fact 4 (f := .glo "is_row") rfl)) (fnOkD F sc_is_row _ fun cdv A outer s H E hr => c_is_row (bts04 KX G c) ((F04_is_cell (P := P) (w := w) (base := base) KX G c W).mono (by decide)) hr) (fun _ _ _ _ _ _ us hl => match us, hl with | [_, _], _ => rfl)
theorem F04_check_cells (KX : K.In h) (G : h.Ns mainGlobals mg) (c : He.SaysD fa04 fn04 K) (W : World) : Fn P w K mg base W 4 "check_cells" 1 (gc_check_cells K mg W) := by
  obtain ⟨fd, F⟩ := c.def_ 5 (d := d04_5) rfl
  have F : FnP K "check_cells" "check_cells" s_check_cells _ fd := F
  exact FnP.fn F (He.glo_ok KX G (c.fact 5 (f := .glo "check_cells") rfl)) (fnOkD F sc_check_cells _ fun cdv A outer s H E hr => c_check_cells (bts04 KX G c) (He.int_ok KX G (c.fact 70 (f := .int "MAX_LINES" 7) rfl)).choose_spec ⟨_, rfl⟩ ((F04_is_row (P := P) (w := w) (base := base) KX G c W).mono (by decide)) hr) (fun _ _ _ _ _ _ us hl => match us, hl with | [_], _ => rfl)
theorem F04_check_table (KX : K.In h) (G : h.Ns mainGlobals mg) (c : He.SaysD fa04 fn04 K) (W : World) : Fn P w K mg base W 5 "check_table" 1 (gc_check_table K mg W) := by
  obtain ⟨fd, F⟩ := c.def_ 6 (d := d04_6) rfl
  have F : FnP K "check_table" "check_table" s_check_table _ fd := F
  exact FnP.fn F (He.glo_ok KX G (c.fact 6 (f := .glo "check_table") rfl)) (fnOkD F sc_check_table _ fun cdv A outer s H E hr => c_check_table (bts04 KX G c) ((F04_check_cells (P := P) (w := w) (base := base) KX G c W).mono (by decide)) ((F04_check_costs (P := P) (w := w) (base := base) KX G c W).mono (by decide)) hr) (fun _ _ _ _ _ _ us hl => match us, hl with | [_], _ => rfl)
theorem F04_check_goal (KX : K.In h) (G : h.Ns mainGlobals mg) (c : He.SaysD fa04 fn04 K) (W : World) : Fn P w K mg base W 3 "check_goal" 2 (gc_check_goal K mg W) := by
  obtain ⟨fd, F⟩ := c.def_ 7 (d := d04_7) rfl
  have F : FnP K "check_goal" "check_goal" s_check_goal _ fd := F
  exact FnP.fn F (He.glo_ok KX G (c.fact 7 (f := .glo "check_goal") rfl)) (fnOkD F sc_check_goal _ fun cdv A outer s H E hr => c_check_goal (bts04 KX G c) ((F04_is_cell (P := P) (w := w) (base := base) KX G c W).mono (by decide)) hr) (fun _ _ _ _ _ _ us hl => match us, hl with | [_, _], _ => rfl)
theorem F04_line_costs (KX : K.In h) (G : h.Ns mainGlobals mg) (c : He.SaysD fa04 fn04 K) (W : World) : Fn P w K mg base W 1 "line_costs" 1 (gc_line_costs K mg W) := by
  obtain ⟨fd, F⟩ := c.def_ 8 (d := d04_8) rfl
  have F : FnP K "line_costs" "line_costs" s_line_costs _ fd := F
  exact FnP.fn F (He.glo_ok KX G (c.fact 8 (f := .glo "line_costs") rfl)) (fnOkD F sc_line_costs _ fun cdv A outer s H E hr => c_line_costs (bts04 KX G c) hr) (fun _ _ _ _ _ _ us hl => match us, hl with | [_], _ => rfl)
theorem F04_cell_gaps (KX : K.In h) (G : h.Ns mainGlobals mg) (c : He.SaysD fa04 fn04 K) (W : World) : Fn P w K mg base W 1 "cell_gaps" 2 (gc_cell_gaps K mg W) := by
  obtain ⟨fd, F⟩ := c.def_ 9 (d := d04_9) rfl
  have F : FnP K "cell_gaps" "cell_gaps" s_cell_gaps _ fd := F
  exact FnP.fn F (He.glo_ok KX G (c.fact 9 (f := .glo "cell_gaps") rfl)) (fnOkD F sc_cell_gaps _ fun cdv A outer s H E hr => c_cell_gaps (bts04 KX G c) hr) (fun _ _ _ _ _ _ us hl => match us, hl with | [_, _], _ => rfl)
theorem F04_Component_neighbors_h (KX : K.In h) (G : h.Ns mainGlobals mg) (c : He.SaysD fa04 fn04 K) : FnM P w K mg base (Wc (pc04 c).A) 1 (pc04 c).A "neighbors" 1 (gc_neighbors_h mg (pc04 c)) := by
  obtain ⟨fd, F⟩ := c.def_ 11 (d := d04_11) rfl
  have F : FnP K "neighbors" "Component.neighbors" s_Component_neighbors_h _ fd := F
  exact FnP.fnM F (pc04 c).hA (He.meth_ok (c.fact 33 (f := .meth "Component" "neighbors") rfl)) (fnOkD F sc_Component_neighbors_h _ fun cdv A outer s H E hr => c_Component_neighbors_h (bts04 KX G c) (pc04 c).hA (pc04 c).a1 hr) (fun _ _ _ _ _ _ us hl => match us, hl with | [_, _], _ => rfl)
theorem F04_Component_path_to_h (KX : K.In h) (G : h.Ns mainGlobals mg) (c : He.SaysD fa04 fn04 K) : FnM P w K mg base (Wc (pc04 c).A) 1 (pc04 c).A "path_to" 1 (gc_path_to_h mg (pc04 c)) := by
  obtain ⟨fd, F⟩ := c.def_ 12 (d := d04_12) rfl
  have F : FnP K "path_to" "Component.path_to" s_Component_path_to_h _ fd := F
  exact FnP.fnM F (pc04 c).hA (He.meth_ok (c.fact 34 (f := .meth "Component" "path_to") rfl)) (fnOkD F sc_Component_path_to_h _ fun cdv A outer s H E hr => c_Component_path_to_h (bts04 KX G c) (pc04 c).hA (pc04 c).a5 hr) (fun _ _ _ _ _ _ us hl => match us, hl with | [_, _], _ => rfl)
theorem F04_Component___init__ (KX : K.In h) (G : h.Ns mainGlobals mg) (c : He.SaysD fa04 fn04 K) : FnI P w K mg base 3 (pc04 c).A "Component" 3 (gi_Component mg (pc04 c)) := by
  obtain ⟨fd, F⟩ := c.def_ 10 (d := d04_10) rfl
  have F : FnP K "__init__" "Component.__init__" s_Component___init__ _ fd := F
  exact FnP.fnI F (He.mkr_ok (c.fact 29 (f := .mkr "Component") rfl)) (He.glo_ok KX G (c.fact 27 (f := .glo "Component") rfl)) (fnOkD F sc_Component___init__ _ fun cdv A outer s H E hr => c_Component___init__ (bts04 KX G c) (pc04 c).hA (pc04 c).a1 (pc04 c).a2 (pc04 c).a3 (pc04 c).a4 (pc04 c).a5 (pc04 c).a6 (pc04 c).a7 ((F04_line_costs (P := P) (w := w) (base := base) KX G c (Wc (pc04 c).A)).mono (by decide)) ((F04_Component_neighbors_h (P := P) (w := w) (base := base) KX G c).mono (by decide)) ((F04_Component_path_to_h (P := P) (w := w) (base := base) KX G c).mono (by decide)) hr) (fun _ _ _ _ _ _ us hl => match us, hl with | [_, _, _, _], _ => rfl)
theorem F04_Component_path_to (KX : K.In h) (G : h.Ns mainGlobals mg) (c : He.SaysD fa04 fn04 K) (W : World) : FnM P w K mg base W 1 (pc04 c).A "path_to" 1 (gc_path_to mg (pc04 c) W) := by
  obtain ⟨fd, F⟩ := c.def_ 12 (d := d04_12) rfl
  have F : FnP K "path_to" "Component.path_to" s_Component_path_to _ fd := F
  exact FnP.fnM F (pc04 c).hA (He.meth_ok (c.fact 34 (f := .meth "Component" "path_to") rfl)) (fnOkD F sc_Component_path_to _ fun cdv A outer s H E hr => c_Component_path_to (bts04 KX G c) (pc04 c).hA (pc04 c).a5 hr) (fun _ _ _ _ _ _ us hl => match us, hl with | [_, _], _ => rfl)
theorem F04_Component_locked_lines (KX : K.In h) (G : h.Ns mainGlobals mg) (c : He.SaysD fa04 fn04 K) (W : World) : FnM P w K mg base W 1 (pc04 c).A "locked_lines" 0 (gc_locked mg (pc04 c) W) := by
  obtain ⟨fd, F⟩ := c.def_ 13 (d := d04_13) rfl
  have F : FnP K "locked_lines" "Component.locked_lines" s_Component_locked_lines _ fd := F
  exact FnP.fnM F (pc04 c).hA (He.meth_ok (c.fact 35 (f := .meth "Component" "locked_lines") rfl)) (fnOkD F sc_Component_locked_lines _ fun cdv A outer s H E hr => c_Component_locked_lines (bts04 KX G c) (pc04 c).hA (pc04 c).a7 (pc04 c).a2 hr) (fun _ _ _ _ _ _ us hl => match us, hl with | [_], _ => rfl)
theorem F04_Component_zero_point (KX : K.In h) (G : h.Ns mainGlobals mg) (c : He.SaysD fa04 fn04 K) (W : World) : FnM P w K mg base W 1 (pc04 c).A "zero_point" 1 (gc_zero mg (pc04 c) W) := by
  obtain ⟨fd, F⟩ := c.def_ 14 (d := d04_14) rfl
  have F : FnP K "zero_point" "Component.zero_point" s_Component_zero_point _ fd := F
  exact FnP.fnM F (pc04 c).hA (He.meth_ok (c.fact 36 (f := .meth "Component" "zero_point") rfl)) (fnOkD F sc_Component_zero_point _ fun cdv A outer s H E hr => c_Component_zero_point (bts04 KX G c) (pc04 c).hA (pc04 c).a4 (pc04 c).a3 hr) (fun _ _ _ _ _ _ us hl => match us, hl with | [_, _], _ => rfl)
theorem F04_Component_contradiction (KX : K.In h) (G : h.Ns mainGlobals mg) (c : He.SaysD fa04 fn04 K) (W : World) : FnM P w K mg base W 2 (pc04 c).A "contradiction" 0 (gc_contra mg (pc04 c) W) := by
  obtain ⟨fd, F⟩ := c.def_ 15 (d := d04_15) rfl
  have F : FnP K "contradiction" "Component.contradiction" s_Component_contradiction _ fd := F
  exact FnP.fnM F (pc04 c).hA (He.meth_ok (c.fact 37 (f := .meth "Component" "contradiction") rfl)) (fnOkD F sc_Component_contradiction _ fun cdv A outer s H E hr => c_Component_contradiction (bts04 KX G c) (pc04 c).hA (pc04 c).a6 ((F04_Component_locked_lines (P := P) (w := w) (base := base) KX G c W).mono (by decide)) ((F04_Component_zero_point (P := P) (w := w) (base := base) KX G c W).mono (by decide)) ((F04_Component_path_to (P := P) (w := w) (base := base) KX G c W).mono (by decide)) hr) (fun _ _ _ _ _ _ us hl => match us, hl with | [_], _ => rfl)
theorem F04_Component_shift (KX : K.In h) (G : h.Ns mainGlobals mg) (c : He.SaysD fa04 fn04 K) (W : World) : FnM P w K mg base W 1 (pc04 c).A "shift" 2 (gc_shift mg (pc04 c) W) := by
  obtain ⟨fd, F⟩ := c.def_ 16 (d := d04_16) rfl
  have F : FnP K "shift" "Component.shift" s_Component_shift _ fd := F
  exact FnP.fnM F (pc04 c).hA (He.meth_ok (c.fact 38 (f := .meth "Component" "shift") rfl)) (fnOkD F sc_Component_shift _ fun cdv A outer s H E hr => c_Component_shift (bts04 KX G c) (pc04 c).hA (pc04 c).a3 (pc04 c).a4 hr) (fun _ _ _ _ _ _ us hl => match us, hl with | [_, _, _], _ => rfl)
theorem F04_all_components (KX : K.In h) (G : h.Ns mainGlobals mg) (c : He.SaysD fa04 fn04 K) (W : World) : Fn P w K mg base W 4 "all_components" 2 (gc_all mg (pc04 c) W) := by
  obtain ⟨fd, F⟩ := c.def_ 17 (d := d04_17) rfl
  have F : FnP K "all_components" "all_components" s_all_components _ fd := F
  exact FnP.fn F (He.glo_ok KX G (c.fact 10 (f := .glo "all_components") rfl)) (fnOkD F sc_all_components _ fun cdv A outer s H E hr => c_all_components (bts04 KX G c) (pc04 c).hA (pc04 c).a3 ((F04_cell_gaps (P := P) (w := w) (base := base) KX G c W).mono (by decide)) ((F04_line_costs (P := P) (w := w) (base := base) KX G c W).mono (by decide)) ((F04_Component___init__ (P := P) (w := w) (base := base) KX G c).mono (by decide)) hr) (fun _ _ _ _ _ _ us hl => match us, hl with | [_, _], _ => rfl)
theorem F04_any_contradiction (KX : K.In h) (G : h.Ns mainGlobals mg) (c : He.SaysD fa04 fn04 K) (W : World) : Fn P w K mg base W 5 "any_contradiction" 2 (gc_any mg (pc04 c) W) := by
  obtain ⟨fd, F⟩ := c.def_ 18 (d := d04_18) rfl
  have F : FnP K "any_contradiction" "any_contradiction" s_any_contradiction _ fd := F
  exact FnP.fn F (He.glo_ok KX G (c.fact 11 (f := .glo "any_contradiction") rfl)) (fnOkD F sc_any_contradiction _ fun cdv A outer s H E hr => c_any_contradiction (bts04 KX G c) ((F04_all_components (P := P) (w := w) (base := base) KX G c W).mono (by decide)) ((F04_Component_contradiction (P := P) (w := w) (base := base) KX G c W).mono (by decide)) hr) (fun _ _ _ _ _ _ us hl => match us, hl with | [_, _], _ => rfl)
theorem F04_optimal_range (KX : K.In h) (G : h.Ns mainGlobals mg) (c : He.SaysD fa04 fn04 K) (W : World) : Fn P w K mg base W 2 "optimal_range" 2 (gc_range mg (pc04 c) W) := by
  obtain ⟨fd, F⟩ := c.def_ 19 (d := d04_19) rfl
  have F : FnP K "optimal_range" "optimal_range" s_optimal_range _ fd := F
  exact FnP.fn F (He.glo_ok KX G (c.fact 12 (f := .glo "optimal_range") rfl)) (fnOkD F sc_optimal_range _ fun cdv A outer s H E hr => c_optimal_range (bts04 KX G c) (pc04 c).hA (pc04 c).a7 ((F04_Component_zero_point (P := P) (w := w) (base := base) KX G c W).mono (by decide)) hr) (fun _ _ _ _ _ _ us hl => match us, hl with | [_, _], _ => rfl)
theorem F04_Solution___init__ (KX : K.In h) (G : h.Ns mainGlobals mg) (c : He.SaysD fa04 fn04 K) : FnI P w K mg base 6 (pc04 c).S "Solution" 2 (gi_Solution mg (pc04 c)) := by
  obtain ⟨fd, F⟩ := c.def_ 20 (d := d04_20) rfl
  have F : FnP K "__init__" "Solution.__init__" s_Solution___init__ _ fd := F
  exact FnP.fnI F (He.mkr_ok (c.fact 32 (f := .mkr "Solution") rfl)) (He.glo_ok KX G (c.fact 30 (f := .glo "Solution") rfl)) (fnOkD F sc_Solution___init__ _ fun cdv A outer s H E hr => c_Solution___init__ (bts04 KX G c) (pc04 c).hS (pc04 c).s1 (pc04 c).s2 (pc04 c).s3 (pc04 c).s4 ((F04_line_costs (P := P) (w := w) (base := base) KX G c (Wc (pc04 c).S)).mono (by decide)) ((F04_all_components (P := P) (w := w) (base := base) KX G c (Wc (pc04 c).S)).mono (by decide)) ((F04_optimal_range (P := P) (w := w) (base := base) KX G c (Wc (pc04 c).S)).mono (by decide)) ((F04_Component_contradiction (P := P) (w := w) (base := base) KX G c (Wc (pc04 c).S)).mono (by decide)) hr) (fun _ _ _ _ _ _ us hl => match us, hl with | [_, _, _], _ => rfl)
theorem F04_Solution_line_shifts (KX : K.In h) (G : h.Ns mainGlobals mg) (c : He.SaysD fa04 fn04 K) (W : World) : FnM P w K mg base W 2 (pc04 c).S "line_shifts" 0 (gc_line_shifts mg (pc04 c) W) := by
  obtain ⟨fd, F⟩ := c.def_ 21 (d := d04_21) rfl
  have F : FnP K "line_shifts" "Solution.line_shifts" s_Solution_line_shifts _ fd := F
  exact FnP.fnM F (pc04 c).hS (He.meth_ok (c.fact 39 (f := .meth "Solution" "line_shifts") rfl)) (fnOkD F sc_Solution_line_shifts _ fun cdv A outer s H E hr => c_Solution_line_shifts (bts04 KX G c) (pc04 c).hS (pc04 c).hA (pc04 c).s1 (pc04 c).s2 (pc04 c).s4 (pc04 c).a7 ((F04_Component_shift (P := P) (w := w) (base := base) KX G c W).mono (by decide)) hr) (fun _ _ _ _ _ _ us hl => match us, hl with | [_], _ => rfl)
theorem F04_Solution_cost (KX : K.In h) (G : h.Ns mainGlobals mg) (c : He.SaysD fa04 fn04 K) (W : World) : FnM P w K mg base W 3 (pc04 c).S "cost" 0 (gc_cost mg (pc04 c) W) := by
  obtain ⟨fd, F⟩ := c.def_ 22 (d := d04_22) rfl
  have F : FnP K "cost" "Solution.cost" s_Solution_cost _ fd := F
  exact FnP.fnM F (pc04 c).hS (He.meth_ok (c.fact 40 (f := .meth "Solution" "cost") rfl)) (fnOkD F sc_Solution_cost _ fun cdv A outer s H E hr => c_Solution_cost (bts04 KX G c) (pc04 c).hS (pc04 c).s1 ((F04_Solution_line_shifts (P := P) (w := w) (base := base) KX G c W).mono (by decide)) hr) (fun _ _ _ _ _ _ us hl => match us, hl with | [_], _ => rfl)
theorem F04_check_both (KX : K.In h) (G : h.Ns mainGlobals mg) (c : He.SaysD fa04 fn04 K) (W : World) : Fn P w K mg base W 6 "check_both" 2 (gc_check_both K mg W) := by
  obtain ⟨fd, F⟩ := c.def_ 23 (d := d04_23) rfl
  have F : FnP K "check_both" "check_both" s_check_both _ fd := F
  exact FnP.fn F (He.glo_ok KX G (c.fact 13 (f := .glo "check_both") rfl)) (fnOkD F sc_check_both _ fun cdv A outer s H E hr => c_check_both (bts04 KX G c) ((F04_check_table (P := P) (w := w) (base := base) KX G c W).mono (by decide)) ((F04_check_goal (P := P) (w := w) (base := base) KX G c W).mono (by decide)) hr) (fun _ _ _ _ _ _ us hl => match us, hl with | [_, _], _ => rfl)
theorem F04_minimum_cost (KX : K.In h) (G : h.Ns mainGlobals mg) (c : He.SaysD fa04 fn04 K) (W : World) : Fn P w K mg base W 7 "minimum_cost" 2 (gc_minimum_cost mg (pc04 c) W) := by
  obtain ⟨fd, F⟩ := c.def_ 24 (d := d04_24) rfl
  have F : FnP K "minimum_cost" "minimum_cost" s_minimum_cost _ fd := F
  exact FnP.fn F (He.glo_ok KX G (c.fact 14 (f := .glo "minimum_cost") rfl)) (fnOkD F sc_minimum_cost _ fun cdv A outer s H E hr => c_minimum_cost (bts04 KX G c) (pc04 c).hS (pc04 c).s3 ((F04_check_both (P := P) (w := w) (base := base) KX G c W).mono (by decide)) ((F04_Solution_cost (P := P) (w := w) (base := base) KX G c W).mono (by decide)) ((F04_Solution_line_shifts (P := P) (w := w) (base := base) KX G c W).mono (by decide)) ((F04_Solution___init__ (P := P) (w := w) (base := base) KX G c).mono (by decide)) hr) (fun _ _ _ _ _ _ us hl => match us, hl with | [_, _], _ => rfl)
theorem F04_with_unit_costs (KX : K.In h) (G : h.Ns mainGlobals mg) (c : He.SaysD fa04 fn04 K) (W : World) : Fn P w K mg base W 1 "with_unit_costs" 1 (gc_unit K mg W) := by
  obtain ⟨fd, F⟩ := c.def_ 25 (d := d04_25) rfl
  have F : FnP K "with_unit_costs" "with_unit_costs" s_with_unit_costs _ fd := F
  exact FnP.fn F (He.glo_ok KX G (c.fact 15 (f := .glo "with_unit_costs") rfl)) (fnOkD F sc_with_unit_costs _ fun cdv A outer s H E hr => c_with_unit_costs (bts04 KX G c) hr) (fun _ _ _ _ _ _ us hl => match us, hl with | [_], _ => rfl)
theorem F04_minimum_steps (KX : K.In h) (G : h.Ns mainGlobals mg) (c : He.SaysD fa04 fn04 K) (W : World) : Fn P w K mg base W 7 "minimum_steps" 2 (gc_minimum_steps mg (pc04 c) W) := by
  obtain ⟨fd, F⟩ := c.def_ 26 (d := d04_26) rfl
  have F : FnP K "minimum_steps" "minimum_steps" s_minimum_steps _ fd := F
  exact FnP.fn F (He.glo_ok KX G (c.fact 16 (f := .glo "minimum_steps") rfl)) (fnOkD F sc_minimum_steps _ fun cdv A outer s H E hr => c_minimum_steps (bts04 KX G c) ((F04_check_both (P := P) (w := w) (base := base) KX G c W).mono (by decide)) ((F04_any_contradiction (P := P) (w := w) (base := base) KX G c W).mono (by decide)) ((F04_with_unit_costs (P := P) (w := w) (base := base) KX G c W).mono (by decide)) ((F04_Solution_cost (P := P) (w := w) (base := base) KX G c W).mono (by decide)) ((F04_Solution___init__ (P := P) (w := w) (base := base) KX G c).mono (by decide)) hr) (fun _ _ _ _ _ _ us hl => match us, hl with | [_, _], _ => rfl)
theorem F04_find_contradiction (KX : K.In h) (G : h.Ns mainGlobals mg) (c : He.SaysD fa04 fn04 K) (W : World) : Fn P w K mg base W 6 "find_contradiction" 2 (gc_find mg (pc04 c) W) := by
  obtain ⟨fd, F⟩ := c.def_ 27 (d := d04_27) rfl
  have F : FnP K "find_contradiction" "find_contradiction" s_find_contradiction _ fd := F
  exact FnP.fn F (He.glo_ok KX G (c.fact 17 (f := .glo "find_contradiction") rfl)) (fnOkD F sc_find_contradiction _ fun cdv A outer s H E hr => c_find_contradiction (bts04 KX G c) ((F04_check_table (P := P) (w := w) (base := base) KX G c W).mono (by decide)) ((F04_check_goal (P := P) (w := w) (base := base) KX G c W).mono (by decide)) ((F04_any_contradiction (P := P) (w := w) (base := base) KX G c W).mono (by decide)) hr) (fun _ _ _ _ _ _ us hl => match us, hl with | [_, _], _ => rfl)
theorem F04_l_drawn (KX : K.In h) (G : h.Ns mainGlobals mg) (c : He.SaysD fa04 fn04 K) : Fn P w K mg base Ws 1 "_law_drawn" 2 (gc_drawn K mg) := by
  obtain ⟨fd, F⟩ := c.def_ 28 (d := d04_28) rfl
  have F : FnP K "_law_drawn" "_law_drawn" s_l_drawn _ fd := F
  exact FnP.fn F (He.glo_ok KX G (c.fact 18 (f := .glo "_law_drawn") rfl)) (fnOkD F sc_l_drawn _ fun cdv A outer s H E hr => c_l_drawn (bts04 KX G c) hr) (fun _ _ _ _ _ _ us hl => match us, hl with | [_, _], _ => rfl)
theorem F04_l_random_table (KX : K.In h) (G : h.Ns mainGlobals mg) (c : He.SaysD fa04 fn04 K) : Fn P w K mg base Ws 2 "_law_random_table" 3 (gc_random_table K mg) := by
  obtain ⟨fd, F⟩ := c.def_ 29 (d := d04_29) rfl
  have F : FnP K "_law_random_table" "_law_random_table" s_l_random_table _ fd := F
  exact FnP.fn F (He.glo_ok KX G (c.fact 19 (f := .glo "_law_random_table") rfl)) (fnOkD F sc_l_random_table _ fun cdv A outer s H E hr => c_l_random_table (bts04 KX G c) ((F04_l_drawn (P := P) (w := w) (base := base) KX G c).mono (by decide)) hr) (fun _ _ _ _ _ _ us hl => match us, hl with | [_, _, _], _ => rfl)
theorem F04_l_line_costs (KX : K.In h) (G : h.Ns mainGlobals mg) (c : He.SaysD fa04 fn04 K) : Fn P w K mg base Ws 1 "_law_line_costs" 1 (gc_l_line_costs K mg) := by
  obtain ⟨fd, F⟩ := c.def_ 30 (d := d04_30) rfl
  have F : FnP K "_law_line_costs" "_law_line_costs" s_l_line_costs _ fd := F
  exact FnP.fn F (He.glo_ok KX G (c.fact 20 (f := .glo "_law_line_costs") rfl)) (fnOkD F sc_l_line_costs _ fun cdv A outer s H E hr => c_l_line_costs (bts04 KX G c) hr) (fun _ _ _ _ _ _ us hl => match us, hl with | [_], _ => rfl)
theorem F04_l_shifted (KX : K.In h) (G : h.Ns mainGlobals mg) (c : He.SaysD fa04 fn04 K) : Fn P w K mg base Ws 1 "_law_shifted" 2 (gc_l_shifted K mg) := by
  obtain ⟨fd, F⟩ := c.def_ 31 (d := d04_31) rfl
  have F : FnP K "_law_shifted" "_law_shifted" s_l_shifted _ fd := F
  exact FnP.fn F (He.glo_ok KX G (c.fact 21 (f := .glo "_law_shifted") rfl)) (fnOkD F sc_l_shifted _ fun cdv A outer s H E hr => c_l_shifted (bts04 KX G c) hr) (fun _ _ _ _ _ _ us hl => match us, hl with | [_, _], _ => rfl)
theorem F04_l_random_goal (KX : K.In h) (G : h.Ns mainGlobals mg) (c : He.SaysD fa04 fn04 K) : Fn P w K mg base Ws 2 "_law_random_goal" 3 (gc_l_random_goal K mg) := by
  obtain ⟨fd, F⟩ := c.def_ 32 (d := d04_32) rfl
  have F : FnP K "_law_random_goal" "_law_random_goal" s_l_random_goal _ fd := F
  exact FnP.fn F (He.glo_ok KX G (c.fact 22 (f := .glo "_law_random_goal") rfl)) (fnOkD F sc_l_random_goal _ fun cdv A outer s H E hr => c_l_random_goal (bts04 KX G c) ((F04_l_drawn (P := P) (w := w) (base := base) KX G c).mono (by decide)) ((F04_l_shifted (P := P) (w := w) (base := base) KX G c).mono (by decide)) ((F04_l_line_costs (P := P) (w := w) (base := base) KX G c).mono (by decide)) hr) (fun _ _ _ _ _ _ us hl => match us, hl with | [_, _, _], _ => rfl)
theorem F04_l_cell_gaps (KX : K.In h) (G : h.Ns mainGlobals mg) (c : He.SaysD fa04 fn04 K) : Fn P w K mg base Ws 1 "_law_cell_gaps" 2 (gc_l_cell_gaps K mg) := by
  obtain ⟨fd, F⟩ := c.def_ 33 (d := d04_33) rfl
  have F : FnP K "_law_cell_gaps" "_law_cell_gaps" s_l_cell_gaps _ fd := F
  exact FnP.fn F (He.glo_ok KX G (c.fact 23 (f := .glo "_law_cell_gaps") rfl)) (fnOkD F sc_l_cell_gaps _ fun cdv A outer s H E hr => c_l_cell_gaps (bts04 KX G c) hr) (fun _ _ _ _ _ _ us hl => match us, hl with | [_, _], _ => rfl)
theorem F04_l_rows (KX : K.In h) (G : h.Ns mainGlobals mg) (c : He.SaysD fa04 fn04 K) : Fn P w K mg base Ws 1 "_law_rows" 1 (gc_l_rows K mg) := by
  obtain ⟨fd, F⟩ := c.def_ 34 (d := d04_34) rfl
  have F : FnP K "_law_rows" "_law_rows" s_l_rows _ fd := F
  exact FnP.fn F (He.glo_ok KX G (c.fact 24 (f := .glo "_law_rows") rfl)) (fnOkD F sc_l_rows _ fun cdv A outer s H E hr => c_l_rows (bts04 KX G c) hr) (fun _ _ _ _ _ _ us hl => match us, hl with | [_], _ => rfl)
theorem ok04_start {fd : FuncData} {f : Addr} (F : FnP K "_law_start" "_law_start" s_l_start f fd) : FnOk P w K mg base CX0 1 f fd ["_law_script"] (spStart K) := by
  refine FunD.ok F sc_l_start (fun vs H Q E h => by obtain ⟨a, ns, rfl, _⟩ := h; rfl) (fun cdv A outer s H vs Q E hr h => ⟨tStart K, PSs.nox ?_, start_read h⟩)
  exact pss_cons (ps_set (i := 1) sc_l_start.nd rfl (.inl rfl) pe_int) (pss_cons (ps_for PassesOwn.never rfl (pi_list (pv 0)) (pg_name (i := 2) sc_l_start.nd rfl (.inl rfl)) (pss_one (ps_set (i := 1) sc_l_start.nd rfl (.inl rfl) (pe_op op_mod (pe_op op_add (pe_op op_add (pe_op op_mulA (pv 1) pe_int) (pv 2)) pe_int) pe_int)))) (pss_one (ps_ret (pe_lst (pa_cons (pv 0) (pa_cons pe_int (pa_cons (pv 1) (pa_cons pe_int pa_nil))))))))
theorem facts04 (KX : K.In h) (G : h.Ns mainGlobals mg) {f : Addr} (hfa : mg ("law" : Str) = some (.ref f)) (c : He.SaysD fa04 fn04 K) :
    ∃ fd : FuncData, (∀ (s : Shared) (v : Value), BindsTo s fd ⟨[v], []⟩ [("_law_script", v)]) ∧ ∀ base : Heap, K.In base → base.Ns mainGlobals mg → FnOk P w K mg base CX0 8 f fd ["_law_script"] (spLaw K) := by
  obtain ⟨fd, F⟩ := c.def_ 35 (d := d04_35) rfl
  obtain ⟨fs, FS⟩ := c.def_ 36 (d := d04_36) rfl
  have F : FnP K "law" "law" s_law _ fd := F
  have FS : FnP K "_law_start" "_law_start" s_l_start _ fs := FS
  have e := hfa.symm.trans (He.glo_ok KX G (c.fact 25 (f := .glo "law") rfl))
  cases e
  have b := FunD.bindsA (ps := ["_law_script"]) F (fun _ _ _ _ _ _ us hl => match us, hl with | [_], _ => rfl)
  have bS := FunD.bindsN (ps := ["_law_script"]) FS (fun _ _ _ _ _ _ us hl => match us, hl with | [_], _ => rfl)
  refine ⟨fd, fun s v => b s [v] rfl, fun base _ _ => ?_⟩
  refine FunD.ok F sc_law (fun vs H Q E h => by obtain ⟨a, ns, rfl, _⟩ := h; rfl) (fun cdv A outer s H vs Q E hr h => ⟨tSeq (tAsg (tCall (spStart K) [] E0 (tCons (tVar 0) tNil)) (gName 1)) (bLaw mg (pc04 c)).t, PSs.nox ?_, law_read (n := 15) rfl (fun ns m hl => law_true (by omega) m) h⟩)
  exact pss_cons (ps_set (i := 1) sc_law.nd rfl (by first | exact .inl rfl | exact .inr rfl) (pe_call (ok04_start FS) (hr.mono (by decide)) rfl (He.glo_ok KX G (c.fact 26 (f := .glo "_law_start") rfl)) FS.kp bS .nil pass0 (pa_cons (pv 0) pa_nil))) (c_law (bts04 KX G c) ((F04_l_random_table (P := P) (w := w) (base := base) KX G c).mono (by decide)) ((F04_l_line_costs (P := P) (w := w) (base := base) KX G c).mono (by decide)) ((F04_l_rows (P := P) (w := w) (base := base) KX G c).mono (by decide)) ((F04_l_random_goal (P := P) (w := w) (base := base) KX G c).mono (by decide)) ((F04_l_cell_gaps (P := P) (w := w) (base := base) KX G c).mono (by decide)) ((F04_minimum_cost (P := P) (w := w) (base := base) KX G c Ws).mono (by decide)) ((F04_minimum_steps (P := P) (w := w) (base := base) KX G c Ws).mono (by decide)) ((F04_find_contradiction (P := P) (w := w) (base := base) KX G c Ws).mono (by decide)) hr)
end
end Cl
open PySem PySem.W PySem.Calls PyProof.Rows in
theorem PySem.Challenge.cw_crosslift_k04_all_shifts_tried_holds : PySem.Challenge.rw_crosslift_k04_all_shifts_tried.Holds := by
  w_on; o_law
  refine HandSHeadRun.head_any (r := OpenLaw.row PySem.Challenge.rw_crosslift_k04_all_shifts_tried) (q := view (OpenLaw.row PySem.Challenge.rw_crosslift_k04_all_shifts_tried).prog [39]) (H := Cl.hk04) (ob := Cl.ob04) (M := 9000) (loose := Cl.lo04) (d := HandSHeadRun.topDef (OpenLaw.row PySem.Challenge.rw_crosslift_k04_all_shifts_tried).prog 39) (kwd := []) Cl.ob04_eq
    (by kernel_rfl) (fun s => by kernel_rfl) Cl.run04 (by kernel_rfl) (by kernel_rfl) (by kernel_rfl) (by rfl) (by first | assumption | decide +kernel) (by decide +kernel) ⟨rfl, rfl, rfl, rfl, rfl, by decide +kernel⟩ ?hw ?hc
  case hw => w_witness2
  case hc =>
    refine L2.walk_ofE (l := PySem.Challenge.rw_crosslift_k04_all_shifts_tried) (n := 63) (k := 8) (x := "_law_script") (CX := L2.CX0) rfl (by decide) (by kernel_rfl) ⟨rfl, by decide, by decide⟩ ?F (fun _ _ _ _ z => z)
    intro w mg fa h Y G hmg0
    obtain ⟨K, KX, c⟩ := Y
    have hmg : mg ("law" : PySem.Str) = some (.ref fa) := by
      have e : (HandSHeadRun.topDef (OpenLaw.row PySem.Challenge.rw_crosslift_k04_all_shifts_tried).prog 39).name = ("law" : PySem.Str) := by kernel_rfl
      rw [← e]
      exact hmg0
    obtain ⟨fd, hb, hF⟩ := Cl.facts04 (P := (PySem.Challenge.rw_crosslift_k04_all_shifts_tried).prog) (w := w) KX G hmg c
    exact ⟨K, fd, Cl.spLaw K, KX, hb, fun H a ns hl _ hS => ⟨a, ns, rfl, hS, hl, fun _ => rfl⟩, hF⟩

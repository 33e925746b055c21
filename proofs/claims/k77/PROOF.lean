import PyProof.Rows.All
import Wide.All
import OpenK.AllK
import Wide.FinOn
import HandS.ForMost
import HandS.Wide
import HandS.Rev
import HandS.RevTup
import PyProof.ListNew
import HandS.IsInst
import HandS.Gcd
import HandS.SortInts
import KE.KMathG
import KE.KMathGC
import KE.KSortedM
import HandS.Zip
import KE.GoesMore
import KE.GoesEnum
import HandS.TupAny
import HandS.Deep
import HandS.Conv
import KE.SortData
import HandS.Dict
import HandS.Iter
import HandS.Small
import KE.KDictWalk
import HandS.CallLocal
import HandS.NoneIn
import KE.KTupSum
import HandS.SetFor
import KE.KDictCopyH
import KE.KDictSum
import HandS.ExcValue
import HandS.ExcOwn
import HandS.TupLen
import KE.KItemsList
import HandS.ListItems
import HandS.Exc
import Flt.RightSqrt
import PySem.Challenge.RW_howoftenmet_k77_whole_sums_as_meetings
import HandS.EndBits
set_option Elab.async false
set_option linter.all false
set_option maxRecDepth 100000
/-! VS1: data, how the heap bears it, steps of the heap. -/
namespace VS
open PySem PySem.Spec PyProof.Rows L2

/-- plain data: what a value of the program means -/
inductive D where
  | non | bl (b : Bool) | int (i : Int) | str (x : Str) | tup (ds : List D) | lst (ds : List D) | scr (ns : List Int) | bag
  | dk (ks : List Key) (ds : List D) | dt (ks : List (List Key)) (ds : List D) | fn (x : Str)
/-- the law's own bag: the cells still to come, the present one, the mixed number -/
structure Bg where
  cells : List Int
  dig : Int
  mix : Int
abbrev Wd := Option Bg
/-- the frozen part of the heap, and where the bag stands -/
structure Gh where
  G : Hp
  B : Option (Addr × Addr)
structure Gh.le (g g' : Gh) : Prop where
  gg : Same g.G g'.G
  bb : ∀ b, g.B = some b → g'.B = some b
def Gh.bagA (g : Gh) (a : Addr) : Prop := ∃ b, g.B = some b ∧ (a = b.1 ∨ a = b.2)
theorem Gh.le.refl (g : Gh) : g.le g := ⟨fun _ _ h => h, fun _ h => h⟩
theorem Gh.le.trans {g g1 g2 : Gh} (x : g.le g1) (y : g1.le g2) : g.le g2 := ⟨x.gg.trans y.gg, fun b h => y.bb b (x.bb b h)⟩
abbrev Gh.put (g : Gh) (p : Addr) (o : HO) : Gh := ⟨upd g.G p o, g.B⟩

theorem sqT_same {K : PySem.W.Frag} {H H' : Hp} {a : Addr} {xs : List V} (e : Same H H') (h : SqT K H a xs) : SqT K H' a xs := by
  rcases h with (h | ⟨o, h⟩) | h
  · exact .inl (.inl (e _ _ h))
  · exact .inl (.inr ⟨o, e _ _ h⟩)
  · exact .inr h

mutual
inductive Rp (K : PySem.W.Frag) (g : Gh) : V → D → Prop
  | non : Rp K g .non .non
  | bl (b : Bool) : Rp K g (.bl b) (.bl b)
  | int (i : Int) : Rp K g (.int i) (.int i)
  | str (x : Str) : Rp K g (.str x) (.str x)
  | tup {a : Addr} {xs : List V} {ds : List D} (h : g.G a = some (.tup xs)) (r : Rps K g xs ds) : Rp K g (.ref a) (.tup ds)
  | lst {a : Addr} {xs : List V} {ds : List D} (h : g.G a = some (.lst xs)) (r : Rps K g xs ds) : Rp K g (.ref a) (.lst ds)
  | scr {a : Addr} {ns : List Int} (h : SqL K g.G a (ns.map V.int)) : Rp K g (.ref a) (.scr ns)
  | bag {b : Addr × Addr} (h : g.B = some b) : Rp K g (.ref b.1) .bag
  | dk {a : Addr} {od : Obj} {ks : List Key} {xs : List V} {ds : List D} (h : g.G a = some (.frz od (.dK (ks.zip xs)))) (l : ks.length = xs.length) (r : Rps K g xs ds) : Rp K g (.ref a) (.dk ks ds)
  | dt {a : Addr} {od : Obj} {ks : List (List Key)} {xs : List V} {ds : List D} (h : g.G a = some (.frz od (.dT (ks.zip xs)))) (l : ks.length = xs.length) (r : Rps K g xs ds) : Rp K g (.ref a) (.dt ks ds)
  | fn {a : Addr} {x : Str} (h : PySem.W.nsIn K mainGlobals x = some (some (.ref a))) : Rp K g (.ref a) (.fn x)
inductive Rps (K : PySem.W.Frag) (g : Gh) : List V → List D → Prop
  | nil : Rps K g [] []
  | cons {x : V} {xs : List V} {d : D} {ds : List D} (h : Rp K g x d) (r : Rps K g xs ds) : Rps K g (x :: xs) (d :: ds)
end

mutual
theorem Rp.mono {K : PySem.W.Frag} {g g' : Gh} (e : g.le g') : ∀ {v : V} {d : D}, Rp K g v d → Rp K g' v d
  | _, _, .non => .non
  | _, _, .bl b => .bl b
  | _, _, .int i => .int i
  | _, _, .str x => .str x
  | _, _, .tup h r => .tup (e.gg _ _ h) (Rps.mono e r)
  | _, _, .lst h r => .lst (e.gg _ _ h) (Rps.mono e r)
  | _, _, .scr h => .scr (e.gg.seq h)
  | _, _, .bag h => .bag (e.bb _ h)
  | _, _, .dk h l r => .dk (e.gg _ _ h) l (Rps.mono e r)
  | _, _, .dt h l r => .dt (e.gg _ _ h) l (Rps.mono e r)
  | _, _, .fn h => .fn h
theorem Rps.mono {K : PySem.W.Frag} {g g' : Gh} (e : g.le g') : ∀ {vs : List V} {ds : List D}, Rps K g vs ds → Rps K g' vs ds
  | _, _, .nil => .nil
  | _, _, .cons h r => .cons (Rp.mono e h) (Rps.mono e r)
end
theorem Rps.length {K : PySem.W.Frag} {g : Gh} : ∀ {vs : List V} {ds : List D}, Rps K g vs ds → vs.length = ds.length
  | _, _, .nil => rfl
  | _, _, .cons _ r => by simp [Rps.length r]
theorem Rps.append {K : PySem.W.Frag} {g : Gh} : ∀ {vs ws : List V} {ds es : List D}, Rps K g vs ds → Rps K g ws es → Rps K g (vs ++ ws) (ds ++ es)
  | _, _, _, _, .nil, s => s
  | _, _, _, _, .cons h r, s => .cons h (Rps.append r s)
theorem Rps.get {K : PySem.W.Frag} {g : Gh} : ∀ {vs : List V} {ds : List D} {i : Nat} {d : D}, Rps K g vs ds → ds[i]? = some d → ∃ v, vs[i]? = some v ∧ Rp K g v d
  | _, _, _, _, .nil, h => by simp at h
  | _, _, 0, _, .cons h r, e => by simp at e; subst e; exact ⟨_, rfl, h⟩
  | _, _, i + 1, _, .cons h r, e => by
    obtain ⟨v, h1, h2⟩ := Rps.get (i := i) r (by simpa using e)
    exact ⟨v, by simpa using h1, h2⟩
theorem Rps.getV {K : PySem.W.Frag} {g : Gh} : ∀ {vs : List V} {ds : List D} {i : Nat} {v : V}, Rps K g vs ds → vs[i]? = some v → ∃ d, ds[i]? = some d ∧ Rp K g v d
  | _, _, _, _, .nil, h => by simp at h
  | _, _, 0, _, .cons h r, e => by simp at e; subst e; exact ⟨_, rfl, h⟩
  | _, _, i + 1, _, .cons h r, e => by
    obtain ⟨v, h1, h2⟩ := Rps.getV (i := i) r (by simpa using e)
    exact ⟨v, by simpa using h1, h2⟩
theorem Rps.take {K : PySem.W.Frag} {g : Gh} : ∀ {vs : List V} {ds : List D} (n : Nat), Rps K g vs ds → Rps K g (vs.take n) (ds.take n)
  | _, _, 0, _ => by simp; exact .nil
  | _, _, n + 1, .nil => by simp; exact .nil
  | _, _, n + 1, .cons h r => by simp; exact .cons h (Rps.take n r)
theorem Rps.drop {K : PySem.W.Frag} {g : Gh} : ∀ {vs : List V} {ds : List D} (n : Nat), Rps K g vs ds → Rps K g (vs.drop n) (ds.drop n)
  | _, _, 0, r => by simpa using r
  | _, _, n + 1, .nil => by simp; exact .nil
  | _, _, n + 1, .cons h r => by simpa using Rps.drop n r
theorem Rps.set {K : PySem.W.Frag} {g : Gh} {v : V} {d : D} (q : Rp K g v d) : ∀ {vs : List V} {ds : List D} (i : Nat), Rps K g vs ds → Rps K g (vs.set i v) (ds.set i d)
  | _, _, _, .nil => .nil
  | _, _, 0, .cons h r => .cons q r
  | _, _, i + 1, .cons h r => .cons h (Rps.set q i r)
theorem Rps.reverse {K : PySem.W.Frag} {g : Gh} : ∀ {vs : List V} {ds : List D}, Rps K g vs ds → Rps K g vs.reverse ds.reverse
  | _, _, .nil => .nil
  | _, _, .cons h r => by
    rw [List.reverse_cons, List.reverse_cons]
    exact Rps.append (Rps.reverse r) (.cons h .nil)
theorem Rps.dropLast {K : PySem.W.Frag} {g : Gh} {vs : List V} {ds : List D} (h : Rps K g vs ds) : Rps K g vs.dropLast ds.dropLast := by
  rw [List.dropLast_eq_take, List.dropLast_eq_take, h.length]
  exact h.take _
theorem Rps.erase {K : PySem.W.Frag} {g : Gh} : ∀ {vs : List V} {ds : List D} (i : Nat), Rps K g vs ds → Rps K g (vs.eraseIdx i) (ds.eraseIdx i)
  | _, _, _, .nil => .nil
  | _, _, 0, .cons h r => r
  | _, _, i + 1, .cons h r => .cons h (Rps.erase i r)
theorem Rps.rep {K : PySem.W.Frag} {g : Gh} {vs : List V} {ds : List D} (h : Rps K g vs ds) : ∀ k : Nat, Rps K g (List.replicate k vs).flatten (List.replicate k ds).flatten
  | 0 => .nil
  | k + 1 => by
    rw [List.replicate_succ, List.replicate_succ, List.flatten_cons, List.flatten_cons]
    exact h.append (Rps.rep h k)
theorem Rps.ints {K : PySem.W.Frag} {g : Gh} : ∀ ns : List Int, Rps K g (ns.map V.int) (ns.map D.int)
  | [] => .nil
  | n :: r => .cons (.int n) (Rps.ints r)
theorem Rps.of_ints {K : PySem.W.Frag} {g : Gh} : ∀ {ns : List Int} {vs : List V}, Rps K g vs (ns.map D.int) → vs = ns.map V.int
  | [], _, .nil => rfl
  | n :: r, _, .cons (.int _) t => by rw [Rps.of_ints t]; rfl
theorem Rps.of_bls {K : PySem.W.Frag} {g : Gh} : ∀ {ns : List Bool} {vs : List V}, Rps K g vs (ns.map D.bl) → vs = ns.map V.bl
  | [], _, .nil => rfl
  | n :: r, _, .cons (.bl _) t => by rw [Rps.of_bls t]; rfl

/-- the heap bears the frozen part and the bag -/
structure Ht (K : PySem.W.Frag) (g : Gh) (W : Wd) (H : Hp) : Prop where
  sub : Same g.G H
  bN : g.B = none → W = none
  bS : ∀ b, g.B = some b → ∃ w, W = some w ∧ H b.1 = some (.lst [.ref b.2, .int w.dig, .int w.mix]) ∧ H b.2 = some (.lst (w.cells.map V.int)) ∧ g.G b.1 = none ∧ g.G b.2 = none
/-- one step of the heap: all that stood stands but the bag; nothing that stood is frozen anew -/
structure Step (g : Gh) (H : Hp) (g' : Gh) (H' : Hp) : Prop where
  le : g.le g'
  kp : ∀ a o, H a = some o → ¬ g.bagA a → H' a = some o
  gf : ∀ a o, H a = some o → Mut (some o) → g.G a = none → g'.G a = none
  fb : g.B = none → ∀ b, g'.B = some b → H b.1 = none ∧ H b.2 = none
theorem Step.refl (g : Gh) (H : Hp) : Step g H g H := ⟨.refl g, fun _ _ h _ => h, fun _ _ _ _ h => h, fun h b h' => by rw [h] at h'; cases h'⟩
theorem Step.nobag {g g' : Gh} {H H' : Hp} (s : Step g H g' H') {a : Addr} {o : HO} (h : H a = some o) (n : ¬ g.bagA a) : ¬ g'.bagA a := by
  rintro ⟨b, hb, e⟩
  cases q : g.B with
  | some b0 =>
    have := s.le.bb b0 q
    rw [hb] at this; cases this
    exact n ⟨b, q, e⟩
  | none =>
    obtain ⟨h1, h2⟩ := s.fb q b hb
    rcases e with e | e
    · rw [e, h1] at h; cases h
    · rw [e, h2] at h; cases h
theorem Step.trans {K : PySem.W.Frag} {g g1 g2 : Gh} {H H1 H2 : Hp} {W1 : Wd} (s : Step g H g1 H1) (t : Step g1 H1 g2 H2) (h1 : Ht K g1 W1 H1) : Step g H g2 H2 where
  le := s.le.trans t.le
  kp := fun a o h n => t.kp a o (s.kp a o h n) (s.nobag h n)
  gf := fun a o h mu n => by
    by_cases hb : g.bagA a
    · obtain ⟨b, q, e⟩ := hb
      have q1 := s.le.bb b q
      obtain ⟨w, _, e1, e2, n1, n2⟩ := h1.bS b q1
      rcases e with e | e
      · subst e; exact t.gf _ _ e1 trivial n1
      · subst e; exact t.gf _ _ e2 trivial n2
    · exact t.gf a o (s.kp a o h hb) mu (s.gf a o h mu n)
  fb := fun q b hb => by
    cases q1 : g1.B with
    | none =>
      obtain ⟨h1, h2⟩ := t.fb q1 b hb
      have nb : ∀ a, ¬ g.bagA a := fun a ⟨b, hb, _⟩ => by rw [q] at hb; cases hb
      constructor
      · cases e : H b.1 with
        | none => rfl
        | some o => rw [s.kp _ _ e (nb _)] at h1; cases h1
      · cases e : H b.2 with
        | none => rfl
        | some o => rw [s.kp _ _ e (nb _)] at h2; cases h2
    | some b1 =>
      have := t.le.bb b1 q1
      rw [hb] at this; cases this
      exact s.fb q b q1

section
variable {K : PySem.W.Frag} {g g' : Gh} {W W' : Wd} {H H' : Hp} {p : Addr} {o : HO}
theorem Ht.gnone (h : Ht K g W H) (n : H p = none) : g.G p = none := by
  cases e : g.G p with
  | none => rfl
  | some o => rw [h.sub _ _ e] at n; cases n
theorem Ht.bne (h : Ht K g W H) (n : H p = none) : ¬ g.bagA p := by
  rintro ⟨b, hb, e⟩
  obtain ⟨w, _, e1, e2, _⟩ := h.bS b hb
  rcases e with e | e
  · rw [e, e1] at n; cases n
  · rw [e, e2] at n; cases n
theorem same_put (n : H p = none) : Same H (upd H p o) := fun b x e => by rw [upd_ne (ne_of_none e n)]; exact e
/-- a new object, not frozen -/
theorem Ht.new (h : Ht K g W H) (n : H p = none) : Ht K g W (upd H p o) ∧ Step g H g (upd H p o) :=
  ⟨⟨h.sub.trans (same_put n), h.bN, fun b hb => by
    obtain ⟨w, e, e1, e2, n1, n2⟩ := h.bS b hb
    exact ⟨w, e, same_put n _ _ e1, same_put n _ _ e2, n1, n2⟩⟩,
   ⟨.refl g, fun a x e _ => same_put n a x e, fun _ _ _ _ h => h, fun q b hb => by rw [q] at hb; cases hb⟩⟩
/-- a new object, frozen -/
theorem Ht.newF (h : Ht K g W H) (n : H p = none) : Ht K (g.put p o) W (upd H p o) ∧ Step g H (g.put p o) (upd H p o) :=
  ⟨⟨fun b x e => by
    by_cases q : b = p
    · subst q; rw [show (g.put b o).G b = some o from upd_same] at e; rw [upd_same]; exact e
    · rw [show (g.put p o).G b = g.G b from upd_ne q] at e; rw [upd_ne q]; exact h.sub _ _ e, h.bN, fun b hb => by
    obtain ⟨w, e, e1, e2, n1, n2⟩ := h.bS b hb
    refine ⟨w, e, same_put n _ _ e1, same_put n _ _ e2, ?_, ?_⟩
    · show upd g.G p o b.1 = none
      rw [upd_ne (ne_of_none e1 n)]; exact n1
    · show upd g.G p o b.2 = none
      rw [upd_ne (ne_of_none e2 n)]; exact n2⟩,
   ⟨⟨same_put (h.gnone n), fun _ h => h⟩, fun a x e _ => same_put n a x e, fun a x e _ z => by
    show upd g.G p o a = none
    rw [upd_ne (ne_of_none e n)]; exact z, fun q b hb => by
    have hb : g.B = some b := hb
    rw [q] at hb; cases hb⟩⟩
/-- what stands, unfrozen and no bag, is frozen: behind H0 -/
theorem Ht.frz {H0 : Hp} {g0 : Gh} (h : Ht K g W H) (s : Step g0 H0 g H) (e : H p = some o) (n : g.G p = none) (nb : ¬ g.bagA p) (n0 : H0 p = none) : Ht K (g.put p o) W H ∧ Step g0 H0 (g.put p o) H ∧ g.le (g.put p o) := by
  have l : g.le (g.put p o) := ⟨same_put n, fun _ h => h⟩
  refine ⟨⟨fun b x q => ?_, h.bN, fun b hb => ?_⟩, ⟨s.le.trans l, s.kp, fun a x q mu z => ?_, s.fb⟩, l⟩
  · by_cases z : b = p
    · subst z; rw [show (g.put b o).G b = some o from upd_same] at q; cases q; exact e
    · rw [show (g.put p o).G b = g.G b from upd_ne z] at q; exact h.sub _ _ q
  · obtain ⟨w, ew, e1, e2, n1, n2⟩ := h.bS b hb
    refine ⟨w, ew, e1, e2, ?_, ?_⟩
    · show upd g.G p o b.1 = none
      rw [upd_ne (fun z => nb ⟨b, hb, .inl z.symm⟩)]; exact n1
    · show upd g.G p o b.2 = none
      rw [upd_ne (fun z => nb ⟨b, hb, .inr z.symm⟩)]; exact n2
  · show upd g.G p o a = none
    rw [upd_ne (ne_of_none q n0)]; exact s.gf a x q mu z
end

/-- a tuple that stands is frozen, whenever -/
theorem Ht.frzT {K : PySem.W.Frag} {g : Gh} {W : Wd} {H : Hp} {p : Addr} {xs : List V} {H0 : Hp} {g0 : Gh} (h : Ht K g W H) (s : Step g0 H0 g H) (e : H p = some (.tup xs)) (n : g.G p = none) : Ht K (g.put p (.tup xs)) W H ∧ Step g0 H0 (g.put p (.tup xs)) H ∧ g.le (g.put p (.tup xs)) := by
  have l : g.le (g.put p (.tup xs)) := ⟨same_put n, fun _ h => h⟩
  refine ⟨⟨fun b x q => ?_, h.bN, fun b hb => ?_⟩, ⟨s.le.trans l, s.kp, fun a x q mu z => ?_, s.fb⟩, l⟩
  · by_cases z : b = p
    · subst z; rw [show (g.put b (.tup xs)).G b = some (.tup xs) from upd_same] at q; cases q; exact e
    · rw [show (g.put p (.tup xs)).G b = g.G b from upd_ne z] at q; exact h.sub _ _ q
  · obtain ⟨w, ew, e1, e2, n1, n2⟩ := h.bS b hb
    refine ⟨w, ew, e1, e2, ?_, ?_⟩
    · show upd g.G p _ b.1 = none
      rw [upd_ne (fun z => by rw [z, e] at e1; cases e1)]; exact n1
    · show upd g.G p _ b.2 = none
      rw [upd_ne (fun z => by rw [z, e] at e2; cases e2)]; exact n2
  · show upd g.G p _ a = none
    by_cases c : a = p
    · subst c
      exfalso
      by_cases d : g0.bagA a
      · obtain ⟨b, hb, z⟩ := d
        obtain ⟨w, ew, e1, e2, n1, n2⟩ := h.bS b (s.le.bb b hb)
        rcases z with z | z
        · rw [← z, e] at e1; cases e1
        · rw [← z, e] at e2; cases e2
      · have := s.kp a x q d
        rw [e] at this
        cases this
        exact mu
    · rw [upd_ne c]; exact s.gf a x q mu z
/-- .. the thing itself is locked for good -/
theorem Ht.lock {K : PySem.W.Frag} {g : Gh} {W : Wd} {H : Hp} {p : Addr} {o : HO} {H0 : Hp} {g0 : Gh} (h : Ht K g W H) (s : Step g0 H0 g H) (e : H p = some o) (n : g.G p = none) (nb : ¬ g.bagA p) (n0 : H0 p = none) (od : Obj) :
    Ht K (g.put p (.frz od o)) W (upd H p (.frz od o)) ∧ Step g0 H0 (g.put p (.frz od o)) (upd H p (.frz od o)) ∧ g.le (g.put p (.frz od o)) := by
  have l : g.le (g.put p (.frz od o)) := ⟨same_put n, fun _ h => h⟩
  refine ⟨⟨fun b x q => ?_, h.bN, fun b hb => ?_⟩, ⟨s.le.trans l, fun a x q nb' => ?_, fun a x q mu z => ?_, s.fb⟩, l⟩
  · by_cases z : b = p
    · subst z; rw [show (g.put b (.frz od o)).G b = some (.frz od o) from upd_same] at q; cases q; exact upd_same
    · rw [show (g.put p (.frz od o)).G b = g.G b from upd_ne z] at q; rw [upd_ne z]; exact h.sub _ _ q
  · obtain ⟨w, ew, e1, e2, n1, n2⟩ := h.bS b hb
    have z1 : b.1 ≠ p := fun z => nb ⟨b, hb, .inl z.symm⟩
    have z2 : b.2 ≠ p := fun z => nb ⟨b, hb, .inr z.symm⟩
    refine ⟨w, ew, by rw [upd_ne z1]; exact e1, by rw [upd_ne z2]; exact e2, ?_, ?_⟩
    · show upd g.G p (.frz od o) b.1 = none
      rw [upd_ne z1]; exact n1
    · show upd g.G p (.frz od o) b.2 = none
      rw [upd_ne z2]; exact n2
  · rw [upd_ne (ne_of_none q n0)]; exact s.kp a x q nb'
  · show upd g.G p (.frz od o) a = none
    rw [upd_ne (ne_of_none q n0)]; exact s.gf a x q mu z
/-- now, or behind a lock -/
def Lk (Q : Hp → Prop) (H : Hp) : Prop := Q H ∨ ∃ d u, H d = some u ∧ Mut (some u) ∧ ∀ od, Q (upd H d (.frz od u))
/-- a thing that is not frozen stands at a -/
inductive Hob (K : PySem.W.Frag) (g : Gh) : HO → D → Prop
  | lst {xs : List V} {ds : List D} (r : Rps K g xs ds) : Hob K g (.lst xs) (.lst ds)
  | dk {ks : List Key} {xs : List V} {ds : List D} (l : ks.length = xs.length) (r : Rps K g xs ds) : Hob K g (.dK (ks.zip xs)) (.dk ks ds)
  | dt {ks : List (List Key)} {xs : List V} {ds : List D} (l : ks.length = xs.length) (r : Rps K g xs ds) : Hob K g (.dT (ks.zip xs)) (.dt ks ds)
theorem Hob.mono {K : PySem.W.Frag} {g g' : Gh} (e : g.le g') {o : HO} {d : D} (h : Hob K g o d) : Hob K g' o d := by
  cases h with
  | lst r => exact .lst (r.mono e)
  | dk l r => exact .dk l (r.mono e)
  | dt l r => exact .dt l (r.mono e)
def Ow (K : PySem.W.Frag) (g : Gh) (H : Hp) (a : Addr) (d : D) : Prop := g.G a = none ∧ ¬ g.bagA a ∧ ∃ o, H a = some o ∧ Hob K g o d
theorem Ow.lst {K : PySem.W.Frag} {g : Gh} {H : Hp} {a : Addr} {xs : List V} {ds : List D} (n : g.G a = none) (nb : ¬ g.bagA a) (h : H a = some (.lst xs)) (r : Rps K g xs ds) : Ow K g H a (.lst ds) := ⟨n, nb, _, h, .lst r⟩
theorem Ow.lstE {K : PySem.W.Frag} {g : Gh} {H : Hp} {a : Addr} {ds : List D} (o : Ow K g H a (.lst ds)) : g.G a = none ∧ ¬ g.bagA a ∧ ∃ xs, H a = some (.lst xs) ∧ Rps K g xs ds := by
  obtain ⟨n, nb, _, h, hb⟩ := o
  cases hb with
  | lst r => exact ⟨n, nb, _, h, r⟩
/-- a value, for reading alone -/
def Bo (K : PySem.W.Frag) (g : Gh) (H : Hp) (v : V) (d : D) : Prop := Rp K g v d ∨ ∃ a, v = .ref a ∧ Ow K g H a d
/-- a value: frozen; or new and not frozen -/
def Vo (K : PySem.W.Frag) (H : Hp) (g' : Gh) (H' : Hp) (w : Bool) (v : V) (d : D) : Prop :=
  match w with
  | false => Rp K g' v d
  | true => ∃ a, v = .ref a ∧ H a = none ∧ Ow K g' H' a d
section
variable {K : PySem.W.Frag} {g g' : Gh} {W W' : Wd} {H H' : Hp} {a : Addr} {v : V} {d : D}
theorem Ow.there (o : Ow K g H a d) : ∃ x, H a = some x := let ⟨_, _, _, e, _⟩ := o; ⟨_, e⟩
theorem Ow.step (o : Ow K g H a d) (s : Step g H g' H') : Ow K g' H' a d := by
  obtain ⟨n, nb, x, h, r⟩ := o
  exact ⟨s.gf _ _ h (by cases r <;> trivial) n, s.nobag h nb, x, s.kp _ _ h nb, r.mono s.le⟩
theorem Bo.step (o : Bo K g H v d) (s : Step g H g' H') : Bo K g' H' v d := by
  rcases o with o | ⟨a, e, o⟩
  · exact .inl (o.mono s.le)
  · exact .inr ⟨a, e, o.step s⟩
theorem Vo.bo {w : Bool} {H0 : Hp} (o : Vo K H0 g H w v d) : Bo K g H v d := by
  cases w with
  | false => exact .inl o
  | true => obtain ⟨a, e, _, o⟩ := o; exact .inr ⟨a, e, o⟩
/-- the items of a sequence -/
def D.items : D → Option (List D)
  | .lst ds => some ds
  | .tup ds => some ds
  | .scr ns => some (ns.map .int)
  | _ => none
theorem Bo.seq (h : Ht K g W H) (o : Bo K g H v d) {ds : List D} (e : d.items = some ds) : ∃ a xs, v = .ref a ∧ (SqL K H a xs ∨ SqT K H a xs) ∧ Rps K g xs ds := by
  rcases o with o | ⟨a, ev, _, _, x, eh, hb⟩
  · cases o with
    | tup q r => cases e; exact ⟨_, _, rfl, .inr (.of (h.sub _ _ q)), r⟩
    | lst q r => cases e; exact ⟨_, _, rfl, .inl (.of (h.sub _ _ q)), r⟩
    | scr q => cases e; exact ⟨_, _, rfl, .inl (h.sub.seq q), .ints _⟩
    | _ => cases e
  · cases hb with
    | lst r => cases e; exact ⟨a, _, ev, .inl (.of eh), r⟩
    | dk _ _ => cases e
    | dt _ _ => cases e
theorem Bo.lstT (h : Ht K g W H) {ds : List D} (o : Bo K g H v (.lst ds)) : ∃ a xs, v = .ref a ∧ H a = some (.lst xs) ∧ Rps K g xs ds := by
  rcases o with o | ⟨a, ev, _, _, x, eh, hb⟩
  · cases o with
    | lst q r => exact ⟨_, _, rfl, h.sub _ _ q, r⟩
  · cases hb with
    | lst r => exact ⟨a, _, ev, eh, r⟩
theorem Bo.tupT (h : Ht K g W H) {ds : List D} (o : Bo K g H v (.tup ds)) : ∃ a xs, v = .ref a ∧ SqT K H a xs ∧ Rps K g xs ds := by
  rcases o with o | ⟨a, ev, _, _, x, eh, hb⟩
  · cases o with
    | tup q r => exact ⟨_, _, rfl, .of (h.sub _ _ q), r⟩
  · cases hb
theorem Bo.tupS (h : Ht K g W H) {ds : List D} (o : Bo K g H v (.tup ds)) : ∃ a xs, v = .ref a ∧ H a = some (.tup xs) ∧ Rps K g xs ds := by
  rcases o with o | ⟨a, ev, _, _, x, eh, hb⟩
  · cases o with
    | tup q r => exact ⟨_, _, rfl, h.sub _ _ q, r⟩
  · cases hb
theorem Bo.dkT (h : Ht K g W H) {ks : List Key} {ds : List D} (o : Bo K g H v (.dk ks ds)) : ∃ a xs, v = .ref a ∧ Rd H a (.dK (ks.zip xs)) ∧ ks.length = xs.length ∧ Rps K g xs ds := by
  rcases o with o | ⟨a, ev, _, _, x, eh, hb⟩
  · cases o with
    | dk q l r => exact ⟨_, _, rfl, .inr ⟨_, h.sub _ _ q⟩, l, r⟩
  · cases hb with
    | dk l r => exact ⟨a, _, ev, .inl eh, l, r⟩
theorem Bo.dtT (h : Ht K g W H) {ks : List (List Key)} {ds : List D} (o : Bo K g H v (.dt ks ds)) : ∃ a xs, v = .ref a ∧ Rd H a (.dT (ks.zip xs)) ∧ ks.length = xs.length ∧ Rps K g xs ds := by
  rcases o with o | ⟨a, ev, _, _, x, eh, hb⟩
  · cases o with
    | dt q l r => exact ⟨_, _, rfl, .inr ⟨_, h.sub _ _ q⟩, l, r⟩
  · cases hb with
    | dt l r => exact ⟨a, _, ev, .inl eh, l, r⟩
theorem Bo.fnT {x : Str} (o : Bo K g H v (.fn x)) : ∃ a, v = .ref a ∧ PySem.W.nsIn K mainGlobals x = some (some (.ref a)) := by
  rcases o with o | ⟨a, ev, _, _, x, eh, hb⟩
  · cases o with
    | fn h => exact ⟨_, rfl, h⟩
  · cases hb
theorem Bo.intT (o : Bo K g H v (.int i)) : v = .int i := by
  rcases o with o | ⟨a, ev, _, _, x, eh, hb⟩
  · cases o; rfl
  · cases hb
theorem Bo.blT (o : Bo K g H v (.bl i)) : v = .bl i := by
  rcases o with o | ⟨a, ev, _, _, x, eh, hb⟩
  · cases o; rfl
  · cases hb
theorem Bo.strT (o : Bo K g H v (.str i)) : v = .str i := by
  rcases o with o | ⟨a, ev, _, _, x, eh, hb⟩
  · cases o; rfl
  · cases hb
theorem Bo.nonT (o : Bo K g H v .non) : v = .non := by
  rcases o with o | ⟨a, ev, _, _, x, eh, hb⟩
  · cases o; rfl
  · cases hb
/-- a new unfrozen thing is frozen -/
theorem Vo.frz {H0 : Hp} {g0 : Gh} (h : Ht K g W H) (s : Step g0 H0 g H) (o : Vo K H0 g H true v d) : Lk (fun H' => ∃ g', Ht K g' W H' ∧ Step g0 H0 g' H' ∧ g.le g' ∧ Rp K g' v d) H := by
  obtain ⟨a, rfl, n0, n, nb, x, e, hb⟩ := o
  cases hb with
  | lst r =>
    obtain ⟨h1, s1, l⟩ := h.frz s e n nb n0
    exact .inl ⟨_, h1, s1, l, .lst upd_same (r.mono l)⟩
  | dk z r =>
    refine .inr ⟨a, _, e, trivial, fun od => ?_⟩
    obtain ⟨h1, s1, l⟩ := h.lock s e n nb n0 od
    exact ⟨_, h1, s1, l, .dk upd_same z (r.mono l)⟩
  | dt z r =>
    refine .inr ⟨a, _, e, trivial, fun od => ?_⟩
    obtain ⟨h1, s1, l⟩ := h.lock s e n nb n0 od
    exact ⟨_, h1, s1, l, .dt upd_same z (r.mono l)⟩
end

/-! ### the frame -/
abbrev Env := List (Option D)
abbrev Tg := List Bool
structure Sl (K : PySem.W.Frag) (τ : Tg) (ρ : Env) (g : Gh) (σ : L2.St) (H : Hp) : Prop where
  ln : ρ.length = σ.length
  frz : ∀ i d, ρ[i]? = some (some d) → τ.getD i false = false → ∃ v, σ[i]? = some (some v) ∧ Rp K g v d
  own : ∀ i d, ρ[i]? = some (some d) → τ.getD i false = true → ∃ a, σ[i]? = some (some (.ref a)) ∧ Ow K g H a d
  dis : ∀ (i j : Nat) (a : Addr) (d e : D), i ≠ j → τ.getD i false = true → τ.getD j false = true → ρ[i]? = some (some d) → ρ[j]? = some (some e) → σ[i]? = some (some (.ref a)) → σ[j]? = some (some (.ref a)) → False
section
variable {K : PySem.W.Frag} {τ : Tg} {ρ : Env} {g g' : Gh} {σ : L2.St} {H H' : Hp}
theorem Sl.step (l : Sl K τ ρ g σ H) (s : Step g H g' H') : Sl K τ ρ g' σ H' :=
  ⟨l.ln, fun i d e t => let ⟨v, h, r⟩ := l.frz i d e t; ⟨v, h, r.mono s.le⟩, fun i d e t => let ⟨a, h, o⟩ := l.own i d e t; ⟨a, h, o.step s⟩, l.dis⟩
theorem Sl.read (l : Sl K τ ρ g σ H) {i : Nat} {d : D} (e : ρ[i]? = some (some d)) : ∃ v, σ[i]? = some (some v) ∧ Bo K g H v d := by
  cases t : τ.getD i false with
  | false => obtain ⟨v, h, r⟩ := l.frz i d e t; exact ⟨v, h, .inl r⟩
  | true => obtain ⟨a, h, o⟩ := l.own i d e t; exact ⟨_, h, .inr ⟨a, rfl, o⟩⟩
theorem getD_set_self {i : Nat} {w : Bool} (h : i < τ.length) : (τ.set i w).getD i false = w := by
  simp [List.getD, h]
theorem getD_set_ne {i j : Nat} {w : Bool} (h : i ≠ j) : (τ.set i w).getD j false = τ.getD j false := by
  simp [List.getD, List.getElem?_set_ne h]
theorem getD_set_false {i j : Nat} (h : (τ.set i false).getD j false = true) : i ≠ j ∧ τ.getD j false = true := by
  by_cases e : i = j
  · subst e
    by_cases l : i < τ.length
    · rw [getD_set_self l] at h; cases h
    · simp [List.getD, l] at h
  · exact ⟨e, by rw [getD_set_ne e] at h; exact h⟩
/-- a slot is stored: a frozen value -/
theorem Sl.setF (l : Sl K τ ρ g σ H) {i : Nat} {v : V} {d : D} (r : Rp K g v d) : Sl K (τ.set i false) (ρ.set i (some d)) g (σ.set i (some v)) H := by
  refine ⟨by simpa using l.ln, fun j e h t => ?_, fun j e h t => ?_, fun j k a e f ne t1 t2 h1 h2 q1 q2 => ?_⟩
  · by_cases z : i = j
    · subst z
      by_cases hl : i < ρ.length
      · rw [List.getElem?_set_self hl] at h
        cases h
        exact ⟨v, by rw [List.getElem?_set_self (by rw [← l.ln]; exact hl)], r⟩
      · rw [List.getElem?_eq_none (by simpa using hl)] at h; cases h
    · rw [List.getElem?_set_ne z] at h
      rw [getD_set_ne z] at t
      obtain ⟨v', q, r'⟩ := l.frz j e h t
      exact ⟨v', by rw [List.getElem?_set_ne z]; exact q, r'⟩
  · obtain ⟨z, t⟩ := getD_set_false t
    rw [List.getElem?_set_ne z] at h
    obtain ⟨a, q, o⟩ := l.own j e h t
    exact ⟨a, by rw [List.getElem?_set_ne z]; exact q, o⟩
  · obtain ⟨z1, t1⟩ := getD_set_false t1
    obtain ⟨z2, t2⟩ := getD_set_false t2
    rw [List.getElem?_set_ne z1] at h1 q1
    rw [List.getElem?_set_ne z2] at h2 q2
    exact l.dis j k a e f ne t1 t2 h1 h2 q1 q2
/-- a slot is stored: a thing that is not frozen and stands in no other slot -/
theorem Sl.setO (l : Sl K τ ρ g σ H) {i : Nat} {a : Addr} {d : D} (hi : i < τ.length) (o : Ow K g H a d)
    (nw : ∀ j e, j ≠ i → τ.getD j false = true → ρ[j]? = some (some e) → σ[j]? ≠ some (some (.ref a))) : Sl K (τ.set i true) (ρ.set i (some d)) g (σ.set i (some (.ref a))) H := by
  have tn : ∀ {j b}, i ≠ j → (τ.set i true).getD j false = b → τ.getD j false = b := fun z h => by rw [getD_set_ne z] at h; exact h
  refine ⟨by simpa using l.ln, fun j e h t => ?_, fun j e h t => ?_, fun j k b e f ne t1 t2 h1 h2 q1 q2 => ?_⟩
  · by_cases z : i = j
    · subst z; rw [getD_set_self hi] at t; cases t
    · rw [List.getElem?_set_ne z] at h
      obtain ⟨v', q, r'⟩ := l.frz j e h (tn z t)
      exact ⟨v', by rw [List.getElem?_set_ne z]; exact q, r'⟩
  · by_cases z : i = j
    · subst z
      by_cases hl : i < ρ.length
      · rw [List.getElem?_set_self hl] at h
        cases h
        exact ⟨a, by rw [List.getElem?_set_self (by rw [← l.ln]; exact hl)], o⟩
      · rw [List.getElem?_eq_none (by simpa using hl)] at h; cases h
    · rw [List.getElem?_set_ne z] at h
      obtain ⟨a, q, o⟩ := l.own j e h (tn z t)
      exact ⟨a, by rw [List.getElem?_set_ne z]; exact q, o⟩
  · by_cases z1 : i = j
    · subst z1
      by_cases z2 : i = k
      · exact ne z2
      · rw [List.getElem?_set_ne z2] at h2 q2
        have hl : i < σ.length := by
          by_cases hl : i < σ.length
          · exact hl
          · rw [List.getElem?_eq_none (by simpa using hl)] at q1; cases q1
        rw [List.getElem?_set_self hl] at q1
        cases q1
        exact nw k f (Ne.symm z2) (tn z2 t2) h2 q2
    · by_cases z2 : i = k
      · subst z2
        rw [List.getElem?_set_ne z1] at h1 q1
        have hl : i < σ.length := by
          by_cases hl : i < σ.length
          · exact hl
          · rw [List.getElem?_eq_none (by simpa using hl)] at q2; cases q2
        rw [List.getElem?_set_self hl] at q2
        cases q2
        exact nw j e (Ne.symm z1) (tn z1 t1) h1 q1
      · rw [List.getElem?_set_ne z1] at h1 q1
        rw [List.getElem?_set_ne z2] at h2 q2
        exact l.dis j k b e f ne (tn z1 t1) (tn z2 t2) h1 h2 q1 q2
end
/-- slots forgotten -/
def fg (ρ : Env) : List Nat → Env
  | [] => ρ
  | i :: r => (fg ρ r).set i none
theorem fg_length (ρ : Env) : ∀ l, (fg ρ l).length = ρ.length
  | [] => rfl
  | i :: r => by unfold fg; rw [List.length_set, fg_length ρ r]
theorem fg_some {ρ : Env} {i : Nat} {d : D} : ∀ {l : List Nat}, (fg ρ l)[i]? = some (some d) → ρ[i]? = some (some d) ∧ i ∉ l
  | [], h => ⟨h, by simp⟩
  | v :: vs, h => by
    unfold fg at h
    by_cases hi : v = i
    · subst hi
      by_cases hv : v < (fg ρ vs).length
      · rw [List.getElem?_set_self hv] at h; cases h
      · rw [List.getElem?_eq_none (by simpa using hv)] at h; cases h
    · rw [List.getElem?_set_ne hi] at h
      obtain ⟨h1, h2⟩ := fg_some h
      exact ⟨h1, by simp only [List.mem_cons, not_or]; exact ⟨fun e => hi e.symm, h2⟩⟩
theorem wipe_at {σ : L2.St} {i : Nat} : ∀ {vs : List Nat}, i ∉ vs → (wipe σ vs)[i]? = σ[i]?
  | [], _ => rfl
  | v :: vs, h => by
    simp only [List.mem_cons, not_or] at h
    unfold wipe
    rw [List.getElem?_set_ne (Ne.symm h.1), wipe_at h.2]
theorem Sl.fg {K : PySem.W.Frag} {τ : Tg} {ρ : Env} {g : Gh} {σ : L2.St} {H : Hp} (l : Sl K τ ρ g σ H) (vs : List Nat) : Sl K τ (fg ρ vs) g σ H :=
  ⟨by rw [fg_length]; exact l.ln, fun i d e t => l.frz i d (fg_some e).1 t, fun i d e t => l.own i d (fg_some e).1 t, fun i j a d e ne t1 t2 h1 h2 => l.dis i j a d e ne t1 t2 (fg_some h1).1 (fg_some h2).1⟩
theorem Sl.wipe {K : PySem.W.Frag} {τ : Tg} {ρ : Env} {g : Gh} {σ : L2.St} {H : Hp} (l : Sl K τ ρ g σ H) (vs : List Nat) : Sl K τ (VS.fg ρ vs) g (L2.wipe σ vs) H :=
  ⟨by rw [fg_length, wipe_length]; exact l.ln, fun i d e t => by
    obtain ⟨e1, n⟩ := fg_some e
    rw [wipe_at n]; exact l.frz i d e1 t, fun i d e t => by
    obtain ⟨e1, n⟩ := fg_some e
    rw [wipe_at n]; exact l.own i d e1 t, fun i j a d e ne t1 t2 h1 h2 q1 q2 => by
    obtain ⟨e1, n1⟩ := fg_some h1
    obtain ⟨e2, n2⟩ := fg_some h2
    rw [wipe_at n1] at q1
    rw [wipe_at n2] at q2
    exact l.dis i j a d e ne t1 t2 e1 e2 q1 q2⟩
end VS
set_option Elab.async false
set_option linter.all false
set_option maxRecDepth 100000
/-! VS2: meanings; expressions, tests, arguments. -/
namespace VS
open PySem PySem.Spec PyProof.Rows L2
/-! ### the monad: the bag in hand; none: not covered -/
abbrev M (α : Type) := Wd → Option (α × Wd)
def ret {α : Type} (a : α) : M α := fun W => some (a, W)
def stuck {α : Type} : M α := fun _ => none
def bnd {α β : Type} (x : M α) (f : α → M β) : M β := fun W => match x W with
  | none => none
  | some p => f p.1 p.2
def ofO {α : Type} (o : Option α) : M α := fun W => match o with
  | none => none
  | some a => some (a, W)
theorem bnd_some {α β : Type} {x : M α} {f : α → M β} {W : Wd} {r : β × Wd} (h : bnd x f W = some r) : ∃ a W1, x W = some (a, W1) ∧ f a W1 = some r := by
  unfold bnd at h
  cases e : x W with
  | none => rw [e] at h; cases h
  | some p => rw [e] at h; exact ⟨p.1, p.2, rfl, h⟩
theorem ofO_some {α : Type} {o : Option α} {W W' : Wd} {a : α} (h : ofO o W = some (a, W')) : o = some a ∧ W' = W := by
  unfold ofO at h
  cases o with
  | none => cases h
  | some b => cases h; exact ⟨rfl, rfl⟩
theorem ret_some {α : Type} {a b : α} {W W' : Wd} (h : ret a W = some (b, W')) : b = a ∧ W' = W := by
  unfold ret at h; cases h; exact ⟨rfl, rfl⟩

/-! ### the judgements -/
def tV (K : PySem.W.Frag) (τ : Tg) (w : Bool) (f : Env → M D) : TE := fun σ H Q => ∃ ρ W g d W', Ht K g W H ∧ Sl K τ ρ g σ H ∧ f ρ W = some (d, W') ∧
  ∀ v H' g', Ht K g' W' H' → Step g H g' H' → Vo K H g' H' w v d → Q v H'
def tR (K : PySem.W.Frag) (τ : Tg) (f : Env → M D) : TE := fun σ H Q => ∃ ρ W g d W', Ht K g W H ∧ Sl K τ ρ g σ H ∧ f ρ W = some (d, W') ∧
  ∀ v H' g', Ht K g' W' H' → Step g H g' H' → Bo K g' H' v d → Q v H'
def tT (K : PySem.W.Frag) (τ : Tg) (f : Env → M Bool) : TT := fun σ H Q => ∃ ρ W g b W', Ht K g W H ∧ Sl K τ ρ g σ H ∧ f ρ W = some (b, W') ∧
  ∀ H' g', Ht K g' W' H' → Step g H g' H' → Q b H'
def tA (K : PySem.W.Frag) (τ : Tg) (f : Env → M (List D)) : TA := fun σ H Q => ∃ ρ W g ds W', Ht K g W H ∧ Sl K τ ρ g σ H ∧ f ρ W = some (ds, W') ∧
  ∀ vs H' g', Ht K g' W' H' → Step g H g' H' → Rps K g' vs ds → Q vs H'
/-- arguments for reading alone -/
inductive Bos (K : PySem.W.Frag) (g : Gh) (H : Hp) : List V → List D → Prop
  | nil : Bos K g H [] []
  | cons {v : V} {vs : List V} {d : D} {ds : List D} : Bo K g H v d → Bos K g H vs ds → Bos K g H (v :: vs) (d :: ds)
def tAR (K : PySem.W.Frag) (τ : Tg) (f : Env → M (List D)) : TA := fun σ H Q => ∃ ρ W g ds W', Ht K g W H ∧ Sl K τ ρ g σ H ∧ f ρ W = some (ds, W') ∧
  ∀ vs H' g', Ht K g' W' H' → Step g H g' H' → Bos K g' H' vs ds → Q vs H'
abbrev FV (X : Cx) (τ : Tg) (w : Bool) (e : Expr) (f : Env → M D) : Prop := PE X e (tV X.K τ w f)
abbrev FR (X : Cx) (τ : Tg) (e : Expr) (f : Env → M D) : Prop := PE X e (tR X.K τ f)
abbrev FT (X : Cx) (τ : Tg) (e : Expr) (f : Env → M Bool) : Prop := PT X e (tT X.K τ f)
abbrev FW (X : Cx) (τ : Tg) (e : Expr) (f : Env → M Bool) : Prop := PW X e (tT X.K τ f)
abbrev FA (X : Cx) (τ : Tg) (es : List Expr) (f : Env → M (List D)) : Prop := PA X es (tA X.K τ f)
abbrev FAR (X : Cx) (τ : Tg) (es : List Expr) (f : Env → M (List D)) : Prop := PA X es (tAR X.K τ f)

theorem PE.wk {X : Cx} {e : Expr} {t t' : TE} (h : PE X e t) (i : ∀ σ H Q, t' σ H Q → t σ H Q) : PE X e t' := ⟨fun pins s σ H Q I q => h.run pins s σ H Q I (i _ _ _ q)⟩
theorem PT.wk {X : Cx} {e : Expr} {t t' : TT} (h : PT X e t) (i : ∀ σ H Q, t' σ H Q → t σ H Q) : PT X e t' := ⟨fun pins s σ H Q I q => h.run pins s σ H Q I (i _ _ _ q)⟩
theorem PW.wk {X : Cx} {e : Expr} {t t' : TT} (h : PW X e t) (i : ∀ σ H Q, t' σ H Q → t σ H Q) : PW X e t' := ⟨fun wh pins s σ H Q I q => h.run wh pins s σ H Q I (i _ _ _ q)⟩
theorem PA.wk {X : Cx} {e : List Expr} {t t' : TA} (h : PA X e t) (i : ∀ σ H Q, t' σ H Q → t σ H Q) : PA X e t' := ⟨fun pos pins s σ H Q I q => h.run pos pins s σ H Q I (i _ _ _ q)⟩
theorem PS.wk {X : Cx} {e : Stmt} {t t' : TS} (h : PS X e t) (i : ∀ D σ H, t' D σ H → t D σ H) : PS X e t' := ⟨fun pins s σ H D I q => h.run pins s σ H D I (i _ _ _ q)⟩
theorem PSs.wk {X : Cx} {e : List Stmt} {t t' : TS} (h : PSs X e t) (i : ∀ D σ H, t' D σ H → t D σ H) : PSs X e t' := ⟨fun pins s σ H D I q => h.run pins s σ H D I (i _ _ _ q)⟩
theorem PI.wk {X : Cx} {tg e : Expr} {t t' : TI} (h : PI X tg e t) (i : ∀ σ H Q, t' σ H Q → t σ H Q) : PI X tg e t' := ⟨fun pins s σ H Q I q => h.run pins s σ H Q I (i _ _ _ q)⟩

section
variable {X : Cx} {τ : Tg} {w : Bool} {a b c e : Expr} {es : List Expr} {pos : Pos} {f fa fb fc : Env → M D}
/-! ### from one judgement to another -/
theorem Inv.lk {pins : List (Addr × Obj)} {σ : L2.St} {H : Hp} {s : Shared} {Q : Hp → Prop} (I : Inv X pins σ H s) (h : Lk Q H) : ∃ H', Inv X pins σ H' s ∧ Q H' := by
  rcases h with h | ⟨d, u, hd, mu, h⟩
  · exact ⟨H, I, h⟩
  · obtain ⟨od, I1⟩ := L2.Inv.lock I hd mu
    exact ⟨_, I1, h od⟩
theorem pe_lk {t : TE} (h : PE X e t) : PE X e (fun σ H Q => t σ H fun v H1 => Lk (Q v) H1) := ⟨fun pins s σ H Q I q => thn (h.run pins s σ H _ I q) fun u s1 ⟨v, H1, I1, r, q1⟩ => by
  obtain ⟨H2, I2, q2⟩ := Inv.lk I1 q1
  exact ⟨v, H2, I2, r, q2⟩⟩
theorem pss_lk {sts : List Stmt} {t : TS} (h : PSs X sts t) : PSs X sts (fun Dn σ H => Lk (t Dn σ) H) := ⟨fun pins s σ H Dn I q => by
  obtain ⟨H2, I2, q2⟩ := Inv.lk I q
  exact h.run pins s σ H2 Dn I2 q2⟩
theorem ps_lk {st : Stmt} {t : TS} (h : PS X st t) : PS X st (fun Dn σ H => Lk (t Dn σ) H) := ⟨fun pins s σ H Dn I q => by
  obtain ⟨H2, I2, q2⟩ := Inv.lk I q
  exact h.run pins s σ H2 Dn I2 q2⟩
theorem ps_lkE {st : Stmt} {t : TS} (h : PS X st t) : PS X st (fun Dn σ H => t { Dn with nx := fun σ' H' => Lk (Dn.nx σ') H' } σ H) := ⟨fun pins s σ H Dn I q => thn (h.run pins s σ H _ I q) fun f s1 q1 => by
  cases f with
  | next =>
    obtain ⟨σ', H', I1, q2⟩ := q1
    obtain ⟨H2, I2, q2⟩ := Inv.lk I1 q2
    exact ⟨σ', H2, I2, q2⟩
  | brk => exact q1
  | cont => exact q1
  | ret v => exact q1⟩
theorem v_frz (h : FV X τ true e f) : FV X τ false e f := PE.wk (pe_lk h) fun σ H Q ⟨ρ, W, g, d, W', ht, sl, ef, q⟩ =>
  ⟨ρ, W, g, d, W', ht, sl, ef, fun v H' g' ht' s o => by
    rcases o.frz ht' s with ⟨g2, h2, s2, l, r⟩ | ⟨p, u, hp, mu, k⟩
    · exact .inl (q v H' g2 h2 s2 r)
    · refine .inr ⟨p, u, hp, mu, fun od => ?_⟩
      obtain ⟨g2, h2, s2, l, r⟩ := k od
      exact q v _ g2 h2 s2 r⟩
theorem r_v (h : FV X τ w e f) : FR X τ e f := PE.wk h fun σ H Q ⟨ρ, W, g, d, W', ht, sl, ef, q⟩ =>
  ⟨ρ, W, g, d, W', ht, sl, ef, fun v H' g' ht' s o => q v H' g' ht' s o.bo⟩
/-- a name's value -/
def rd (i : Nat) : Env → M D := fun ρ => ofO (ρ[i]?).join
theorem rd_some {i : Nat} {ρ : Env} {W W' : Wd} {d : D} (h : rd i ρ W = some (d, W')) : ρ[i]? = some (some d) ∧ W' = W := by
  obtain ⟨h1, h2⟩ := ofO_some h
  refine ⟨?_, h2⟩
  cases e : ρ[i]? with
  | none => rw [e] at h1; cases h1
  | some o => rw [e] at h1; have h1 : o = some d := h1; rw [h1]
theorem r_var {i : Nat} {x : Str} (hN : X.N[i]? = some x := by rfl) (hv : Vis X.env.scope x := by first | exact Or.inl rfl | exact Or.inr (Or.inl rfl) | exact Or.inr (Or.inr rfl)) (hd : (x == ("__debug__" : Str)) = false := by decide)
    (hcd : (x == ("__classdict__" : Str)) = false := by decide) : FR X τ (.Name x pos) (rd i) := PE.wk (pe_var hN hv hd hcd) fun σ H Q ⟨ρ, W, g, d, W', ht, sl, ef, q⟩ => by
  obtain ⟨e1, rfl⟩ := rd_some ef
  obtain ⟨v, e2, o⟩ := sl.read e1
  exact ⟨v, e2, q v H g ht (.refl _ _) o⟩
theorem v_var (i : Nat) {x : Str} (hτ : τ.getD i false = false := by rfl) (hN : X.N[i]? = some x := by rfl) (hv : Vis X.env.scope x := by first | exact Or.inl rfl | exact Or.inr (Or.inl rfl) | exact Or.inr (Or.inr rfl)) (hd : (x == ("__debug__" : Str)) = false := by decide)
    (hcd : (x == ("__classdict__" : Str)) = false := by decide) : FV X τ false (.Name x pos) (rd i) := PE.wk (pe_var hN hv hd hcd) fun σ H Q ⟨ρ, W, g, d, W', ht, sl, ef, q⟩ => by
  obtain ⟨e1, rfl⟩ := rd_some ef
  obtain ⟨v, e2, o⟩ := sl.frz i d e1 hτ
  exact ⟨v, e2, q v H g ht (.refl _ _) o⟩
/-! ### constants -/
def kst (d : D) : Env → M D := fun _ => ret d
theorem v_k {v : V} {d : D} (h : PE X e (tC v)) (r : ∀ g, Rp X.K g v d) : FV X τ false e (kst d) := PE.wk h fun σ H Q ⟨ρ, W, g, d', W', ht, sl, ef, q⟩ => by
  obtain ⟨e1, rfl⟩ := ret_some ef
  subst e1
  exact q v H g ht (.refl _ _) (r g)
theorem v_int {i : Int} {j} : FV X τ false (.Constant (.int i) j pos) (kst (.int i)) := v_k pe_int fun _ => .int i
theorem v_bl {i : Bool} {j} : FV X τ false (.Constant (.bool i) j pos) (kst (.bl i)) := v_k pe_bl fun _ => .bl i
theorem v_non {j} : FV X τ false (.Constant .none j pos) (kst .non) := v_k pe_non fun _ => .non
theorem v_str {x : Str} {j} : FV X τ false (.Constant (.str x) j pos) (kst (.str x)) := v_k pe_str fun _ => .str x
/-- a module's int, text .. -/
theorem v_glob {x : Str} {v : V} {d : D} {u : Value} (hg : Gl X x) (hm : X.mg x = some u) (r : RelV v u) (rp : ∀ g, Rp X.K g v d) (hd : (x == ("__debug__" : Str)) = false := by decide) : FV X τ false (.Name x pos) (kst d) := v_k (pe_glob hg hm r hd) rp

/-! ### operators -/
/-- what a rule on values says of data -/
def rS (K : PySem.W.Frag) (w : Bool) (op : D → D → Option D) : R2 := fun x y H Q => ∃ g W da db d, Ht K g W H ∧ Bo K g H x da ∧ Bo K g H y db ∧ op da db = some d ∧
  ∀ z H' g', Ht K g' W H' → Step g H g' H' → Vo K H g' H' w z d → Q z H'
def op2 (op : D → D → Option D) (fa fb : Env → M D) : Env → M D := fun ρ => bnd (fa ρ) fun x => bnd (fb ρ) fun y => ofO (op x y)
theorem two {K : PySem.W.Frag} {op : D → D → Option D} {σ : L2.St} {H : Hp} {Q : VK} (h : tV K τ w (op2 op fa fb) σ H Q) : tOp (rS K w op) (tR K τ fa) (tR K τ fb) σ H Q := by
  obtain ⟨ρ, W, g, d, W', ht, sl, ef, q⟩ := h
  obtain ⟨da, W1, ea, ef⟩ := bnd_some ef
  obtain ⟨db, W2, eb, ef⟩ := bnd_some ef
  obtain ⟨eo, rfl⟩ := ofO_some ef
  refine ⟨ρ, W, g, da, W1, ht, sl, ea, fun x H1 g1 h1 s1 o1 => ⟨ρ, W1, g1, db, W', h1, sl.step s1, eb, fun y H2 g2 h2 s2 o2 => ?_⟩⟩
  refine ⟨g2, W', da, db, d, h2, o1.step s2, o2, eo, fun z H3 g3 h3 s3 o3 => q z H3 g3 h3 ((s1.trans s2 h1).trans s3 h2) ?_⟩
  cases w with
  | false => exact o3
  | true =>
    obtain ⟨p, e, n, o⟩ := o3
    refine ⟨p, e, ?_, o⟩
    cases ep : H p with
    | none => rfl
    | some x =>
      exfalso
      have st := s1.trans s2 h1
      by_cases hb : g.bagA p
      · obtain ⟨b, hb, eb⟩ := hb
        obtain ⟨w, _, e1, e2, _⟩ := h2.bS b (st.le.bb b hb)
        rcases eb with eb | eb
        · rw [eb, e1] at n; cases n
        · rw [eb, e2] at n; cases n
      · rw [st.kp _ _ ep hb] at n; cases n
theorem v_op {op : Operator} {o : D → D → Option D} (ho : OpR X (binaryOp op) (rS X.K w o)) (ha : FR X τ a fa) (hb : FR X τ b fb) : FV X τ w (.BinOp a op b pos) (op2 o fa fb) := PE.wk (pe_op ho ha hb) fun _ _ _ h => two h
theorem v_cmp {op : CmpOp} {o : D → D → Option D} (ho : OpR X (compareOp op) (rS X.K false o)) (ha : FR X τ a fa) (hb : FR X τ b fb) (hm : behindInMarks op b = false) : FV X τ false (.Compare a [op] [b] pos) (op2 o fa fb) := PE.wk (pe_cmpR ho ha hb hm) fun _ _ _ h => two h
/-- a rule that hands on a frozen value and leaves the heap -/
theorem opS {fn : Value → Value → Sem Value} {r : R2} {o : D → D → Option D} (h : OpR X fn r)
    (i : ∀ {g W H x y da db d}, Ht X.K g W H → Bo X.K g H x da → Bo X.K g H y db → o da db = some d → ∃ z, Rp X.K g z d ∧ ∀ Q : VK, Q z H → r x y H Q) : OpR X fn (rS X.K false o) := by
  intro pins s σ H x y v u Q I rx ry ⟨g, W, da, db, d, ht, bx, by_, e, q⟩
  obtain ⟨z, rz, k⟩ := i ht bx by_ e
  exact h pins s σ H x y v u Q I rx ry (k Q (q z H g ht (.refl _ _) rz))
def intOp (p : Int → Int → Option D) : D → D → Option D
  | .int i, .int j => p i j
  | _, _ => none
theorem intOp_some {p : Int → Int → Option D} {x y d : D} (h : intOp p x y = some d) : ∃ i j, x = .int i ∧ y = .int j ∧ p i j = some d := by
  cases x <;> cases y <;> first | exact ⟨_, _, rfl, rfl, h⟩ | cases h
def okMul (i j : Int) : Bool := decide (Builtin.Int.intBits i + Builtin.Int.intBits j ≤ 100000000)
def subD : D → D → Option D := intOp fun i j => some (.int (i - j))
def fdivD : D → D → Option D := intOp fun i j => if 0 < j ∧ j.natAbs.log2 < 9000 then some (.int (i / j)) else if j ≠ 0 ∧ j.natAbs < 1073741824 then some (.int (i.fdiv j)) else none
def modD : D → D → Option D := intOp fun i j => if 0 < j then some (.int (i % j)) else if j ≠ 0 then some (.int (i.fmod j)) else none
def powD : D → D → Option D := intOp fun i j => if 0 ≤ j ∧ (Builtin.Int.intBits i : Int) * j ≤ 100000000 then some (.int (i ^ j.toNat)) else none
def addD : D → D → Option D
  | .int i, .int j => some (.int (i + j))
  | .str x, .str y => if x.length + y.length ≤ 16777216 then some (.str (x ++ y)) else none
  | .tup xs, .tup ys => if xs ≠ [] ∧ xs.length + ys.length ≤ 16777216 then some (.tup (xs ++ ys)) else none
  | .lst xs, .lst ys => if xs.length + ys.length ≤ 16777216 then some (.lst (xs ++ ys)) else none
  | _, _ => none
def mulD : D → D → Option D
  | .int i, .int j => if okMul i j then some (.int (i * j)) else none
  | .lst xs, .int k => if k < 2 ^ 62 ∧ xs.length * k.toNat ≤ 16777216 ∧ -(2 ^ 62) ≤ k then some (.lst (List.replicate k.toNat xs).flatten) else none
  | _, _ => none
theorem line_eq : (sizeLine : Nat) = 16777216 := sizeLine_eq
theorem opS_int {fn : Value → Value → Sem Value} {p : Int → Int → Option D} {C : Int → Int → Prop} {gg : Int → Int → V} (h : OpR X fn (rI C gg))
    (i : ∀ {i j d}, p i j = some d → C i j ∧ ∀ g, Rp X.K g (gg i j) d) : OpR X fn (rS X.K false (intOp p)) := opS h fun {g W H x y da db d} ht bx by_ e => by
  obtain ⟨i1, j1, rfl, rfl, e⟩ := intOp_some e
  obtain ⟨c, r⟩ := i e
  exact ⟨_, r g, fun Q q => ⟨i1, j1, bx.intT, by_.intT, c, q⟩⟩
theorem opS_int0 {fn : Value → Value → Sem Value} {p : Int → Int → Option D} {gg : Int → Int → V} (h : OpR X fn (rI0 gg))
    (i : ∀ {i j d}, p i j = some d → ∀ g, Rp X.K g (gg i j) d) : OpR X fn (rS X.K false (intOp p)) := opS h fun {g W H x y da db d} ht bx by_ e => by
  obtain ⟨i1, j1, rfl, rfl, e⟩ := intOp_some e
  exact ⟨_, i e g, fun Q q => ⟨i1, j1, bx.intT, by_.intT, q⟩⟩
theorem o_sub : OpR X (binaryOp .Sub) (rS X.K false subD) := opS_int0 op_sub fun e g => by cases e; exact .int _
theorem o_fdiv : OpR X (binaryOp .FloorDiv) (rS X.K false fdivD) := by
  intro pins s σ H x y v u Q I rx ry ⟨g, W, da, db, d, ht, bx, by_, e, q⟩
  obtain ⟨i, j, rfl, rfl, e'⟩ := intOp_some e
  clear e
  split at e'
  · rename_i c
    cases e'
    exact op_fdivW pins s σ H x y v u Q I rx ry ⟨i, j, bx.intT, by_.intT, c, q _ H g ht (.refl _ _) (.int _)⟩
  · split at e'
    · rename_i c
      cases e'
      exact op_fdivN pins s σ H x y v u Q I rx ry ⟨i, j, bx.intT, by_.intT, c, q _ H g ht (.refl _ _) (.int _)⟩
    · cases e'
theorem o_mod : OpR X (binaryOp .Mod) (rS X.K false modD) := by
  intro pins s σ H x y v u Q I rx ry ⟨g, W, da, db, d, ht, bx, by_, e, q⟩
  obtain ⟨i, j, rfl, rfl, e'⟩ := intOp_some e
  clear e
  split at e'
  · rename_i c
    cases e'
    exact op_mod pins s σ H x y v u Q I rx ry ⟨i, j, bx.intT, by_.intT, c, q _ H g ht (.refl _ _) (.int _)⟩
  · split at e'
    · rename_i c
      cases e'
      exact op_modN pins s σ H x y v u Q I rx ry ⟨i, j, bx.intT, by_.intT, c, q _ H g ht (.refl _ _) (.int _)⟩
    · cases e'
theorem op_powW : OpR X (binaryOp .Pow) (rI (fun i j => 0 ≤ j ∧ (Builtin.Int.intBits i : Int) * j ≤ 2 ^ 27) fun i j => .int (i ^ j.toNat)) := opI fun _ _ _ _ _ _ _ hc q => pow_int hc.1 hc.2 q
theorem o_pow : OpR X (binaryOp .Pow) (rS X.K false powD) := opS_int op_powW fun {i j d} e => by
  split at e
  · rename_i c
    cases e
    have p : (2 : Int) ^ 27 = 134217728 := by decide
    exact ⟨⟨c.1, by rw [p]; omega⟩, fun g => .int _⟩
  · cases e
theorem okMul_ok {i j : Int} (h : okMul i j = true) : IntMulOk i j := by
  have h := of_decide_eq_true h
  have e : bitsLine = 134217728 := by decide
  unfold IntMulOk
  intro z
  rw [Bool.and_eq_true] at z
  have z2 := z.2
  unfold Builtin.Int.intTooBig at z2
  have z3 := of_decide_eq_true z2
  rw [e] at z3
  omega
theorem op_mulX : OpR X (binaryOp .Mult) (rI (fun i j => okMul i j = true) fun i j => .int (i * j)) := opI fun _ _ _ _ _ _ _ hc q => mul_int q (okMul_ok hc)
/-- a new list, frozen at once or not -/
theorem newL {K : PySem.W.Frag} {w : Bool} {g : Gh} {W : Wd} {H : Hp} {ds : List D} {xs : List V} {Q : VK} (ht : Ht K g W H) (r : Rps K g xs ds) (q : ∀ z H' g', Ht K g' W H' → Step g H g' H' → Vo K H g' H' w z (.lst ds) → Q z H') :
    ∀ p, H p = none → Q (.ref p) (upd H p (.lst xs)) := fun p n => by
  cases w with
  | false => exact q _ _ _ (ht.newF n).1 (ht.newF n).2 (.lst upd_same (r.mono (ht.newF (o := .lst xs) n).2.le))
  | true => exact q _ _ _ (ht.new n).1 (ht.new n).2 ⟨p, rfl, n, .lst (ht.gnone n) (ht.bne n) upd_same r⟩
theorem newT {K : PySem.W.Frag} {g : Gh} {W : Wd} {H : Hp} {ds : List D} {xs : List V} {Q : VK} (ht : Ht K g W H) (r : Rps K g xs ds) (q : ∀ z H' g', Ht K g' W H' → Step g H g' H' → Vo K H g' H' false z (.tup ds) → Q z H') :
    ∀ p, H p = none → Q (.ref p) (upd H p (.tup xs)) := fun p n => q _ _ _ (ht.newF n).1 (ht.newF n).2 (.tup upd_same (r.mono (ht.newF (o := .tup xs) n).2.le))
theorem o_add : OpR X (binaryOp .Add) (rS X.K false addD) := by
  intro pins s σ H x y v u Q I rx ry ⟨g, W, da, db, d, ht, bx, by_, e, q⟩
  unfold addD at e
  split at e
  · cases e
    exact op_add pins s σ H x y v u Q I rx ry ⟨_, _, bx.intT, by_.intT, q _ H g ht (.refl _ _) (.int _)⟩
  · split at e
    · rename_i c
      cases e
      exact op_add_str pins s σ H x y v u Q I rx ry ⟨_, _, bx.strT, by_.strT, by rw [line_eq]; exact c, q _ H g ht (.refl _ _) (.str _)⟩
    · cases e
  · split at e
    · rename_i c
      cases e
      obtain ⟨p, xs, rfl, h1, r1⟩ := bx.tupT ht
      obtain ⟨p2, ys, rfl, h2, r2⟩ := by_.tupT ht
      refine op_catT pins s σ H _ _ v u Q I rx ry ⟨p, p2, xs, ys, rfl, rfl, h1, h2, fun z => c.1 ?_, by rw [line_eq, r1.length, r2.length]; exact c.2, fun z => ?_, fun z => newT ht (r1.append r2) q⟩
      · have := r1.length; rw [z] at this; exact List.length_eq_zero_iff.mp this.symm
      · rename_i xs' ys'
        have e2 : ys' = [] := by have := r2.length; rw [z] at this; exact List.length_eq_zero_iff.mp this.symm
        subst e2
        refine q _ H g ht (.refl _ _) ?_
        rw [List.append_nil]
        rcases bx with o | ⟨a, ev, _, _, x, eh, hb⟩
        · exact o
        · cases hb
    · cases e
  · split at e
    · rename_i c
      cases e
      obtain ⟨p, xs, rfl, h1, r1⟩ := bx.lstT ht
      obtain ⟨p2, ys, rfl, h2, r2⟩ := by_.lstT ht
      exact op_cat pins s σ H _ _ v u Q I rx ry ⟨p, p2, xs, ys, rfl, rfl, h1, h2, by rw [line_eq, r1.length, r2.length]; exact c, newL (w := false) ht (r1.append r2) q⟩
    · cases e
  · cases e
def catD : D → D → Option D
  | .lst xs, .lst ys => if xs.length + ys.length ≤ 16777216 then some (.lst (xs ++ ys)) else none
  | _, _ => none
theorem o_cat : OpR X (binaryOp .Add) (rS X.K true catD) := by
  intro pins s σ H x y v u Q I rx ry ⟨g, W, da, db, d, ht, bx, by_, e, q⟩
  unfold catD at e
  split at e
  · split at e
    · rename_i c
      cases e
      obtain ⟨p, xs, rfl, h1, r1⟩ := bx.lstT ht
      obtain ⟨p2, ys, rfl, h2, r2⟩ := by_.lstT ht
      exact op_cat pins s σ H _ _ v u Q I rx ry ⟨p, p2, xs, ys, rfl, rfl, h1, h2, by rw [line_eq, r1.length, r2.length]; exact c, newL (w := true) ht (r1.append r2) q⟩
    · cases e
  · cases e
theorem o_mul : OpR X (binaryOp .Mult) (rS X.K false mulD) := by
  intro pins s σ H x y v u Q I rx ry ⟨g, W, da, db, d, ht, bx, by_, e, q⟩
  unfold mulD at e
  split at e
  · split at e
    · rename_i c
      cases e
      exact op_mulX pins s σ H x y v u Q I rx ry ⟨_, _, bx.intT, by_.intT, c, q _ H g ht (.refl _ _) (.int _)⟩
    · cases e
  · split at e
    · rename_i c
      cases e
      obtain ⟨p, xs, rfl, h1, r1⟩ := bx.lstT ht
      refine op_rep pins s σ H _ _ v u Q I rx ry ⟨p, _, xs, rfl, by_.intT, h1, ?_, ?_, by rw [line_eq, r1.length]; exact c.2.1, newL (w := false) ht (r1.rep _) q⟩
      · have := c.2.2; have e1 : (2 : Int) ^ 62 = 4611686018427387904 := by decide
        have e2 : (2 : Int) ^ 63 = 9223372036854775808 := by decide
        rw [e1] at this; rw [e2]; omega
      · have := c.1; have e1 : (2 : Int) ^ 62 = 4611686018427387904 := by decide
        have e2 : (2 : Int) ^ 63 = 9223372036854775808 := by decide
        rw [e1] at this; rw [e2]; omega
    · cases e
  · cases e
def repD : D → D → Option D
  | .lst xs, .int k => if k < 2 ^ 62 ∧ xs.length * k.toNat ≤ 16777216 ∧ -(2 ^ 62) ≤ k then some (.lst (List.replicate k.toNat xs).flatten) else none
  | _, _ => none
theorem o_rep : OpR X (binaryOp .Mult) (rS X.K true repD) := by
  intro pins s σ H x y v u Q I rx ry ⟨g, W, da, db, d, ht, bx, by_, e, q⟩
  unfold repD at e
  split at e
  · split at e
    · rename_i c
      cases e
      obtain ⟨p, xs, rfl, h1, r1⟩ := bx.lstT ht
      refine op_rep pins s σ H _ _ v u Q I rx ry ⟨p, _, xs, rfl, by_.intT, h1, ?_, ?_, by rw [line_eq, r1.length]; exact c.2.1, newL (w := true) ht (r1.rep _) q⟩
      · have := c.2.2; have e1 : (2 : Int) ^ 62 = 4611686018427387904 := by decide
        have e2 : (2 : Int) ^ 63 = 9223372036854775808 := by decide
        rw [e1] at this; rw [e2]; omega
      · have := c.1; have e1 : (2 : Int) ^ 62 = 4611686018427387904 := by decide
        have e2 : (2 : Int) ^ 63 = 9223372036854775808 := by decide
        rw [e1] at this; rw [e2]; omega
    · cases e
  · cases e
/-! ### comparisons -/
def ordD (p : Int → Int → Bool) : D → D → Option D := intOp fun i j => some (.bl (p i j))
theorem o_le : OpR X (compareOp .LtE) (rS X.K false (ordD fun i j => decide (i ≤ j))) := opS_int0 op_le fun e g => by cases e; exact .bl _
theorem o_gt : OpR X (compareOp .Gt) (rS X.K false (ordD fun i j => decide (j < i))) := opS_int0 op_gt fun e g => by cases e; exact .bl _
theorem o_ge : OpR X (compareOp .GtE) (rS X.K false (ordD fun i j => decide (j ≤ i))) := opS_int0 op_ge fun e g => by cases e; exact .bl _
theorem o_lt : OpR X (compareOp .Lt) (rS X.K false (ordD fun i j => decide (i < j))) := opS_int0 op_lt fun e g => by cases e; exact .bl _
mutual
def pd : D → PyData
  | .non => .none
  | .bl b => .bool b
  | .int i => .int i
  | .str x => .str x
  | .tup ds => .tuple (pds ds)
  | .lst ds => .list (pds ds)
  | .scr ns => .list (ns.map .int)
  | .bag => .none
  | .dk _ _ => .none
  | .dt _ _ => .none
  | .fn _ => .none
def pds : List D → List PyData
  | [] => []
  | d :: r => pd d :: pds r
end
mutual
def noBag : D → Bool
  | .bag => false
  | .dk _ _ => false
  | .dt _ _ => false
  | .fn _ => false
  | .tup ds => noBags ds
  | .lst ds => noBags ds
  | _ => true
def noBags : List D → Bool
  | [] => true
  | d :: r => noBag d && noBags r
end
mutual
theorem Rp.dp {K : PySem.W.Frag} {g : Gh} {H : Hp} (hs : Same g.G H) : ∀ {v : V} {d : D}, Rp K g v d → noBag d = true → Dp K H v (pd d)
  | _, _, .non, _ => .non
  | _, _, .bl b, _ => .bl b
  | _, _, .int i, _ => .int i
  | _, _, .str x, _ => .str x
  | _, _, .tup h r, n => by
    unfold pd; exact .tup (.of (hs _ _ h)) (Rps.dp hs r (by unfold noBag at n; exact n))
  | _, _, .lst h r, n => by
    unfold pd; exact .lst (.of (hs _ _ h)) (Rps.dp hs r (by unfold noBag at n; exact n))
  | _, _, .scr (ns := ns) h, _ => by
    unfold pd; exact .lst (hs.seq h) (ints_dp ns)
  | _, _, .bag _, n => by unfold noBag at n; cases n
  | _, _, .dk _ _ _, n => by unfold noBag at n; cases n
  | _, _, .dt _ _ _, n => by unfold noBag at n; cases n
  | _, _, .fn _, n => by unfold noBag at n; cases n
theorem Rps.dp {K : PySem.W.Frag} {g : Gh} {H : Hp} (hs : Same g.G H) : ∀ {vs : List V} {ds : List D}, Rps K g vs ds → noBags ds = true → DpAll K H vs (pds ds)
  | _, _, .nil, _ => by unfold pds; exact .nil
  | _, _, .cons h r, n => by
    unfold noBags at n
    rw [Bool.and_eq_true] at n
    unfold pds
    exact .cons (Rp.dp hs h n.1) (Rps.dp hs r n.2)
theorem ints_dp {K : PySem.W.Frag} {H : Hp} : ∀ ns : List Int, DpAll K H (ns.map V.int) (ns.map PyData.int)
  | [] => .nil
  | n :: r => .cons (.int n) (ints_dp r)
end
theorem Bo.dp {K : PySem.W.Frag} {g : Gh} {W : Wd} {H : Hp} {v : V} {d : D} (h : Ht K g W H) (o : Bo K g H v d) (n : noBag d = true) : Dp K H v (pd d) := by
  rcases o with o | ⟨a, rfl, _, _, x, e, hb⟩
  · exact o.dp h.sub n
  · cases hb with
    | lst r => unfold pd; exact .lst (.of e) (r.dp h.sub (by unfold noBag at n; exact n))
    | dk _ _ => unfold noBag at n; cases n
    | dt _ _ => unfold noBag at n; cases n
def okE (d : D) : Bool := noBag d && SeqAt.shaped (pd d)
def eqO (x y : D) : Option D := if okE x && okE y then some (.bl (PyData.eqv (pd x) (pd y))) else none
def neO (x y : D) : Option D := if okE x && okE y then some (.bl (!PyData.eqv (pd x) (pd y))) else none
theorem okE_of {d : D} (h : okE d = true) : noBag d = true ∧ SeqAt.shaped (pd d) = true := by unfold okE at h; rwa [Bool.and_eq_true] at h
theorem o_eq (hu : X.A.units + 64 < cLine) : OpR X (compareOp .Eq) (rS X.K false eqO) := opS (op_eqD hu) fun {g W H x y da db d} ht bx by_ e => by
  unfold eqO at e
  split at e
  · rename_i c
    rw [Bool.and_eq_true] at c
    cases e
    exact ⟨_, .bl _, fun Q q => ⟨_, _, bx.dp ht (okE_of c.1).1, by_.dp ht (okE_of c.2).1, (okE_of c.1).2, (okE_of c.2).2, q⟩⟩
  · cases e
theorem o_ne (hu : X.A.units + 64 < cLine) : OpR X (compareOp .NotEq) (rS X.K false neO) := opS (op_neD hu) fun {g W H x y da db d} ht bx by_ e => by
  unfold neO at e
  split at e
  · rename_i c
    rw [Bool.and_eq_true] at c
    cases e
    exact ⟨_, .bl _, fun Q q => ⟨_, _, bx.dp ht (okE_of c.1).1, by_.dp ht (okE_of c.2).1, (okE_of c.1).2, (okE_of c.2).2, q⟩⟩
  · cases e
end
end VS
set_option Elab.async false
set_option linter.all false
set_option maxRecDepth 100000
/-! VS3: tests, displays, calls. -/
namespace VS
open PySem PySem.Spec PyProof.Rows L2
section
variable {X : Cx} {τ : Tg} {w : Bool} {a b c e : Expr} {es rest : List Expr} {pos : Pos} {f fa fb fc : Env → M D} {ga gb gc : Env → M Bool} {fs : Env → M (List D)}
/-! ### tests -/
def asB (m : M D) : M Bool := bnd m fun d => match d with
  | .bl k => ret k
  | _ => stuck
theorem asB_some {m : M D} {W W' : Wd} {k : Bool} (h : asB m W = some (k, W')) : m W = some (.bl k, W') := by
  obtain ⟨d, W1, e, h⟩ := bnd_some h
  cases d with
  | bl j => cases h; exact e
  | _ => cases h
/-- a value that is a bool, behind its rule -/
theorem tt_of {t : TE} (h : PT X e (tTest t)) (i : ∀ σ H Q, tV X.K τ false f σ H Q → t σ H Q) : FT X τ e (fun ρ => asB (f ρ)) := PT.wk h fun σ H Q ⟨ρ, W, g, k, W', ht, sl, ef, q⟩ =>
  i σ H _ ⟨ρ, W, g, .bl k, W', ht, sl, asB_some ef, fun v H' g' h' s r => by
    cases r
    exact ⟨k, rfl, q H' g' h' s⟩⟩
theorem t_cmp {op : CmpOp} {o : D → D → Option D} (ho : OpR X (compareOp op) (rS X.K false o)) (ha : FR X τ a fa) (hb : FR X τ b fb) (hm : behindInMarks op b = false) : FT X τ (.Compare a [op] [b] pos) (fun ρ => asB (op2 o fa fb ρ)) :=
  tt_of (pt_cmpR ho ha hb hm) fun _ _ _ h => two h
/-- a op b op' c -/
def op3 (o o' : D → D → Option D) (fa fb fc : Env → M D) : Env → M D := fun ρ => bnd (fa ρ) fun x => bnd (fb ρ) fun y => bnd (asB (ofO (o x y))) fun k => cond k (bnd (fc ρ) fun z => ofO (o' y z)) (ret (.bl false))
theorem three {o o' : D → D → Option D} {σ : L2.St} {H : Hp} {Q : VK} (h : tV X.K τ false (op3 o o' fa fb fc) σ H Q) : tChain (rS X.K false o) (rS X.K false o') (tR X.K τ fa) (tR X.K τ fb) (tR X.K τ fc) σ H Q := by
  obtain ⟨ρ, W, g, d, W', ht, sl, ef, q⟩ := h
  obtain ⟨da, W1, ea, ef⟩ := bnd_some ef
  obtain ⟨db, W2, eb, ef⟩ := bnd_some ef
  obtain ⟨k, W3, ek, ef⟩ := bnd_some ef
  obtain ⟨eo, rfl⟩ := ofO_some (asB_some ek)
  refine ⟨ρ, W, g, da, W1, ht, sl, ea, fun x H1 g1 h1 s1 o1 => ⟨ρ, W1, g1, db, W3, h1, sl.step s1, eb, fun y H2 g2 h2 s2 o2 => ?_⟩⟩
  refine ⟨g2, W3, da, db, .bl k, h2, o1.step s2, o2, eo, fun z H3 g3 h3 s3 r3 => ?_⟩
  have st := (s1.trans s2 h1).trans s3 h2
  cases r3
  refine ⟨k, rfl, ?_⟩
  cases k with
  | false =>
    cases ef
    exact q _ H3 g3 h3 st (.bl false)
  | true =>
    have ef : bnd (fc ρ) (fun z => ofO (o' db z)) W3 = some (d, W') := ef
    obtain ⟨dc, W4, ec, ef⟩ := bnd_some ef
    obtain ⟨eo', rfl⟩ := ofO_some ef
    refine ⟨ρ, W3, g3, dc, W', h3, sl.step st, ec, fun z H4 g4 h4 s4 o4 => ?_⟩
    exact ⟨g4, W', db, dc, d, h4, (o2.step s3).step s4, o4, eo', fun z' H5 g5 h5 s5 r5 => q z' H5 g5 h5 ((st.trans s4 h3).trans s5 h4) r5⟩
theorem v_chain {op op' : CmpOp} {o o' : D → D → Option D} (ho : OpR X (compareOp op) (rS X.K false o)) (ho' : OpR X (compareOp op') (rS X.K false o')) (ha : FR X τ a fa) (hb : FR X τ b fb) (hc : FR X τ c fc)
    (hm : lastMarks [op, op'] [b, c] = false := by with_unfolding_all rfl) : FV X τ false (.Compare a [op, op'] [b, c] pos) (op3 o o' fa fb fc) := PE.wk (pe_chain ho ho' ha hb hc hm) fun _ _ _ h => three h
theorem t_chain {op op' : CmpOp} {o o' : D → D → Option D} (ho : OpR X (compareOp op) (rS X.K false o)) (ho' : OpR X (compareOp op') (rS X.K false o')) (ha : FR X τ a fa) (hb : FR X τ b fb) (hc : FR X τ c fc)
    (hm : lastMarks [op, op'] [b, c] = false := by with_unfolding_all rfl) : FT X τ (.Compare a [op, op'] [b, c] pos) (fun ρ => asB (op3 o o' fa fb fc ρ)) := tt_of (pt_chain ho ho' ha hb hc hm) fun _ _ _ h => three h
/-- truth -/
def truth : D → Option Bool
  | .non => some false
  | .bl k => some k
  | .int i => some (i != 0)
  | .str x => if x.length ≤ 16777216 then some ((x.length : Int) != 0) else none
  | .tup ds => some (!ds.isEmpty)
  | .lst ds => some (!ds.isEmpty)
  | .scr ns => some (!ns.isEmpty)
  | .bag => none
  | .dk _ _ => none
  | .dt _ _ => none
  | .fn _ => none
theorem truth_ok {K : PySem.W.Frag} {g : Gh} {W : Wd} {H : Hp} {v : V} {d : D} {k : Bool} (h : Ht K g W H) (o : Bo K g H v d) (e : truth d = some k) : TruV K v H k := by
  have em : ∀ {xs : List V} {ds : List D}, Rps K g xs ds → (!ds.isEmpty) = !xs.isEmpty := fun r => by cases r <;> rfl
  cases d with
  | non => obtain rfl := o.nonT; cases e; rfl
  | bl b => obtain rfl := o.blT; cases e; rfl
  | int i => obtain rfl := o.intT; cases e; rfl
  | str x =>
    obtain rfl := o.strT
    simp only [truth] at e
    split at e
    · rename_i c
      cases e
      exact ⟨by rw [line_eq]; exact c, rfl⟩
    · cases e
  | tup ds =>
    obtain ⟨a, xs, rfl, q, r⟩ := o.tupT h
    cases e
    exact .inr (.inl ⟨xs, q, em r⟩)
  | lst ds =>
    obtain ⟨a, xs, rfl, q, r⟩ := o.lstT h
    cases e
    exact .inl ⟨xs, .of q, em r⟩
  | scr ns =>
    cases e
    rcases o with o | ⟨a, _, _, _, _, _, hb⟩
    · cases o with
      | scr q => exact .inl ⟨_, h.sub.seq q, by simp⟩
    · cases hb
  | bag => cases e
  | dk _ _ => cases e
  | dt _ _ => cases e
  | fn _ => cases e
def truF (f : Env → M D) : Env → M Bool := fun ρ => bnd (f ρ) fun d => ofO (truth d)
theorem t_truth (ha : FR X τ a fa) (he : ∀ whole, isTrue a X.env whole = (do let v ← whole; standAt a.pos; holding [v] (truthy v)) := by intro _; rfl) : FT X τ a (truF fa) := PT.wk (pt_truth ha he) fun σ H Q ⟨ρ, W, g, k, W', ht, sl, ef, q⟩ => by
  obtain ⟨d, W1, ed, ef⟩ := bnd_some ef
  obtain ⟨et, rfl⟩ := ofO_some ef
  exact ⟨ρ, W, g, d, W', ht, sl, ed, fun v H' g' h' s o => ⟨k, truth_ok h' o et, q H' g' h' s⟩⟩
def notB (f : Env → M Bool) : Env → M Bool := fun ρ => bnd (f ρ) fun k => ret (!k)
theorem t_not (ha : FT X τ a ga) : FT X τ (.UnaryOp .Not a pos) (notB ga) := PT.wk (pt_not ha) fun σ H Q ⟨ρ, W, g, k, W', ht, sl, ef, q⟩ => by
  obtain ⟨d, W1, ed, ef⟩ := bnd_some ef
  cases ef
  exact ⟨ρ, W, g, d, W', ht, sl, ed, fun H' g' h' s => q H' g' h' s⟩
def andB (f h : Env → M Bool) : Env → M Bool := fun ρ => bnd (f ρ) fun k => cond k (h ρ) (ret false)
def orB (f h : Env → M Bool) : Env → M Bool := fun ρ => bnd (f ρ) fun k => cond k (ret true) (h ρ)
theorem w_and (ha : FT X τ a ga) (hb : FW X τ (.BoolOp .And (b :: rest) pos) gb) : FW X τ (.BoolOp .And (a :: b :: rest) pos) (andB ga gb) := PW.wk (pw_and ha hb) fun σ H Q ⟨ρ, W, g, k, W', ht, sl, ef, q⟩ => by
  obtain ⟨d, W1, ed, ef⟩ := bnd_some ef
  refine ⟨ρ, W, g, d, W1, ht, sl, ed, fun H' g' h' s => ?_⟩
  cases d with
  | true => exact ⟨ρ, W1, g', k, W', h', sl.step s, ef, fun H2 g2 h2 s2 => q H2 g2 h2 (s.trans s2 h')⟩
  | false => cases ef; exact q H' g' h' s
theorem w_or (ha : FT X τ a ga) (hb : FW X τ (.BoolOp .Or (b :: rest) pos) gb) : FW X τ (.BoolOp .Or (a :: b :: rest) pos) (orB ga gb) := PW.wk (pw_or ha hb) fun σ H Q ⟨ρ, W, g, k, W', ht, sl, ef, q⟩ => by
  obtain ⟨d, W1, ed, ef⟩ := bnd_some ef
  refine ⟨ρ, W, g, d, W1, ht, sl, ed, fun H' g' h' s => ?_⟩
  cases d with
  | false => exact ⟨ρ, W1, g', k, W', h', sl.step s, ef, fun H2 g2 h2 s2 => q H2 g2 h2 (s.trans s2 h')⟩
  | true => cases ef; exact q H' g' h' s
theorem w_and1 (ha : FT X τ a ga) : FW X τ (.BoolOp .And [a] pos) ga := pw_and1 ha
theorem w_or1 (ha : FT X τ a ga) : FW X τ (.BoolOp .Or [a] pos) ga := pw_or1 ha
theorem t_w (h : FW X τ a ga) : FT X τ a ga := h.pt
/-! ### as values -/
def andV (f h : Env → M D) : Env → M D := fun ρ => bnd (asB (f ρ)) fun k => cond k (h ρ) (ret (.bl false))
def orV (f h : Env → M D) : Env → M D := fun ρ => bnd (asB (f ρ)) fun k => cond k (ret (.bl true)) (h ρ)
theorem v_and (ha : FV X τ false a fa) (hb : FV X τ false (.BoolOp .And (b :: rest) pos) fb) : FV X τ false (.BoolOp .And (a :: b :: rest) pos) (andV fa fb) := PE.wk (pe_and ha hb) fun σ H Q ⟨ρ, W, g, k, W', ht, sl, ef, q⟩ => by
  obtain ⟨d, W1, ed, ef⟩ := bnd_some ef
  refine ⟨ρ, W, g, .bl d, W1, ht, sl, asB_some ed, fun v H' g' h' s r => ?_⟩
  cases r
  refine ⟨d, rfl, ?_⟩
  cases d with
  | true => exact ⟨ρ, W1, g', k, W', h', sl.step s, ef, fun v H2 g2 h2 s2 => q v H2 g2 h2 (s.trans s2 h')⟩
  | false => cases ef; exact q _ H' g' h' s (.bl false)
theorem v_or (ha : FV X τ false a fa) (hb : FV X τ false (.BoolOp .Or (b :: rest) pos) fb) : FV X τ false (.BoolOp .Or (a :: b :: rest) pos) (orV fa fb) := PE.wk (pe_or ha hb) fun σ H Q ⟨ρ, W, g, k, W', ht, sl, ef, q⟩ => by
  obtain ⟨d, W1, ed, ef⟩ := bnd_some ef
  refine ⟨ρ, W, g, .bl d, W1, ht, sl, asB_some ed, fun v H' g' h' s r => ?_⟩
  cases r
  refine ⟨d, rfl, ?_⟩
  cases d with
  | false => exact ⟨ρ, W1, g', k, W', h', sl.step s, ef, fun v H2 g2 h2 s2 => q v H2 g2 h2 (s.trans s2 h')⟩
  | true => cases ef; exact q _ H' g' h' s (.bl true)
theorem v_one {op} (h : FV X τ w a f) : FV X τ w (.BoolOp op [a] pos) f := pe_one h
def notV (f : Env → M D) : Env → M D := fun ρ => bnd (asB (f ρ)) fun k => ret (.bl (!k))
theorem v_not (ha : FV X τ false a fa) : FV X τ false (.UnaryOp .Not a pos) (notV fa) := PE.wk (pe_not ha) fun σ H Q ⟨ρ, W, g, k, W', ht, sl, ef, q⟩ => by
  obtain ⟨d, W1, ed, ef⟩ := bnd_some ef
  cases ef
  refine ⟨ρ, W, g, .bl d, _, ht, sl, asB_some ed, fun v H' g' h' s r => ?_⟩
  cases r
  exact ⟨d, rfl, q _ H' g' h' s (.bl _)⟩
def negV (f : Env → M D) : Env → M D := fun ρ => bnd (f ρ) fun d => match d with
  | .int i => ret (.int (-i))
  | _ => stuck
theorem v_neg (ha : FV X τ false a fa) : FV X τ false (.UnaryOp .USub a pos) (negV fa) := PE.wk (pe_un un_neg ha) fun σ H Q ⟨ρ, W, g, k, W', ht, sl, ef, q⟩ => by
  obtain ⟨d, W1, ed, ef⟩ := bnd_some ef
  cases d with
  | int i =>
    cases ef
    exact ⟨ρ, W, g, .int i, W', ht, sl, ed, fun v H' g' h' s r => by cases r; exact ⟨i, rfl, q _ H' g' h' s (.int _)⟩⟩
  | _ => cases ef
def iteF (c : Env → M Bool) (f h : Env → M D) : Env → M D := fun ρ => bnd (c ρ) fun k => cond k (f ρ) (h ρ)
theorem Vo.pre {K : PySem.W.Frag} {g g1 g' : Gh} {W1 : Wd} {H H1 H' : Hp} {v : V} {d : D} (s : Step g H g1 H1) (h1 : Ht K g1 W1 H1) (o : Vo K H1 g' H' w v d) : Vo K H g' H' w v d := by
  cases w with
  | false => exact o
  | true =>
    obtain ⟨p, e, n, o⟩ := o
    refine ⟨p, e, ?_, o⟩
    cases ep : H p with
    | none => rfl
    | some x =>
      exfalso
      by_cases hb : g.bagA p
      · obtain ⟨b, hb, eb⟩ := hb
        obtain ⟨w, _, e1, e2, _⟩ := h1.bS b (s.le.bb b hb)
        rcases eb with eb | eb
        · rw [eb, e1] at n; cases n
        · rw [eb, e2] at n; cases n
      · rw [s.kp _ _ ep hb] at n; cases n
theorem v_ite {cc : Expr} (hc : FT X τ cc gc) (ha : FV X τ w a fa) (hb : FV X τ w b fb) : FV X τ w (.IfExp cc a b pos) (iteF gc fa fb) := PE.wk (pe_ifExp hc ha hb) fun σ H Q ⟨ρ, W, g, k, W', ht, sl, ef, q⟩ => by
  obtain ⟨d, W1, ed, ef⟩ := bnd_some ef
  refine ⟨ρ, W, g, d, W1, ht, sl, ed, fun H' g' h' s => ?_⟩
  cases d with
  | true => exact ⟨ρ, W1, g', k, W', h', sl.step s, ef, fun v H2 g2 h2 s2 o => q v H2 g2 h2 (s.trans s2 h') (o.pre s h')⟩
  | false => exact ⟨ρ, W1, g', k, W', h', sl.step s, ef, fun v H2 g2 h2 s2 o => q v H2 g2 h2 (s.trans s2 h') (o.pre s h')⟩
/-! ### is None -/
def isNonF (f : Env → M D) : Env → M D := fun ρ => bnd (f ρ) fun d => match d with
  | .non => ret (.bl true)
  | .bag => stuck
  | _ => ret (.bl false)
def notNonF (f : Env → M D) : Env → M D := fun ρ => bnd (f ρ) fun d => match d with
  | .non => ret (.bl false)
  | .bag => stuck
  | _ => ret (.bl true)
theorem non_iff {K : PySem.W.Frag} {g : Gh} {v : V} {d : D} (r : Rp K g v d) : decide (v = .non) = match d with | .non => true | _ => false := by
  cases r <;> simp
theorem isnon_tr {σ : L2.St} {H : Hp} {Q : VK} (h : tV X.K τ false (isNonF fa) σ H Q) : tIsN (tV X.K τ false fa) σ H Q := by
  obtain ⟨ρ, W, g, k, W', ht, sl, ef, q⟩ := h
  obtain ⟨d, W1, ed, ef⟩ := bnd_some ef
  refine ⟨ρ, W, g, d, W1, ht, sl, ed, fun v H' g' h' s r => ?_⟩
  have e := non_iff r
  show Q (.bl (decide (v = .non))) H'
  rw [e]
  cases d <;> cases ef <;> exact q _ H' g' h' s (.bl _)
theorem notnon_tr {σ : L2.St} {H : Hp} {Q : VK} (h : tV X.K τ false (notNonF fa) σ H Q) : tNotN (tV X.K τ false fa) σ H Q := by
  obtain ⟨ρ, W, g, k, W', ht, sl, ef, q⟩ := h
  obtain ⟨d, W1, ed, ef⟩ := bnd_some ef
  refine ⟨ρ, W, g, d, W1, ht, sl, ed, fun v H' g' h' s r => ?_⟩
  have e := non_iff r
  show Q (.bl (!decide (v = .non))) H'
  rw [e]
  cases d <;> cases ef <;> exact q _ H' g' h' s (.bl _)
theorem v_isNon {j pos'} (ha : FV X τ false a fa) : FV X τ false (.Compare a [.Is] [.Constant .none j pos'] pos) (isNonF fa) := PE.wk (pe_cmp (pc_isN ha)) fun _ _ _ h => isnon_tr h
theorem v_notNon {j pos'} (ha : FV X τ false a fa) : FV X τ false (.Compare a [.IsNot] [.Constant .none j pos'] pos) (notNonF fa) := PE.wk (pe_cmp (pc_notN ha)) fun _ _ _ h => notnon_tr h
theorem t_isNon {j pos'} (ha : FV X τ false a fa) : FT X τ (.Compare a [.Is] [.Constant .none j pos'] pos) (fun ρ => asB (isNonF fa ρ)) := PT.wk (pt_cmp (pc_isN ha)) fun σ H Q ⟨ρ, W, g, k, W', ht, sl, ef, q⟩ =>
  isnon_tr ⟨ρ, W, g, .bl k, W', ht, sl, asB_some ef, fun v H' g' h' s r => by cases r; exact ⟨k, rfl, q H' g' h' s⟩⟩
theorem t_notNon {j pos'} (ha : FV X τ false a fa) : FT X τ (.Compare a [.IsNot] [.Constant .none j pos'] pos) (fun ρ => asB (notNonF fa ρ)) := PT.wk (pt_cmp (pc_notN ha)) fun σ H Q ⟨ρ, W, g, k, W', ht, sl, ef, q⟩ =>
  notnon_tr ⟨ρ, W, g, .bl k, W', ht, sl, asB_some ef, fun v H' g' h' s r => by cases r; exact ⟨k, rfl, q H' g' h' s⟩⟩
/-! ### argument lists, displays -/
def nilF : Env → M (List D) := fun _ => ret []
def consF (f : Env → M D) (fs : Env → M (List D)) : Env → M (List D) := fun ρ => bnd (f ρ) fun d => bnd (fs ρ) fun ds => ret (d :: ds)
theorem a_nil : FA X τ [] nilF := PA.wk pa_nil fun σ H Q ⟨ρ, W, g, k, W', ht, sl, ef, q⟩ => by
  cases ef
  exact q _ H g ht (.refl _ _) .nil
theorem a_cons (ha : FV X τ false e f) (hr : FA X τ es fs) (hs : starEach (e :: es) X.env = (false, eval e X.env) :: starEach es X.env := by rfl) : FA X τ (e :: es) (consF f fs) := PA.wk (pa_cons ha hr hs) fun σ H Q ⟨ρ, W, g, k, W', ht, sl, ef, q⟩ => by
  obtain ⟨d, W1, ed, ef⟩ := bnd_some ef
  obtain ⟨ds, W2, eds, ef⟩ := bnd_some ef
  cases ef
  exact ⟨ρ, W, g, d, W1, ht, sl, ed, fun v H1 g1 h1 s1 r1 => ⟨ρ, W1, g1, ds, W', h1, sl.step s1, eds, fun vs H2 g2 h2 s2 r2 => q _ H2 g2 h2 (s1.trans s2 h1) (.cons (r1.mono s2.le) r2)⟩⟩
theorem Bos.step {K : PySem.W.Frag} {g g' : Gh} {H H' : Hp} (s : Step g H g' H') : ∀ {vs : List V} {ds : List D}, Bos K g H vs ds → Bos K g' H' vs ds
  | _, _, .nil => .nil
  | _, _, .cons h r => .cons (h.step s) (Bos.step s r)
theorem ar_nil : FAR X τ [] nilF := PA.wk pa_nil fun σ H Q ⟨ρ, W, g, k, W', ht, sl, ef, q⟩ => by
  cases ef
  exact q _ H g ht (.refl _ _) .nil
theorem ar_cons (ha : FR X τ e f) (hr : FAR X τ es fs) (hs : starEach (e :: es) X.env = (false, eval e X.env) :: starEach es X.env := by rfl) : FAR X τ (e :: es) (consF f fs) := PA.wk (pa_cons ha hr hs) fun σ H Q ⟨ρ, W, g, k, W', ht, sl, ef, q⟩ => by
  obtain ⟨d, W1, ed, ef⟩ := bnd_some ef
  obtain ⟨ds, W2, eds, ef⟩ := bnd_some ef
  cases ef
  exact ⟨ρ, W, g, d, W1, ht, sl, ed, fun v H1 g1 h1 s1 r1 => ⟨ρ, W1, g1, ds, W', h1, sl.step s1, eds, fun vs H2 g2 h2 s2 r2 => q _ H2 g2 h2 (s1.trans s2 h1) (.cons (r1.step s2) r2)⟩⟩
def tupF (fs : Env → M (List D)) : Env → M D := fun ρ => bnd (fs ρ) fun ds => if ds.length ≤ 16777216 then ret (.tup ds) else stuck
def lstF (fs : Env → M (List D)) : Env → M D := fun ρ => bnd (fs ρ) fun ds => if ds.length ≤ 16777216 then ret (.lst ds) else stuck
theorem v_tup {x1} (h : FA X τ es fs) : FV X τ false (.Tuple es x1 pos) (tupF fs) := PE.wk (pe_tup h) fun σ H Q ⟨ρ, W, g, k, W', ht, sl, ef, q⟩ => by
  obtain ⟨ds, W1, ed, ef⟩ := bnd_some ef
  split at ef
  · rename_i c
    cases ef
    exact ⟨ρ, W, g, ds, W', ht, sl, ed, fun vs H1 g1 h1 s1 r1 => ⟨by rw [line_eq, r1.length]; exact c, newT h1 r1 fun z H2 g2 h2 s2 r2 => q z H2 g2 h2 (s1.trans s2 h1) r2⟩⟩
  · cases ef
theorem v_lst (h : FA X τ es fs) : FV X τ true (.List es pos) (lstF fs) := PE.wk (pe_lst h) fun σ H Q ⟨ρ, W, g, k, W', ht, sl, ef, q⟩ => by
  obtain ⟨ds, W1, ed, ef⟩ := bnd_some ef
  split at ef
  · rename_i c
    cases ef
    exact ⟨ρ, W, g, ds, W', ht, sl, ed, fun vs H1 g1 h1 s1 r1 => ⟨by rw [line_eq, r1.length]; exact c, newL (w := true) h1 r1 fun z H2 g2 h2 s2 r2 => q z H2 g2 h2 (s1.trans s2 h1) (r2.pre s1 h1)⟩⟩
  · cases ef
/-! ### calls of the text's own defs -/
/-- the promise: the meaning φ of the n arguments -/
def spF (K : PySem.W.Frag) (w : Bool) (n : Nat) (φ : List D → M D) : Sp := fun vs H Q _ => ∃ ds W g d W', Ht K g W H ∧ Rps K g vs ds ∧ ds.length = n ∧ φ ds W = some (d, W') ∧
  ∀ v H' g', Ht K g' W' H' → Step g H g' H' → Vo K H g' H' w v d → Q v H'
/-- a def of the text, its meaning φ -/
structure Fk (P : Program) (w : World) (K : PySem.W.Frag) (mg : Str → Option Value) (base : Heap) (k : Nat) (f : Addr) (fd : FuncData) (ps : List Str) (wr : Bool) (φ : List D → M D) : Prop where
  ok : FnOk P w K mg base CX0 k f fd ps (spF K wr ps.length φ)
  kp : PySem.W.keepIn K (.ref f) = true
  bd : Binds K fd ps []
theorem Fk.mono {P : Program} {w : World} {K : PySem.W.Frag} {mg : Str → Option Value} {base : Heap} {j k : Nat} {f : Addr} {fd : FuncData} {ps : List Str} {wr : Bool} {φ : List D → M D} (F : Fk P w K mg base j f fd ps wr φ) (h : j ≤ k) : Fk P w K mg base k f fd ps wr φ := ⟨F.ok.mono h, F.kp, F.bd⟩
def callF (φ : List D → M D) (n : Nat) (fs : Env → M (List D)) : Env → M D := fun ρ => bnd (fs ρ) fun ds => if ds.length = n then φ ds else stuck
theorem call_tr {wr : Bool} {φ : List D → M D} {n : Nat} {σ : L2.St} {H : Hp} {Q : VK} {t : TA} (i : ∀ Q, tA X.K τ fs σ H Q → t σ H Q) (h : tV X.K τ wr (callF φ n fs) σ H Q) : tCall (spF X.K wr n φ) [] E0 t σ H Q := by
  obtain ⟨ρ, W, g, k, W', ht, sl, ef, q⟩ := h
  obtain ⟨ds, W1, ed, ef⟩ := bnd_some ef
  refine i _ ⟨ρ, W, g, ds, W1, ht, sl, ed, fun vs H1 g1 h1 s1 r1 => ?_⟩
  split at ef
  · rename_i c
    rw [List.append_nil]
    exact ⟨ds, W1, g1, k, W', h1, r1, c, ef, fun v H2 g2 h2 s2 o => q v H2 g2 h2 (s1.trans s2 h1) (o.pre s1 h1)⟩
  · cases ef
theorem v_call {k : Nat} {fn : Addr} {fd : FuncData} {ps : List Str} {wr : Bool} {φ : List D → M D} {x : Str} {p : Pos} (F : Fk X.prog X.w X.K X.mg X.base k fn fd ps wr φ) (hr : Room k X.A) (hm : X.mg x = some (.ref fn)) (ha : FA X τ (e :: es) fs)
    {nn : Nat} (hnn : ps.length = nn := by rfl) (hg : Gl X x := by rfl) (hdb : (x == ("__debug__" : Str)) = false := by decide) (he : starEach (e :: es) X.env = (false, eval e X.env) :: starEach es X.env := by rfl) (hpl : (backTo pos (starEach es X.env)).any (·.1) = false := by rfl) :
    FV X τ wr (.Call (.Name x p) (e :: es) [] pos) (callF φ nn fs) := by
  subst hnn
  exact PE.wk (pe_call F.ok hr hg hm F.kp F.bd .nil pass0 ha hdb he hpl) fun _ _ _ h => call_tr (fun _ q => q) h
theorem v_call0 {k : Nat} {fn : Addr} {fd : FuncData} {ps : List Str} {wr : Bool} {φ : List D → M D} {x : Str} {p : Pos} (F : Fk X.prog X.w X.K X.mg X.base k fn fd ps wr φ) (hr : Room k X.A) (hm : X.mg x = some (.ref fn))
    {nn : Nat} (hnn : ps.length = nn := by rfl) (hg : Gl X x := by rfl) (hdb : (x == ("__debug__" : Str)) = false := by decide) : FV X τ wr (.Call (.Name x p) [] [] pos) (callF φ nn nilF) := by
  subst hnn
  exact PE.wk (pe_call0 F.ok hr hg hm F.kp F.bd .nil pass0 hdb) fun _ _ _ h => call_tr (fs := nilF) (fun Q ⟨ρ, W, g, k, W', ht, sl, ef, q⟩ => by cases ef; exact q _ _ g ht (.refl _ _) .nil) h
/-! keywords -/
def pick {α : Type} (ix : List Nat) (l : List α) : List α := ix.filterMap fun i => l[i]?
theorem pick_rel {α β : Type} {R : α → β → Prop} {l : List α} {m : List β} (h : ∀ i : Nat, (l[i]? = none ∧ m[i]? = none) ∨ ∃ x y, l[i]? = some x ∧ m[i]? = some y ∧ R x y) : ∀ ix : List Nat, Paired R (pick ix l) (pick ix m)
  | [] => .nil
  | i :: ix => by
    unfold pick
    rcases h i with ⟨e1, e2⟩ | ⟨x, y, e1, e2, r⟩
    · rw [List.filterMap_cons, List.filterMap_cons, e1, e2]
      exact pick_rel h ix
    · rw [List.filterMap_cons, List.filterMap_cons, e1, e2]
      exact .cons r (pick_rel h ix)
theorem paired_at {α β : Type} {R : α → β → Prop} : ∀ {l : List α} {m : List β}, Paired R l m → ∀ i : Nat, (l[i]? = none ∧ m[i]? = none) ∨ ∃ x y, l[i]? = some x ∧ m[i]? = some y ∧ R x y
  | _, _, .nil, i => .inl ⟨by simp, by simp⟩
  | _, _, .cons h r, 0 => .inr ⟨_, _, rfl, rfl, h⟩
  | _, _, .cons h r, i + 1 => by simpa using paired_at r i
theorem Rps.paired {K : PySem.W.Frag} {g : Gh} : ∀ {vs : List V} {ds : List D}, Rps K g vs ds → Paired (Rp K g) vs ds
  | _, _, .nil => .nil
  | _, _, .cons h r => .cons h (Rps.paired r)
theorem Rps.of_paired {K : PySem.W.Frag} {g : Gh} : ∀ {vs : List V} {ds : List D}, Paired (Rp K g) vs ds → Rps K g vs ds
  | _, _, .nil => .nil
  | _, _, .cons h r => .cons h (Rps.of_paired r)
theorem Rps.pick {K : PySem.W.Frag} {g : Gh} {vs : List V} {ds : List D} (r : Rps K g vs ds) (ix : List Nat) : Rps K g (VS.pick ix vs) (VS.pick ix ds) := .of_paired (pick_rel (paired_at r.paired) ix)
theorem Vals.pick {vs : List V} {us : List Value} (r : Vals vs us) (ix : List Nat) : Vals (VS.pick ix vs) (VS.pick ix us) := pick_rel (paired_at r) ix
structure KB (fd : FuncData) (ps ks : List Str) (n : Nat) (ix : List Nat) : Prop where
  to : ∀ us ws : List Value, us.length = n → ws.length = ks.length → bindArgs fd ⟨us, ks.zip ws⟩ = pure (ps.zip (pick ix (us ++ ws)))
def callK (φ : List D → M D) (n n1 n2 : Nat) (ix : List Nat) (fs gs : Env → M (List D)) : Env → M D := fun ρ => bnd (fs ρ) fun ds => bnd (gs ρ) fun es => if ds.length = n1 ∧ es.length = n2 ∧ (pick ix (ds ++ es)).length = n then φ (pick ix (ds ++ es)) else stuck
def tCallX (sp : Sp) (n1 n2 : Nat) (ix : List Nat) (t tk : TA) : TE := fun σ H Q => t σ H fun vs H1 => tk σ H1 fun zs H2 => vs.length = n1 ∧ zs.length = n2 ∧ sp (pick ix (vs ++ zs)) H2 Q E0
section
variable {k : Nat} {fn : Addr} {fd : FuncData} {ps ks : List Str} {wr : Bool} {φ : List D → M D} {x : Str} {p : Pos} {n : Nat} {ix : List Nat} {kws : List Keyword} {gs : Env → M (List D)}
theorem run_fx {sp : Sp} {pins : List (Addr × Obj)} {σ : L2.St} {H : Hp} {s : Shared} {Q : VK} {us ws : List Value} {vs zs : List V} (F : FnOk X.prog X.w X.K X.mg X.base CX0 k fn fd ps sp) (hr : Room k X.A) (hb : KB fd ps ks n ix)
    (I : Inv X pins σ H s) (r : Vals vs us) (rz : Vals zs ws) (h1 : vs.length = n) (h2 : zs.length = ks.length) (h : sp (pick ix (vs ++ zs)) H Q E0) : wpAny (model X.prog X.w) X.A (call (.ref fn) us (ks.zip ws)) (EP X pins σ Q) X.xe s := by
  have r2 : Vals (pick ix (vs ++ zs)) (pick ix (us ++ ws)) := Vals.pick (r.append rz) ix
  refine wpAny_call (codeAny_mono (F.run X.A X.stack s H ⟨us, ks.zip ws⟩ (pick ix (us ++ ws)) (pick ix (vs ++ zs)) Q E0 hr I.env0 (.of_eq (hb.to us ws (by rw [← r.length]; exact h1) (by rw [← rz.length]; exact h2))) r2 h) fun r s' hq => ?_)
  cases r with
  | error e => exact False.elim hq
  | ok fl =>
    cases fl with
    | ret u => exact I.after hq
    | next => exact False.elim hq
    | brk => exact False.elim hq
    | cont => exact False.elim hq
theorem callx_tr {t tk : TA} {n2 : Nat} {σ : L2.St} {H : Hp} {Q : VK} (i : ∀ Q, tA X.K τ fs σ H Q → t σ H Q) (j : ∀ H Q, tA X.K τ gs σ H Q → tk σ H Q) (h : tV X.K τ wr (callK φ ps.length n n2 ix fs gs) σ H Q) : tCallX (spF X.K wr ps.length φ) n n2 ix t tk σ H Q := by
  obtain ⟨ρ, W, g, k, W', ht, sl, ef, q⟩ := h
  obtain ⟨ds, W1, ed, ef⟩ := bnd_some ef
  obtain ⟨es, W2, ee, ef⟩ := bnd_some ef
  refine i _ ⟨ρ, W, g, ds, W1, ht, sl, ed, fun vs H1 g1 h1 s1 r1 => j _ _ ⟨ρ, W1, g1, es, W2, h1, sl.step s1, ee, fun zs H2 g2 h2 s2 r2 => ?_⟩⟩
  split at ef
  · rename_i c
    refine ⟨by rw [r1.length]; exact c.1, by rw [r2.length]; exact c.2.1, pick ix (ds ++ es), W2, g2, k, W', h2, ((r1.mono s2.le).append r2).pick ix, c.2.2, ef, fun v H3 g3 h3 s3 o => q v H3 g3 h3 ((s1.trans s2 h1).trans s3 h2) (o.pre (s1.trans s2 h1) h2)⟩
  · cases ef
abbrev FK (X : Cx) (τ : Tg) (kws : List Keyword) (f : Env → M (List D)) : Prop := PK X kws (tA X.K τ f)
theorem PK.wk {t t' : TA} (h : PK X kws t) (i : ∀ σ H Q, t' σ H Q → t σ H Q) : PK X kws t' := ⟨fun pos pins s σ H Q I q => h.run pos pins s σ H Q I (i _ _ _ q)⟩
theorem k_nil : FK X τ [] nilF := PK.wk pk_nil fun σ H Q ⟨ρ, W, g, k, W', ht, sl, ef, q⟩ => by
  cases ef
  exact q _ H g ht (.refl _ _) .nil
theorem k_cons {nm : Option Str} {kpos : Pos} (ha : FV X τ false e f) (hr : FK X τ kws fs) : FK X τ (⟨nm, e, kpos⟩ :: kws) (consF f fs) := PK.wk (pk_cons ha hr) fun σ H Q ⟨ρ, W, g, k, W', ht, sl, ef, q⟩ => by
  obtain ⟨d, W1, ed, ef⟩ := bnd_some ef
  obtain ⟨ds, W2, eds, ef⟩ := bnd_some ef
  cases ef
  exact ⟨ρ, W, g, d, W1, ht, sl, ed, fun v H1 g1 h1 s1 r1 => ⟨ρ, W1, g1, ds, W', h1, sl.step s1, eds, fun vs H2 g2 h2 s2 r2 => q _ H2 g2 h2 (s1.trans s2 h1) (.cons (r1.mono s2.le) r2)⟩⟩
/-- f(e, .., k = v, ..) -/
theorem v_callK (F : Fk X.prog X.w X.K X.mg X.base k fn fd ps wr φ) (hr : Room k X.A) (hm : X.mg x = some (.ref fn)) (hb : KB fd ps ks n ix) (ha : FA X τ (e :: es) fs) (hkw : FK X τ kws gs) {nn nk : Nat} (hnn : ps.length = nn := by rfl) (hnk : ks.length = nk := by rfl) (hg : Gl X x := by rfl)
    (hall : (backToKw pos (keywordEach kws X.env)).all (·.1.isSome) = true := by rfl) (hks : (backToKw pos (keywordEach kws X.env)).filterMap (·.1) = ks := by rfl)
    (hdb : (x == ("__debug__" : Str)) = false := by decide) (he : starEach (e :: es) X.env = (false, eval e X.env) :: starEach es X.env := by rfl)
    (hpl : ((backTo pos (starEach (e :: es) X.env)).any (·.1) || (backToKw pos (keywordEach kws X.env)).any (·.1.isNone)) = false := by rfl) :
    FV X τ wr (.Call (.Name x p) (e :: es) kws pos) (callK φ nn n nk ix fs gs) := by
  subst hnn hnk
  refine PE.wk (t := tCallX (spF X.K wr ps.length φ) n ks.length ix (tA X.K τ fs) (tA X.K τ gs)) ⟨fun pins s σ H Q I h => ?_⟩ fun _ _ _ h => callx_tr (fun _ q => q) (fun _ _ q => q) h
  refine wpAny_Call_Name_kw (ld_glob I hg hm ?_ hdb)
  refine PySem.W.callWith_KW (h₀ := X.base) I.ok.mod.kin F.kp hall (thn (ha.run pos pins s σ H _ I h) fun us s1 ⟨vs, H1, I1, r, q⟩ => ?_) hpl he
  refine thn (hkw.run pos pins s1 σ H1 _ I1 q) fun ws s2 ⟨zs, H2, I2, rz, q1, q2, q3⟩ => ⟨I2.kIn, ?_⟩
  rw [hks]
  exact run_fx F.ok hr hb I2 r rz q1 q2 q3
theorem v_callK0 (F : Fk X.prog X.w X.K X.mg X.base k fn fd ps wr φ) (hr : Room k X.A) (hm : X.mg x = some (.ref fn)) (hb : KB fd ps ks 0 ix) (hkw : FK X τ kws gs) {nn nk : Nat} (hnn : ps.length = nn := by rfl) (hnk : ks.length = nk := by rfl) (hg : Gl X x := by rfl)
    (hall : (backToKw pos (keywordEach kws X.env)).all (·.1.isSome) = true := by rfl) (hks : (backToKw pos (keywordEach kws X.env)).filterMap (·.1) = ks := by rfl)
    (hdb : (x == ("__debug__" : Str)) = false := by decide)
    (hpl : ((backTo pos (starEach [] X.env)).any (·.1) || (backToKw pos (keywordEach kws X.env)).any (·.1.isNone)) = false := by rfl) :
    FV X τ wr (.Call (.Name x p) [] kws pos) (callK φ nn 0 nk ix nilF gs) := by
  subst hnn hnk
  refine PE.wk (t := tCallX (spF X.K wr ps.length φ) 0 ks.length ix (fun σ H Q => Q [] H) (tA X.K τ gs)) ⟨fun pins s σ H Q I h => ?_⟩ fun σ H Q h => callx_tr (fs := nilF) (fun Q ⟨ρ, W, g, k, W', ht, sl, ef, q⟩ => by cases ef; exact q _ _ g ht (.refl _ _) .nil) (fun _ _ q => q) h
  refine wpAny_Call_Name_kw (ld_glob I hg hm ?_ hdb)
  refine PySem.W.callWith_KW0 (h₀ := X.base) I.ok.mod.kin F.kp hall ?_ hpl
  refine thn (hkw.run pos pins s σ H _ I h) fun ws s2 ⟨zs, H2, I2, rz, q1, q2, q3⟩ => ⟨I2.kIn, ?_⟩
  rw [hks]
  exact run_fx (us := []) F.ok hr hb I2 .nil rz q1 q2 q3
end
end
end VS
set_option Elab.async false
set_option linter.all false
set_option maxRecDepth 100000
/-! VS4: targets, what is walked, comprehensions, statements, defs. -/
namespace VS
open PySem PySem.Spec PyProof.Rows L2
/-! ### objects that change -/
section
variable {K : PySem.W.Frag} {g g0 : Gh} {W : Wd} {H H0 : Hp} {p : Addr} {o o' : HO}
theorem Ht.mut (h : Ht K g W H) (n : g.G p = none) (nb : ¬ g.bagA p) : Ht K g W (upd H p o) :=
  ⟨fun b x e => by
    have : b ≠ p := fun z => by rw [z, n] at e; cases e
    rw [upd_ne this]; exact h.sub _ _ e, h.bN, fun b hb => by
    obtain ⟨w, e, e1, e2, n1, n2⟩ := h.bS b hb
    exact ⟨w, e, by rw [upd_ne fun z => nb ⟨b, hb, .inl z.symm⟩]; exact e1, by rw [upd_ne fun z => nb ⟨b, hb, .inr z.symm⟩]; exact e2, n1, n2⟩⟩
theorem Step.mut (s : Step g0 H0 g H) (n : H0 p = none) : Step g0 H0 g (upd H p o) :=
  ⟨s.le, fun a x e nb => by rw [upd_ne (ne_of_none e n)]; exact s.kp a x e nb, s.gf, s.fb⟩
end
/-! ### the frame's state at a statement -/
structure MS (K : PySem.W.Frag) (g0 : Gh) (H0 : Hp) (τ : Tg) (ρ : Env) (W : Wd) (g : Gh) (σ : L2.St) (H : Hp) : Prop where
  ht : Ht K g W H
  st : Step g0 H0 g H
  sl : Sl K τ ρ g σ H
  nw : ∀ (i : Nat) (a : Addr) (d : D), τ.getD i false = true → ρ[i]? = some (some d) → σ[i]? = some (some (.ref a)) → H0 a = none
section
variable {K : PySem.W.Frag} {g0 g g' : Gh} {H0 H H' : Hp} {τ : Tg} {ρ : Env} {W W' : Wd} {σ : L2.St} {v : V} {d : D} {w : Bool} {i : Nat}
theorem MS.step (m : MS K g0 H0 τ ρ W g σ H) (h : Ht K g' W' H') (s : Step g H g' H') : MS K g0 H0 τ ρ W' g' σ H' :=
  ⟨h, m.st.trans s m.ht, m.sl.step s, m.nw⟩
theorem MS.fg (m : MS K g0 H0 τ ρ W g σ H) (vs : List Nat) : MS K g0 H0 τ (VS.fg ρ vs) W g σ H :=
  ⟨m.ht, m.st, m.sl.fg vs, fun i a d t e => m.nw i a d t (fg_some e).1⟩
theorem MS.set (m : MS K g0 H0 τ ρ W g σ H) (h : Ht K g' W' H') (s : Step g H g' H') (o : Vo K H g' H' w v d) (hi : w = true → i < τ.length) :
    MS K g0 H0 (τ.set i w) (ρ.set i (some d)) W' g' (σ.set i (some v)) H' := by
  have m' := m.step h s
  cases w with
  | false =>
    refine ⟨h, m'.st, m'.sl.setF o, fun j a e t h1 h2 => ?_⟩
    obtain ⟨z, t⟩ := getD_set_false t
    rw [List.getElem?_set_ne z] at h1 h2
    exact m.nw j a e t h1 h2
  | true =>
    have hi := hi rfl
    have o0 : Vo K H0 g' H' true v d := o.pre m.st m.ht
    obtain ⟨a, rfl, n, ow⟩ := o
    obtain ⟨a', ea, n0, _⟩ := o0
    cases ea
    refine ⟨h, m'.st, m'.sl.setO hi ow fun j e z t h1 h2 => ?_, fun j b e t h1 h2 => ?_⟩
    · obtain ⟨b, hb, ob⟩ := m.sl.own j e h1 t
      rw [h2] at hb; cases hb
      obtain ⟨x, ex⟩ := ob.there
      rw [n] at ex; cases ex
    · by_cases z : i = j
      · subst z
        have hl : i < σ.length := by
          by_cases hl : i < σ.length
          · exact hl
          · rw [List.getElem?_eq_none (by simpa using hl)] at h2; cases h2
        rw [List.getElem?_set_self hl] at h2
        cases h2
        exact n0
      · rw [List.getElem?_set_ne z] at h1 h2
        rw [getD_set_ne z] at t
        exact m.nw j b e t h1 h2
/-- a slot's thing is frozen: the ghost, or the thing itself -/
theorem MS.frzAt (m : MS K g0 H0 τ ρ W g σ H) {i : Nat} {a : Addr} {x : HO} {H2 : Hp} (t : τ.getD i false = true) (e : ρ[i]? = some (some d)) (ea : σ[i]? = some (some (.ref a)))
    (h1 : Ht K (g.put a x) W H2) (s1 : Step g0 H0 (g.put a x) H2) (l : g.le (g.put a x)) (r : Rp K (g.put a x) (.ref a) d) (hk : ∀ b, b ≠ a → H2 b = H b) : MS K g0 H0 (τ.set i false) ρ W (g.put a x) σ H2 := by
  refine ⟨h1, s1, ⟨m.sl.ln, fun j f h t' => ?_, fun j f h t' => ?_, fun j k b f f' ne t1 t2 h1 h2 q1 q2 => ?_⟩, fun j b f t' h q => ?_⟩
  · by_cases z : i = j
    · subst z
      rw [e] at h; cases h
      exact ⟨_, ea, r⟩
    · rw [getD_set_ne z] at t'
      obtain ⟨v, q, r⟩ := m.sl.frz j f h t'
      exact ⟨v, q, r.mono l⟩
  · obtain ⟨z, t'⟩ := getD_set_false t'
    obtain ⟨b, q, n', nb', y, eb, r'⟩ := m.sl.own j f h t'
    have nba : b ≠ a := fun z' => m.sl.dis i j a _ _ z t t' e h ea (by rw [← z']; exact q)
    refine ⟨b, q, ?_, fun z => nb' z, y, by rw [hk b nba]; exact eb, r'.mono l⟩
    show upd g.G a _ b = none
    rw [upd_ne nba]
    exact n'
  · obtain ⟨_, t1⟩ := getD_set_false t1
    obtain ⟨_, t2⟩ := getD_set_false t2
    exact m.sl.dis j k b f f' ne t1 t2 h1 h2 q1 q2
  · obtain ⟨_, t'⟩ := getD_set_false t'
    exact m.nw j b f t' h q
theorem MS.frz (m : MS K g0 H0 τ ρ W g σ H) (i : Nat) : Lk (fun H' => ∃ g', g.le g' ∧ MS K g0 H0 (τ.set i false) ρ W g' σ H') H := by
  by_cases t : τ.getD i false = true
  · by_cases e : ∃ d, ρ[i]? = some (some d)
    · obtain ⟨d, e⟩ := e
      obtain ⟨a, ea, n, nb, x, eh, hb⟩ := m.sl.own i d e t
      have n0 := m.nw i a _ t e ea
      cases hb with
      | lst r =>
        obtain ⟨h1, s1, l⟩ := m.ht.frz m.st eh n nb n0
        exact .inl ⟨_, l, m.frzAt t e ea h1 s1 l (.lst upd_same (r.mono l)) fun _ _ => rfl⟩
      | dk z r =>
        refine .inr ⟨a, _, eh, trivial, fun od => ?_⟩
        obtain ⟨h1, s1, l⟩ := m.ht.lock m.st eh n nb n0 od
        exact ⟨_, l, m.frzAt t e ea h1 s1 l (.dk upd_same z (r.mono l)) fun b hb => upd_ne hb⟩
      | dt z r =>
        refine .inr ⟨a, _, eh, trivial, fun od => ?_⟩
        obtain ⟨h1, s1, l⟩ := m.ht.lock m.st eh n nb n0 od
        exact ⟨_, l, m.frzAt t e ea h1 s1 l (.dt upd_same z (r.mono l)) fun b hb => upd_ne hb⟩
    · refine .inl ⟨g, .refl _, m.ht, m.st, ⟨m.sl.ln, fun j f h t' => ?_, fun j f h t' => ?_, fun j k b f f' ne t1 t2 h1 h2 q1 q2 => ?_⟩, fun j b f t' h q => ?_⟩
      · by_cases z : i = j
        · subst z; exact absurd ⟨f, h⟩ e
        · rw [getD_set_ne z] at t'
          exact m.sl.frz j f h t'
      · exact m.sl.own j f h (getD_set_false t').2
      · exact m.sl.dis j k b f f' ne (getD_set_false t1).2 (getD_set_false t2).2 h1 h2 q1 q2
      · exact m.nw j b f (getD_set_false t').2 h q
  · refine .inl ⟨g, .refl _, m.ht, m.st, ⟨m.sl.ln, fun j f h t' => ?_, fun j f h t' => ?_, fun j k b f f' ne t1 t2 h1 h2 q1 q2 => ?_⟩, fun j b f t' h q => ?_⟩
    · by_cases z : i = j
      · subst z; exact m.sl.frz i f h (by simpa using t)
      · rw [getD_set_ne z] at t'
        exact m.sl.frz j f h t'
    · exact m.sl.own j f h (getD_set_false t').2
    · exact m.sl.dis j k b f f' ne (getD_set_false t1).2 (getD_set_false t2).2 h1 h2 q1 q2
    · exact m.nw j b f (getD_set_false t').2 h q
end
/-! ### targets -/
theorem wipe_get (σ : L2.St) (j : Nat) : ∀ vs : List Nat, (wipe σ vs)[j]? = if j ∈ vs then (if j < σ.length then some none else none) else σ[j]?
  | [] => by simp [wipe]
  | v :: vs => by
    unfold wipe
    by_cases z : v = j
    · subst z
      simp only [List.mem_cons, true_or, if_true]
      by_cases hl : v < σ.length
      · rw [List.getElem?_set_self (by rw [wipe_length]; exact hl), if_pos hl]
      · rw [List.getElem?_eq_none (by rw [List.length_set, wipe_length]; omega), if_neg hl]
    · rw [List.getElem?_set_ne z, wipe_get σ j vs]
      simp only [List.mem_cons, Ne.symm z, false_or]
theorem wipe_set {σ : L2.St} {i : Nat} {x : Option V} {vs : List Nat} (h : i ∈ vs) : wipe (σ.set i x) vs = wipe σ vs := by
  apply List.ext_getElem?
  intro j
  rw [wipe_get, wipe_get, List.length_set]
  by_cases z : j ∈ vs
  · simp [z]
  · rw [if_neg z, if_neg z, List.getElem?_set_ne (by intro e; subst e; exact z h)]
theorem wipe_wipe (σ : L2.St) (vs : List Nat) : wipe (wipe σ vs) vs = wipe σ vs := by
  apply List.ext_getElem?
  intro j
  rw [wipe_get, wipe_length]
  by_cases z : j ∈ vs
  · rw [wipe_get]; simp [z]
  · simp [z]
/-- how data comes to slots -/
abbrev Bn := D → Env → Option Env
abbrev Bns := List D → Env → Option Env
def tG (K : PySem.W.Frag) (τ τ' : Tg) (is : List Nat) (b : Bn) : TG := fun v σ H Q => ∃ ρ W g d ρ', Ht K g W H ∧ Sl K τ ρ g σ H ∧ Rp K g v d ∧ b d ρ = some ρ' ∧
  ∀ σ', Sl K τ' ρ' g σ' H → (∀ vs, (∀ i ∈ is, i ∈ vs) → wipe σ' vs = wipe σ vs) → (∀ (i : Nat) a e, τ'.getD i false = true → ρ'[i]? = some (some e) → σ'[i]? = some (some (.ref a)) → τ.getD i false = true ∧ ρ[i]? = some (some e) ∧ σ[i]? = some (some (.ref a))) → Q σ' H
def tGs (K : PySem.W.Frag) (τ τ' : Tg) (is : List Nat) (b : Bns) : TGs := fun v σ H Q => ∃ ρ W g d ρ', Ht K g W H ∧ Sl K τ ρ g σ H ∧ Rps K g v d ∧ b d ρ = some ρ' ∧
  ∀ σ', Sl K τ' ρ' g σ' H → (∀ vs, (∀ i ∈ is, i ∈ vs) → wipe σ' vs = wipe σ vs) → (∀ (i : Nat) a e, τ'.getD i false = true → ρ'[i]? = some (some e) → σ'[i]? = some (some (.ref a)) → τ.getD i false = true ∧ ρ[i]? = some (some e) ∧ σ[i]? = some (some (.ref a))) → Q σ' H
abbrev FG (X : Cx) (τ τ' : Tg) (is : List Nat) (tg : Expr) (b : Bn) : Prop := PG X tg (tG X.K τ τ' is b)
abbrev FGs (X : Cx) (τ τ' : Tg) (is : List Nat) (tg : List Expr) (b : Bns) : Prop := PGs X tg (tGs X.K τ τ' is b)
theorem PG.wk {X : Cx} {e : Expr} {t t' : TG} (h : PG X e t) (i : ∀ v σ H Q, t' v σ H Q → t v σ H Q) : PG X e t' := ⟨fun pins s σ H v u Q I r q => h.run pins s σ H v u Q I r (i _ _ _ _ q)⟩
theorem PGs.wk {X : Cx} {e : List Expr} {t t' : TGs} (h : PGs X e t) (i : ∀ v σ H Q, t' v σ H Q → t v σ H Q) : PGs X e t' := ⟨fun pins s σ H v u Q I r q => h.run pins s σ H v u Q I r (i _ _ _ _ q)⟩
def gN (i : Nat) : Bn := fun d ρ => some (ρ.set i (some d))
def gNil : Bns := fun ds ρ => match ds with
  | [] => some ρ
  | _ => none
def gCons (b : Bn) (bs : Bns) : Bns := fun ds ρ => match ds with
  | d :: r => (b d ρ).bind fun ρ1 => bs r ρ1
  | [] => none
def gTup (n : Nat) (bs : Bns) : Bn := fun d ρ => match d with
  | .tup ds => if ds.length = n then bs ds ρ else none
  | _ => none
section
variable {X : Cx} {τ τ1 τ2 : Tg} {is is2 : List Nat} {b : Bn} {bs : Bns} {e : Expr} {es : List Expr} {pos : Pos} {x : Str}
theorem g_name (i : Nat) (nd : X.N.Nodup) (hi : X.N[i]? = some x := by rfl) (hx : Loc X.env.scope x := by first | exact .inl rfl | exact .inr rfl) (hf : X.fn x = true ∨ X.env.scope.names.lookup x = some .local := by first | exact .inl rfl | exact .inr rfl | assumption) :
    FG X τ (τ.set i false) [i] (.Name x pos) (gN i) := PG.wk (pg_name nd hi hx hf) fun v σ H Q ⟨ρ, W, g, d, ρ', ht, sl, r, e, q⟩ => by
  cases e
  refine q _ (sl.setF r) (fun vs h => wipe_set (h i (by simp))) fun j a e t h1 h2 => ?_
  obtain ⟨z, t⟩ := getD_set_false t
  rw [List.getElem?_set_ne z] at h1 h2
  exact ⟨t, h1, h2⟩
theorem gs_nil : FGs X τ τ [] [] gNil := PGs.wk pgs_nil fun v σ H Q ⟨ρ, W, g, d, ρ', ht, sl, r, e, q⟩ => by
  cases r with
  | nil => cases e; exact ⟨rfl, q _ sl (fun _ _ => rfl) fun _ _ _ t h1 h2 => ⟨t, h1, h2⟩⟩
  | cons _ _ => cases e
theorem gs_cons (h1 : FG X τ τ1 is e b) (h2 : FGs X τ1 τ2 is2 es bs) (hs : (assignEach (e :: es) X.env).map (·.2) = assign e X.env :: (assignEach es X.env).map (·.2) := by rfl) :
    FGs X τ τ2 (is ++ is2) (e :: es) (gCons b bs) := PGs.wk (pgs_cons h1 h2 hs) fun v σ H Q ⟨ρ, W, g, d, ρ', ht, sl, r, e, q⟩ => by
  cases r with
  | nil => cases e
  | cons r rr =>
    have e : ((b _ ρ).bind fun ρ1 => bs _ ρ1) = some ρ' := e
    obtain ⟨ρ1, e1, e2⟩ := Option.bind_eq_some_iff.mp e
    refine ⟨_, _, rfl, ρ, W, g, _, ρ1, ht, sl, r, e1, fun σ1 sl1 w1 k1 => ⟨ρ1, W, g, _, ρ', ht, sl1, rr, e2, fun σ2 sl2 w2 k2 => q σ2 sl2 (fun vs h => ?_) fun i a e t q1 q2 => ?_⟩⟩
    · rw [w2 vs fun i hi => h i (List.mem_append_right _ hi), w1 vs fun i hi => h i (List.mem_append_left _ hi)]
    · obtain ⟨t', q1', q2'⟩ := k2 i a e t q1 q2
      exact k1 i a e t' q1' q2'
theorem g_tup {n k : Nat} (hc : X.calm = true) (h : FGs X τ τ1 is es bs) (hn : (assignEach es X.env).length = n := by rfl) (hst : (assignEach es X.env).findIdx? (·.1) = none := by rfl) : FG X τ τ1 is (.Tuple es k pos) (gTup n bs) :=
  PG.wk (pg_tup hc h hn hst) fun v σ H Q ⟨ρ, W, g, d, ρ', ht, sl, r, e, q⟩ => by
  cases r with
  | tup hs rr =>
    have e : (if _ then bs _ ρ else none) = some ρ' := e
    split at e
    · rename_i c
      exact ⟨_, _, rfl, sqT_same ht.sub (.of hs), by rw [rr.length]; exact c, ρ, W, g, _, ρ', ht, sl, rr, e, q⟩
    · cases e
  | _ => cases e
/-- a target whose slots hold no unfrozen things (of a loop, of a comprehension) -/
theorem g_same (h : FG X τ τ1 is e b) (hτ : τ1 = τ := by rfl) : FG X τ τ is e b := by subst hτ; exact h
end
/-! ### what is walked -/
def ItOk (K : PySem.W.Frag) (g1 : Gh) (J : It) (ds : List D) : Prop := ∀ (i : Nat) g H W, Ht K g W H → g1.le g →
  (∀ d, ds[i]? = some d → J.go i H ∧ ∀ x H', J.yld i H x H' → ∃ g', Ht K g' W H' ∧ Step g H g' H' ∧ Rp K g' x d) ∧ (ds.length ≤ i → J.stop i H)
def ItOkS (K : PySem.W.Frag) (g1 : Gh) (H1 : Hp) (J : It) (ds : List D) : Prop := ∀ (i : Nat) g H W, Ht K g W H → Step g1 H1 g H →
  (∀ d, ds[i]? = some d → J.go i H ∧ ∀ x H', J.yld i H x H' → ∃ g', Ht K g' W H' ∧ Step g H g' H' ∧ Rp K g' x d) ∧ (ds.length ≤ i → J.stop i H)
def tI (K : PySem.W.Frag) (τ : Tg) (s : Env → M (List D)) : TI := fun σ H R => ∃ ρ W g ds W', Ht K g W H ∧ Sl K τ ρ g σ H ∧ s ρ W = some (ds, W') ∧ ∀ J H' g', Ht K g' W' H' → Step g H g' H' → ItOk K g' J ds → R J H'
def tIR (K : PySem.W.Frag) (τ : Tg) (s : Env → M (List D)) : TI := fun σ H R => ∃ ρ W g ds W', Ht K g W H ∧ Sl K τ ρ g σ H ∧ s ρ W = some (ds, W') ∧ ∀ J H' g', Ht K g' W' H' → Step g H g' H' → ItOkS K g' H' J ds → R J H'
abbrev FI (X : Cx) (τ : Tg) (tg iter : Expr) (s : Env → M (List D)) : Prop := PI X tg iter (tI X.K τ s)
abbrev FIR (X : Cx) (τ : Tg) (tg iter : Expr) (s : Env → M (List D)) : Prop := PI X tg iter (tIR X.K τ s)
section
variable {X : Cx} {τ : Tg} {w : Bool} {tg e a : Expr} {s : Env → M (List D)} {f fa fb : Env → M D} {pos p : Pos}
theorem ir_i (h : FI X τ tg e s) : FIR X τ tg e s := PI.wk h fun σ H R ⟨ρ, W, g, ds, W', ht, sl, es, q⟩ =>
  ⟨ρ, W, g, ds, W', ht, sl, es, fun J H' g' h' st o => q J H' g' h' st fun i g2 H2 W2 h2 s2 => o i g2 H2 W2 h2 s2.le⟩
/-- a list or a tuple -/
def seqF (f : Env → M D) : Env → M (List D) := fun ρ => bnd (f ρ) fun d => ofO d.items
def iSeq (K : PySem.W.Frag) (tl : TE) : TI := fun σ H R => tl σ H fun x H1 => ∃ a, x = .ref a ∧ (((∃ xs, SqL K H1 a xs) ∧ R (Itl K a) H1) ∨ ((∃ xs, SqT K H1 a xs) ∧ R (Itt K a) H1))
theorem pi_seq {l : Expr} {tl : TE} (hl : PE X l tl) : PI X tg l (iSeq X.K tl) := by
  refine ⟨fun pins s σ H R I h => ?_⟩
  refine thn (hl.run pins s σ H _ I h) fun v s1 ⟨x, H1, I1, r1, q1⟩ => ?_
  obtain ⟨a, e, q⟩ := q1
  subst e
  cases r1
  rcases q with ⟨⟨xs, hq⟩, q⟩ | ⟨⟨xs, hq⟩, q⟩
  · obtain ⟨its, rv, p, hz⟩ := I1.list hq
    refine wpAny_pyIter_list p.isList ?_
    refine ⟨s1.heap.objs.size, [s1.heap.objs.size], _, _, H1, rfl, I1.kept (t' := s1.toks) fun b o e => Heap.get?_push_of_some _ e, turn_list a _, ⟨_, Heap.get?_push_size _ rfl, rfl, rfl⟩, fun b hb => ?_, q⟩
    have e : b = s1.heap.objs.size := by simpa using hb
    subst e
    exact I1.fpOk (Nat.le_refl _) (I1.hok.fresh (Nat.le_refl _))
  · obtain ⟨its, rv, p, hz⟩ := I1.tuple hq
    refine wpAny_pyIter_tuple (show s1.heap.IsTuple a its.toArray from p) ?_
    refine ⟨s1.heap.objs.size, [s1.heap.objs.size], _, _, H1, rfl, I1.kept (t' := s1.toks) fun b o e => Heap.get?_push_of_some _ e, turn_tuple a _, ⟨_, Heap.get?_push_size _ rfl, rfl, rfl⟩, fun b hb => ?_, q⟩
    have e : b = s1.heap.objs.size := by simpa using hb
    subst e
    exact I1.fpOk (Nat.le_refl _) (I1.hok.fresh (Nat.le_refl _))
/-- two readings of one list are one where some state bears both: what stands at a is known -/
theorem itl_ok {K : PySem.W.Frag} {H : Hp} {a : Addr} {xs : List V} {ds : List D} {g : Gh} {W : Wd} (h : Ht K g W H) (q : SqL K H a xs) (r : Rps K g xs ds) (i : Nat) :
    (∀ d, ds[i]? = some d → (Itl K a).go i H ∧ ∀ x H', (Itl K a).yld i H x H' → ∃ g', Ht K g' W H' ∧ Step g H g' H' ∧ Rp K g' x d) ∧ (ds.length ≤ i → (Itl K a).stop i H) := by
  refine ⟨fun d e => ?_, fun l => ⟨xs, q, by rw [r.length]; exact l⟩⟩
  obtain ⟨v, ev, rv⟩ := r.get e
  refine ⟨⟨xs, v, q, ev⟩, fun x H' y => ?_⟩
  obtain ⟨rfl, y⟩ := y
  have := y xs q
  rw [ev] at this
  cases this
  exact ⟨g, h, .refl _ _, rv⟩
theorem itt_ok {K : PySem.W.Frag} {H : Hp} {a : Addr} {xs : List V} {ds : List D} {g : Gh} {W : Wd} (h : Ht K g W H) (q : SqT K H a xs) (r : Rps K g xs ds) (i : Nat) :
    (∀ d, ds[i]? = some d → (Itt K a).go i H ∧ ∀ x H', (Itt K a).yld i H x H' → ∃ g', Ht K g' W H' ∧ Step g H g' H' ∧ Rp K g' x d) ∧ (ds.length ≤ i → (Itt K a).stop i H) := by
  refine ⟨fun d e => ?_, fun l => ⟨xs, q, by rw [r.length]; exact l⟩⟩
  obtain ⟨v, ev, rv⟩ := r.get e
  refine ⟨⟨xs, v, q, ev⟩, fun x H' y => ?_⟩
  obtain ⟨rfl, y⟩ := y
  have := y xs q
  rw [ev] at this
  cases this
  exact ⟨g, h, .refl _ _, rv⟩
theorem i_seq (h : FV X τ false e f) : FI X τ tg e (seqF f) := PI.wk (pi_seq h) fun σ H R ⟨ρ, W, g, ds, W', ht, sl, es, q⟩ => by
  obtain ⟨d, W1, ed, es⟩ := bnd_some es
  obtain ⟨ei, rfl⟩ := ofO_some es
  refine ⟨ρ, W, g, d, _, ht, sl, ed, fun v H' g' h' s r => ?_⟩
  cases r with
  | tup hs rr =>
    cases ei
    exact ⟨_, rfl, .inr ⟨⟨_, sqT_same h'.sub (.of hs)⟩, q _ H' g' h' s fun i g2 H2 W2 h2 l => itt_ok h2 (sqT_same h2.sub (sqT_same l.gg (.of hs))) (rr.mono l) i⟩⟩
  | lst hs rr =>
    cases ei
    exact ⟨_, rfl, .inl ⟨⟨_, .of (h'.sub _ _ hs)⟩, q _ H' g' h' s fun i g2 H2 W2 h2 l => itl_ok h2 (.of (h2.sub _ _ (l.gg _ _ hs))) (rr.mono l) i⟩⟩
  | scr hs =>
    cases ei
    exact ⟨_, rfl, .inl ⟨⟨_, h'.sub.seq hs⟩, q _ H' g' h' s fun i g2 H2 W2 h2 l => itl_ok h2 (h2.sub.seq (l.gg.seq hs)) (.ints _) i⟩⟩
  | _ => cases ei
theorem ir_seq (h : FR X τ e f) : FIR X τ tg e (seqF f) := PI.wk (pi_seq h) fun σ H R ⟨ρ, W, g, ds, W', ht, sl, es, q⟩ => by
  obtain ⟨d, W1, ed, es⟩ := bnd_some es
  obtain ⟨ei, rfl⟩ := ofO_some es
  refine ⟨ρ, W, g, d, _, ht, sl, ed, fun v H' g' h' s o => ?_⟩
  rcases o with r | ⟨a, rfl, ow⟩
  · cases r with
    | tup hs rr =>
      cases ei
      exact ⟨_, rfl, .inr ⟨⟨_, sqT_same h'.sub (.of hs)⟩, q _ H' g' h' s fun i g2 H2 W2 h2 l => itt_ok h2 (sqT_same h2.sub (sqT_same l.le.gg (.of hs))) (rr.mono l.le) i⟩⟩
    | lst hs rr =>
      cases ei
      exact ⟨_, rfl, .inl ⟨⟨_, .of (h'.sub _ _ hs)⟩, q _ H' g' h' s fun i g2 H2 W2 h2 l => itl_ok h2 (.of (h2.sub _ _ (l.le.gg _ _ hs))) (rr.mono l.le) i⟩⟩
    | scr hs =>
      cases ei
      exact ⟨_, rfl, .inl ⟨⟨_, h'.sub.seq hs⟩, q _ H' g' h' s fun i g2 H2 W2 h2 l => itl_ok h2 (h2.sub.seq (l.le.gg.seq hs)) (.ints _) i⟩⟩
    | _ => cases ei
  · obtain ⟨n, nb, x, eh, hb⟩ := ow
    cases hb with
    | lst rr =>
      cases ei
      exact ⟨_, rfl, .inl ⟨⟨_, .of eh⟩, q _ H' g' h' s fun i g2 H2 W2 h2 l => itl_ok h2 (.of (l.kp _ _ eh nb)) (rr.mono l.le) i⟩⟩
    | dk _ _ => cases ei
    | dt _ _ => cases ei
/-- range -/
def rng (lo : Int) (n : Nat) : List D := (List.range n).map fun k => .int (lo + (k : Nat))
def rng1D (d : D) : Option (List D) := match d with
  | .int j => if -(2 ^ 62) ≤ j ∧ j < 2 ^ 62 then some (rng 0 j.toNat) else none
  | _ => none
def rng2D (c d : D) : Option (List D) := match c, d with
  | .int i, .int j => if -(2 ^ 62) ≤ i ∧ i < 2 ^ 62 ∧ -(2 ^ 62) ≤ j ∧ j < 2 ^ 62 then some (rng i (j - i).toNat) else none
  | _, _ => none
def rng1F (f : Env → M D) : Env → M (List D) := fun ρ => bnd (f ρ) fun d => ofO (rng1D d)
def rng2F (f h : Env → M D) : Env → M (List D) := fun ρ => bnd (f ρ) fun c => bnd (h ρ) fun d => ofO (rng2D c d)
theorem itr_ok {K : PySem.W.Frag} {lo : Int} {n : Nat} {g : Gh} {H : Hp} {W : Wd} (h : Ht K g W H) (i : Nat) :
    (∀ d, (rng lo n)[i]? = some d → (Itr lo n).go i H ∧ ∀ x H', (Itr lo n).yld i H x H' → ∃ g', Ht K g' W H' ∧ Step g H g' H' ∧ Rp K g' x d) ∧ ((rng lo n).length ≤ i → (Itr lo n).stop i H) := by
  refine ⟨fun d e => ?_, fun l => by show n ≤ i; simpa [rng] using l⟩
  unfold rng at e
  rw [List.getElem?_map] at e
  by_cases hi : i < n
  · rw [List.getElem?_range hi] at e
    cases e
    exact ⟨hi, fun x H' ⟨e1, e2⟩ => by subst e1; subst e2; exact ⟨g, h, .refl _ _, .int _⟩⟩
  · rw [List.getElem?_eq_none (by simpa using hi)] at e; cases e
theorem i_range1 (hm : X.mg "range" = none) (ha : FV X τ false e f) (hg : Gl X "range" := by rfl) (hs : starEach [e] X.env = [(false, eval e X.env)] := by rfl) (hs' : starEach (e :: []) X.env = (false, eval e X.env) :: starEach [] X.env := by rfl) : FI X τ tg (.Call (.Name "range" p) [e] [] pos) (rng1F f) :=
  PI.wk (pi_range1 hg hm (pa_cons ha pa_nil hs') hs) fun σ H R ⟨ρ, W, g, ds, W', ht, sl, es, q⟩ => by
  obtain ⟨d, W1, ed, es⟩ := bnd_some es
  obtain ⟨ei, rfl⟩ := ofO_some es
  refine ⟨ρ, W, g, d, _, ht, sl, ed, fun v H' g' h' s r => ?_⟩
  cases r with
  | int j =>
    have ei : (if -(2 ^ 62) ≤ j ∧ j < 2 ^ 62 then some (rng 0 j.toNat) else none) = some ds := ei
    split at ei
    · rename_i c
      cases ei
      exact ⟨j, rfl, c.1, c.2, q _ H' g' h' s fun i g2 H2 W2 h2 _ => itr_ok h2 i⟩
    · cases ei
  | _ => cases ei
theorem i_range2 {e2 : Expr} {f2 : Env → M D} (hm : X.mg "range" = none) (ha : FV X τ false e f) (hb : FV X τ false e2 f2) (hg : Gl X "range" := by rfl) (hs : starEach [e, e2] X.env = [(false, eval e X.env), (false, eval e2 X.env)] := by rfl)
    (hs2 : starEach [e2] X.env = [(false, eval e2 X.env)] := by rfl) (hs3 : starEach (e :: [e2]) X.env = (false, eval e X.env) :: starEach [e2] X.env := by rfl) (hs4 : starEach (e2 :: []) X.env = (false, eval e2 X.env) :: starEach [] X.env := by rfl) : FI X τ tg (.Call (.Name "range" p) [e, e2] [] pos) (rng2F f f2) :=
  PI.wk (pi_range2 hg hm (pa_cons ha (pa_cons hb pa_nil hs4) hs3) hs hs2) fun σ H R ⟨ρ, W, g, ds, W', ht, sl, es, q⟩ => by
  obtain ⟨d, W1, ed, es⟩ := bnd_some es
  obtain ⟨d2, W2, ed2, es⟩ := bnd_some es
  obtain ⟨ei, rfl⟩ := ofO_some es
  refine ⟨ρ, W, g, d, W1, ht, sl, ed, fun v H1 g1 h1 s1 r1 => ⟨ρ, W1, g1, d2, _, h1, sl.step s1, ed2, fun v2 H2 g2 h2 s2 r2 => ?_⟩⟩
  cases r1 with
  | int i =>
    cases r2 with
    | int j =>
      have ei : (if -(2 ^ 62) ≤ i ∧ i < 2 ^ 62 ∧ -(2 ^ 62) ≤ j ∧ j < 2 ^ 62 then some (rng i (j - i).toNat) else none) = some ds := ei
      split at ei
      · rename_i c
        cases ei
        exact ⟨i, j, rfl, c, q _ H2 g2 h2 (s1.trans s2 h1) fun k g3 H3 W3 h3 _ => itr_ok h3 k⟩
      · cases ei
    | _ => cases ei
  | _ => cases ei
end
/-! ### comprehensions -/
def lcF (b : Bn) (c : Env → M Bool) (f : Env → M D) (ρ : Env) : List D → M (List D)
  | [] => ret []
  | d :: r => bnd (ofO (b d ρ)) fun ρ1 => bnd (c ρ1) fun k => cond k (bnd (f ρ1) fun x => bnd (lcF b c f ρ r) fun xs => ret (x :: xs)) (lcF b c f ρ r)
def lcS (vs : List Nat) (s : Env → M (List D)) (b : Bn) (c : Env → M Bool) (f : Env → M D) : Env → M D := fun ρ => bnd (s ρ) fun ds => if ds.length ≤ 16777216 then bnd (lcF b c f (fg ρ vs) ds) fun xs => ret (.lst xs) else stuck
abbrev FTs (X : Cx) (τ : Tg) (ifs : List Expr) (f : Env → M Bool) : Prop := PTs X ifs (tT X.K τ f)
def yesB : Env → M Bool := fun _ => ret true
theorem PTs.wk {X : Cx} {e : List Expr} {t t' : TT} (h : PTs X e t) (i : ∀ σ H Q, t' σ H Q → t σ H Q) : PTs X e t' := ⟨fun pins s σ H Q I q => h.run pins s σ H Q I (i _ _ _ q)⟩
theorem ts_nil {X : Cx} {τ : Tg} : FTs X τ [] yesB := PTs.wk pts_nil fun σ H Q ⟨ρ, W, g, b, W', ht, sl, e, q⟩ => by
  cases e
  exact q H g ht (.refl _ _)
theorem ts_one {X : Cx} {τ : Tg} {c : Expr} {f : Env → M Bool} (h : FT X τ c f) : FTs X τ [c] f := pts_one h
theorem lc_tr {K : PySem.W.Frag} {τ : Tg} {s : Env → M (List D)} {b : Bn} {c : Env → M Bool} {f : Env → M D} {vs is : List Nat} {σ : L2.St} {H : Hp} {Q : VK} (hv : ∀ i ∈ is, i ∈ vs) (h : tV K τ true (lcS vs s b c f) σ H Q) :
    tLc (tIR K τ s) (tG K τ τ is b) (tT K τ c) (tV K τ false f) vs σ H Q := by
  obtain ⟨ρ, W, g, d, W', ht, sl, es, q⟩ := h
  obtain ⟨ds, W1, ed, es⟩ := bnd_some es
  split at es
  · rename_i hz
    obtain ⟨xs, W2, ex, es⟩ := bnd_some es
    cases es
    refine ⟨ρ, W, g, ds, W1, ht, sl, ed, fun J H1 g1 h1 s1 io Dn nD => ?_⟩
    have hn := h1.new (o := .lst []) nD
    refine ⟨fun i m H2 => m = ds.length - i ∧ i ≤ ds.length ∧ ∃ g2 W2 acc accD, Ht K g2 W2 H2 ∧ Step g1 H1 g2 H2 ∧ H2 Dn = some (.lst acc) ∧ g2.G Dn = none ∧ ¬ g2.bagA Dn ∧ Rps K g2 acc accD ∧ acc.length ≤ i ∧ ∃ rest, lcF b c f (fg ρ vs) (ds.drop i) W2 = some (rest, W') ∧ accD ++ rest = xs,
      ⟨_, rfl, Nat.zero_le _, g1, W1, [], [], hn.1, hn.2, upd_same, h1.gnone nD, h1.bne nD, .nil, Nat.le_refl _, xs, by simpa using ex, rfl⟩, ?_⟩
    rintro i m H2 ⟨rfl, hi, g2, W2, acc, accD, h2, s2, eD, nG, nB, rA, lA, rest, er, exs⟩
    have it := io i g2 H2 W2 h2 s2
    by_cases hlt : i < ds.length
    · right
      have ei : ds[i]? = some ds[i] := List.getElem?_eq_getElem hlt
      obtain ⟨go, yl⟩ := it.1 _ ei
      rw [List.drop_eq_getElem_cons hlt] at er
      have er : bnd (ofO (b ds[i] (fg ρ vs))) (fun ρ1 => bnd (c ρ1) fun k => cond k (bnd (f ρ1) fun x => bnd (lcF b c f (fg ρ vs) (ds.drop (i + 1))) fun xs => ret (x :: xs)) (lcF b c f (fg ρ vs) (ds.drop (i + 1)))) W2 = some (rest, W') := er
      obtain ⟨ρ1, W3, e1', er1⟩ := bnd_some er
      obtain ⟨e1, rfl⟩ := ofO_some e1'
      clear e1' er
      obtain ⟨k, W4, ek, er⟩ := bnd_some er1
      refine ⟨go, fun H' => ∃ g' W5 acc' accD', Ht K g' W5 H' ∧ Step g1 H1 g' H' ∧ H' Dn = some (.lst acc') ∧ g'.G Dn = none ∧ ¬ g'.bagA Dn ∧ Rps K g' acc' accD' ∧ acc'.length ≤ i + 1 ∧ ∃ rest', lcF b c f (fg ρ vs) (ds.drop (i + 1)) W5 = some (rest', W') ∧ accD' ++ rest' = xs,
        fun H' nx => ⟨ds.length - (i + 1), by omega, rfl, hlt, nx⟩, fun x H3 y => ?_⟩
      obtain ⟨g3, h3, s3, r3⟩ := yl x H3 y
      have s13 := s2.trans s3 h2
      have sl3 : Sl K τ (fg ρ vs) g3 (wipe σ vs) H3 := ((sl.step s1).step s13).wipe vs
      refine ⟨fg ρ vs, W3, g3, ds[i], ρ1, h3, sl3, r3, e1, fun σ4 sl4 w4 _ => ⟨?_, ?_⟩⟩
      · rw [w4 vs hv, wipe_wipe]
      · refine ⟨ρ1, W3, g3, k, W4, h3, sl4, ek, fun H5 g5 h5 s5 => ?_⟩
        have s25 := s3.trans s5 h3
        have kD : ∀ {g' H'}, Step g2 H2 g' H' → H' Dn = some (.lst acc) ∧ g'.G Dn = none ∧ ¬ g'.bagA Dn := fun st => ⟨st.kp _ _ eD nB, st.gf _ _ eD trivial nG, st.nobag eD nB⟩
        cases k with
        | false =>
          obtain ⟨q1, q2, q3⟩ := kD s25
          exact ⟨g5, W4, acc, accD, h5, s2.trans s25 h2, q1, q2, q3, rA.mono s25.le, by omega, rest, er, exs⟩
        | true =>
          have er : bnd (f ρ1) (fun x => bnd (lcF b c f (fg ρ vs) (ds.drop (i + 1))) fun xs => ret (x :: xs)) W4 = some (rest, W') := er
          obtain ⟨z, W6, ez, er⟩ := bnd_some er
          obtain ⟨zs, W7, ezs, er⟩ := bnd_some er
          cases er
          refine ⟨ρ1, W4, g5, z, W6, h5, sl4.step s5, ez, fun y H6 g6 h6 s6 r6 => ?_⟩
          have s26 := s25.trans s6 h5
          obtain ⟨q1, q2, q3⟩ := kD s26
          refine ⟨acc, q1, by rw [line_eq]; omega, g6, W6, acc ++ [y], accD ++ [z], h6.mut q2 q3, (s2.trans s26 h2).mut nD, upd_same, q2, q3, (rA.mono s26.le).append (.cons r6 .nil), by rw [List.length_append]; simp; omega, zs, ezs, by rw [← exs, List.append_assoc]; rfl⟩
    · left
      have ei : i = ds.length := by omega
      subst ei
      rw [List.drop_length] at er
      have er : some (([] : List D), W2) = some (rest, W') := er
      cases er
      rw [List.append_nil] at exs
      subst exs
      refine ⟨it.2 (Nat.le_refl _), q _ H2 g2 h2 (s1.trans s2 h1) ⟨Dn, rfl, ?_, .lst nG nB eD rA⟩⟩
      cases e : H Dn with
      | none => rfl
      | some o =>
        exfalso
        by_cases hb : g.bagA Dn
        · obtain ⟨bb, hb, eb⟩ := hb
          exact h1.bne nD ⟨bb, s1.le.bb _ hb, eb⟩
        · rw [s1.kp _ _ e hb] at nD; cases nD
  · cases es
section
variable {X : Cx} {τ : Tg} {elt tg iter : Expr} {ifs : List Expr} {scope : Scope} {own : List (Str × Nat)} {pos spos py : Pos} {is : List Nat} {s : Env → M (List D)} {b : Bn} {c : Env → M Bool} {f : Env → M D} {y : Str} {i : Nat}
theorem v_lc (own : List (Str × Nat)) (hc : X.calm = true) (hN : X.N.Nodup) (ok : BlkOk X.N X.env.scope scope own) (hi : FIR X τ tg iter s)
    (hg : ∀ (s : Shared) (H : Hp) (C : Addr) (cl : List (Str × Addr)) (fp : List Addr), FG (X.blk s H scope (compEnvC scope cl C X.env) fp) τ τ is tg b)
    (ht : ∀ (s : Shared) (H : Hp) (C : Addr) (cl : List (Str × Addr)) (fp : List Addr), FTs (X.blk s H scope (compEnvC scope cl C X.env) fp) τ ifs c)
    (he : ∀ (s : Shared) (H : Hp) (C : Addr) (cl : List (Str × Addr)) (fp : List Addr), FV (X.blk s H scope (compEnvC scope cl C X.env) fp) τ false elt f)
    (hv : ∀ i ∈ is, i ∈ own.map (·.2) := by decide) (hs : ∀ x, foldedSetIterable iter X.env x = pure x := by intro _; rfl) :
    FV X τ true (.ListComp elt [⟨tg, iter, ifs, 0⟩] scope pos) (lcS (own.map (·.2)) s b c f) := PE.wk (pe_lc hc hN hi ok hg ht he hs) fun _ _ _ h => lc_tr hv h
end
/-! ### statements -/
inductive Out where
  | nx (ρ : Env) | rt (d : D) | bk (ρ : Env) | ct (ρ : Env)
def Post (K : PySem.W.Frag) (wr : Bool) (τl τ' : Tg) (g0 : Gh) (H0 : Hp) (g : Gh) (W' : Wd) (Dn : Ends) : Out → Prop
  | .nx ρ' => ∀ σ' H' g', g.le g' → MS K g0 H0 τ' ρ' W' g' σ' H' → Dn.nx σ' H'
  | .rt d => ∀ v H' g', Ht K g' W' H' → Step g0 H0 g' H' → Vo K H0 g' H' wr v d → Dn.rt v H'
  | .bk ρ' => ∀ σ' H' g', g.le g' → MS K g0 H0 τl ρ' W' g' σ' H' → Dn.bk σ' H'
  | .ct ρ' => ∀ σ' H' g', g.le g' → MS K g0 H0 τl ρ' W' g' σ' H' → Dn.ct σ' H'
theorem Post.le {K : PySem.W.Frag} {wr : Bool} {τl τ' : Tg} {g0 g g1 : Gh} {H0 : Hp} {W' : Wd} {Dn : Ends} {o : Out} (l : g.le g1) (p : Post K wr τl τ' g0 H0 g W' Dn o) : Post K wr τl τ' g0 H0 g1 W' Dn o := by
  cases o with
  | nx ρ => exact fun σ' H' g' l' m => p σ' H' g' (l.trans l') m
  | rt d => exact p
  | bk ρ => exact fun σ' H' g' l' m => p σ' H' g' (l.trans l') m
  | ct ρ => exact fun σ' H' g' l' m => p σ' H' g' (l.trans l') m
def tS (K : PySem.W.Frag) (wr : Bool) (τl τ τ' : Tg) (f : Env → M Out) : TS := fun Dn σ H => ∃ g0 H0 ρ W g o W', MS K g0 H0 τ ρ W g σ H ∧ f ρ W = some (o, W') ∧ Post K wr τl τ' g0 H0 g W' Dn o
abbrev FS (X : Cx) (wr : Bool) (τl τ τ' : Tg) (st : Stmt) (f : Env → M Out) : Prop := PS X st (tS X.K wr τl τ τ' f)
abbrev FB (X : Cx) (wr : Bool) (τl τ τ' : Tg) (st : List Stmt) (f : Env → M Out) : Prop := PSs X st (tS X.K wr τl τ τ' f)
def nxS : Env → M Out := fun ρ => ret (.nx ρ)
def seqS (f h : Env → M Out) : Env → M Out := fun ρ => bnd (f ρ) fun o => match o with
  | .nx ρ' => h ρ'
  | o => ret o
def iteS (c : Env → M Bool) (f h : Env → M Out) : Env → M Out := fun ρ => bnd (c ρ) fun k => cond k (f ρ) (h ρ)
def retS (f : Env → M D) : Env → M Out := fun ρ => bnd (f ρ) fun d => ret (.rt d)
def setS (i : Nat) (f : Env → M D) : Env → M Out := fun ρ => bnd (f ρ) fun d => ret (.nx (ρ.set i (some d)))
def tgtS (b : Bn) (f : Env → M D) : Env → M Out := fun ρ => bnd (f ρ) fun d => bnd (ofO (b d ρ)) fun ρ' => ret (.nx ρ')
def dropS (f : Env → M D) : Env → M Out := fun ρ => bnd (f ρ) fun _ => ret (.nx ρ)
def par2S (i j : Nat) (f h : Env → M D) : Env → M Out := fun ρ => bnd (f ρ) fun d => bnd (h ρ) fun e => ret (.nx ((ρ.set i (some d)).set j (some e)))
def bkS : Env → M Out := fun ρ => ret (.bk ρ)
def ctS : Env → M Out := fun ρ => ret (.ct ρ)
def neverS : Env → M Out := fun _ => stuck
def forF (b : Bn) (f : Env → M Out) (J : List Nat) : List D → Env → M Out
  | [], ρ => ret (.nx ρ)
  | d :: r, ρ => bnd (ofO (b d ρ)) fun ρ1 => bnd (f ρ1) fun o => match o with
    | .nx ρ' => forF b f J r (fg ρ' J)
    | .ct ρ' => forF b f J r (fg ρ' J)
    | .bk ρ' => ret (.nx (fg ρ' J))
    | .rt d => ret (.rt d)
def forS (J : List Nat) (s : Env → M (List D)) (b : Bn) (f : Env → M Out) : Env → M Out := fun ρ => bnd (s ρ) fun ds => forF b f J ds (fg ρ J)
def whF (c : Env → M Bool) (f : Env → M Out) (J : List Nat) : Nat → Env → M Out
  | 0, _ => stuck
  | n + 1, ρ => bnd (c ρ) fun k => cond k (bnd (f ρ) fun o => match o with
    | .nx ρ' => whF c f J n (fg ρ' J)
    | .ct ρ' => whF c f J n (fg ρ' J)
    | .bk ρ' => ret (.nx (fg ρ' J))
    | .rt d => ret (.rt d)) (ret (.nx ρ))
def whS (N : Nat) (J : List Nat) (c : Env → M Bool) (f : Env → M Out) : Env → M Out := fun ρ => whF c f J N (fg ρ J)
section
variable {X : Cx} {wr w w1 w2 : Bool} {τl τ τ1 τ2 τ' : Tg} {st : Stmt} {sts : List Stmt} {f h fb : Env → M Out} {e e1 e2 : Expr} {fe f1 f2 : Env → M D} {c : Env → M Bool} {pos : Pos} {x y : Str} {i j : Nat} {b : Bn} {is : List Nat}
theorem b_nil : FB X wr τl τ τ [] nxS := PSs.wk pss_nil fun Dn σ H ⟨g0, H0, ρ, W, g, o, W', m, ef, q⟩ => by
  cases ef
  exact q σ H g (.refl _) m
theorem b_cons (h1 : FS X wr τl τ τ1 st f) (h2 : FB X wr τl τ1 τ2 sts h) : FB X wr τl τ τ2 (st :: sts) (seqS f h) := PSs.wk (pss_cons h1 h2) fun Dn σ H ⟨g0, H0, ρ, W, g, o, W', m, ef, q⟩ => by
  obtain ⟨o1, W1, e1, ef⟩ := bnd_some ef
  refine ⟨g0, H0, ρ, W, g, o1, W1, m, e1, ?_⟩
  cases o1 with
  | nx ρ1 => exact fun σ1 H1 g1 l1 m1 => ⟨g0, H0, ρ1, W1, g1, o, W', m1, ef, q.le l1⟩
  | rt d => cases ef; exact q
  | bk d => cases ef; exact q
  | ct d => cases ef; exact q
theorem b_one (h1 : FS X wr τl τ τ1 st f) : FB X wr τl τ τ1 [st] f := pss_one h1
/-- slot i's thing is frozen from here on -/
theorem b_frz (i : Nat) (h : FB X wr τl (τ.set i false) τ2 sts f) : FB X wr τl τ τ2 sts f := PSs.wk (pss_lk h) fun Dn σ H ⟨g0, H0, ρ, W, g, o, W', m, ef, q⟩ => by
  rcases m.frz i with ⟨g', l, m'⟩ | ⟨d, u, hd, mu, k⟩
  · exact .inl ⟨g0, H0, ρ, W, g', o, W', m', ef, q.le l⟩
  · refine .inr ⟨d, u, hd, mu, fun od => ?_⟩
    obtain ⟨g', l, m'⟩ := k od
    exact ⟨g0, H0, ρ, W, g', o, W', m', ef, q.le l⟩
theorem s_frz (i : Nat) (h : FS X wr τl (τ.set i false) τ2 st f) : FS X wr τl τ τ2 st f := PS.wk (ps_lk h) fun Dn σ H ⟨g0, H0, ρ, W, g, o, W', m, ef, q⟩ => by
  rcases m.frz i with ⟨g', l, m'⟩ | ⟨d, u, hd, mu, k⟩
  · exact .inl ⟨g0, H0, ρ, W, g', o, W', m', ef, q.le l⟩
  · refine .inr ⟨d, u, hd, mu, fun od => ?_⟩
    obtain ⟨g', l, m'⟩ := k od
    exact ⟨g0, H0, ρ, W, g', o, W', m', ef, q.le l⟩
/-- the same tags, otherwise written -/
theorem b_tg (h : FB X wr τl τ τ1 sts f) (e : τ1 = τ2 := by rfl) : FB X wr τl τ τ2 sts f := by subst e; exact h
theorem s_never : FS X wr τl τ τ2 st neverS := PS.wk ps_never fun Dn σ H ⟨g0, H0, ρ, W, g, o, W', m, ef, q⟩ => by cases ef
theorem b_never : FB X wr τl τ τ2 sts neverS := PSs.wk pss_never fun Dn σ H ⟨g0, H0, ρ, W, g, o, W', m, ef, q⟩ => by cases ef
theorem s_pass : FS X wr τl τ τ (.Pass pos) nxS := PS.wk ps_pass fun Dn σ H ⟨g0, H0, ρ, W, g, o, W', m, ef, q⟩ => by
  cases ef
  exact q σ H g (.refl _) m
theorem s_break : FS X wr τ τ τ2 (.Break pos) bkS := PS.wk ps_break fun Dn σ H ⟨g0, H0, ρ, W, g, o, W', m, ef, q⟩ => by
  cases ef
  exact q σ H g (.refl _) m
theorem s_continue : FS X wr τ τ τ2 (.Continue pos) ctS := PS.wk ps_continue fun Dn σ H ⟨g0, H0, ρ, W, g, o, W', m, ef, q⟩ => by
  cases ef
  exact q σ H g (.refl _) m
theorem s_doc {x : Str} {j pos'} : FS X wr τl τ τ (.Expr (.Constant (.str x) j pos) pos') nxS := PS.wk ps_doc fun Dn σ H ⟨g0, H0, ρ, W, g, o, W', m, ef, q⟩ => by
  cases ef
  exact q σ H g (.refl _) m
theorem s_if {cc : Expr} {as bs : List Stmt} (hc : FT X τ cc c) (ha : FB X wr τl τ τ1 as f) (hb : FB X wr τl τ τ1 bs h) : FS X wr τl τ τ1 (.If cc as bs pos) (iteS c f h) := PS.wk (ps_if hc ha hb) fun Dn σ H ⟨g0, H0, ρ, W, g, o, W', m, ef, q⟩ => by
  obtain ⟨k, W1, ek, ef⟩ := bnd_some ef
  refine ⟨ρ, W, g, k, W1, m.ht, m.sl, ek, fun H1 g1 h1 s1 => ?_⟩
  cases k with
  | true => exact ⟨g0, H0, ρ, W1, g1, o, W', m.step h1 s1, ef, q.le s1.le⟩
  | false => exact ⟨g0, H0, ρ, W1, g1, o, W', m.step h1 s1, ef, q.le s1.le⟩
theorem s_ret (he : FV X τ wr e fe) : FS X wr τl τ τ2 (.Return (some e) pos) (retS fe) := PS.wk (ps_ret he) fun Dn σ H ⟨g0, H0, ρ, W, g, o, W', m, ef, q⟩ => by
  obtain ⟨d, W1, ed, ef⟩ := bnd_some ef
  cases ef
  exact ⟨ρ, W, g, d, _, m.ht, m.sl, ed, fun v H' g' h' s' o => q v H' g' h' (m.st.trans s' m.ht) (o.pre m.st m.ht)⟩
theorem s_retN : FS X false τl τ τ2 (.Return none pos) (retS (kst .non)) := PS.wk ps_retN fun Dn σ H ⟨g0, H0, ρ, W, g, o, W', m, ef, q⟩ => by
  cases ef
  exact q _ H g m.ht m.st .non
/-- return of a name whose thing is not frozen -/
theorem s_retO (i : Nat) (hτ : τ.getD i false = true := by rfl) (hN : X.N[i]? = some x := by rfl) (hv : Vis X.env.scope x := by first | exact Or.inl rfl | exact Or.inr (Or.inl rfl) | exact Or.inr (Or.inr rfl)) (hd : (x == ("__debug__" : Str)) = false := by decide)
    (hcd : (x == ("__classdict__" : Str)) = false := by decide) {pos'} : FS X true τl τ τ2 (.Return (some (.Name x pos')) pos) (retS (rd i)) := PS.wk (ps_ret (pe_var hN hv hd hcd)) fun Dn σ H ⟨g0, H0, ρ, W, g, o, W', m, ef, q⟩ => by
  obtain ⟨d, W1, ed, ef⟩ := bnd_some ef
  cases ef
  obtain ⟨e1, rfl⟩ := rd_some ed
  obtain ⟨a, ea, ow⟩ := m.sl.own i d e1 hτ
  exact ⟨_, ea, q _ H g m.ht m.st ⟨a, rfl, m.nw i a d hτ e1 ea, ow⟩⟩
theorem s_set (i : Nat) (nd : X.N.Nodup) (he : FV X τ w e fe) (hτ : w = true → i < τ.length := by decide) (hi : X.N[i]? = some x := by rfl) (hx : Loc X.env.scope x := by first | exact .inl rfl | exact .inr rfl) {pos' : Pos} (hs : swapsWith e (some (.Name x pos')) pos.line X.env = pure false := by rfl)
    (hf : X.fn x = true ∨ X.env.scope.names.lookup x = some .local := by first | exact .inl rfl | exact .inr rfl | assumption) : FS X wr τl τ (τ.set i w) (.Assign [.Name x pos'] e pos) (setS i fe) := PS.wk (ps_set nd hi hx he hs hf) fun Dn σ H ⟨g0, H0, ρ, W, g, o, W', m, ef, q⟩ => by
  obtain ⟨d, W1, ed, ef⟩ := bnd_some ef
  cases ef
  exact ⟨ρ, W, g, d, _, m.ht, m.sl, ed, fun v H' g' h' s' o => q _ H' g' s'.le (m.set h' s' o hτ)⟩
/-- x = [..], x a local, on one line -/
theorem s_setLc (i : Nat) (own : List (Str × Nat)) (hc : X.calm = true) (hN : X.N.Nodup) {elt tg iter : Expr} {ifs : List Expr} {scope : Scope} {py cpos : Pos} {s : Env → M (List D)} {cc : Env → M Bool} (hy : X.N[i]? = some y) (hyl : X.env.scope.names.lookup y = some .local)
    (hsw : swapsWith (.ListComp elt [⟨tg, iter, ifs, 0⟩] scope cpos) (some (.Name y py)) pos.line X.env = pure true) (ok : BlkOk X.N X.env.scope scope own) (hi : FIR X τ tg iter s)
    (hg : ∀ (s : Shared) (H : Hp) (C : Addr) (cl : List (Str × Addr)) (fp : List Addr), FG (X.blk s H scope (compEnvC scope cl C X.env) fp) τ τ is tg b)
    (ht : ∀ (s : Shared) (H : Hp) (C : Addr) (cl : List (Str × Addr)) (fp : List Addr), FTs (X.blk s H scope (compEnvC scope cl C X.env) fp) τ ifs cc)
    (he : ∀ (s : Shared) (H : Hp) (C : Addr) (cl : List (Str × Addr)) (fp : List Addr), FV (X.blk s H scope (compEnvC scope cl C X.env) fp) τ false elt fe)
    (hv : ∀ i ∈ is, i ∈ own.map (·.2) := by decide) (hτ : i < τ.length := by decide) (hs : ∀ x, foldedSetIterable iter X.env x = pure x := by intro _; rfl) :
    FS X wr τl τ (τ.set i true) (.Assign [.Name y py] (.ListComp elt [⟨tg, iter, ifs, 0⟩] scope cpos) pos) (setS i (lcS (own.map (·.2)) s b cc fe)) := PS.wk (ps_setLc hc hN hy hyl hsw hi ok hg ht he hs) fun Dn σ H ⟨g0, H0, ρ, W, g, o, W', m, ef, q⟩ => by
  obtain ⟨d, W1, ed, ef⟩ := bnd_some ef
  cases ef
  exact lc_tr hv ⟨ρ, W, g, d, _, m.ht, m.sl, ed, fun v H' g' h' s' o => q _ H' g' s'.le (m.set h' s' o fun _ => hτ)⟩
/-- .. frozen at once -/
theorem s_setF (h : FS X wr τl τ (τ.set i true) st f) (hi : i < τ.length := by decide) : FS X wr τl τ (τ.set i false) st f := PS.wk (ps_lkE h) fun Dn σ H ⟨g0, H0, ρ, W, g, o, W', m, ef, q⟩ => by
  refine ⟨g0, H0, ρ, W, g, o, W', m, ef, ?_⟩
  cases o with
  | nx ρ1 =>
    intro σ1 H1 g1 l1 m1
    rcases m1.frz i with ⟨g2, l2, m2⟩ | ⟨d, u, hd, mu, k⟩
    · rw [List.set_set] at m2
      exact .inl (q σ1 H1 g2 (l1.trans l2) m2)
    · refine .inr ⟨d, u, hd, mu, fun od => ?_⟩
      obtain ⟨g2, l2, m2⟩ := k od
      rw [List.set_set] at m2
      exact q σ1 _ g2 (l1.trans l2) m2
  | rt d => exact q
  | bk d => exact q
  | ct d => exact q
theorem s_tgt {tg : Expr} (he : FV X τ false e fe) (hg : FG X τ τ1 is tg b) (hs : swapsWithSole [tg] e pos.line X.env = pure false := by rfl) (hw : swappedStores [tg] e X.env = pure none := by rfl)
    (h1 : (assignEach [tg] X.env).map (·.2) = [assign tg X.env] := by rfl) : FS X wr τl τ τ1 (.Assign [tg] e pos) (tgtS b fe) := PS.wk (ps_asg he hg hs hw h1) fun Dn σ H ⟨g0, H0, ρ, W, g, o, W', m, ef, q⟩ => by
  obtain ⟨d, W1, ed, ef⟩ := bnd_some ef
  obtain ⟨ρ', W2, eb', ef1⟩ := bnd_some ef
  obtain ⟨eb, rfl⟩ := ofO_some eb'
  clear eb'
  cases ef1
  refine ⟨ρ, W, g, d, _, m.ht, m.sl, ed, fun v H' g' h' s' r => ?_⟩
  have m' := m.step h' s'
  exact ⟨ρ, _, g', d, ρ', h', m'.sl, r, eb, fun σ' sl' _ k => q σ' H' g' s'.le ⟨h', m'.st, sl', fun i a e t q1 q2 => by
    obtain ⟨t, q1, q2⟩ := k i a e t q1 q2
    exact m.nw i a e t q1 q2⟩⟩
theorem s_drop (he : FV X τ w e fe) (hs : swapsWith e none pos.line X.env = pure false := by rfl) : FS X wr τl τ τ (.Expr e pos) (dropS fe) := PS.wk (ps_expr he hs) fun Dn σ H ⟨g0, H0, ρ, W, g, o, W', m, ef, q⟩ => by
  obtain ⟨d, W1, ed, ef⟩ := bnd_some ef
  cases ef
  exact ⟨ρ, W, g, d, _, m.ht, m.sl, ed, fun v H' g' h' s' o => q _ H' g' s'.le (m.step h' s')⟩
/-- a, b = e1, e2 of two local names -/
theorem s_par2 (i j : Nat) (hc : X.calm = true) (nd : X.N.Nodup) {px py pt : Pos} {kt k2 pt2} (h1 : FV X τ w1 e1 f1) (h2 : FV X τ w2 e2 f2) (hij : i ≠ j := by decide) (hi' : w1 = true → i < τ.length := by decide) (hj' : w2 = true → j < (τ.set i w1).length := by decide) (hi : X.N[i]? = some x := by rfl) (hj : X.N[j]? = some y := by rfl)
    (hx : X.env.scope.names.lookup x = some .local := by rfl) (hy : X.env.scope.names.lookup y = some .local := by rfl)
    (hw : swappedStores [.Tuple [.Name x px, .Name y py] kt pt] (.Tuple [e1, e2] k2 pt2) X.env = pure (some [x, y]) := by rfl)
    (hs : swapsWithSole [.Tuple [.Name x px, .Name y py] kt pt] (.Tuple [e1, e2] k2 pt2) pos.line X.env = pure false := by rfl) (hs1 : starEach (e1 :: [e2]) X.env = (false, eval e1 X.env) :: starEach [e2] X.env := by rfl) (hs2 : starEach (e2 :: []) X.env = (false, eval e2 X.env) :: starEach [] X.env := by rfl) :
    FS X wr τl τ ((τ.set i w1).set j w2) (.Assign [.Tuple [.Name x px, .Name y py] kt pt] (.Tuple [e1, e2] k2 pt2) pos) (par2S i j f1 f2) :=
  PS.wk (ps_par hc nd hi hj hij hx hy (pa_cons h1 (pa_cons h2 pa_nil hs2) hs1) hw hs) fun Dn σ H ⟨g0, H0, ρ, W, g, o, W', m, ef, q⟩ => by
  obtain ⟨d, W1, ed, ef⟩ := bnd_some ef
  obtain ⟨d2, W2, ed2, ef⟩ := bnd_some ef
  cases ef
  refine ⟨ρ, W, g, d, W1, m.ht, m.sl, ed, fun v H1 g1 h1 s1 o1 => ⟨ρ, W1, g1, d2, _, h1, m.sl.step s1, ed2, fun v2 H2 g2 h2 s2 o2 => ⟨v, v2, rfl, ?_⟩⟩⟩
  exact q _ H2 g2 (s1.le.trans s2.le) ((m.set h1 s1 o1 hi').set h2 s2 o2 hj')
/-- for target in iter -/
theorem s_for (J : List Nat) {tg iter : Expr} {body : List Stmt} {s : Env → M (List D)} (hp : PassesOwn (model X.prog X.w) X.A X.env X.xe) (hc : X.calm = true) (hi : FI X τ tg iter s) (hg : FG X τ τ is tg b) (hb : FB X wr τ τ τ body fb)
    (hs : ∀ x, foldedSetIterable iter X.env x = pure x := by intro _; rfl) : FS X wr τl τ τ (.For tg iter body [] pos) (forS J s b fb) := PS.wk (ps_for hp hc hi hg hb hs) fun Dn σ H ⟨g0, H0, ρ, W, g, o, W', m, ef, q⟩ => by
  obtain ⟨ds, W1, ed, ef⟩ := bnd_some ef
  refine ⟨ρ, W, g, ds, W1, m.ht, m.sl, ed, fun It H1 g1 h1 s1 io => ?_⟩
  refine ⟨fun i n σ2 H2 => n = ds.length - i ∧ i ≤ ds.length ∧ ∃ ρ2 W2 g2, MS X.K g0 H0 τ ρ2 W2 g2 σ2 H2 ∧ g1.le g2 ∧ forF b fb J (ds.drop i) ρ2 W2 = some (o, W'),
    ⟨_, rfl, Nat.zero_le _, VS.fg ρ J, W1, g1, (m.step h1 s1).fg J, .refl _, by simpa using ef⟩, ?_⟩
  rintro i n σ2 H2 ⟨rfl, hi, ρ2, W2, g2, m2, l2, e2⟩
  have it := io i g2 H2 W2 m2.ht l2
  by_cases hlt : i < ds.length
  · right
    have ei : ds[i]? = some ds[i] := List.getElem?_eq_getElem hlt
    obtain ⟨go, yl⟩ := it.1 _ ei
    rw [List.drop_eq_getElem_cons hlt] at e2
    have e2 : bnd (ofO (b ds[i] ρ2)) (fun ρ1 => bnd (fb ρ1) fun o => match o with
      | .nx ρ' => forF b fb J (ds.drop (i + 1)) (VS.fg ρ' J)
      | .ct ρ' => forF b fb J (ds.drop (i + 1)) (VS.fg ρ' J)
      | .bk ρ' => ret (.nx (VS.fg ρ' J))
      | .rt d => ret (.rt d)) W2 = some (o, W') := e2
    obtain ⟨ρ3, W3, e3', e21⟩ := bnd_some e2
    obtain ⟨e3, rfl⟩ := ofO_some e3'
    clear e3' e2
    obtain ⟨o4, W4, e4, e2⟩ := bnd_some e21
    refine ⟨go, fun σ5 H5 => ∃ ρ5 W5 g5, MS X.K g0 H0 τ ρ5 W5 g5 σ5 H5 ∧ g1.le g5 ∧ forF b fb J (ds.drop (i + 1)) ρ5 W5 = some (o, W'), fun σ5 H5 nx => ⟨ds.length - (i + 1), by omega, rfl, hlt, nx⟩, fun z H3 yy => ?_⟩
    obtain ⟨g3, h3, s3, r3⟩ := yl z H3 yy
    have m3 := m2.step h3 s3
    refine ⟨ρ2, W3, g3, ds[i], ρ3, h3, m3.sl, r3, e3, fun σ4 sl4 _ k => ?_⟩
    have m4 : MS X.K g0 H0 τ ρ3 W3 g3 σ4 H3 := ⟨h3, m3.st, sl4, fun i a e t q1 q2 => by
      obtain ⟨t, q1, q2⟩ := k i a e t q1 q2
      exact m3.nw i a e t q1 q2⟩
    have l3 := l2.trans s3.le
    refine ⟨g0, H0, ρ3, W3, g3, o4, W4, m4, e4, ?_⟩
    cases o4 with
    | nx ρ5 => exact fun σ' H' g' l' m' => ⟨_, W4, g', m'.fg J, l3.trans l', e2⟩
    | ct ρ5 => exact fun σ' H' g' l' m' => ⟨_, W4, g', m'.fg J, l3.trans l', e2⟩
    | bk ρ5 =>
      cases e2
      exact fun σ' H' g' l' m' => q σ' H' g' ((s1.le.trans l3).trans l') (m'.fg J)
    | rt d =>
      cases e2
      exact q
  · left
    have ei : i = ds.length := by omega
    subst ei
    rw [List.drop_length] at e2
    have e2 : some (Out.nx ρ2, W2) = some (o, W') := e2
    cases e2
    exact ⟨it.2 (Nat.le_refl _), q _ _ _ (s1.le.trans l2) m2⟩
/-- while -/
theorem s_while (N : Nat) (J : List Nat) {cc : Expr} {body : List Stmt} (hp : PassesOwn (model X.prog X.w) X.A X.env X.xe) (hc : FT X τ cc c) (hb : FB X wr τ τ τ body fb) : FS X wr τl τ τ (.While cc body [] pos) (whS N J c fb) := PS.wk (ps_while hp hc hb) fun Dn σ H ⟨g0, H0, ρ, W, g, o, W', m, ef, q⟩ => by
  refine ⟨fun n σ2 H2 => ∃ ρ2 W2 g2, MS X.K g0 H0 τ ρ2 W2 g2 σ2 H2 ∧ g.le g2 ∧ whF c fb J n ρ2 W2 = some (o, W'), ⟨N, VS.fg ρ J, W, g, m.fg J, .refl _, ef⟩, ?_⟩
  rintro n σ2 H2 ⟨ρ2, W2, g2, m2, l2, e2⟩
  cases n with
  | zero => cases e2
  | succ n =>
    have e2 : bnd (c ρ2) (fun k => cond k (bnd (fb ρ2) fun o => match o with
      | .nx ρ' => whF c fb J n (VS.fg ρ' J)
      | .ct ρ' => whF c fb J n (VS.fg ρ' J)
      | .bk ρ' => ret (.nx (VS.fg ρ' J))
      | .rt d => ret (.rt d)) (ret (.nx ρ2))) W2 = some (o, W') := e2
    obtain ⟨k, W3, ek, e2⟩ := bnd_some e2
    refine ⟨ρ2, W2, g2, k, W3, m2.ht, m2.sl, ek, fun H3 g3 h3 s3 => ?_⟩
    have m3 := m2.step h3 s3
    have l3 := l2.trans s3.le
    cases k with
    | false =>
      cases e2
      exact q _ _ _ l3 m3
    | true =>
      have e2 : bnd (fb ρ2) (fun o => match o with
        | .nx ρ' => whF c fb J n (VS.fg ρ' J)
        | .ct ρ' => whF c fb J n (VS.fg ρ' J)
        | .bk ρ' => ret (.nx (VS.fg ρ' J))
        | .rt d => ret (.rt d)) W3 = some (o, W') := e2
      obtain ⟨o4, W4, e4, e2⟩ := bnd_some e2
      refine ⟨fun σ5 H5 => ∃ ρ5 W5 g5, MS X.K g0 H0 τ ρ5 W5 g5 σ5 H5 ∧ g.le g5 ∧ whF c fb J n ρ5 W5 = some (o, W'), fun σ5 H5 nx => ⟨n, Nat.lt_succ_self n, nx⟩, g0, H0, ρ2, W3, g3, o4, W4, m3, e4, ?_⟩
      cases o4 with
      | nx ρ5 => exact fun σ' H' g' l' m' => ⟨_, W4, g', m'.fg J, l3.trans l', e2⟩
      | ct ρ5 => exact fun σ' H' g' l' m' => ⟨_, W4, g', m'.fg J, l3.trans l', e2⟩
      | bk ρ5 =>
        cases e2
        exact fun σ' H' g' l' m' => q σ' H' g' (l3.trans l') (m'.fg J)
      | rt d =>
        cases e2
        exact q
end
/-! ### defs -/
def outD (wr : Bool) : Out → M D
  | .nx _ => cond wr stuck (ret .non)
  | .rt d => ret d
  | _ => stuck
def bodyF (wr : Bool) (N : Nat) (b : Env → M Out) : List D → M D := fun ds => bnd (b (ds.map some ++ List.replicate (N - ds.length) none)) (outD wr)
theorem getD_rep (n i : Nat) : (List.replicate n false).getD i false = false := by
  simp only [List.getD, List.getElem?_replicate]
  split <;> rfl
theorem fk_of {P : Program} {w : World} {K : PySem.W.Frag} {mg : Str → Option Value} {base : Heap} {x qual : Str} {st : Stmt} {f : Addr} {fd : FuncData} {N ps : List Str} {k : Nat} {wr : Bool} {b : Env → M Out} {τ' : Tg}
    (F : Fun K x qual st f fd) (S : FnScope N ps (defScope st)) (hb : Binds K fd ps [])
    (h : ∀ cdv A outer s H E, Room k (A.deeper (envOfC qual (defScope st) s.heap.objs.size f cdv)) → FB (cxOf CX0 P w K mg base N qual (defScope st) f cdv A outer s H E).nox wr [] (List.replicate N.length false) τ' (defBody st) b) :
    Fk P w K mg base (k + 1) f fd ps wr (bodyF wr N.length b) := by
  refine ⟨F.ok S (fun vs H Q E h => ?_) (fun cdv A outer s H vs Q E hr hs => ?_), F.kp, hb⟩
  · obtain ⟨ds, W, g, d, W', ht, r, hl, _⟩ := h
    rw [r.length]; exact hl
  · obtain ⟨ds, W, g, d, W', ht, r, hl, ef, q⟩ := hs
    obtain ⟨o, W1, eo, ef⟩ := bnd_some ef
    have hl2 := r.length
    have hpl : ps.length ≤ N.length := by have := congrArg List.length S.pre; rw [List.length_take] at this; omega
    refine ⟨_, h cdv A outer s H E hr, g, H, _, W, g, o, W1, ⟨ht, .refl _ _, ⟨?_, fun i e h t => ?_, fun i e h t => ?_, fun i j a e e' ne t => ?_⟩, fun i a e t => ?_⟩, eo, ?_⟩
    · unfold L2.start
      rw [List.length_append, List.length_append, List.length_map, List.length_map, List.length_replicate, List.length_replicate, hl2]
    · have hi : i < ds.length := by
        by_cases hi : i < ds.length
        · exact hi
        · rw [List.getElem?_append_right (by simpa using hi), List.getElem?_replicate] at h
          split at h <;> cases h
      rw [List.getElem?_append_left (by simpa using hi), List.getElem?_map] at h
      cases e1 : ds[i]? with
      | none => rw [e1] at h; cases h
      | some d' =>
        rw [e1] at h
        cases h
        obtain ⟨v, ev, rv⟩ := r.get e1
        refine ⟨v, ?_, rv⟩
        unfold L2.start
        rw [List.getElem?_append_left (by rw [List.length_map]; omega), List.getElem?_map, ev]
        rfl
    · rw [getD_rep] at t; cases t
    · rw [getD_rep] at t; cases t
    · rw [getD_rep] at t; cases t
    · cases o with
      | nx ρ =>
        cases wr with
        | true => cases ef
        | false =>
          cases ef
          exact fun σ' H' g' l' m' => q _ H' g' m'.ht m'.st .non
      | rt d =>
        cases ef
        exact fun v H' g' h' s' o => q v H' g' h' s' o
      | bk ρ => cases ef
      | ct ρ => cases ef
end VS
set_option Elab.async false
set_option linter.all false
set_option maxRecDepth 100000
set_option maxHeartbeats 1000000
/-! VS5a: list(reversed(a list)). -/
namespace VS
open PySem PySem.Spec PyProof.Rows RT
section
variable {prog : Program} {w : World} {A : Around} {E : Value → Shared → Prop} {s : Shared} {R : Result → Shared → Prop}
theorem extend_rev {it l S : Addr} {items : Array Value} {res : Value} {c₀ : Nat} (hh : A.handled = none) (hit : s.heap.IsRevIter it l ((items.size : Int) - 1)) (hl : s.heap.IsList l items) (hne : l ≠ it) (hn : items.size ≤ sizeLine)
    (hS : s.heap.get? S = some { cls := .type "list", data := .seq #[] c₀ }) (hSi : S ≠ it) (hSl : S ≠ l)
    (hR : ∀ (h' : Heap) (tk : Nat) (acc : Array Value) (c' : Nat), (∀ b o, b ≠ it → b ≠ S → s.heap.get? b = some o → h'.get? b = some o) → h'.get? S = some { cls := .type "list", dict := none, data := .seq acc c', slots := #[] } →
      ItemsOf (fun i v => items[items.size - 1 - i]? = some v) acc items.size → R (.ok (.ret res)) { s with heap := h', toks := tk }) :
    wpAny (model prog w) A.in1 (Builtin.List.listExtendWith (.ref S) (.ref it) res)
      (fun fin s' => match fin with | .done f => R (.ok f) s' | .again c' => c'.quiet = true ∧ codeAny (model prog w) A c' R s') (fun e s' => R (.error e) s') s := by
  have W := (Walks.listRev (prog := prog) (w := w) (A := A.in1) hh it l hne items).toS
  have hSf : S ∉ [it, l] := by simp only [List.mem_cons, List.not_mem_nil, or_false, not_or]; exact ⟨hSi, hSl⟩
  have hT : s.TypeIs (.ref it) "list_reverseiterator" := hit.typeIs
  have h1 : Builtin.List.listSameRef (.ref S) (.ref it) = false := by simp [Builtin.List.listSameRef, hSi]
  unfold Builtin.List.listExtendWith
  refine wpAny_bind (wpAny_typeOf hT ?_)
  rw [if_neg (by rw [h1]; decide)]
  refine wpAny_bind (wpAny_pyIter_revIter hit ?_)
  refine wpAny_bind (wpAny_holding ?_)
  unfold Builtin.List.listLengthHint
  refine wpAny_bind (wpAny_specialOf hT nolen_lri ?_)
  show wpAny _ A.in1 (specialOf (Value.ref it) (Str.ofString "__length_hint__") >>= _) _ _ _
  refine wpAny_bind (wpAny_specialOf hT hint_lri ?_)
  generalize hid : ("list_reverseiterator.__length_hint__" : String) = id0
  wp_delta
  rw [show splitId id0 = some ("list_reverseiterator", "__length_hint__") from by subst hid; decide +kernel]
  subst hid
  refine wpAny_bind (wpAny_isInstance (b := true) hT (by rw [isSubtype_type]; kernel_rfl) ?_)
  refine wpAny_pure ?_
  rw [if_neg (by decide)]
  have e0 : ((items.size : Nat) : Int) - 1 - ((0 : Nat) : Int) = (items.size : Int) - 1 := by omega
  refine wpAny_pure ⟨plainId_quiet F.plain_extend_loop _, codeAny_extend_loopS W hn _ hSf _ items.size 0 _ _ _ rfl (Nat.zero_le _) ⟨Nat.zero_le _, by rw [e0]; exact hit, hl⟩ hS (ItemsOf.nil _) fun s' acc' c' hm hS' hacc => ?_⟩
  rw [Moved.eq_with hm]
  refine hR s'.heap s'.toks acc' c' (fun b o hb hbS e => hm.heap b o (fun hmem => ?_) e) hS' hacc
  rcases List.mem_cons.mp hmem with e' | hmem
  · exact hbS e'
  · exact hb (List.mem_singleton.mp hmem)
theorem init_rev {it l S : Addr} {items : Array Value} (hh : A.handled = none) (hit : s.heap.IsRevIter it l ((items.size : Int) - 1)) (hl : s.heap.IsList l items) (hne : l ≠ it) (hn : items.size ≤ sizeLine)
    (hS : s.heap.get? S = some { cls := .type "list", data := .seq #[] }) (hSi : S ≠ it) (hSl : S ≠ l)
    (hR : ∀ (h' : Heap) (tk : Nat) (acc : Array Value) (c' : Nat), (∀ b o, b ≠ it → b ≠ S → s.heap.get? b = some o → h'.get? b = some o) → h'.get? S = some { cls := .type "list", dict := none, data := .seq acc c', slots := #[] } →
      ItemsOf (fun i v => items[items.size - 1 - i]? = some v) acc items.size → R (.ok (.ret .none)) { s with heap := h', toks := tk }) :
    wpAny (model prog w) A.in1 (Builtin.«list.__init__» ⟨[.ref S, .ref it], []⟩)
      (fun fin s' => match fin with | .done f => R (.ok f) s' | .again c' => c'.quiet = true ∧ codeAny (model prog w) A c' R s') (fun e s' => R (.error e) s') s := by
  show wpAny _ A.in1 (do let old ← Builtin.List.listItems (.ref S); Builtin.List.listUpdate (.ref S) (fun _ => #[]); letGo old.toList.reverse; Builtin.List.listExtendWith (.ref S) (.ref it) .none) _ _ s
  refine wpAny_bind ?_
  unfold Builtin.List.listItems
  refine wpAny_bind (wpAny_seqItems hS rfl (wpAny_pure ?_))
  show wpAny _ A.in1 (updateSeq S (fun _ => #[]) >>= fun _ => letGo (#[] : Array Value).toList.reverse >>= fun _ => Builtin.List.listExtendWith (.ref S) (.ref it) .none) _ _ s
  refine wpAny_bind (wpAny_updateSeq hS rfl ?_)
  have hS₂ := Heap.get?_update_self (Obj.mapSeq (fun _ => (#[] : Array Value))) hS rfl
  have oth : ∀ b o, b ≠ S → s.heap.get? b = some o → (s.heap.update S (Obj.mapSeq (fun _ => (#[] : Array Value)))).get? b = some o :=
    fun b o hb e => (Heap.get?_update_other _ _ (Ne.symm hb)).trans e
  refine wpAny_bind (wpAny_letGo ?_)
  obtain ⟨o, ho, hc⟩ := id hl
  refine extend_rev (s := { s with heap := s.heap.update S (Obj.mapSeq (fun _ => (#[] : Array Value))) }) hh (hit.at fun o e => oth _ _ (Ne.symm hSi) e) ?_ hne hn hS₂ hSi hSl fun h' tk acc c' hk hS' hacc => ?_
  · exact ⟨o, oth _ _ (Ne.symm hSl) ho, hc⟩
  · exact hR h' tk acc c' (fun b o hb hbS e => hk b o hb hbS (oth b o hbS e)) hS' hacc
theorem call_list_rev {it l : Addr} {items : Array Value} {Q : Value → Shared → Prop} (hh : A.handled = none) (hit : s.heap.IsRevIter it l ((items.size : Int) - 1)) (hl : s.heap.IsList l items) (hne : l ≠ it) (hn : items.size ≤ sizeLine)
    (hQ : ∀ (h' : Heap) (tk : Nat) (acc : Array Value) (c' : Nat), (∀ b o, b ≠ it → s.heap.get? b = some o → h'.get? b = some o) → h'.get? s.heap.objs.size = some { cls := .type "list", dict := none, data := .seq acc c', slots := #[] } →
      ItemsOf (fun i v => items[items.size - 1 - i]? = some v) acc items.size → Q (.ref s.heap.objs.size) { s with heap := h', toks := tk }) :
    wpAny (model prog w) A (call (.type "list") [.ref it]) Q E s := by
  obtain ⟨oi, hoi, _⟩ := id hit
  obtain ⟨ol, hol, _⟩ := id hl
  refine callType_codes (Q₁ := fun obj s₁ => obj = .ref s.heap.objs.size ∧ s₁ = { s with heap := s.heap.push { cls := .type "list", data := .seq #[] } }) F.called_list (F.typeCall_list_1 _) F.entry_list_init
    (code_list_new _ ⟨rfl, rfl⟩) fun obj s₁ h₁ => ?_
  obtain ⟨rfl, rfl⟩ := h₁
  have hS : (s.heap.push { cls := .type "list", data := .seq #[] }).get? s.heap.objs.size = some { cls := .type "list", data := .seq #[] } := Heap.get?_push_size _ rfl
  refine ⟨⟨_, hS, rfl⟩, F.args_list_init_2 _ _, init_rev (s := { s with heap := s.heap.push { cls := .type "list", data := .seq #[] } }) hh (hit.at fun o e => Heap.get?_push_of_some _ e) (hl.push _) hne hn hS (Nat.ne_of_gt (Heap.lt_size hoi)) (Nat.ne_of_gt (Heap.lt_size hol)) fun h' tk acc c' hk hS' hacc => ?_⟩
  exact ⟨rfl, hQ h' tk acc c' (fun b o hb e => hk b o hb (Nat.ne_of_lt (Heap.lt_size e)) (Heap.get?_push_of_some _ e)) hS' hacc⟩
end
section
open L2
variable {X : L2.Cx}
/-- list(reversed(x)), x a list: a new list -/
def tListRev (K : PySem.W.Frag) (te : TE) : TE := fun σ H Q => te σ H fun v H1 => ∃ (a : Addr) (xs : List V), v = .ref a ∧ SqL K H1 a xs ∧ ∀ q, H1 q = none → Q (.ref q) (upd H1 q (.lst xs.reverse))
theorem pe_listRev {e : Expr} {te : TE} {p p2 pos pos2 : Pos} (hc : X.calm = true) (hg : Gl X "list") (hm : X.mg "list" = none) (hg2 : Gl X "reversed") (hm2 : X.mg "reversed" = none) (he : PE X e te)
    (hs : starEach [e] X.env = (false, eval e X.env) :: starEach [] X.env := by rfl)
    (hs2 : starEach [.Call (.Name "reversed" p2) [e] [] pos2] X.env = (false, eval (.Call (.Name "reversed" p2) [e] [] pos2) X.env) :: starEach [] X.env := by rfl) :
    PE X (.Call (.Name "list" p) [.Call (.Name "reversed" p2) [e] [] pos2] [] pos) (tListRev X.K te) := by
  refine ⟨fun pins s σ H Q I h => ?_⟩
  refine Call_ (ld_blt I hg hm boot_list (PyProof.Rows.callWith_type1 (args_cons (Call_ (ld_blt I hg2 hm2 PyProof.Rows.boot_reversed (PyProof.Rows.callWith_type1 (args_cons (thn (he.run pins s σ H _ I h) fun u s1 ⟨v, H1, I1, r1, q1⟩ => args_nil ?_) hs) hs rfl))) hs2) hs2 rfl))
  obtain ⟨a, xs, ev, hq, q⟩ := q1
  subst ev
  obtain rfl : u = Value.ref a := r1
  obtain ⟨its, rv, p', hz⟩ := I1.list hq
  refine call_reversed_list p'.isList (args_nil ?_)
  have k0 : ∀ b o, s1.heap.get? b = some o → (s1.heap.push (revObj a ((its.toArray.size : Int) - 1))).get? b = some o := fun b o e => Heap.get?_push_of_some _ e
  have I2 : Inv X pins σ H1 { s1 with heap := s1.heap.push (revObj a ((its.toArray.size : Int) - 1)) } := I1.kept (t' := s1.toks) k0
  obtain ⟨f0, f1, f2, f3, f4, f5⟩ := I1.fpOk (H' := H1) (b := s1.heap.objs.size) (Nat.le_refl _) (I1.hok.fresh (Nat.le_refl _))
  have hl := p'.isList
  obtain ⟨ol, hol, _⟩ := id hl
  have hne : a ≠ s1.heap.objs.size := Nat.ne_of_lt (Heap.lt_size hol)
  have hn : its.toArray.size ≤ sizeLine := by rw [List.size_toArray, ← rv.length]; exact hz
  refine call_list_rev (s := { s1 with heap := s1.heap.push (revObj a ((its.toArray.size : Int) - 1)) }) (I1.ok.hd hc) ⟨_, Heap.get?_push_size _ rfl, rfl, rfl⟩ (hl.push _) hne hn fun h' tk acc c' hk hS' hi => ?_
  have nf : H1 (s1.heap.push (revObj a ((its.toArray.size : Int) - 1))).objs.size = none := I2.hok.fresh (Nat.le_refl _)
  refine ⟨.ref _, upd H1 (s1.heap.push (revObj a ((its.toArray.size : Int) - 1))).objs.size (.lst xs.reverse), ?_, rfl, q _ nf⟩
  have f2' : FpOk X pins H1 s1.heap.objs.size := ⟨f0, f1, f2, f3, f4, f5⟩
  refine I2.turnedNew (t' := tk) (ch := [s1.heap.objs.size]) (fun b o hb e => hk b o (by simpa using hb) e) (fun b hb => ?_) (Nat.le_refl _) ?_
  · have : b = s1.heap.objs.size := by simpa using hb
    subst this; exact f2'
  · exact ⟨by rw [List.length_reverse]; exact hz, acc.toList, c', vals_rev rv hi, by rw [Array.toArray_toList]; exact hS'⟩
end
end VS
set_option Elab.async false
set_option linter.all false
set_option maxRecDepth 100000
/-! VS5: built-ins, subscripts, lists that change, the bag. -/
namespace VS
open PySem PySem.Spec PyProof.Rows L2
/-! ### built-ins by their arguments -/
def rC (K : PySem.W.Frag) (w : Bool) (op : List D → Option D) : List V → Hp → VK → Prop := fun vs H Q => ∃ g W ds d, Ht K g W H ∧ Bos K g H vs ds ∧ op ds = some d ∧ ∀ z H' g', Ht K g' W H' → Step g H g' H' → Vo K H g' H' w z d → Q z H'
def biF (op : List D → Option D) (fs : Env → M (List D)) : Env → M D := fun ρ => bnd (fs ρ) fun ds => ofO (op ds)
section
variable {X : Cx} {τ : Tg} {w : Bool} {a b c e : Expr} {es rest : List Expr} {pos p : Pos} {f fa fb fc : Env → M D} {fs : Env → M (List D)} {op : List D → Option D} {x : Str} {idn T : String}
theorem bi_tr {t : TA} {σ : L2.St} {H : Hp} {Q : VK} (i : ∀ Q, tAR X.K τ fs σ H Q → t σ H Q) (h : tV X.K τ w (biF op fs) σ H Q) : tCB (rC X.K w op) t σ H Q := by
  obtain ⟨ρ, W, g, k, W', ht, sl, ef, q⟩ := h
  obtain ⟨ds, W1, ed, ef⟩ := bnd_some ef
  obtain ⟨eo, rfl⟩ := ofO_some ef
  exact i _ ⟨ρ, W, g, ds, _, ht, sl, ed, fun vs H1 g1 h1 s1 r1 => ⟨g1, _, ds, k, h1, r1, eo, fun z H2 g2 h2 s2 o => q z H2 g2 h2 (s1.trans s2 h1) (o.pre s1 h1)⟩⟩
theorem v_bi (hc : CallR X (.builtin idn) (rC X.K w op)) (hv : bootBuiltins x = some (.builtin idn)) (hm : X.mg x = none) (ha : FAR X τ (e :: es) fs) (hg : Gl X x := by rfl) (hn : x ≠ "__name__" := by decide) (hdb : (x == ("__debug__" : Str)) = false := by decide)
    (he : starEach (e :: es) X.env = (false, eval e X.env) :: starEach es X.env := by rfl) (hpl : (backTo pos (starEach es X.env)).any (·.1) = false := by rfl) : FV X τ w (.Call (.Name x p) (e :: es) [] pos) (biF op fs) :=
  PE.wk (pe_callB hc hg hm hv ha hn hdb he hpl) fun _ _ _ h => bi_tr (fun _ q => q) h
theorem v_ty (hc : CallR X (.type T) (rC X.K w op)) (hv : bootBuiltins x = some (.type T)) (hm : X.mg x = none) (ha : FAR X τ (e :: es) fs) (hg : Gl X x := by rfl) (hn : x ≠ "__name__" := by decide) (hdb : (x == ("__debug__" : Str)) = false := by decide)
    (he : starEach (e :: es) X.env = (false, eval e X.env) :: starEach es X.env := by rfl) (hpl : (backTo pos (starEach es X.env)).any (·.1) = false := by rfl) : FV X τ w (.Call (.Name x p) (e :: es) [] pos) (biF op fs) :=
  PE.wk (pe_callTy hc hg hm hv ha hn hdb he hpl) fun _ _ _ h => bi_tr (fun _ q => q) h
/-- a module's name for a built-in -/
theorem v_fn (hc : CallR X (.builtin idn) (rC X.K w op)) (hm : X.mg x = some (.builtin idn)) (ha : FAR X τ (e :: es) fs) (hg : Gl X x := by rfl) (hdb : (x == ("__debug__" : Str)) = false := by decide)
    (he : starEach (e :: es) X.env = (false, eval e X.env) :: starEach es X.env := by rfl) (hpl : (backTo pos (starEach es X.env)).any (·.1) = false := by rfl) : FV X τ w (.Call (.Name x p) (e :: es) [] pos) (biF op fs) :=
  PE.wk (pe_callBfun hc hg hm ha hdb he hpl) fun _ _ _ h => bi_tr (fun _ q => q) h
theorem CallR.wk {f : Value} {r r' : List V → Hp → VK → Prop} (h : CallR X f r) (i : ∀ xs H Q, r' xs H Q → r xs H Q) : CallR X f r' := fun pins s σ H xs us Q I r q => h pins s σ H xs us Q I r (i _ _ _ q)
/-- a built-in that hands on a frozen value and leaves the heap -/
theorem callS {fn : Value} {r : List V → Hp → VK → Prop} (h : CallR X fn r) (i : ∀ {g W H vs ds d}, Ht X.K g W H → Bos X.K g H vs ds → op ds = some d → ∃ z, Rp X.K g z d ∧ ∀ Q : VK, Q z H → r vs H Q) : CallR X fn (rC X.K false op) := CallR.wk h fun vs H Q ⟨g, W, ds, d, ht, bs, e, q⟩ => by
  obtain ⟨z, rz, k⟩ := i ht bs e
  exact k Q (q z H g ht (.refl _ _) rz)
/-! len -/
def lenD : List D → Option D
  | [.str x] => if x.length ≤ 16777216 then some (.int x.length) else none
  | [.tup ds] => some (.int ds.length)
  | [.lst ds] => some (.int ds.length)
  | [.scr ns] => some (.int ns.length)
  | _ => none
theorem one_of {K : PySem.W.Frag} {g : Gh} {H : Hp} {vs : List V} {d : D} (h : Bos K g H vs [d]) : ∃ v, vs = [v] ∧ Bo K g H v d := by
  cases h with
  | cons h r => cases r; exact ⟨_, rfl, h⟩
theorem two_of {K : PySem.W.Frag} {g : Gh} {H : Hp} {vs : List V} {d d' : D} (h : Bos K g H vs [d, d']) : ∃ v v', vs = [v, v'] ∧ Bo K g H v d ∧ Bo K g H v' d' := by
  cases h with
  | cons h r =>
    cases r with
    | cons h' r => cases r; exact ⟨_, _, rfl, h, h'⟩
theorem c_len : CallR X (.builtin "len") (rC X.K false lenD) := callS call_len fun {g W H vs ds d} ht bs e => by
  unfold lenD at e
  split at e
  · obtain ⟨v, rfl, b⟩ := one_of bs
    split at e
    · rename_i c
      cases e
      obtain rfl := b.strT
      exact ⟨.int _, .int _, fun Q q => ⟨_, _, rfl, ⟨by rw [line_eq]; exact c, rfl⟩, q⟩⟩
    · cases e
  · obtain ⟨v, rfl, b⟩ := one_of bs
    cases e
    obtain ⟨p, xs, rfl, h, r⟩ := b.seq ht rfl
    refine ⟨.int xs.length, by rw [r.length]; exact .int _, fun Q q => ⟨_, _, rfl, ?_, q⟩⟩
    rcases h with h | h
    · exact .inl ⟨xs, h, rfl⟩
    · exact .inr ⟨xs, h, rfl⟩
  · obtain ⟨v, rfl, b⟩ := one_of bs
    cases e
    obtain ⟨p, xs, rfl, h, r⟩ := b.seq ht rfl
    refine ⟨.int xs.length, by rw [r.length]; exact .int _, fun Q q => ⟨_, _, rfl, ?_, q⟩⟩
    rcases h with h | h
    · exact .inl ⟨xs, h, rfl⟩
    · exact .inr ⟨xs, h, rfl⟩
  · obtain ⟨v, rfl, b⟩ := one_of bs
    cases e
    obtain ⟨p, xs, rfl, h, r⟩ := b.seq ht rfl
    have hl := r.length
    rw [List.length_map] at hl
    refine ⟨.int xs.length, by rw [hl]; exact .int _, fun Q q => ⟨_, _, rfl, ?_, q⟩⟩
    rcases h with h | h
    · exact .inl ⟨xs, h, rfl⟩
    · exact .inr ⟨xs, h, rfl⟩
  · cases e
/-! ints -/
def int1 (p : Int → Option D) : List D → Option D
  | [.int i] => p i
  | _ => none
def int2 (p : Int → Int → Option D) : List D → Option D
  | [.int i, .int j] => p i j
  | _ => none
theorem int1_some {p : Int → Option D} {ds : List D} {d : D} (h : int1 p ds = some d) : ∃ i, ds = [.int i] ∧ p i = some d := by
  unfold int1 at h
  split at h
  · exact ⟨_, rfl, h⟩
  · cases h
theorem int2_some {p : Int → Int → Option D} {ds : List D} {d : D} (h : int2 p ds = some d) : ∃ i j, ds = [.int i, .int j] ∧ p i j = some d := by
  unfold int2 at h
  split at h
  · exact ⟨_, _, rfl, h⟩
  · cases h
def absD : List D → Option D := int1 fun i => some (.int (if i < 0 then -i else i))
def maxD : List D → Option D := int2 fun i j => some (.int (if j > i then j else i))
def minD : List D → Option D := int2 fun i j => some (.int (if j < i then j else i))
def intD : List D → Option D
  | [.int i] => some (.int i)
  | [.bl k] => some (.int (if k then 1 else 0))
  | _ => none
theorem c_abs : CallR X (.builtin "abs") (rC X.K false absD) := callS call_abs fun {g W H vs ds d} ht bs e => by
  obtain ⟨i, rfl, e⟩ := int1_some e
  obtain ⟨v, rfl, b⟩ := one_of bs
  cases e
  exact ⟨_, .int _, fun Q q => ⟨i, by rw [b.intT], q⟩⟩
theorem c_max (hc : X.calm = true) : CallR X (.builtin "max") (rC X.K false maxD) := callS (call_max2 hc) fun {g W H vs ds d} ht bs e => by
  obtain ⟨i, j, rfl, e⟩ := int2_some e
  obtain ⟨v, v', rfl, b, b'⟩ := two_of bs
  cases e
  exact ⟨_, .int _, fun Q q => ⟨i, j, by rw [b.intT, b'.intT], q⟩⟩
theorem c_min (hc : X.calm = true) : CallR X (.builtin "min") (rC X.K false minD) := callS (call_min2 hc) fun {g W H vs ds d} ht bs e => by
  obtain ⟨i, j, rfl, e⟩ := int2_some e
  obtain ⟨v, v', rfl, b, b'⟩ := two_of bs
  cases e
  exact ⟨_, .int _, fun Q q => ⟨i, j, by rw [b.intT, b'.intT], q⟩⟩
theorem c_int : CallR X (.type "int") (rC X.K false intD) := callS call_int1 fun {g W H vs ds d} ht bs e => by
  unfold intD at e
  split at e
  · obtain ⟨v, rfl, b⟩ := one_of bs
    cases e
    exact ⟨_, .int _, fun Q q => .inl ⟨_, by rw [b.intT], q⟩⟩
  · obtain ⟨v, rfl, b⟩ := one_of bs
    cases e
    exact ⟨_, .int _, fun Q q => .inr ⟨_, by rw [b.blT], q⟩⟩
  · cases e
/-! math -/
def isqrtD : List D → Option D := int1 fun i => if 0 ≤ i ∧ i.toNat.log2 ≤ 13000 then some (.int (Float64.isqrt i.toNat : Nat)) else none
theorem cr_isqrt : CallR X (.builtin "math.isqrt") (fun vs H Q => ∃ i : Int, vs = [.int i] ∧ 0 ≤ i ∧ i.toNat.log2 ≤ 13000 ∧ Q (.int (Float64.isqrt i.toNat : Nat)) H) := by
  intro pins s σ H vs us Q I r h
  obtain ⟨i, rfl, h0, h1, q⟩ := h
  obtain ⟨u, rfl, t, rfl⟩ := vals1 r
  exact call_function_meets PySem.W.MGF.kind_isqrt PySem.W.MGF.plain_isqrt PySem.W.MGF.entry_isqrt (PySem.W.MGF.args_isqrt _) (PySem.W.mg_run_isqrt i t (by omega) (by omega) (by omega)).meets ⟨.int _, H, I.tok _, ⟨_, rfl⟩, q⟩
theorem c_isqrt : CallR X (.builtin "math.isqrt") (rC X.K false isqrtD) := callS cr_isqrt fun {g W H vs ds d} ht bs e => by
  obtain ⟨i, rfl, e'⟩ := int1_some e
  clear e
  obtain ⟨v, rfl, b⟩ := one_of bs
  split at e'
  · rename_i c
    cases e'
    exact ⟨_, .int _, fun Q q => ⟨i, by rw [b.intT], c.1, c.2, q⟩⟩
  · cases e'
def gcdD : List D → Option D := int2 fun i j => some (.int (Nat.gcd i.natAbs j.natAbs : Nat))
theorem c_gcd : CallR X (.builtin "math.gcd") (rC X.K false gcdD) := callS cr_gcd fun {g W H vs ds d} ht bs e => by
  obtain ⟨i, j, rfl, e⟩ := int2_some e
  obtain ⟨v, v', rfl, b, b'⟩ := two_of bs
  cases e
  exact ⟨_, .int _, fun Q q => ⟨i, j, by rw [b.intT, b'.intT], q⟩⟩
def combD : List D → Option D := int2 fun i j => if 0 ≤ i ∧ 0 ≤ j ∧ i ≤ 18000 then some (.int (PySem.W.mcComb i j)) else none
theorem cr_comb : CallR X (.builtin "math.comb") (fun vs H Q => ∃ i j : Int, vs = [.int i, .int j] ∧ (0 ≤ i ∧ 0 ≤ j ∧ i ≤ 18000) ∧ Q (.int (PySem.W.mcComb i j)) H) := by
  intro pins s σ H vs us Q I r h
  obtain ⟨i, j, rfl, ⟨h0, h1, h2⟩, q⟩ := h
  obtain ⟨t, u, rfl⟩ := Vals.int2 r
  exact PySem.W.mc_comb h0 h1 (by have : (2 : Int) ^ 64 = 18446744073709551616 := by decide
                                  rw [this]; omega) (.inr h2) fun _ => ⟨.int _, H, I.tok _, ⟨_, rfl⟩, q⟩
theorem c_comb : CallR X (.builtin "math.comb") (rC X.K false combD) := callS cr_comb fun {g W H vs ds d} ht bs e => by
  obtain ⟨i, j, rfl, e'⟩ := int2_some e
  clear e
  obtain ⟨v, v', rfl, b, b'⟩ := two_of bs
  split at e'
  · rename_i c
    cases e'
    exact ⟨_, .int _, fun Q q => ⟨i, j, by rw [b.intT, b'.intT], c, q⟩⟩
  · cases e'
/-! lists -/
def asInts : List D → Option (List Int)
  | [] => some []
  | .int i :: r => (asInts r).map (i :: ·)
  | _ => none
theorem asInts_some : ∀ {ds : List D} {ns : List Int}, asInts ds = some ns → ds = ns.map .int
  | [], ns, h => by cases h; rfl
  | d :: r, ns, h => by
    cases d with
    | int i =>
      simp only [asInts, Option.map_eq_some_iff] at h
      obtain ⟨m, e, rfl⟩ := h
      rw [asInts_some e]; rfl
    | _ => cases h
theorem asInts_map (ns : List Int) : asInts (ns.map .int) = some ns := by
  induction ns with
  | nil => rfl
  | cons n r ih => simp [asInts, ih]
def asBls : List D → Option (List Bool)
  | [] => some []
  | .bl i :: r => (asBls r).map (i :: ·)
  | _ => none
theorem asBls_some : ∀ {ds : List D} {ns : List Bool}, asBls ds = some ns → ds = ns.map .bl
  | [], ns, h => by cases h; rfl
  | d :: r, ns, h => by
    cases d with
    | bl i =>
      simp only [asBls, Option.map_eq_some_iff] at h
      obtain ⟨m, e, rfl⟩ := h
      rw [asBls_some e]; rfl
    | _ => cases h
theorem asBls_map (ns : List Bool) : asBls (ns.map .bl) = some ns := by
  induction ns with
  | nil => rfl
  | cons n r ih => simp [asBls, ih]
/-- a list of ints handed in -/
def lint (p : List Int → Option D) : List D → Option D
  | [.lst ds] => (asInts ds).bind p
  | [.scr ns] => p ns
  | _ => none
theorem lint_some {p : List Int → Option D} {ds : List D} {d : D} {K : PySem.W.Frag} {g : Gh} {W : Wd} {H : Hp} {vs : List V} (ht : Ht K g W H) (bs : Bos K g H vs ds) (h : lint p ds = some d) : ∃ a ns, vs = [.ref a] ∧ SqL K H a (ns.map V.int) ∧ p ns = some d := by
  unfold lint at h
  split at h
  · obtain ⟨v, rfl, b⟩ := one_of bs
    obtain ⟨ns, e1, e2⟩ := Option.bind_eq_some_iff.mp h
    obtain ⟨a, xs, rfl, q, r⟩ := b.lstT ht
    rw [asInts_some e1] at r
    rw [r.of_ints] at q
    exact ⟨a, ns, rfl, .of q, e2⟩
  · obtain ⟨v, rfl, b⟩ := one_of bs
    rcases b with b | ⟨a, _, _, _, _, _, hbo⟩
    · cases b with
      | scr q => exact ⟨_, _, rfl, ht.sub.seq q, h⟩
    · cases hbo
  · cases h
def sumD : List D → Option D := lint fun ns => some (.int ns.sum)
def maxLD : List D → Option D := lint fun ns => ns.max?.map .int
def minLD : List D → Option D := lint fun ns => ns.min?.map .int
theorem c_sum (hc : X.calm = true) : CallR X (.builtin "sum") (rC X.K false sumD) := callS (cr_sum hc) fun {g W H vs ds d} ht bs e => by
  obtain ⟨a, ns, rfl, q, e⟩ := lint_some ht bs e
  cases e
  exact ⟨_, .int _, fun Q k => ⟨a, ns, rfl, q, k⟩⟩
theorem max_known {ns : List Int} {m : Int} (h1 : m ∈ ns) (h2 : ∀ y, y ∈ ns → y ≤ m) : ns.max? = some m := by
  rw [List.max?_eq_some_iff]
  exact ⟨h1, h2⟩
theorem min_known {ns : List Int} {m : Int} (h1 : m ∈ ns) (h2 : ∀ y, y ∈ ns → m ≤ y) : ns.min? = some m := by
  rw [List.min?_eq_some_iff]
  exact ⟨h1, h2⟩
theorem c_maxL (hc : X.calm = true) : CallR X (.builtin "max") (rC X.K false maxLD) := CallR.wk (cr_max hc) fun vs H Q ⟨g, W, ds, d, ht, bs, e, q⟩ => by
  obtain ⟨a, ns, rfl, hs, e⟩ := lint_some ht bs e
  refine ⟨a, ns, rfl, hs, ?_, fun m h1 h2 => ?_⟩
  · cases ns with
    | nil => cases e
    | cons _ _ => exact Nat.succ_pos _
  · have e : ns.max?.map D.int = some d := e
    rw [max_known h1 h2] at e
    cases e
    exact q _ H g ht (.refl _ _) (.int _)
theorem c_minL (hc : X.calm = true) : CallR X (.builtin "min") (rC X.K false minLD) := CallR.wk (cr_min hc) fun vs H Q ⟨g, W, ds, d, ht, bs, e, q⟩ => by
  obtain ⟨a, ns, rfl, hs, e⟩ := lint_some ht bs e
  refine ⟨a, ns, rfl, hs, ?_, fun m h1 h2 => ?_⟩
  · cases ns with
    | nil => cases e
    | cons _ _ => exact Nat.succ_pos _
  · have e : ns.min?.map D.int = some d := e
    rw [min_known h1 h2] at e
    cases e
    exact q _ H g ht (.refl _ _) (.int _)
def lbl (p : List Bool → Option D) : List D → Option D
  | [.lst ds] => (asBls ds).bind p
  | _ => none
def allD : List D → Option D := lbl fun bs => some (.bl (bs.all id))
def anyD : List D → Option D := lbl fun bs => some (.bl (bs.any id))
theorem lbl_some {p : List Bool → Option D} {ds : List D} {d : D} {K : PySem.W.Frag} {g : Gh} {W : Wd} {H : Hp} {vs : List V} (ht : Ht K g W H) (bs : Bos K g H vs ds) (h : lbl p ds = some d) : ∃ a ns, vs = [.ref a] ∧ SqL K H a (ns.map V.bl) ∧ p ns = some d := by
  unfold lbl at h
  split at h
  · obtain ⟨v, rfl, b⟩ := one_of bs
    obtain ⟨ns, e1, e2⟩ := Option.bind_eq_some_iff.mp h
    obtain ⟨a, xs, rfl, q, r⟩ := b.lstT ht
    rw [asBls_some e1] at r
    rw [r.of_bls] at q
    exact ⟨a, ns, rfl, .of q, e2⟩
  · cases h
theorem c_all (hc : X.calm = true) : CallR X (.builtin "all") (rC X.K false allD) := callS (cr_all hc) fun {g W H vs ds d} ht bs e => by
  obtain ⟨a, ns, rfl, q, e⟩ := lbl_some ht bs e
  cases e
  exact ⟨_, .bl _, fun Q k => ⟨a, ns, rfl, q, k⟩⟩
theorem c_any (hc : X.calm = true) : CallR X (.builtin "any") (rC X.K false anyD) := callS (cr_any hc) fun {g W H vs ds d} ht bs e => by
  obtain ⟨a, ns, rfl, q, e⟩ := lbl_some ht bs e
  cases e
  exact ⟨_, .bl _, fun Q k => ⟨a, ns, rfl, q, k⟩⟩
def listD : List D → Option D
  | [d] => d.items.map .lst
  | _ => none
theorem c_list : CallR X (.type "list") (rC X.K true listD) := CallR.wk call_list_of fun vs H Q ⟨g, W, ds, d, ht, bs, e, q⟩ => by
  unfold listD at e
  split at e
  · obtain ⟨v, rfl, b⟩ := one_of bs
    obtain ⟨es, e1, e2⟩ := Option.map_eq_some_iff.mp e
    subst e2
    obtain ⟨p, xs, rfl, h, r⟩ := b.seq ht e1
    exact ⟨p, xs, rfl, h, newL (w := true) ht r q⟩
  · cases e
def tupleD : List D → Option D
  | [.lst ds] => some (.tup ds)
  | [.tup ds] => some (.tup ds)
  | _ => none
theorem c_tuple : CallR X (.type "tuple") (rC X.K false tupleD) := CallR.wk call_tuple_of fun vs H Q ⟨g, W, ds, d, ht, bs, e, q⟩ => by
  unfold tupleD at e
  split at e
  · obtain ⟨v, rfl, b⟩ := one_of bs
    cases e
    obtain ⟨p, xs, rfl, h, r⟩ := b.lstT ht
    exact ⟨p, xs, rfl, .inl ⟨.of h, newT ht r q⟩⟩
  · obtain ⟨v, rfl, b⟩ := one_of bs
    cases e
    obtain ⟨p, xs, rfl, h, r⟩ := b.tupT ht
    refine ⟨p, xs, rfl, .inr ⟨h, q _ H g ht (.refl _ _) ?_⟩⟩
    rcases b with b | ⟨a, _, _, _, _, _, hbo⟩
    · exact b
    · cases hbo
  · cases e
def sortI (ns : List Int) : List Int := ns.mergeSort (fun a b => decide (a ≤ b))
theorem sortI_perm (ns : List Int) : (sortI ns).Perm ns := List.mergeSort_perm ns _
theorem sortI_sorted (ns : List Int) : (sortI ns).Pairwise (· ≤ ·) := by
  have := List.pairwise_mergeSort (le := fun a b : Int => decide (a ≤ b)) (fun a b c h1 h2 => by simp at *; omega) (fun a b => by simp; omega) ns
  exact this.imp fun h => by simpa using h
def sortedD : List D → Option D := lint fun ns => some (.lst ((sortI ns).map .int))
theorem c_sortedI : CallR X (.builtin "sorted") (rC X.K true sortedD) := CallR.wk cr_sortedI fun vs H Q ⟨g, W, ds, d, ht, bs, e, q⟩ => by
  obtain ⟨a, ns, rfl, hs, e⟩ := lint_some ht bs e
  cases e
  refine ⟨a, ns, rfl, hs, fun ns' p h1 h2 n => ?_⟩
  have := PySem.W.ksm_same (h1.trans (sortI_perm ns).symm) h2 (sortI_sorted ns)
  subst this
  exact newL (w := true) ht (.ints _) q p n
/-! list(reversed(x)) -/
def revF (f : Env → M D) : Env → M D := fun ρ => bnd (f ρ) fun d => match d with
  | .lst ds => ret (.lst ds.reverse)
  | .scr ns => ret (.lst (ns.map .int).reverse)
  | _ => stuck
theorem v_listRev {p2 pos2 : Pos} (hc : X.calm = true) (hm : X.mg "list" = none) (hm2 : X.mg "reversed" = none) (he : FR X τ e f) (hg : Gl X "list" := by rfl) (hg2 : Gl X "reversed" := by rfl)
    (hs : starEach [e] X.env = (false, eval e X.env) :: starEach [] X.env := by rfl)
    (hs2 : starEach [.Call (.Name "reversed" p2) [e] [] pos2] X.env = (false, eval (.Call (.Name "reversed" p2) [e] [] pos2) X.env) :: starEach [] X.env := by rfl) :
    FV X τ true (.Call (.Name "list" p) [.Call (.Name "reversed" p2) [e] [] pos2] [] pos) (revF f) := PE.wk (pe_listRev hc hg hm hg2 hm2 he hs hs2) fun σ H Q ⟨ρ, W, g, k, W', ht, sl, ef, q⟩ => by
  obtain ⟨d, W1, ed, ef⟩ := bnd_some ef
  refine ⟨ρ, W, g, d, W1, ht, sl, ed, fun v H1 g1 h1 s1 o => ?_⟩
  cases d with
  | lst ds =>
    cases ef
    obtain ⟨a, xs, rfl, h, r⟩ := o.lstT h1
    exact ⟨a, xs, rfl, .of h, newL (w := true) h1 r.reverse fun z H2 g2 h2 s2 o2 => q z H2 g2 h2 (s1.trans s2 h1) (o2.pre s1 h1)⟩
  | scr ns =>
    cases ef
    obtain ⟨a, xs, rfl, h, r⟩ := o.seq h1 rfl
    rcases o with o | ⟨a, _, _, _, _, _, hbo⟩
    · cases o with
      | scr hq =>
        refine ⟨a, _, rfl, h1.sub.seq hq, newL (w := true) h1 ((Rps.ints ns).reverse) fun z H2 g2 h2 s2 o2 => q z H2 g2 h2 (s1.trans s2 h1) (o2.pre s1 h1)⟩
    · cases hbo
  | _ => cases ef
/-! isinstance -/
def tyN : D → Option String
  | .non => some "NoneType"
  | .bl _ => some "bool"
  | .int _ => some "int"
  | .str _ => some "str"
  | .tup _ => some "tuple"
  | .lst _ => some "list"
  | .scr _ => some "list"
  | .bag => none
  | .dk _ _ => none
  | .dt _ _ => none
  | .fn _ => none
/-- whether the type a is T -/
def isTy (a T : String) : Bool := a == T || (a == "bool" && T == "int")
def isiF (T : String) (f : Env → M D) : Env → M D := fun ρ => bnd (f ρ) fun d => match tyN d with
  | some a => ret (.bl (isTy a T))
  | none => stuck
theorem tyX {K : PySem.W.Frag} {g : Gh} {W : Wd} {H : Hp} {v : V} {d : D} {a : String} (h : Ht K g W H) (o : Bo K g H v d) (e : tyN d = some a) : TyX K H v (.type a) := by
  rcases o with o | ⟨p, rfl, _, _, x, q, hbo⟩
  · cases o with
    | non => cases e; exact .base .non
    | bl b => cases e; exact .base (.bl b)
    | int i => cases e; exact .base (.int i)
    | str x => cases e; exact .base (.str x)
    | tup q r =>
      cases e
      exact .base (.tup (h.sub _ _ q))
    | lst q r => cases e; exact .base (.lst (h.sub _ _ q))
    | scr q =>
      cases e
      rcases h.sub.seq q with (q | ⟨o, q⟩) | ⟨o, _, _, q, c, _⟩
      · exact .base (.lst q)
      · exact .base (.frz q)
      · exact .kList q c
    | bag q => cases e
    | dk _ _ _ => cases e
    | dt _ _ _ => cases e
    | fn _ => cases e
  · cases hbo with
    | lst r => cases e; exact .base (.lst q)
    | dk _ _ => cases e
    | dt _ _ => cases e
def tyNames : List String := ["NoneType", "bool", "int", "str", "tuple", "list"]
theorem kit_all : ∀ a ∈ tyNames, ∀ T ∈ tyNames, kitB a T = some (isTy a T) := by decide +kernel
theorem tyN_mem {d : D} {a : String} (e : tyN d = some a) : a ∈ tyNames := by
  cases d <;> cases e <;> decide
theorem v_isi {T : String} {y : Str} {p2 : Pos} (hT : T ∈ tyNames) (hm : X.mg "isinstance" = none) (hmT : X.mg y = none) (hvT : bootBuiltins y = some (.type T)) (ha : FR X τ a fa) (hg : Gl X "isinstance" := by rfl) (hgT : Gl X y := by rfl)
    (hn : y ≠ "__name__" := by decide) (hdb : (y == ("__debug__" : Str)) = false := by decide) (he : starEach (a :: [.Name y p2]) X.env = (false, eval a X.env) :: starEach [.Name y p2] X.env := by rfl) (he2 : starEach (.Name y p2 :: []) X.env = (false, eval (.Name y p2) X.env) :: starEach [] X.env := by rfl)
    (hpl : (backTo pos (starEach [.Name y p2] X.env)).any (·.1) = false := by rfl) : FV X τ false (.Call (.Name "isinstance" p) [a, .Name y p2] [] pos) (isiF T fa) :=
  PE.wk (pe_callB call_isi hg hm (by decide +kernel) (pa_cons ha (pa_cons (pe_bltn (v := .ty T) hgT hmT hvT rfl hn hdb) pa_nil he2) he) (by decide) (by decide) he hpl) fun σ H Q ⟨ρ, W, g, k, W', ht, sl, ef, q⟩ => by
  obtain ⟨d, W1, ed, ef⟩ := bnd_some ef
  refine ⟨ρ, W, g, d, W1, ht, sl, ed, fun v H1 g1 h1 s1 o => ?_⟩
  cases ea : tyN d with
  | none => rw [ea] at ef; cases ef
  | some n =>
    rw [ea] at ef
    cases ef
    exact ⟨v, .ty T, .type n, .type T, isTy n T, rfl, .ty T, tyX h1 o ea, kit_ty (kit_all n (tyN_mem ea) T hT), q _ H1 g1 h1 s1 (.bl _)⟩
/-! ### subscripts -/
def ixD : D → D → Option D
  | .lst ds, .int i => atI ds i
  | .tup ds, .int i => atI ds i
  | .scr ns, .int i => (atI ns i).map .int
  | .str x, .int i => if x.length ≤ 16777216 then (atI x.cps.toList i).map fun c => .str ⟨#[c]⟩ else none
  | _, _ => none
def bagAt (i : Int) : M D := fun W => match W with
  | some w => if i = 1 then some (.int w.dig, W) else if i = 2 then some (.int w.mix, W) else none
  | none => none
def ixM (x y : D) : M D := match x with
  | .bag => (match y with
    | .int i => bagAt i
    | _ => stuck)
  | x => ofO (ixD x y)
def ixF (f h : Env → M D) : Env → M D := fun ρ => bnd (f ρ) fun x => bnd (h ρ) fun y => ixM x y
theorem atI_rel {K : PySem.W.Frag} {g : Gh} {xs : List V} {ds : List D} {i : Int} {d : D} (r : Rps K g xs ds) (e : atI ds i = some d) : ∃ v, atI xs i = some v ∧ Rp K g v d := by
  unfold atI at e ⊢
  rw [← r.length] at e
  obtain ⟨j, e1, e2⟩ := Option.bind_eq_some_iff.mp e
  obtain ⟨v, e3, rv⟩ := r.get e2
  exact ⟨v, by rw [e1]; exact e3, rv⟩
theorem ix_tr {K : PySem.W.Frag} {g : Gh} {W W' : Wd} {H : Hp} {v u : V} {x y d : D} {Q : VK} (h : Ht K g W H) (o : Bo K g H v x) (o2 : Bo K g H u y) (e : ixM x y W = some (d, W')) (q : ∀ z, W' = W → Rp K g z d → Q z H) : rIx K v u H Q := by
  have sq : ∀ {ds : List D} {i : Int}, x.items = some ds → y = .int i → atI ds i = some d → W' = W → rIx K v u H Q := fun {ds i} e1 e2 e3 ew => by
    subst e2
    obtain rfl := o2.intT
    obtain ⟨p, xs, rfl, hq, r⟩ := o.seq h e1
    obtain ⟨z, e4, rz⟩ := atI_rel r e3
    rcases hq with hq | hq
    · exact .inl ⟨p, xs, i, z, rfl, rfl, hq, e4, q z ew rz⟩
    · exact .inr (.inl ⟨p, xs, i, z, rfl, rfl, hq, e4, q z ew rz⟩)
  have fin : ∀ {o : Option D}, ofO o W = some (d, W') → o = some d ∧ W' = W := fun e => ofO_some e
  cases x with
  | bag =>
    cases y with
    | int i =>
      obtain rfl := o2.intT
      rcases o with o | ⟨_, _, _, _, _, _, hbo⟩
      · cases o with
        | bag hb =>
          obtain ⟨w, rfl, e1, e2, _⟩ := h.bS _ hb
          have e : (if i = 1 then some (D.int w.dig, some w) else if i = 2 then some (D.int w.mix, some w) else none) = some (d, W') := e
          split at e
          · rename_i c
            subst c
            cases e
            exact .inl ⟨_, _, 1, _, rfl, rfl, .of e1, rfl, q _ rfl (.int _)⟩
          · split at e
            · rename_i c
              subst c
              cases e
              exact .inl ⟨_, _, 2, _, rfl, rfl, .of e1, rfl, q _ rfl (.int _)⟩
            · cases e
      · cases hbo
    | _ => cases e
  | lst ds =>
    obtain ⟨e1, ew⟩ := fin e
    cases y with
    | int i => exact sq rfl rfl e1 ew
    | _ => cases e1
  | tup ds =>
    obtain ⟨e1, ew⟩ := fin e
    cases y with
    | int i => exact sq rfl rfl e1 ew
    | _ => cases e1
  | scr ns =>
    obtain ⟨e1, ew⟩ := fin e
    cases y with
    | int i =>
      refine sq (ds := ns.map .int) rfl rfl ?_ ew
      have e1 : (atI ns i).map D.int = some d := e1
      unfold atI at e1 ⊢
      rw [List.length_map]
      obtain ⟨n, e2, e3⟩ := Option.map_eq_some_iff.mp e1
      obtain ⟨j, e4, e5⟩ := Option.bind_eq_some_iff.mp e2
      rw [e4]
      show (ns.map D.int)[j]? = some d
      rw [List.getElem?_map, e5, ← e3]
      rfl
    | _ => cases e1
  | str x =>
    obtain ⟨e1, ew⟩ := fin e
    cases y with
    | int i =>
      obtain rfl := o2.intT
      obtain rfl := o.strT
      have e1 : (if x.length ≤ 16777216 then (atI x.cps.toList i).map fun c => D.str ⟨#[c]⟩ else none) = some d := e1
      split at e1
      · rename_i c
        obtain ⟨n, e2, e3⟩ := Option.map_eq_some_iff.mp e1
        subst e3
        exact .inr (.inr ⟨x, i, n, rfl, rfl, by rw [line_eq]; exact c, e2, q _ ew (.str _)⟩)
      · cases e1
    | _ => cases e1
  | _ => cases y <;> cases e
theorem v_ix (ha : FR X τ a fa) (hb : FR X τ b fb) (hs : PlainIx b := by exact fun _ _ => rfl) : FV X τ false (.Subscript a b pos) (ixF fa fb) := PE.wk (pe_ix ix_seq ha hb hs) fun σ H Q ⟨ρ, W, g, k, W', ht, sl, ef, q⟩ => by
  obtain ⟨x, W1, ex, ef⟩ := bnd_some ef
  obtain ⟨y, W2, ey, ef⟩ := bnd_some ef
  refine ⟨ρ, W, g, x, W1, ht, sl, ex, fun v H1 g1 h1 s1 o1 => ⟨ρ, W1, g1, y, W2, h1, sl.step s1, ey, fun u H2 g2 h2 s2 o2 => ?_⟩⟩
  exact ix_tr h2 (o1.step s2) o2 ef fun z ew r => q z H2 g2 (ew ▸ h2) (s1.trans s2 h1) r
/-! slices -/
abbrev FO (X : Cx) (τ : Tg) (e : Option Expr) (f : Env → M (Option Int)) : Prop := PO X e (fun σ H Q => ∃ ρ W g o W', Ht X.K g W H ∧ Sl X.K τ ρ g σ H ∧ f ρ W = some (o, W') ∧ ∀ H' g', Ht X.K g' W' H' → Step g H g' H' → Q o H')
def partN : Env → M (Option Int) := fun _ => ret none
def partF (f : Env → M D) : Env → M (Option Int) := fun ρ => bnd (f ρ) fun d => match d with
  | .int i => ret (some i)
  | _ => stuck
theorem PO.wk {e : Option Expr} {t t' : TO} (h : PO X e t) (i : ∀ σ H Q, t' σ H Q → t σ H Q) : PO X e t' := ⟨fun pins s σ H Q I q => h.run pins s σ H Q I (i _ _ _ q)⟩
theorem o_none : FO X τ none partN := PO.wk po_none fun σ H Q ⟨ρ, W, g, o, W', ht, sl, ef, q⟩ => by
  cases ef
  exact q H g ht (.refl _ _)
theorem o_some (h : FV X τ false e f) : FO X τ (some e) (partF f) := PO.wk (po_some h) fun σ H Q ⟨ρ, W, g, o, W', ht, sl, ef, q⟩ => by
  obtain ⟨d, W1, ed, ef⟩ := bnd_some ef
  cases d with
  | int i =>
    cases ef
    exact ⟨ρ, W, g, .int i, _, ht, sl, ed, fun v H1 g1 h1 s1 r => by cases r; exact ⟨i, rfl, q H1 g1 h1 s1⟩⟩
  | _ => cases ef
def cut {α : Type} (xs : List α) (lo hi : Option Int) : List α := (xs.drop (HT.sIx xs.length 0 lo)).take (HT.sIx xs.length xs.length hi - HT.sIx xs.length 0 lo)
theorem cut_rel {K : PySem.W.Frag} {g : Gh} {xs : List V} {ds : List D} (r : Rps K g xs ds) (lo hi : Option Int) : Rps K g (cutV xs lo hi) (cut ds lo hi) := by
  unfold cutV cut
  rw [r.length]
  exact (r.drop _).take _
/-- a slice of a list: a new list -/
def slL (f : Env → M D) (l h : Env → M (Option Int)) : Env → M D := fun ρ => bnd (f ρ) fun d => bnd (l ρ) fun lo => bnd (h ρ) fun hi => match d with
  | .lst ds => ret (.lst (cut ds lo hi))
  | .scr ns => ret (.lst ((cut ns lo hi).map .int))
  | _ => stuck
theorem cut_map {α β : Type} (f : α → β) (xs : List α) (lo hi : Option Int) : cut (xs.map f) lo hi = (cut xs lo hi).map f := by
  unfold cut
  rw [List.length_map, List.map_take, List.map_drop]
theorem v_slL {lo hi : Option Expr} {fl fh : Env → M (Option Int)} {p2 : Pos} (ha : FR X τ a fa) (hl : FO X τ lo fl) (hh : FO X τ hi fh) : FV X τ true (.Subscript a (.Slice lo hi none p2) pos) (slL fa fl fh) := PE.wk (pe_slice sl_list ha hl hh) fun σ H Q ⟨ρ, W, g, k, W', ht, sl, ef, q⟩ => by
  obtain ⟨d, W1, ed, ef⟩ := bnd_some ef
  obtain ⟨l, W2, el, ef⟩ := bnd_some ef
  obtain ⟨h, W3, eh, ef⟩ := bnd_some ef
  refine ⟨ρ, W, g, d, W1, ht, sl, ed, fun v H1 g1 h1 s1 o1 => ⟨ρ, W1, g1, l, W2, h1, sl.step s1, el, fun H2 g2 h2 s2 => ⟨ρ, W2, g2, h, W3, h2, (sl.step s1).step s2, eh, fun H3 g3 h3 s3 => ?_⟩⟩⟩
  have o3 := (o1.step s2).step s3
  have st := (s1.trans s2 h1).trans s3 h2
  cases d with
  | lst ds =>
    cases ef
    obtain ⟨p, xs, rfl, hq, r⟩ := o3.lstT h3
    exact ⟨p, xs, rfl, .of hq, newL (w := true) h3 (cut_rel r l h) fun z H4 g4 h4 s4 o4 => q z H4 g4 h4 (st.trans s4 h3) (o4.pre st h3)⟩
  | scr ns =>
    cases ef
    rcases o3 with o | ⟨_, _, _, _, _, _, hbo⟩
    · cases o with
      | scr hq =>
        rw [← cut_map] at q
        exact ⟨_, _, rfl, h3.sub.seq hq, newL (w := true) h3 (cut_rel (Rps.ints ns) l h) fun z H4 g4 h4 s4 o4 => q z H4 g4 h4 (st.trans s4 h3) (o4.pre st h3)⟩
    · cases hbo
  | _ => cases ef
/-- a slice of a tuple -/
def slT (f : Env → M D) (l h : Env → M (Option Int)) : Env → M D := fun ρ => bnd (f ρ) fun d => bnd (l ρ) fun lo => bnd (h ρ) fun hi => match d with
  | .tup ds => ret (.tup (cut ds lo hi))
  | _ => stuck
/-! ### lists that change -/
theorem MS.updO {K : PySem.W.Frag} {g0 g : Gh} {H0 H : Hp} {τ : Tg} {ρ : Env} {W : Wd} {σ : L2.St} {i : Nat} {d d2 : D} {p : Addr} {o : HO} (m : MS K g0 H0 τ ρ W g σ H) (hτ : τ.getD i false = true) (e : ρ[i]? = some (some d)) (es : σ[i]? = some (some (.ref p))) (r : Hob K g o d2) :
    MS K g0 H0 τ (ρ.set i (some d2)) W g σ (upd H p o) := by
  obtain ⟨p', ep, n, nb, y, eh, _⟩ := m.sl.own i d e hτ
  rw [es] at ep; cases ep
  have n0 := m.nw i p _ hτ e es
  have hl : i < ρ.length := by
    by_cases hl : i < ρ.length
    · exact hl
    · rw [List.getElem?_eq_none (by simpa using hl)] at e; cases e
  refine ⟨m.ht.mut n nb, m.st.mut n0, ⟨by rw [List.length_set]; exact m.sl.ln, fun j f h t => ?_, fun j f h t => ?_, fun j k a f f' ne t1 t2 h1 h2 q1 q2 => ?_⟩, fun j a f t h q => ?_⟩
  · have z : i ≠ j := fun z => by subst z; rw [hτ] at t; cases t
    rw [List.getElem?_set_ne z] at h
    exact m.sl.frz j f h t
  · by_cases z : i = j
    · subst z
      rw [List.getElem?_set_self hl] at h
      cases h
      exact ⟨p, es, n, nb, o, upd_same, r⟩
    · rw [List.getElem?_set_ne z] at h
      obtain ⟨a, q, n', nb', z', ea, ra⟩ := m.sl.own j f h t
      refine ⟨a, q, n', nb', z', ?_, ra⟩
      rw [upd_ne fun z' => m.sl.dis i j p _ _ z hτ t e h es (by rw [← z']; exact q)]
      exact ea
  · have ex : ∀ {j f}, (ρ.set i (some d2))[j]? = some (some f) → ∃ f', ρ[j]? = some (some f') := fun {j f} h => by
      by_cases z : i = j
      · subst z; exact ⟨_, e⟩
      · rw [List.getElem?_set_ne z] at h; exact ⟨f, h⟩
    obtain ⟨f1, h1⟩ := ex h1
    obtain ⟨f2, h2⟩ := ex h2
    exact m.sl.dis j k a f1 f2 ne t1 t2 h1 h2 q1 q2
  · by_cases z : i = j
    · subst z
      exact m.nw i a _ t e q
    · rw [List.getElem?_set_ne z] at h
      exact m.nw j a f t h q
theorem MS.upd {K : PySem.W.Frag} {g0 g : Gh} {H0 H : Hp} {τ : Tg} {ρ : Env} {W : Wd} {σ : L2.St} {i : Nat} {d : D} {p : Addr} {xs : List V} {ds : List D} (m : MS K g0 H0 τ ρ W g σ H) (hτ : τ.getD i false = true) (e : ρ[i]? = some (some d)) (es : σ[i]? = some (some (.ref p))) (r : Rps K g xs ds) :
    MS K g0 H0 τ (ρ.set i (some (.lst ds))) W g σ (upd H p (.lst xs)) := m.updO hτ e es (.lst r)
/-- xs.append(e) -/
def appS (i : Nat) (f : Env → M D) : Env → M Out := fun ρ => bnd (f ρ) fun d => match ρ[i]? with
  | some (some (.lst ds)) => if ds.length < 16777216 then ret (.nx (ρ.set i (some (.lst (ds ++ [d]))))) else stuck
  | _ => stuck
section
variable {wr : Bool} {τl : Tg} {fe fk : Env → M D} {apos cpos : Pos}
theorem s_append (i : Nat) (he : FV X τ false e fe) (hτ : τ.getD i false = true := by rfl) (hN : X.N[i]? = some x := by rfl) (hv : Vis X.env.scope x := by first | exact Or.inl rfl | exact Or.inr (Or.inl rfl) | exact Or.inr (Or.inr rfl)) (hd : (x == ("__debug__" : Str)) = false := by decide)
    (hcd : (x == ("__classdict__" : Str)) = false := by decide) (hst : starEach (e :: []) X.env = (false, eval e X.env) :: starEach [] X.env := by rfl)
    (h : PE X (.Call (.Attribute (.Name x p) "append" apos) [e] [] cpos) (tBM X.K "list" rAppend (tVar i) (tCons (tV X.K τ false fe) tNil)))
    (hs : swapsWith (.Call (.Attribute (.Name x p) "append" apos) [e] [] cpos) none pos.line X.env = pure false := by rfl) :
    FS X wr τl τ τ (.Expr (.Call (.Attribute (.Name x p) "append" apos) [e] [] cpos) pos) (appS i fe) := PS.wk (ps_expr h hs) fun Dn σ H ⟨g0, H0, ρ, W, g, o, W', m, ef, q⟩ => by
  obtain ⟨d, W1, ed, ef⟩ := bnd_some ef
  cases e1 : ρ[i]? with
  | none => rw [e1] at ef; cases ef
  | some oo =>
    rw [e1] at ef
    cases oo with
    | none => cases ef
    | some dd =>
      cases dd with
      | lst ds =>
        have ef : (if ds.length < 16777216 then ret (.nx (ρ.set i (some (.lst (ds ++ [d]))))) else stuck) W1 = some (o, W') := ef
        split at ef
        · rename_i hz
          cases ef
          obtain ⟨pp, ep, ow⟩ := m.sl.own i _ e1 hτ
          have ow' := ow
          obtain ⟨n, nb, xs, eh, r⟩ := ow'.lstE
          refine ⟨_, ep, .inl ⟨rfl, xs, .of eh⟩, ρ, W, g, d, _, m.ht, m.sl, ed, fun v H1 g1 h1 s1 r1 => ?_⟩
          have m1 := m.step h1 s1
          refine ⟨pp, xs, v, rfl, rfl, s1.kp _ _ eh nb, by rw [line_eq, r.length]; exact hz, ?_⟩
          exact q _ _ g1 s1.le (m1.upd hτ e1 ep ((r.mono s1.le).append (.cons r1 .nil)))
        · cases ef
      | _ => cases ef
/-- xs.extend(ys) -/
def extS (i : Nat) (f : Env → M D) : Env → M Out := fun ρ => bnd (f ρ) fun d => match ρ[i]?, d with
  | some (some (.lst ds)), .lst es => if ds.length + es.length ≤ 16777216 then ret (.nx (ρ.set i (some (.lst (ds ++ es))))) else stuck
  | _, _ => stuck
theorem s_extend (i : Nat) (h : PE X (.Call (.Attribute (.Name x p) "extend" apos) [e] [] cpos) (tBM X.K "list" rExtend (tVar i) (tCons (tR X.K τ fe) tNil))) (hτ : τ.getD i false = true := by rfl)
    (hs : swapsWith (.Call (.Attribute (.Name x p) "extend" apos) [e] [] cpos) none pos.line X.env = pure false := by rfl) :
    FS X wr τl τ τ (.Expr (.Call (.Attribute (.Name x p) "extend" apos) [e] [] cpos) pos) (extS i fe) := PS.wk (ps_expr h hs) fun Dn σ H ⟨g0, H0, ρ, W, g, o, W', m, ef, q⟩ => by
  obtain ⟨d, W1, ed, ef⟩ := bnd_some ef
  cases e1 : ρ[i]? with
  | none => rw [e1] at ef; cases ef
  | some oo =>
    rw [e1] at ef
    cases oo with
    | none => cases ef
    | some dd =>
      cases dd with
      | lst ds =>
        cases d with
        | lst es =>
          have ef : (if ds.length + es.length ≤ 16777216 then ret (.nx (ρ.set i (some (.lst (ds ++ es))))) else stuck) W1 = some (o, W') := ef
          split at ef
          · rename_i hz
            cases ef
            obtain ⟨pp, ep, ow⟩ := m.sl.own i _ e1 hτ
            have ow' := ow
            obtain ⟨n, nb, xs, eh, r⟩ := ow'.lstE
            refine ⟨_, ep, .inl ⟨rfl, xs, .of eh⟩, ρ, W, g, _, _, m.ht, m.sl, ed, fun v H1 g1 h1 s1 o1 => ?_⟩
            have m1 := m.step h1 s1
            obtain ⟨p2, ys, rfl, eb, rb⟩ := o1.lstT h1
            refine ⟨pp, p2, xs, ys, rfl, rfl, s1.kp _ _ eh nb, eb, by rw [line_eq, r.length, rb.length]; exact hz, ?_⟩
            exact q _ _ g1 s1.le (m1.upd hτ e1 ep ((r.mono s1.le).append rb))
          · cases ef
        | _ => cases ef
      | _ => cases ef
/-- xs[k] = e -/
def putS (i : Nat) (fk f : Env → M D) : Env → M Out := fun ρ => bnd (f ρ) fun d => bnd (fk ρ) fun k => match ρ[i]?, k with
  | some (some (.lst ds)), .int k => match ixN ds.length k with
    | some j => ret (.nx (ρ.set i (some (.lst (ds.set j d)))))
    | none => stuck
  | _, _ => stuck
theorem s_put (i : Nat) {k : Expr} {spos : Pos} (he : FV X τ false e fe) (hk : FV X τ false k fk) (hτ : τ.getD i false = true := by rfl) (hN : X.N[i]? = some x := by rfl) (hv : Vis X.env.scope x := by first | exact Or.inl rfl | exact Or.inr (Or.inl rfl) | exact Or.inr (Or.inr rfl)) (hd : (x == ("__debug__" : Str)) = false := by decide)
    (hcd : (x == ("__classdict__" : Str)) = false := by decide)
    (ha : ∀ v, assign (.Subscript (.Name x p) k spos) X.env v = (do
      let ov ← holding [v] (eval (.Name x p) X.env)
      let iv ← holding [v, ov] (eval k X.env)
      standAt spos
      holding [v, ov, iv] (setItem ov iv v)
      release [v, ov, iv] []) := by intro _; rfl)
    (hs : swapsWithSole [.Subscript (.Name x p) k spos] e pos.line X.env = pure false := by rfl) (hw : swappedStores [.Subscript (.Name x p) k spos] e X.env = pure none := by rfl)
    (h1 : (assignEach [.Subscript (.Name x p) k spos] X.env).map (·.2) = [assign (.Subscript (.Name x p) k spos) X.env] := by rfl) :
    FS X wr τl τ τ (.Assign [.Subscript (.Name x p) k spos] e pos) (putS i fk fe) := PS.wk (ps_asg he (pg_sub (pe_var hN hv hd hcd) hk set_list ha) hs hw h1) fun Dn σ H ⟨g0, H0, ρ, W, g, o, W', m, ef, q⟩ => by
  obtain ⟨d, W1, ed, ef⟩ := bnd_some ef
  obtain ⟨kk, W2, ek, ef⟩ := bnd_some ef
  cases e1 : ρ[i]? with
  | none => rw [e1] at ef; cases ef
  | some oo =>
    rw [e1] at ef
    cases oo with
    | none => cases ef
    | some dd =>
      cases dd with
      | lst ds =>
        cases kk with
        | int kk =>
          cases ej : ixN ds.length kk with
          | none =>
            have ef : (match ixN ds.length kk with | some j => ret (Out.nx (ρ.set i (some (D.lst (ds.set j d))))) | none => stuck) W2 = some (o, W') := ef
            rw [ej] at ef; cases ef
          | some j =>
            have ef : (match ixN ds.length kk with | some j => ret (Out.nx (ρ.set i (some (D.lst (ds.set j d))))) | none => stuck) W2 = some (o, W') := ef
            rw [ej] at ef
            cases ef
            refine ⟨ρ, W, g, d, W1, m.ht, m.sl, ed, fun v H1 g1 h1 s1 r1 => ?_⟩
            obtain ⟨pp, ep, ow⟩ := m.sl.own i _ e1 hτ
            refine ⟨_, ep, ρ, W1, g1, _, _, h1, m.sl.step s1, ek, fun v2 H2 g2 h2 s2 r2 => ?_⟩
            cases r2
            have st := s1.trans s2 h1
            obtain ⟨n, nb, xs, eh, r⟩ := (ow.step st).lstE
            refine ⟨pp, xs, kk, j, rfl, rfl, eh, by rw [r.length]; exact ej, ?_⟩
            exact q _ _ g2 st.le ((m.step h2 st).upd hτ e1 ep (r.set (r1.mono s2.le) j))
        | _ => cases ef
      | _ => cases ef
end
end
end VS
set_option Elab.async false
set_option linter.all false
set_option maxRecDepth 100000
/-! VS6: the bag. -/
namespace VS
open PySem PySem.Spec PyProof.Rows L2
section
variable {K : PySem.W.Frag} {g g0 : Gh} {W : Wd} {H H0 : Hp} {b : Addr × Addr} {w w' : Bg}
theorem Ht.bag (h : Ht K g W H) {v : V} (o : Bo K g H v .bag) : ∃ b w, v = .ref b.1 ∧ g.B = some b ∧ W = some w ∧ H b.1 = some (.lst [.ref b.2, .int w.dig, .int w.mix]) ∧ H b.2 = some (.lst (w.cells.map V.int)) ∧ g.G b.1 = none ∧ g.G b.2 = none ∧ b.1 ≠ b.2 := by
  rcases o with o | ⟨_, _, _, _, _, _, hbo⟩
  · cases o with
    | bag hb =>
      obtain ⟨w, e, e1, e2, n1, n2⟩ := h.bS _ hb
      refine ⟨_, w, rfl, hb, e, e1, e2, n1, n2, fun z => ?_⟩
      rw [z, e2] at e1
      have := Option.some.inj e1
      injection this with this
      cases hc : w.cells with
      | nil => rw [hc] at this; cases this
      | cons c r => rw [hc] at this; injection this with this _; cases this
  · cases hbo
/-- the bag's own list is written -/
theorem Ht.bag1 (h : Ht K g (some w) H) (hb : g.B = some b) (e2 : H b.2 = some (.lst (w.cells.map V.int))) (ne : b.1 ≠ b.2) (n1 : g.G b.1 = none) (hc : w'.cells = w.cells) : Ht K g (some w') (upd H b.1 (.lst [.ref b.2, .int w'.dig, .int w'.mix])) := by
  obtain ⟨_, _, _, _, n1, n2⟩ := h.bS _ hb
  refine ⟨fun a x e => ?_, fun z => (by rw [hb] at z; cases z), fun b' hb' => ?_⟩
  · have : a ≠ b.1 := fun z => by rw [z, n1] at e; cases e
    rw [upd_ne this]; exact h.sub _ _ e
  · rw [hb] at hb'; cases hb'
    exact ⟨w', rfl, upd_same, by rw [upd_ne ne.symm, hc]; exact e2, n1, n2⟩
theorem Ht.bag2 (h : Ht K g (some w) H) (hb : g.B = some b) (e1 : H b.1 = some (.lst [.ref b.2, .int w.dig, .int w.mix])) (ne : b.1 ≠ b.2) (hd : w'.dig = w.dig) (hm : w'.mix = w.mix) : Ht K g (some w') (upd H b.2 (.lst (w'.cells.map V.int))) := by
  obtain ⟨_, _, _, _, n1, n2⟩ := h.bS _ hb
  refine ⟨fun a x e => ?_, fun z => (by rw [hb] at z; cases z), fun b' hb' => ?_⟩
  · have : a ≠ b.2 := fun z => by rw [z, n2] at e; cases e
    rw [upd_ne this]; exact h.sub _ _ e
  · rw [hb] at hb'; cases hb'
    exact ⟨w', rfl, by rw [upd_ne ne, hd, hm]; exact e1, upd_same, n1, n2⟩
theorem Step.bag (hb : g.B = some b) {p : Addr} {o : HO} (hp : p = b.1 ∨ p = b.2) : Step g H g (upd H p o) :=
  ⟨.refl _, fun a x e n => by rw [upd_ne fun z => n ⟨b, hb, by rw [z]; exact hp⟩]; exact e, fun _ _ _ _ n => n, fun z => by rw [hb] at z; cases z⟩
end
def bagP : M D := fun W => match W with
  | some w => (match w.cells[w.cells.length - 1]? with
    | some c => some (.int c, some { w with cells := w.cells.dropLast })
    | none => none)
  | none => none
def bagL : M D := fun W => match W with
  | some w => some (.int w.cells.length, W)
  | none => none
def bagE : M Bool := fun W => match W with
  | some w => some (w.cells.isEmpty, W)
  | none => none
def bagSet (k : Int) (i : Int) : M Unit := fun W => match W with
  | some w => if k = 1 then some ((), some { w with dig := i }) else if k = 2 then some ((), some { w with mix := i }) else none
  | none => none
/-- behind a look whether slot i holds the bag -/
def onBag {α : Type} (i : Nat) (m : M α) : Env → M α := fun ρ => bnd (rd i ρ) fun d => match d with
  | .bag => m
  | _ => stuck
theorem onBag_some {α : Type} {i : Nat} {m : M α} {ρ : Env} {W : Wd} {r : α × Wd} (h : onBag i m ρ W = some r) : ρ[i]? = some (some .bag) ∧ m W = some r := by
  obtain ⟨d, W1, e, h⟩ := bnd_some h
  obtain ⟨e1, rfl⟩ := rd_some e
  cases d with
  | bag => exact ⟨e1, h⟩
  | _ => cases h
theorem shaped_ints (ns : List Int) : SeqAt.shaped (.list (ns.map PyData.int)) = true := by
  have h1 : PyData.canLayAll0 (ns.map PyData.int) = true := by
    induction ns with
    | nil => simp [PyData.canLayAll0]
    | cons n r ih => simp [PyData.canLayAll0, PyData.canLay0, ih]
  have h2 : PyData.depthAll (ns.map PyData.int) = 0 := by
    induction ns with
    | nil => simp [PyData.depthAll]
    | cons n r ih => simp [PyData.depthAll, PyData.depth] ; simpa [PyData.canLayAll0, PyData.canLay0] using ih (by simpa [PyData.canLayAll0, PyData.canLay0] using h1)
  simp [SeqAt.shaped, PyData.canLay0, h1, PyData.depth, h2]
theorem eqv_empty (ns : List Int) : PyData.eqv (.list (ns.map PyData.int)) (.list []) = ns.isEmpty := by
  cases ns <;> simp [PyData.eqv, PyData.eqvAll]
section
variable {X : Cx} {τ τl : Tg} {wr : Bool} {x : Str} {p q0 spos lp pos apos cpos kpos p2 : Pos} {j0 : Nat} {e : Expr} {fe : Env → M D}
theorem bag_ne_tr {i : Nat} {σ : L2.St} {H : Hp} {Q : Bool → Hp → Prop} (h : tT X.K τ (fun ρ => bnd (onBag i bagE ρ) fun k => ret (!k)) σ H Q) :
    tTest (tOp (rNeD X.K) (tOp (rIxL X.K) (tVar i) (tC (.int 0))) (tLst tNil)) σ H Q := by
  obtain ⟨ρ, W, g, k, W', ht, sl, ef, q⟩ := h
  obtain ⟨k', W1, ek, ef⟩ := bnd_some ef
  obtain ⟨e1, ek⟩ := onBag_some ek
  obtain ⟨v, ev, o⟩ := sl.read e1
  obtain ⟨b, w, rfl, hb, rfl, h1, h2, n1, n2, ne⟩ := ht.bag o
  cases ek
  cases ef
  refine ⟨_, ev, _, _, 0, _, rfl, rfl, .of h1, rfl, Nat.zero_le _, fun pp np => ?_⟩
  have hn := ht.new (o := .lst []) np
  refine ⟨.list (w.cells.map .int), .list [], .lst (.of (same_put np _ _ h2)) (ints_dp _), .lst (.of upd_same) .nil, shaped_ints _, shaped_ints [], _, rfl, ?_⟩
  rw [eqv_empty]
  exact q _ g hn.1 hn.2
theorem t_bagNe (i : Nat) (hu : X.A.units + 64 < cLine) (hN : X.N[i]? = some x := by rfl) (hv : Vis X.env.scope x := by first | exact Or.inl rfl | exact Or.inr (Or.inl rfl) | exact Or.inr (Or.inr rfl)) (hd : (x == ("__debug__" : Str)) = false := by decide)
    (hcd : (x == ("__classdict__" : Str)) = false := by decide) : FT X τ (.Compare (.Subscript (.Name x p) (.Constant (.int 0) j0 q0) spos) [.NotEq] [.List [] lp] pos) (fun ρ => bnd (onBag i bagE ρ) fun k => ret (!k)) :=
  PT.wk (pt_cmpR (op_neD hu) (pe_ix ix_list (pe_var hN hv hd hcd) pe_int fun _ _ => rfl) (pe_lst pa_nil) (nomark _)) fun _ _ _ h => bag_ne_tr h
theorem bag_eq_tr {i : Nat} {σ : L2.St} {H : Hp} {Q : Bool → Hp → Prop} (h : tT X.K τ (onBag i bagE) σ H Q) :
    tTest (tOp (rEqD X.K) (tOp (rIxL X.K) (tVar i) (tC (.int 0))) (tLst tNil)) σ H Q := by
  obtain ⟨ρ, W, g, k, W', ht, sl, ek, q⟩ := h
  obtain ⟨e1, ek⟩ := onBag_some ek
  obtain ⟨v, ev, o⟩ := sl.read e1
  obtain ⟨b, w, rfl, hb, rfl, h1, h2, n1, n2, ne⟩ := ht.bag o
  cases ek
  refine ⟨_, ev, _, _, 0, _, rfl, rfl, .of h1, rfl, Nat.zero_le _, fun pp np => ?_⟩
  have hn := ht.new (o := .lst []) np
  refine ⟨.list (w.cells.map .int), .list [], .lst (.of (same_put np _ _ h2)) (ints_dp _), .lst (.of upd_same) .nil, shaped_ints _, shaped_ints [], _, rfl, ?_⟩
  rw [eqv_empty]
  exact q _ g hn.1 hn.2
theorem t_bagEq (i : Nat) (hu : X.A.units + 64 < cLine) (hN : X.N[i]? = some x := by rfl) (hv : Vis X.env.scope x := by first | exact Or.inl rfl | exact Or.inr (Or.inl rfl) | exact Or.inr (Or.inr rfl)) (hd : (x == ("__debug__" : Str)) = false := by decide)
    (hcd : (x == ("__classdict__" : Str)) = false := by decide) : FT X τ (.Compare (.Subscript (.Name x p) (.Constant (.int 0) j0 q0) spos) [.Eq] [.List [] lp] pos) (onBag i bagE) :=
  PT.wk (pt_cmpR (op_eqD hu) (pe_ix ix_list (pe_var hN hv hd hcd) pe_int fun _ _ => rfl) (pe_lst pa_nil) (nomark _)) fun _ _ _ h => bag_eq_tr h
theorem v_bagPop (i : Nat) (h : PE X (.Call (.Attribute (.Subscript (.Name x p) (.Constant (.int 0) j0 q0) spos) "pop" apos) [] [] cpos) (tBM0 X.K "list" rPop (tOp (rIxL X.K) (tVar i) (tC (.int 0))))) :
    FV X τ false (.Call (.Attribute (.Subscript (.Name x p) (.Constant (.int 0) j0 q0) spos) "pop" apos) [] [] cpos) (onBag i bagP) := PE.wk h fun σ H Q ⟨ρ, W, g, k, W', ht, sl, ek, q⟩ => by
  obtain ⟨e1, ek⟩ := onBag_some ek
  obtain ⟨v, ev, o⟩ := sl.read e1
  obtain ⟨b, w, rfl, hb, rfl, h1, h2, n1, n2, ne⟩ := ht.bag o
  have ek : (match w.cells[w.cells.length - 1]? with | some c => some (D.int c, some { w with cells := w.cells.dropLast }) | none => none) = some (k, W') := ek
  cases ec : w.cells[w.cells.length - 1]? with
  | none => rw [ec] at ek; cases ek
  | some c =>
    rw [ec] at ek
    cases ek
    refine ⟨_, ev, _, _, 0, _, rfl, rfl, .of h1, rfl, .inl ⟨rfl, _, .of h2⟩, b.2, _, .int c, rfl, rfl, h2, ?_, ?_⟩
    · rw [List.length_map, List.getElem?_map, ec]; rfl
    · have hh := ht.bag2 (w' := { w with cells := w.cells.dropLast }) hb h1 ne rfl rfl
      have e : (w.cells.map V.int).dropLast = (w.cells.dropLast).map V.int := List.map_dropLast.symm
      rw [e]
      exact q _ _ g hh (.bag hb (.inr rfl)) (.int c)
theorem v_bagLen (i : Nat) (hm : X.mg "len" = none) (hN : X.N[i]? = some x := by rfl) (hv : Vis X.env.scope x := by first | exact Or.inl rfl | exact Or.inr (Or.inl rfl) | exact Or.inr (Or.inr rfl)) (hd : (x == ("__debug__" : Str)) = false := by decide)
    (hcd : (x == ("__classdict__" : Str)) = false := by decide) (hg : Gl X "len" := by rfl) (hs : starEach (.Subscript (.Name x p) (.Constant (.int 0) j0 q0) spos :: []) X.env = (false, eval (.Subscript (.Name x p) (.Constant (.int 0) j0 q0) spos) X.env) :: starEach [] X.env := by rfl)
    (hpl : (backTo pos (starEach [] X.env)).any (·.1) = false := by rfl) :
    FV X τ false (.Call (.Name "len" p2) [.Subscript (.Name x p) (.Constant (.int 0) j0 q0) spos] [] pos) (onBag i bagL) :=
  PE.wk (pe_callB call_len hg hm PySem.boot_len (pa_cons (pe_ix ix_list (pe_var hN hv hd hcd) pe_int fun _ _ => rfl) pa_nil hs) (by decide) (by decide) hs hpl) fun σ H Q ⟨ρ, W, g, k, W', ht, sl, ek, q⟩ => by
  obtain ⟨e1, ek⟩ := onBag_some ek
  obtain ⟨v, ev, o⟩ := sl.read e1
  obtain ⟨b, w, rfl, hb, rfl, h1, h2, n1, n2, ne⟩ := ht.bag o
  cases ek
  refine ⟨_, ev, _, _, 0, _, rfl, rfl, .of h1, rfl, _, _, rfl, .inl ⟨_, .of h2, rfl⟩, ?_⟩
  rw [List.length_map]
  exact q _ H g ht (.refl _ _) (.int _)
/-- bag[k] = e -/
def bagPutS (i : Nat) (k : Int) (f : Env → M D) : Env → M Out := fun ρ => bnd (f ρ) fun d => match d with
  | .int z => bnd (onBag i (bagSet k z) ρ) fun _ => ret (.nx ρ)
  | _ => stuck
theorem s_bagPut (i : Nat) {k : Int} (he : FV X τ false e fe) (hN : X.N[i]? = some x := by rfl) (hv : Vis X.env.scope x := by first | exact Or.inl rfl | exact Or.inr (Or.inl rfl) | exact Or.inr (Or.inr rfl)) (hd : (x == ("__debug__" : Str)) = false := by decide)
    (hcd : (x == ("__classdict__" : Str)) = false := by decide)
    (ha : ∀ v, assign (.Subscript (.Name x p) (.Constant (.int k) j0 q0) spos) X.env v = (do
      let ov ← holding [v] (eval (.Name x p) X.env)
      let iv ← holding [v, ov] (eval (.Constant (.int k) j0 q0) X.env)
      standAt spos
      holding [v, ov, iv] (setItem ov iv v)
      release [v, ov, iv] []) := by intro _; rfl)
    (hs : swapsWithSole [.Subscript (.Name x p) (.Constant (.int k) j0 q0) spos] e pos.line X.env = pure false := by rfl) (hw : swappedStores [.Subscript (.Name x p) (.Constant (.int k) j0 q0) spos] e X.env = pure none := by rfl)
    (h1 : (assignEach [.Subscript (.Name x p) (.Constant (.int k) j0 q0) spos] X.env).map (·.2) = [assign (.Subscript (.Name x p) (.Constant (.int k) j0 q0) spos) X.env] := by rfl) :
    FS X wr τl τ τ (.Assign [.Subscript (.Name x p) (.Constant (.int k) j0 q0) spos] e pos) (bagPutS i k fe) := PS.wk (ps_asg he (pg_sub (pe_var hN hv hd hcd) pe_int set_list ha) hs hw h1) fun Dn σ H ⟨g0, H0, ρ, W, g, o, W', m, ef, q⟩ => by
  obtain ⟨d, W1, ed, ef⟩ := bnd_some ef
  cases d with
  | int z =>
    obtain ⟨_, W2, eb, ef⟩ := bnd_some ef
    obtain ⟨e1, eb⟩ := onBag_some eb
    cases ef
    refine ⟨ρ, W, g, _, W1, m.ht, m.sl, ed, fun v H1 g1 h1 s1 r1 => ?_⟩
    cases r1
    have m1 := m.step h1 s1
    obtain ⟨v, ev, o⟩ := m1.sl.read e1
    obtain ⟨b, w, rfl, hb, rfl, q1, q2, n1, n2, ne⟩ := h1.bag o
    have fin : ∀ w' : Bg, w'.cells = w.cells → W' = some w' → Dn.nx σ (upd H1 b.1 (.lst [.ref b.2, .int w'.dig, .int w'.mix])) := fun w' hc ew => by
      subst ew
      have hh := h1.bag1 (w' := w') hb q2 ne n1 hc
      exact q _ _ g1 s1.le (m1.step hh (.bag hb (.inl rfl)))
    have eb : (if k = 1 then some ((), some { w with dig := z }) else if k = 2 then some ((), some { w with mix := z }) else none) = some ((), W') := by
      have eb := eb
      unfold bagSet at eb
      exact eb
    refine ⟨_, ev, b.1, [.ref b.2, .int w.dig, .int w.mix], k, (if k = 1 then 1 else 2), rfl, rfl, q1, ?_, ?_⟩
    · split at eb
      · rename_i c; subst c; rfl
      · split at eb
        · rename_i c; subst c; rfl
        · cases eb
    · split at eb
      · rename_i c
        subst c
        cases eb
        exact fin { w with dig := z } rfl rfl
      · split at eb
        · rename_i c c2
          subst c2
          cases eb
          exact fin { w with mix := z } rfl rfl
        · cases eb
  | _ => cases ef
/-- return [cells, digits, mixed]: the bag -/
def retBagS (f0 f1 f2 : Env → M D) : Env → M Out := fun ρ => bnd (f0 ρ) fun d0 => bnd (f1 ρ) fun d1 => bnd (f2 ρ) fun d2 => match d0, d1, d2 with
  | .lst ds, .int i, .int j => (match asInts ds with
    | some cs => fun W => match W with
      | none => some (.rt .bag, some ⟨cs, i, j⟩)
      | some _ => none
    | none => stuck)
  | _, _, _ => stuck
theorem s_retBag {e0 e1 e2 : Expr} {f0 f1 f2 : Env → M D} {τ2 : Tg} (h0 : FV X τ true e0 f0) (h1 : FV X τ false e1 f1) (h2 : FV X τ false e2 f2) (hs0 : starEach (e0 :: [e1, e2]) X.env = (false, eval e0 X.env) :: starEach [e1, e2] X.env := by rfl) (hs1 : starEach (e1 :: [e2]) X.env = (false, eval e1 X.env) :: starEach [e2] X.env := by rfl)
    (hs2 : starEach (e2 :: []) X.env = (false, eval e2 X.env) :: starEach [] X.env := by rfl) : FS X false τl τ τ2 (.Return (some (.List [e0, e1, e2] lp)) pos) (retBagS f0 f1 f2) := PS.wk (ps_ret (pe_lst (pa_cons h0 (pa_cons h1 (pa_cons h2 pa_nil hs2) hs1) hs0))) fun Dn σ H ⟨g0, H0, ρ, W, g, o, W', m, ef, q⟩ => by
  obtain ⟨d0, W1, ed0, ef⟩ := bnd_some ef
  obtain ⟨d1, W2, ed1, ef⟩ := bnd_some ef
  obtain ⟨d2, W3, ed2, ef⟩ := bnd_some ef
  refine ⟨ρ, W, g, d0, W1, m.ht, m.sl, ed0, fun v0 H1 g1 hh1 s1 o1 => ⟨ρ, W1, g1, d1, W2, hh1, m.sl.step s1, ed1, fun v1 H2 g2 hh2 s2 r2 => ⟨ρ, W2, g2, d2, W3, hh2, (m.sl.step s1).step s2, ed2, fun v2 H3 g3 hh3 s3 r3 => ?_⟩⟩⟩
  refine ⟨by rw [line_eq]; show 3 ≤ 16777216; decide, fun p np => ?_⟩
  cases d0 with
  | lst ds =>
    cases d1 with
    | int i =>
      cases d2 with
      | int j =>
        have ef : (match asInts ds with
          | some cs => (fun W => match W with
            | none => some (Out.rt .bag, some ⟨cs, i, j⟩)
            | some _ => none : M Out)
          | none => stuck) W3 = some (o, W') := ef
        cases ec : asInts ds with
        | none => rw [ec] at ef; cases ef
        | some cs =>
          rw [ec] at ef
          cases W3 with
          | some _ => cases ef
          | none =>
            cases ef
            cases r2
            cases r3
            obtain ⟨a, rfl, na, ow⟩ := o1
            have st23 := s2.trans s3 hh2
            obtain ⟨n, nb, xs, eh, r⟩ := (ow.step st23).lstE
            rw [asInts_some ec] at r
            have ex := r.of_ints
            subst ex
            have gB : g3.B = none := by
              cases hB : g3.B with
              | none => rfl
              | some b => obtain ⟨w, ew, _⟩ := hh3.bS b hB; cases ew
            have st := (s1.trans st23 hh1)
            have sA := m.st.trans st m.ht
            have g0B : g0.B = none := by
              cases hB : g0.B with
              | none => rfl
              | some b => rw [sA.le.bb b hB] at gB; cases gB
            have nbag : ∀ z, ¬ g0.bagA z := fun z ⟨b, hb, _⟩ => by rw [g0B] at hb; cases hb
            have h0n : ∀ z, H3 z = none → H0 z = none := fun z hz => by
              cases e : H0 z with
              | none => rfl
              | some o => rw [sA.kp _ _ e (nbag z)] at hz; cases hz
            have a0 : H0 a = none := by
              cases e : H0 a with
              | none => rfl
              | some o =>
                have := m.st.kp _ _ e (nbag a)
                rw [this] at na; cases na
            have ap : a ≠ p := ne_of_none eh np
            have hnew := hh3.new (o := .lst [.ref a, .int i, .int j]) np
            refine q _ _ ⟨g3.G, some (p, a)⟩ ⟨hnew.1.sub, fun z => (by cases z), fun b hb => ?_⟩ ⟨⟨sA.le.gg, fun b hb => (by rw [g0B] at hb; cases hb)⟩, fun z o e nz => ?_, sA.gf, fun _ b hb => ?_⟩ (.bag (b := (p, a)) rfl)
            · cases hb
              exact ⟨⟨cs, i, j⟩, rfl, upd_same, by rw [upd_ne ap]; exact eh, hh3.gnone np, n⟩
            · rw [upd_ne (ne_of_none e (h0n p np))]
              exact sA.kp _ _ e nz
            · cases hb
              exact ⟨h0n p np, a0⟩
      | _ => cases ef
    | _ => cases ef
  | _ => cases ef
end
end VS
set_option Elab.async false
set_option linter.all false
set_option maxRecDepth 100000
/-! VS7: more sources, is True, three stores, helpers of the end. -/
namespace VS
open PySem PySem.Spec PyProof.Rows L2
def fuel : Nat := 1000000000
theorem kb_of {K : PySem.W.Frag} {x qual : Str} {st : Stmt} {f : Addr} {fd : FuncData} {ps ks : List Str} {n : Nat} {ix : List Nat} (F : Fun K x qual st f fd)
    (h : ∀ (kV doc pm : Value) (an : Option Addr) (cdv ct : Value) (us ws : List Value), us.length = n → ws.length = ks.length → bindArgs (PySem.W.fnOf x qual (defArgs st) (defBody st) (defScope st) .none kV doc pm an cdv ct) ⟨us, ks.zip ws⟩ = pure (ps.zip (pick ix (us ++ ws)))) : KB fd ps ks n ix := by
  obtain ⟨oc, od, kV, doc, pm, an, cdv, ct, osl, rfl, lk, hcd⟩ := F.ex
  exact ⟨h kV doc pm an cdv ct⟩
theorem spF_start {K : PySem.W.Frag} {H : Hp} {a : Addr} {ns : List Int} {φ : List D → M D} (hS : SqL K H a (ns.map V.int)) (h : ∃ W, φ [.scr ns] none = some (.bl true, W)) : spF K false 1 φ [.ref a] H (fun v _ => v = .bl true) fun _ _ _ => False := by
  obtain ⟨W, h⟩ := h
  refine ⟨[.scr ns], none, ⟨H, none⟩, .bl true, W, ⟨Same.refl H, fun _ => rfl, fun b hb => by cases hb⟩, .cons (.scr hS) .nil, rfl, h, fun v H' g' _ _ o => ?_⟩
  have o : Rp K g' v (.bl true) := o
  cases o
  rfl
/-! ### is True, is False -/
theorem is_bl_gen {prog : Program} {w : World} {A : Around} {E : Value → Shared → Prop} {s : Shared} {Q : Value → Shared → Prop} {x : V} {v : Value} {b : Bool} (r : RelV x v) (h : Q (.bool (v == .bool b)) s) : wpAny (model prog w) A (compareOp .Is v (.bool b)) Q E s := by
  cases x with
  | non => cases r; exact wpAny_pure h
  | bl c => cases r; exact wpAny_pure h
  | int _ => obtain ⟨t, rfl⟩ := r; exact wpAny_pure h
  | str _ => obtain ⟨t, rfl⟩ := r; exact wpAny_pure h
  | byt _ => obtain ⟨t, rfl⟩ := r; exact wpAny_pure h
  | flt _ => obtain ⟨t, rfl⟩ := r; exact wpAny_pure h
  | ref _ => cases r; exact wpAny_pure h
  | ty _ => cases r; exact wpAny_pure h
theorem RelV.bl_iff {x : V} {v : Value} {b : Bool} (r : RelV x v) : (v == Value.bool b) = decide (x = .bl b) := by
  cases x with
  | non => cases r; rfl
  | bl c => cases r; cases b <;> cases c <;> rfl
  | int _ => obtain ⟨t, rfl⟩ := r; rfl
  | str _ => obtain ⟨t, rfl⟩ := r; rfl
  | byt _ => obtain ⟨t, rfl⟩ := r; rfl
  | flt _ => obtain ⟨t, rfl⟩ := r; rfl
  | ref _ => cases r; rfl
  | ty _ => cases r; rfl
section
variable {X : Cx} {τ τl τ1 : Tg} {wr w w1 w2 w3 : Bool} {a b e e1 e2 e3 : Expr} {pos p pos' : Pos} {f fa fb f1 f2 f3 : Env → M D} {x y z : Str} {i j k : Nat}
theorem op_isB : OpR X (compareOp .Is) (fun x y H Q => ∃ c, y = .bl c ∧ Q (.bl (decide (x = .bl c))) H) := by
  intro pins s σ H x y v u Q I rx ry h
  obtain ⟨c, rfl, q⟩ := h
  cases ry
  refine is_bl_gen rx (fin_bl I q ?_)
  rw [RelV.bl_iff rx]
def isBD : D → D → Option D
  | .bag, _ => none
  | .bl c, .bl k => some (.bl (c == k))
  | _, .bl k => some (.bl false)
  | _, _ => none
theorem o_isB : OpR X (compareOp .Is) (rS X.K false isBD) := opS op_isB fun {g W H x y da db d} ht bx by_ e => by
  cases db with
  | bl k =>
    obtain rfl := by_.blT
    refine ⟨.bl (decide (x = .bl k)), ?_, fun Q q => ⟨k, rfl, q⟩⟩
    cases da with
    | bl c =>
      obtain rfl := bx.blT
      cases e
      have : decide (V.bl c = V.bl k) = (c == k) := by cases c <;> cases k <;> rfl
      rw [this]; exact .bl _
    | bag => cases e
    | non => obtain rfl := bx.nonT; cases e; exact .bl false
    | int n => obtain rfl := bx.intT; cases e; exact .bl false
    | str n => obtain rfl := bx.strT; cases e; exact .bl false
    | tup n => obtain ⟨_, _, rfl, _⟩ := bx.tupT ht; cases e; exact .bl false
    | lst n => obtain ⟨_, _, rfl, _⟩ := bx.lstT ht; cases e; exact .bl false
    | scr n => obtain ⟨_, _, rfl, _⟩ := bx.seq ht rfl; cases e; exact .bl false
    | dk _ _ => obtain ⟨_, _, rfl, _⟩ := bx.dkT ht; cases e; exact .bl false
    | dt _ _ => obtain ⟨_, _, rfl, _⟩ := bx.dtT ht; cases e; exact .bl false
    | fn _ => obtain ⟨_, rfl, _⟩ := bx.fnT; cases e; exact .bl false
  | _ => cases da <;> cases e
/-! ### reversed -/
def revI (f : Env → M D) : Env → M (List D) := fun ρ => bnd (f ρ) fun d => bnd (ofO d.items) fun ds => ret ds.reverse
theorem itv_ok {K : PySem.W.Frag} {H : Hp} {a : Addr} {xs : List V} {ds : List D} {g : Gh} {W : Wd} (h : Ht K g W H) (q : SqL K H a xs) (r : Rps K g xs ds) (i : Nat) :
    (∀ d, ds.reverse[i]? = some d → (Itv K a xs.length).go i H ∧ ∀ x H', (Itv K a xs.length).yld i H x H' → ∃ g', Ht K g' W H' ∧ Step g H g' H' ∧ Rp K g' x d) ∧ (ds.reverse.length ≤ i → (Itv K a xs.length).stop i H) := by
  refine ⟨fun d e => ?_, fun l => by show xs.length ≤ i; rw [r.length, ← List.length_reverse]; exact l⟩
  have hi : i < ds.length := by
    by_cases hi : i < ds.length
    · exact hi
    · rw [List.getElem?_eq_none (by simpa using hi)] at e; cases e
  rw [List.getElem?_reverse hi] at e
  obtain ⟨v, ev, rv⟩ := r.get e
  rw [← r.length] at ev
  refine ⟨⟨by rw [r.length]; exact hi, xs, v, q, ev⟩, fun x H' y => ?_⟩
  obtain ⟨rfl, y⟩ := y
  have := y xs q
  rw [ev] at this
  cases this
  exact ⟨g, h, .refl _ _, rv⟩
theorem itvT_ok {K : PySem.W.Frag} {H : Hp} {a : Addr} {xs : List V} {ds : List D} {g : Gh} {W : Wd} (h : Ht K g W H) (q : SqT K H a xs) (r : Rps K g xs ds) (i : Nat) :
    (∀ d, ds.reverse[i]? = some d → (RT.ItvT K a xs.length).go i H ∧ ∀ x H', (RT.ItvT K a xs.length).yld i H x H' → ∃ g', Ht K g' W H' ∧ Step g H g' H' ∧ Rp K g' x d) ∧ (ds.reverse.length ≤ i → (RT.ItvT K a xs.length).stop i H) := by
  refine ⟨fun d e => ?_, fun l => by show xs.length ≤ i; rw [r.length, ← List.length_reverse]; exact l⟩
  have hi : i < ds.length := by
    by_cases hi : i < ds.length
    · exact hi
    · rw [List.getElem?_eq_none (by simpa using hi)] at e; cases e
  rw [List.getElem?_reverse hi] at e
  obtain ⟨v, ev, rv⟩ := r.get e
  rw [← r.length] at ev
  refine ⟨⟨by rw [r.length]; exact hi, xs, v, q, ev⟩, fun x H' y => ?_⟩
  obtain ⟨rfl, y⟩ := y
  have := y xs q
  rw [ev] at this
  cases this
  exact ⟨g, h, .refl _ _, rv⟩
variable {tg : Expr}
theorem i_rev (hm : X.mg "reversed" = none) (he : FV X τ false e f) (hg : Gl X "reversed" := by rfl) (hs : starEach [e] X.env = (false, eval e X.env) :: starEach [] X.env := by rfl) : FI X τ tg (.Call (.Name "reversed" p) [e] [] pos) (revI f) :=
  PI.wk (RT.pi_revA hg hm he hs) fun σ H R ⟨ρ, W, g, ds, W', ht, sl, es, q⟩ => by
  obtain ⟨d, W1, ed, es⟩ := bnd_some es
  obtain ⟨es', W2, ei', ef⟩ := bnd_some es
  obtain ⟨ei, rfl⟩ := ofO_some ei'
  cases ef
  refine ⟨ρ, W, g, d, _, ht, sl, ed, fun v H' g' h' s r => ?_⟩
  cases r with
  | tup hs rr =>
    cases ei
    exact ⟨_, _, rfl, .inr ⟨sqT_same h'.sub (.of hs), q _ H' g' h' s fun i g2 H2 W2 h2 l => itvT_ok h2 (sqT_same h2.sub (sqT_same l.gg (.of hs))) (rr.mono l) i⟩⟩
  | lst hs rr =>
    cases ei
    exact ⟨_, _, rfl, .inl ⟨.of (h'.sub _ _ hs), q _ H' g' h' s fun i g2 H2 W2 h2 l => itv_ok h2 (.of (h2.sub _ _ (l.gg _ _ hs))) (rr.mono l) i⟩⟩
  | scr hs =>
    cases ei
    exact ⟨_, _, rfl, .inl ⟨h'.sub.seq hs, q _ H' g' h' s fun i g2 H2 W2 h2 l => itv_ok h2 (h2.sub.seq (l.gg.seq hs)) (.ints _) i⟩⟩
  | _ => cases ei
theorem ir_rev (hm : X.mg "reversed" = none) (he : FR X τ e f) (hg : Gl X "reversed" := by rfl) (hs : starEach [e] X.env = (false, eval e X.env) :: starEach [] X.env := by rfl) : FIR X τ tg (.Call (.Name "reversed" p) [e] [] pos) (revI f) :=
  PI.wk (RT.pi_revA hg hm he hs) fun σ H R ⟨ρ, W, g, ds, W', ht, sl, es, q⟩ => by
  obtain ⟨d, W1, ed, es⟩ := bnd_some es
  obtain ⟨es', W2, ei', ef⟩ := bnd_some es
  obtain ⟨ei, rfl⟩ := ofO_some ei'
  cases ef
  refine ⟨ρ, W, g, d, _, ht, sl, ed, fun v H' g' h' s o => ?_⟩
  rcases o with r | ⟨a, rfl, ow⟩
  · cases r with
    | tup hs rr =>
      cases ei
      exact ⟨_, _, rfl, .inr ⟨sqT_same h'.sub (.of hs), q _ H' g' h' s fun i g2 H2 W2 h2 l => itvT_ok h2 (sqT_same h2.sub (sqT_same l.le.gg (.of hs))) (rr.mono l.le) i⟩⟩
    | lst hs rr =>
      cases ei
      exact ⟨_, _, rfl, .inl ⟨.of (h'.sub _ _ hs), q _ H' g' h' s fun i g2 H2 W2 h2 l => itv_ok h2 (.of (h2.sub _ _ (l.le.gg _ _ hs))) (rr.mono l.le) i⟩⟩
    | scr hs =>
      cases ei
      exact ⟨_, _, rfl, .inl ⟨h'.sub.seq hs, q _ H' g' h' s fun i g2 H2 W2 h2 l => itv_ok h2 (h2.sub.seq (l.le.gg.seq hs)) (.ints _) i⟩⟩
    | _ => cases ei
  · obtain ⟨n, nb, x, eh, hb⟩ := ow
    cases hb with
    | lst rr =>
      cases ei
      exact ⟨_, _, rfl, .inl ⟨.of eh, q _ H' g' h' s fun i g2 H2 W2 h2 l => itv_ok h2 (.of (l.kp _ _ eh nb)) (rr.mono l.le) i⟩⟩
    | dk _ _ => cases ei
    | dt _ _ => cases ei
/-! ### three stores at once -/
def tPar3 (i j k : Nat) (ta : TA) : TS := fun D σ H => ta σ H fun vs H1 => ∃ v w u, vs = [v, w, u] ∧ D.nx (((σ.set i (some v)).set j (some w)).set k (some u)) H1
theorem ps_par3 {i j k : Nat} {x y z : Str} {a b c : Expr} {ta : TA} {px py pz pt : Pos} {kt k2 pt2} (hc : X.calm = true) (hN : X.N.Nodup) (hi : X.N[i]? = some x) (hj : X.N[j]? = some y) (hk : X.N[k]? = some z) (hij : i ≠ j) (hik : i ≠ k) (hjk : j ≠ k)
    (hx : X.env.scope.names.lookup x = some .local) (hy : X.env.scope.names.lookup y = some .local) (hz : X.env.scope.names.lookup z = some .local) (ha : PA X [a, b, c] ta)
    (hw : swappedStores [.Tuple [.Name x px, .Name y py, .Name z pz] kt pt] (.Tuple [a, b, c] k2 pt2) X.env = pure (some [x, y, z]))
    (hs : swapsWithSole [.Tuple [.Name x px, .Name y py, .Name z pz] kt pt] (.Tuple [a, b, c] k2 pt2) pos.line X.env = pure false := by rfl) :
    PS X (.Assign [.Tuple [.Name x px, .Name y py, .Name z pz] kt pt] (.Tuple [a, b, c] k2 pt2) pos) (tPar3 i j k ta) := by
  refine ⟨fun pins s σ H D I h => ?_⟩
  rw [exec_Assign_arm]
  refine wpAny_bind (wpAny_standAt ?_)
  rw [hs]
  refine wpAny_bind (wpAny_pure ?_)
  rw [if_neg (by decide)]
  refine wpAny_bind (Tuple_ (thn (ha.run _ pins s σ H _ I h) fun us s1 ⟨vs, H1, I1, r1, q1⟩ => ?_))
  obtain ⟨v, w, u, e1, q1⟩ := q1
  subst e1
  obtain ⟨u1, u2, u3, rfl, rv, rw', ru⟩ : ∃ u1 u2 u3, us = [u1, u2, u3] ∧ RelV v u1 ∧ RelV w u2 ∧ RelV u u3 := by
    cases r1 with
    | cons p q =>
      cases q with
      | cons p' q' =>
        cases q' with
        | cons p'' q'' =>
          cases q''
          exact ⟨_, _, _, rfl, p, p', p''⟩
  refine wpAny_newObj_type ?_ (by show 3 ≤ sizeLine; decide)
  have I2 : Inv X pins σ H1 { s1 with heap := s1.heap.push { cls := .type "tuple", data := .seq [u1, u2, u3].toArray } } := I1.kept (t' := s1.toks) fun b o e => Heap.get?_push_of_some _ e
  rw [hw]
  refine wpAny_bind (wpAny_pure ?_)
  show wpAny (model X.prog X.w) X.A (do rule "assign.swapped-stores"; let items ← unpackItems (.ref s1.heap.objs.size) 3 none; assignInOrder [fun v => bindName X.env z v, fun v => bindName X.env y v, fun v => bindName X.env x v] items.reverse; pure Flow.next) _ _ _
  refine wpAny_bind (wpAny_rule (wpAny_bind (unpackItems_tuple (items := #[u1, u2, u3]) (I.ok.hd hc) (IsTup.new s1.heap _) fun h' hx' => ?_)))
  have I3 := I2.kept (h' := h') (t' := s1.toks) fun b o e => hx' b o (Nat.ne_of_lt (Heap.lt_size e)) e
  show wpAny _ _ (assignInOrder [fun v => bindName X.env z v, fun v => bindName X.env y v, fun v => bindName X.env x v] [u3, u2, u1] >>= fun _ => pure Flow.next) _ _ _
  refine wpAny_bind (assignInOrder_cons (wpAny_bindName (store_ok I3 hN hk (.inl hz) ru (fun s2 I4 => ?_) (.inr hz))))
  refine assignInOrder_cons (wpAny_bindName (store_ok I4 hN hj (.inl hy) rw' (fun s3 I5 => ?_) (.inr hy)))
  refine assignInOrder_cons (wpAny_bindName (store_ok I5 hN hi (.inl hx) rv (fun s4 I6 => assignInOrder_nil (wpAny_pure ?_)) (.inr hx)))
  rw [List.set_comm _ _ (Ne.symm hij), List.set_comm _ _ (Ne.symm hik), List.set_comm _ _ (Ne.symm hjk)] at I6
  exact ⟨_, H1, I6, q1⟩
def par3S (i j k : Nat) (f h u : Env → M D) : Env → M Out := fun ρ => bnd (f ρ) fun d => bnd (h ρ) fun e => bnd (u ρ) fun c => ret (.nx (((ρ.set i (some d)).set j (some e)).set k (some c)))
theorem s_par3 (i j k : Nat) (hc : X.calm = true) (nd : X.N.Nodup) {px py pz pt : Pos} {kt k2 pt2} (h1 : FV X τ w1 e1 f1) (h2 : FV X τ w2 e2 f2) (h3 : FV X τ w3 e3 f3) (hij : i ≠ j := by decide) (hik : i ≠ k := by decide) (hjk : j ≠ k := by decide)
    (hi' : w1 = true → i < τ.length := by decide) (hj' : w2 = true → j < (τ.set i w1).length := by decide) (hk' : w3 = true → k < ((τ.set i w1).set j w2).length := by decide) (hi : X.N[i]? = some x := by rfl) (hj : X.N[j]? = some y := by rfl) (hk : X.N[k]? = some z := by rfl)
    (hx : X.env.scope.names.lookup x = some .local := by rfl) (hy : X.env.scope.names.lookup y = some .local := by rfl) (hz : X.env.scope.names.lookup z = some .local := by rfl)
    (hw : swappedStores [.Tuple [.Name x px, .Name y py, .Name z pz] kt pt] (.Tuple [e1, e2, e3] k2 pt2) X.env = pure (some [x, y, z]) := by rfl)
    (hs : swapsWithSole [.Tuple [.Name x px, .Name y py, .Name z pz] kt pt] (.Tuple [e1, e2, e3] k2 pt2) pos.line X.env = pure false := by rfl) (hs1 : starEach (e1 :: [e2, e3]) X.env = (false, eval e1 X.env) :: starEach [e2, e3] X.env := by rfl) (hs2 : starEach (e2 :: [e3]) X.env = (false, eval e2 X.env) :: starEach [e3] X.env := by rfl) (hs3 : starEach (e3 :: []) X.env = (false, eval e3 X.env) :: starEach [] X.env := by rfl) :
    FS X wr τl τ (((τ.set i w1).set j w2).set k w3) (.Assign [.Tuple [.Name x px, .Name y py, .Name z pz] kt pt] (.Tuple [e1, e2, e3] k2 pt2) pos) (par3S i j k f1 f2 f3) :=
  PS.wk (ps_par3 hc nd hi hj hk hij hik hjk hx hy hz (pa_cons h1 (pa_cons h2 (pa_cons h3 pa_nil hs3) hs2) hs1) hw hs) fun Dn σ H ⟨g0, H0, ρ, W, g, o, W', m, ef, q⟩ => by
  obtain ⟨d, W1, ed, ef⟩ := bnd_some ef
  obtain ⟨d2, W2, ed2, ef⟩ := bnd_some ef
  obtain ⟨d3, W3, ed3, ef⟩ := bnd_some ef
  cases ef
  refine ⟨ρ, W, g, d, W1, m.ht, m.sl, ed, fun v H1 g1 h1 s1 o1 => ⟨ρ, W1, g1, d2, W2, h1, m.sl.step s1, ed2, fun v2 H2 g2 h2 s2 o2 => ⟨ρ, W2, g2, d3, _, h2, (m.sl.step s1).step s2, ed3, fun v3 H3 g3 h3 s3 o3 => ⟨v, v2, v3, rfl, ?_⟩⟩⟩⟩
  exact q _ H3 g3 ((s1.le.trans s2.le).trans s3.le) (((m.set h1 s1 o1 hi').set h2 s2 o2 hj').set h3 s3 o3 hk')
end
end VS
set_option Elab.async false
set_option linter.all false
set_option maxRecDepth 100000
set_option maxHeartbeats 4000000
/-! VS8a: enumerate of a list or a tuple, what the kit's rules leave out. -/
namespace VE
open PySem PySem.Spec PyProof.Rows L2
section
variable {prog : Program} {w : World} {A : Around} {E : Value → Shared → Prop} {s : Shared}
theorem meets_enum1 {v : Value} {o : Obj} {H : Heap → Prop} (B : Begins v o H) :
    Meets (Builtin.«enumerate.__new__» ⟨[.type "enumerate", v], []⟩) (fun _ R s => H s.heap ∧
      R (.ok (.ret (.ref (s.heap.push o).objs.size))) { s with heap := (s.heap.push o).push { cls := .type "enumerate", data := .fields #[.none, .bool false, .ref s.heap.objs.size, rawInt 0, .none, .none] } }) :=
  .of_wp fun prog w A R s h => by
    obtain ⟨hp, g, d, tk, os⟩ := s
    obtain ⟨h1, h⟩ := h
    have hsub := sub_enumerate
    have q1 : ∀ {A' : Around} {E : Value → Shared → Prop} {Q : Value → Shared → Prop}, Q (.ref hp.objs.size) ⟨hp.push o, g, d, tk, os⟩ → wpAny (model prog w) A' (pyIter v) Q E ⟨hp, g, d, tk, os⟩ :=
      fun q => B.iter prog w _ _ ⟨hp, g, d, tk, os⟩ _ h1 q
    wp_walk using q1
    refine wpAny_stack_any fun st => wpAny_pure ?_
    split
    · rename_i c _ _ _ _ _
      cases (c == Value.type "enumerate")
      · wp_walk using q1
        exact ⟨_, rfl, h⟩
      · wp_walk using q1
        exact ⟨_, rfl, h⟩
    · wp_walk using q1
      exact ⟨_, rfl, h⟩
theorem enum1 {v : Value} {o : Obj} {H : Heap → Prop} {Q : Value → Shared → Prop} (B : Begins v o H) (h1 : H s.heap)
    (h : ∀ h', IsEnum h' (s.heap.objs.size + 1) s.heap.objs.size 0 .none → h'.get? s.heap.objs.size = some o → h'.objs.size = s.heap.objs.size + 2 →
      (∀ b o, s.heap.get? b = some o → h'.get? b = some o) → Q (.ref (s.heap.objs.size + 1)) { s with heap := h' }) :
    wpAny (model prog w) A (call (.type "enumerate") [v]) Q E s := by
  refine callType_new F.called_enumerate (by decide) (F.typeCall_enumerate_1 _) (F.newCall_enumerate_1 _) (fun obj => F.args_object_init_2 obj _) F.entry_enumerate_new
    (meets_enum1 B) ⟨h1, ?_⟩
  have hz : (s.heap.push o).objs.size = s.heap.objs.size + 1 := Heap.size_push ..
  show _ ∧ _
  rw [hz]
  have he : IsEnum ((s.heap.push o).push { cls := .type "enumerate", data := .fields #[.none, .bool false, .ref s.heap.objs.size, rawInt 0, .none, .none] }) (s.heap.objs.size + 1) s.heap.objs.size 0 .none := by
    have := Heap.get?_push_size (s.heap.push o) (o := { cls := .type "enumerate", data := .fields #[.none, .bool false, .ref s.heap.objs.size, rawInt 0, .none, .none] }) rfl
    rw [hz] at this; exact this
  exact ⟨⟨_, he, rfl⟩, h _ he (Heap.get?_push_of_some _ (Heap.get?_push_size _ B.free)) (by rw [Heap.size_push, hz]) fun b o x => Heap.get?_push_of_some _ (Heap.get?_push_of_some _ x)⟩
theorem enum_endT {e it t : Addr} {items : Array Value} {i : Nat} {k : Int} {old : Value} {Q : Option Value → Shared → Prop} (hh : A.handled = none) (he : IsEnum s.heap e it k old) (hit : s.heap.IsTupleIter it t i) (ht : s.heap.IsTuple t items) (hx : items[i]? = none)
    (hQ : ∀ h', Heap.ExtBut it s.heap h' → Q none { s with heap := h' }) : wpAny (model prog w) A (pyNext (.ref e)) Q E s := by
  have hT : s.TypeIs (.ref e) "enumerate" := ⟨_, he, rfl⟩
  unfold pyNext
  refine wpAny_bind (wpAny_attempt (wpAny_callSpecial?_slot (name := Str.ofString "__next__") hT F.slot_enumerate_next
    (wpAny_call_entry F.slot_enumerate_next hT F.entry_enumerate_next ?_ (F.args_enumerate_next_1 _))))
  show wpAny _ _ (field (.ref e) 2 >>= _) _ _ _
  refine wpAny_bind (wpAny_field he rfl (x := .ref it) rfl ?_)
  refine wpAny_bind (wpAny_nextOf_tuple_end (by exact hh) hit ht hx fun h' x he' hx' => ?_)
  obtain ⟨o, ho, hc⟩ := hx'
  refine wpAny_bind (wpAny_isInstance (T := "StopIteration") (b := true) ⟨o, ho, hc⟩ isSubtype_stop ?_)
  exact wpAny_pure (hQ _ he')
end
/-- the tuple at a, each item in a new pair -/
def IteT (K : PySem.W.Frag) (a : Addr) : It :=
  ⟨fun i H => ∃ (xs : List V) (x : V), SqT K H a xs ∧ xs[i]? = some x, fun i H v H' => ∃ T x, v = .ref T ∧ H T = none ∧ H' = upd H T (.tup [.int (i : Nat), x]) ∧ ∀ xs, SqT K H a xs → xs[i]? = some x, fun i H => ∃ xs : List V, SqT K H a xs ∧ xs.length ≤ i⟩
theorem turn_enumT {P : Program} {w : World} {K : PySem.W.Frag} {elts : List Expr} {kk : Nat} {tpos : Pos} (a e it : Addr) (hai : a ≠ it) (hea : e ≠ a) :
    Turn P w K (.Tuple elts kk tpos) (IteT K a) [e, it] e (fun i h => (∃ old, IsEnum h e it ((i : Nat) : Int) old) ∧ h.IsTupleIter it a i ∧ e ≠ it) where
  mem := by simp
  obj := fun i h st b hb => by
    obtain ⟨⟨old, he⟩, ⟨o, ho, hc, hd⟩, _⟩ := st
    have e' : b = e ∨ b = it := by simpa using hb
    rcases e' with z | z
    · rw [z]; exact ⟨_, he, fun v q => nomatch q⟩
    · rw [z]; exact ⟨o, ho, fun v q => by rw [hd] at q; cases q⟩
  keep := fun i h h' st k => let ⟨⟨old, he⟩, hi, hne⟩ := st; ⟨⟨old, k e (by simp) _ he⟩, hi.at fun o q => k it (by simp) o q, hne⟩
  item := by
    intro X hP hw hK hc i pins s σ H E I hf st hg
    subst hP hw hK
    obtain ⟨⟨old, he⟩, hit, hne⟩ := st
    obtain ⟨xs, x, hq, hx⟩ := hg
    obtain ⟨its, rv, p, hz⟩ := I.tuple hq
    obtain ⟨u, hu, ru⟩ := rv.get hx
    have hel : e < s.heap.objs.size := Heap.lt_size he
    have hil : it < s.heap.objs.size := by obtain ⟨_, q, _⟩ := hit; exact Heap.lt_size q
    have hlt : i < its.toArray.size := by
      have := rv.length
      have hl : i < xs.length := by
        by_cases hl : i < xs.length
        · exact hl
        · rw [List.getElem?_eq_none (by omega)] at hx; cases hx
      simp; omega
    refine wpAny_pyNext_enum_itemD (Draws.tuple (by exact (I.ok.hd hc)) it a hai its.toArray) he ⟨hit, p⟩ hlt hne (by simp [hne, hea]) fun x' h' tk hP ho hs' hT hsz hk => ?_
    have ex : x' = u := by
      have : its.toArray[i]? = some u := by simpa using hu
      rw [this] at hP
      exact (Option.some.inj hP).symm
    subst ex
    refine ⟨_, rfl, wpAny_letOwnedTupleGo_enum (s := { s with heap := h', toks := tk + 1 }) ho fun h'' he' sb => ?_⟩
    have hT2 : h''.get? s.heap.objs.size = some { cls := .type "tuple", data := .seq #[.int i tk, x'] } := (sb.2 _ (Nat.ne_of_gt hel)).trans hT
    have new : ObjOk X.prog X.w (upd H s.heap.objs.size (.tup [.int (i : Nat), x])) h'' s.heap.objs.size (.tup [.int (i : Nat), x]) :=
      ⟨by show 2 ≤ sizeLine; decide, [.int i tk, x'], .cons ⟨_, rfl⟩ (.cons ru .nil), ⟨_, hT2, rfl, _, rfl⟩⟩
    have I1 : Inv X pins σ (upd H s.heap.objs.size (.tup [.int (i : Nat), x])) { s with heap := h'', toks := tk + 1 } :=
      I.turnedNew (ch := [e, it]) (fun b ob hb q => (sb.2 b (fun z => hb (by simp [z]))).trans (hk b ob (fun z => hb (by simp [z])) (fun z => hb (by simp [z])) q)) hf (Nat.le_refl _) new
    refine ⟨.ref s.heap.objs.size, _, I1, rfl, ⟨_, x, rfl, I.hok.fresh (Nat.le_refl _), rfl, fun ys hy => by rw [I.tuple_inj hy hq]; exact hx⟩, ⟨⟨x', ?_⟩, hs'.1.at fun o q => (sb.2 it (Ne.symm hne)).trans q, hne⟩, fun b hb => ?_⟩
    · have e1 : ((i + 1 : Nat) : Int) = (i : Int) + 1 := by omega
      rw [e1]; exact he'
    · have hb' : b < s.heap.objs.size := by
        have e' : b = e ∨ b = it := by simpa using hb
        rcases e' with z | z
        · rw [z]; exact hel
        · rw [z]; exact hil
      rw [upd_ne (Nat.ne_of_lt hb')]
      exact (hf b hb).1
  done := by
    intro X hP hw hK hc i pins s σ H E I hf st hg
    subst hP hw hK
    obtain ⟨⟨old, he⟩, hit, hne⟩ := st
    obtain ⟨xs, hq, hx⟩ := hg
    obtain ⟨its, rv, p, hz⟩ := I.tuple hq
    obtain ⟨f0, f1, f2, f3, f4, f5⟩ := hf it (by simp)
    have hl := rv.length
    exact enum_endT (I.ok.hd hc) he hit p (by simp; omega) fun h' eb => ⟨rfl, I.turned (t' := s.toks) (fun b o hb q => eb b o hb q) f0 f1 f3 f4 f5⟩
  self := fun A i s Q E st h => let ⟨⟨_, he⟩, _⟩ := st; wpAny_pyIter_enum he h
def iEnumA (K : PySem.W.Frag) (ta : TA) : TI := fun σ H R => ta σ H fun vs H1 => ∃ a xs, vs = [.ref a] ∧ ((SqL K H1 a xs ∧ R (Ite K a) H1) ∨ (SqT K H1 a xs ∧ R (IteT K a) H1))
theorem pi_enumA {X : Cx} {e : Expr} {ta : TA} {p pos tpos : Pos} {elts : List Expr} {kk : Nat} (hg : Gl X "enumerate") (hm : X.mg "enumerate" = none) (ha : PA X [e] ta) (hs : starEach [e] X.env = [(false, eval e X.env)] := by rfl) :
    PI X (.Tuple elts kk tpos) (.Call (.Name "enumerate" p) [e] [] pos) (iEnumA X.K ta) := by
  refine ⟨fun pins s σ H R I h => ?_⟩
  refine Call_ (ld_blt I hg hm boot_enumerate (PyProof.Rows.callWith_type1 (thn (ha.run pos pins s σ H _ I h) fun us s1 ⟨vs, H1, I1, r1, q1⟩ => ?_) hs rfl))
  obtain ⟨a, xs, ex, q1⟩ := q1
  subst ex
  cases r1 with
  | cons r rr =>
    cases rr
    cases r
    have fresh : ∀ b ∈ [s1.heap.objs.size + 1, s1.heap.objs.size], FpOk X pins H1 b := fun b hb => by
      have e' : b = s1.heap.objs.size + 1 ∨ b = s1.heap.objs.size := by simpa using hb
      have hle : s1.heap.objs.size ≤ b := by
        rcases e' with z | z
        · rw [z]; exact Nat.le_add_right _ _
        · rw [z]; exact Nat.le_refl _
      exact I1.fpOk hle (I1.hok.fresh hle)
    rcases q1 with ⟨hq, q⟩ | ⟨hq, q⟩
    · obtain ⟨its, rv, p', hz⟩ := I1.list hq
      refine call_enumerate_list p'.isList fun h' he hit hsz hk => wpAny_pyIter_enum he ?_
      have I2 : Inv X pins σ H1 { s1 with heap := h' } := I1.kept (t' := s1.toks) hk
      exact ⟨s1.heap.objs.size + 1, [s1.heap.objs.size + 1, s1.heap.objs.size], _, _, H1, rfl, I2, turn_enum a (s1.heap.objs.size + 1) s1.heap.objs.size, ⟨⟨.none, he⟩, hit, Nat.succ_ne_self _⟩, fresh, q⟩
    · obtain ⟨its, rv, p', hz⟩ := I1.tuple hq
      have hlt : a < s1.heap.objs.size := by obtain ⟨_, q, _⟩ := id p'; exact Heap.lt_size q
      refine enum1 (begins_tuple a its.toArray) p' fun h' he hit hsz hk => wpAny_pyIter_enum he ?_
      have I2 : Inv X pins σ H1 { s1 with heap := h' } := I1.kept (t' := s1.toks) hk
      exact ⟨s1.heap.objs.size + 1, [s1.heap.objs.size + 1, s1.heap.objs.size], _, _, H1, rfl, I2, turn_enumT a (s1.heap.objs.size + 1) s1.heap.objs.size (Nat.ne_of_lt hlt) (Nat.ne_of_gt (Nat.lt_succ_of_lt hlt)), ⟨⟨.none, he⟩, ⟨_, hit, rfl, rfl⟩, Nat.succ_ne_self _⟩, fresh, q⟩
end VE
set_option Elab.async false
set_option linter.all false
set_option maxRecDepth 100000
/-! VS8b: sorted of a tuple. -/
namespace VS
open PySem PySem.Spec PyProof.Rows L2
section
variable {pr : Program} {wo : World} {Ar : Around} {Er : Value → Shared → Prop} {st : Shared}
theorem gather_tup {t : Addr} {us : List Value} {Qr : List Value → Shared → Prop} (ht : st.heap.IsTuple t us.toArray) (hz : us.length ≤ sizeLine)
    (k : Qr us { st with heap := (st.heap.push (seqObj "list" #[] 0)).update st.heap.objs.size (Obj.mapSeq (· ++ us.toArray)) }) : wpAny (model pr wo) Ar (collect (.ref t)) Qr Er st := by
  obtain ⟨ob, eo, ec, nn, ed⟩ := id ht
  have eo2 : (st.heap.push (seqObj "list" #[] 0)).get? t = some ob := Heap.get?_push_of_some _ eo
  have en := Heap.get?_push_size st.heap (o := seqObj "list" #[] 0) rfl
  unfold collect
  refine wpAny_bind (wpAny_runValue (codeAny_builtin entry_proto_collect' ?_))
  show wpAny _ _ (do again (.builtin "list.__iadd__" ⟨[← newList [], .ref t], []⟩)) _ _ st
  refine wpAny_bind (wpAny_newList (wpAny_pure ⟨Code.quiet_builtin _ (by decide +kernel), codeAny_builtin entry_list_iadd' ?_⟩))
  show wpAny _ _ (Builtin.List.listExtendWith (.ref st.heap.objs.size) (.ref t) (.ref st.heap.objs.size)) _ _ { st with heap := st.heap.push (seqObj "list" #[] 0) }
  unfold Builtin.List.listExtendWith
  refine wpAny_bind (wpAny_typeOf (T := "tuple") ⟨ob, eo2, ec⟩ ?_)
  rw [if_pos (by rw [show (Value.type "tuple" == Value.type "tuple") = true by rfl]; simp)]
  refine wpAny_bind (listItems_at eo2 ed (wpAny_bind (listItems_at (xs := #[]) (n := 0) en rfl ?_)))
  rw [if_neg (by simp)]
  refine wpAny_bind (listUpdate_at (xs := #[]) (n := 0) en rfl (wpAny_pure ?_) (Nat.zero_le _) ?_)
  · show wpAny (model pr wo) Ar (do
        let o ← load st.heap.objs.size
        match o.data with
        | .seq xs _ => pure xs.toList
        | _ => unsupported "internal:collect") Qr Er { st with heap := (st.heap.push (seqObj "list" #[] 0)).update st.heap.objs.size (Obj.mapSeq (· ++ us.toArray)) }
    refine wpAny_bind (wpAny_load (get?_update_seq en _) ?_)
    show wpAny _ _ (pure ((#[] : Array Value) ++ us.toArray).toList) Qr Er _
    rw [show ((#[] : Array Value) ++ us.toArray).toList = us by simp]
    exact wpAny_pure k
  · show (#[] ++ us.toArray).size ≤ sizeLine + 1
    simp only [Array.size_append, List.size_toArray, List.length_nil]
    omega
open PySem.W in
/-- sorted of a tuple: a new list of its items, sorted -/
theorem sorted_tup {β : Type} {us : List Value} {bs : List β} {en : β → PyData} {R : Value → β → Prop} {t : Addr} {Qr : Value → Shared → Prop} (ht : st.heap.IsTuple t us.toArray)
    (e : EachIs R us bs) (er : EachIs (fun v b => ∃ as, Reads st.heap v (en b) as) us bs) (ha : AllAlike (bs.map en)) (hk : Sortable (bs.map en)) (hz : bs.length ≤ sizeLine) (hu : ∀ b, b ∈ bs → Ar.units + 2 + (en b).depth < cLine)
    (k : ∀ out, out.length = bs.length → EachIs R out (bs.mergeSort (dataLe false en)) → Qr (.ref (st.heap.objs.size + 1)) { st with heap := sortedAll st.heap us (List.toArray out) }) :
    wpAny (model pr wo) Ar (call (.builtin "sorted") [.ref t]) Qr Er st := by
  have hzu : us.length ≤ sizeLine := by rw [e.length]; exact hz
  have er2 : EachIs (fun v b => ∃ as, Reads (sortingHeap (copyHeap st.heap us) (st.heap.objs.size + 1) us) v (en b) as) us bs := er.mono fun _ _ ⟨as, r⟩ => ⟨as, PyProof.Rows.Reads.keeps (fun _ _ => sorting_copy_old) r⟩
  have sa : SortsAt pr wo Ar.in1.in1 { st with heap := sortingHeap (copyHeap st.heap us) (st.heap.objs.size + 1) us } _ us :=
    SortsAt.data (each_map (R := fun v d => ∃ as, Reads (sortingHeap (copyHeap st.heap us) (st.heap.objs.size + 1) us) v d as) en er2) ha hk (bound_map hu)
  have fin := k _ (by rw [sortVals_length false rfl]; exact e.length) (sortVals_data false e er2 ha)
  refine call_function_entry_kw kind_sorted plain_sorted entry_sorted (args_sorted1 _) ?_
  unfold Builtin.«sorted»
  refine wpAny_bind (m := checkCount "sorted" 1 1 _) (wpAny_pure (wpAny_bind (gather_tup ht hzu (wpAny_bind (wpAny_newList ?_ hzu)))))
  have sz : ((st.heap.push (seqObj "list" #[] 0)).update st.heap.objs.size (Obj.mapSeq (· ++ us.toArray))).objs.size = st.heap.objs.size + 1 := by
    rw [Heap.size_update, size_push']
  show wpAny _ _ _ _ _ { st with heap := copyHeap st.heap us }
  rw [sz]
  refine wpAny_bind (wpAny_holding (wpAny_call_entry_kw slot_list_sort ⟨_, copyHeap_at st.heap us, rfl⟩ entry_list_sort ?_ (args_list_sort _)))
  show wpAny (model pr wo) Ar.in1.in1 (Builtin.«list.sort» ⟨[.ref (st.heap.objs.size + 1)], []⟩) _ _ _
  exact list_sort_vals (s := { st with heap := copyHeap st.heap us }) (copyHeap_at st.heap us) sa hzu ⟨_, rfl, wpAny_pure ⟨_, rfl, fin⟩⟩
end
end VS
set_option Elab.async false
set_option linter.all false
set_option maxRecDepth 100000
/-! VS8: in, sorted of rows, zip, enumerate, list(range), slices of tuples, a popped item appended, recursion. -/
namespace VS
open PySem PySem.Spec PyProof.Rows L2
section
variable {X : Cx} {τ : Tg} {w : Bool} {a b c e e2 tg : Expr} {es rest : List Expr} {pos p : Pos} {f h fa fb fc : VS.Env → M D} {fs : VS.Env → M (List D)} {x y : Str}
/-! ### x in xs -/
def inL (x : D) (ds : List D) : Bool := ds.any fun z => PyData.eqv (pd z) (pd x)
def inD (x y : D) : Option D := match y with
  | .lst ds => if okE x && okE (.lst ds) then some (.bl (inL x ds)) else none
  | .tup ds => if okE x && okE (.tup ds) then some (.bl (inL x ds)) else none
  | _ => none
def ninD (x y : D) : Option D := match y with
  | .lst ds => if okE x && okE (.lst ds) then some (.bl (!inL x ds)) else none
  | .tup ds => if okE x && okE (.tup ds) then some (.bl (!inL x ds)) else none
  | _ => none
theorem pds_map : ∀ ds : List D, pds ds = ds.map pd
  | [] => by unfold pds; rfl
  | d :: r => by unfold pds; rw [pds_map r]; rfl
theorem any_pds (x : D) (ds : List D) : ((pds ds).any fun z => PyData.eqv z (pd x)) = inL x ds := by
  rw [pds_map, List.any_map]; rfl
/-- .. in a list or in a tuple -/
def rInB (K : PySem.W.Frag) : R2 := fun x y H Q => ∃ (d : PyData) (ds : List PyData) (b : Bool), Dp K H x d ∧ Dp K H y (cond b (PyData.tuple ds) (PyData.list ds)) ∧ SeqAt.shaped d = true ∧ SeqAt.shaped (cond b (PyData.tuple ds) (PyData.list ds)) = true ∧ Q (.bl (ds.any fun z => PyData.eqv z d)) H
def rNinB (K : PySem.W.Frag) : R2 := fun x y H Q => ∃ (d : PyData) (ds : List PyData) (b : Bool), Dp K H x d ∧ Dp K H y (cond b (PyData.tuple ds) (PyData.list ds)) ∧ SeqAt.shaped d = true ∧ SeqAt.shaped (cond b (PyData.tuple ds) (PyData.list ds)) = true ∧ Q (.bl (!ds.any fun z => PyData.eqv z d)) H
theorem op_inB (hu : X.A.units + 65 < cLine) : OpR X (compareOp .In) (rInB X.K) := by
  intro pins s σ H x y v u Q I rx ry ⟨d, ds, b, hd, he, sd, se, q⟩
  obtain ⟨as, k1⟩ := Dp.reads I d x v hd rx
  have fin : EP X pins σ Q (.bool (ds.any fun z => PyData.eqv z d)) s := ⟨.bl _, H, I, rfl, q⟩
  cases b with
  | false =>
    obtain ⟨bs, k2⟩ := Dp.reads I (.list ds) y u he ry
    exact SeqAt.in_list_reads k2 k1 (SeqAt.canLay_of_shaped se) (SeqAt.canLay_of_shaped sd) (room_in_shaped sd hu) fin
  | true =>
    obtain ⟨bs, k2⟩ := Dp.reads I (.tuple ds) y u he ry
    exact SeqAt.in_tuple_reads k2 k1 (SeqAt.canLay_of_shaped se) (SeqAt.canLay_of_shaped sd) (room_in_shaped sd hu) fin
theorem op_ninB (hu : X.A.units + 65 < cLine) : OpR X (compareOp .NotIn) (rNinB X.K) := by
  intro pins s σ H x y v u Q I rx ry ⟨d, ds, b, hd, he, sd, se, q⟩
  obtain ⟨as, k1⟩ := Dp.reads I d x v hd rx
  have fin : EP X pins σ Q (.bool (!ds.any fun z => PyData.eqv z d)) s := ⟨.bl _, H, I, rfl, q⟩
  cases b with
  | false =>
    obtain ⟨bs, k2⟩ := Dp.reads I (.list ds) y u he ry
    exact SeqAt.notIn_list_reads k2 k1 (SeqAt.canLay_of_shaped se) (SeqAt.canLay_of_shaped sd) (room_in_shaped sd hu) fin
  | true =>
    obtain ⟨bs, k2⟩ := Dp.reads I (.tuple ds) y u he ry
    exact SeqAt.notIn_tuple_reads k2 k1 (SeqAt.canLay_of_shaped se) (SeqAt.canLay_of_shaped sd) (room_in_shaped sd hu) fin
theorem o_in (hu : X.A.units + 65 < cLine) : OpR X (compareOp .In) (rS X.K false inD) := opS (op_inB hu) fun {g W H x y da db d} ht bx by_ e => by
  unfold inD at e
  split at e
  · split at e
    · rename_i ds c
      rw [Bool.and_eq_true] at c
      cases e
      have hy := by_.dp ht (okE_of c.2).1
      have sy := (okE_of c.2).2
      unfold pd at hy sy
      refine ⟨_, .bl _, fun Q q => ⟨_, _, false, bx.dp ht (okE_of c.1).1, hy, (okE_of c.1).2, sy, ?_⟩⟩
      rw [any_pds]
      exact q
    · cases e
  · split at e
    · rename_i ds c
      rw [Bool.and_eq_true] at c
      cases e
      have hy := by_.dp ht (okE_of c.2).1
      have sy := (okE_of c.2).2
      unfold pd at hy sy
      refine ⟨_, .bl _, fun Q q => ⟨_, _, true, bx.dp ht (okE_of c.1).1, hy, (okE_of c.1).2, sy, ?_⟩⟩
      rw [any_pds]
      exact q
    · cases e
  · cases e
theorem o_nin (hu : X.A.units + 65 < cLine) : OpR X (compareOp .NotIn) (rS X.K false ninD) := opS (op_ninB hu) fun {g W H x y da db d} ht bx by_ e => by
  unfold ninD at e
  split at e
  · split at e
    · rename_i ds c
      rw [Bool.and_eq_true] at c
      cases e
      have hy := by_.dp ht (okE_of c.2).1
      have sy := (okE_of c.2).2
      unfold pd at hy sy
      refine ⟨_, .bl _, fun Q q => ⟨_, _, false, bx.dp ht (okE_of c.1).1, hy, (okE_of c.1).2, sy, ?_⟩⟩
      rw [any_pds]
      exact q
    · cases e
  · split at e
    · rename_i ds c
      rw [Bool.and_eq_true] at c
      cases e
      have hy := by_.dp ht (okE_of c.2).1
      have sy := (okE_of c.2).2
      unfold pd at hy sy
      refine ⟨_, .bl _, fun Q q => ⟨_, _, true, bx.dp ht (okE_of c.1).1, hy, (okE_of c.1).2, sy, ?_⟩⟩
      rw [any_pds]
      exact q
    · cases e
  · cases e
/-! ### sorted(xs) of data -/
def tupl1 : PyData → Bool
  | .tuple (_ :: _) => true
  | _ => false
def noTup : PyData → Bool
  | .tuple _ => false
  | .none => false
  | _ => true
def okS (ds : List D) : Bool := noBags ds && (ds.all fun a => ds.all fun b => PySem.W.alike (pd a) (pd b)) && ((ds.all fun d => tupl1 (pd d)) || ds.all fun d => noTup (pd d)) && (ds.all fun d => decide ((pd d).depth ≤ 60))
def srt (ds : List D) : List D := ds.mergeSort (PySem.W.dataLe false pd)
def sortedG : List D → Option D
  | [.lst ds] => if okS ds then some (.lst (srt ds)) else none
  | [.tup ds] => if okS ds then some (.lst (srt ds)) else none
  | _ => none
theorem each_of {K : PySem.W.Frag} {g : Gh} : ∀ {xs : List V} {its : List Value} {ds : List D}, Vals xs its → Rps K g xs ds → PySem.W.EachIs (fun v d => ∃ x, RelV x v ∧ Rp K g x d) its ds
  | _, _, _, .nil, .nil => .nil
  | _, _, _, .cons r rr, .cons q qq => .cons ⟨_, r, q⟩ (each_of rr qq)
theorem each_back {K : PySem.W.Frag} {g : Gh} : ∀ {its : List Value} {ds : List D}, PySem.W.EachIs (fun v d => ∃ x, RelV x v ∧ Rp K g x d) its ds → ∃ xs, Vals xs its ∧ Rps K g xs ds
  | _, _, .nil => ⟨[], .nil, .nil⟩
  | _, _, .cons ⟨x, r, q⟩ t => by
    obtain ⟨xs, rr, qq⟩ := each_back t
    exact ⟨x :: xs, .cons r rr, .cons q qq⟩
theorem each_rd {K : PySem.W.Frag} {X : Cx} {pins : List (Addr × Obj)} {σ : L2.St} {H : Hp} {s : Shared} {g : Gh} (I : Inv X pins σ H s) (hs : Same g.G H) : ∀ {xs : List V} {its : List Value} {ds : List D}, Vals xs its → Rps X.K g xs ds → noBags ds = true → PySem.W.EachIs (fun v d => ∃ as, Reads s.heap v (pd d) as) its ds
  | _, _, _, .nil, .nil, _ => .nil
  | _, _, _, .cons r rr, .cons q qq, n => by
    unfold noBags at n
    rw [Bool.and_eq_true] at n
    exact .cons (Dp.reads I _ _ _ (q.dp hs n.1) r) (each_rd (K := K) I hs rr qq n.2)
theorem okS_of {ds : List D} (h : okS ds = true) : noBags ds = true ∧ PySem.W.AllAlike (ds.map pd) ∧ PySem.W.Sortable (ds.map pd) ∧ ∀ d ∈ ds, (pd d).depth ≤ 60 := by
  unfold okS at h
  simp only [Bool.and_eq_true, Bool.or_eq_true, List.all_eq_true, decide_eq_true_eq] at h
  obtain ⟨⟨⟨h1, h2⟩, h3⟩, h4⟩ := h
  refine ⟨h1, ?_, ?_, h4⟩
  · intro d hd d' hd'
    obtain ⟨a, ha, rfl⟩ := List.mem_map.mp hd
    obtain ⟨b, hb, rfl⟩ := List.mem_map.mp hd'
    exact h2 a ha b hb
  · rcases h3 with h3 | h3
    · refine .inl fun d hd => ?_
      obtain ⟨a, ha, rfl⟩ := List.mem_map.mp hd
      have := h3 a ha
      unfold tupl1 at this
      split at this
      · rename_i x r e; exact ⟨x, r, e⟩
      · cases this
    · refine .inr fun d hd => ?_
      obtain ⟨a, ha, rfl⟩ := List.mem_map.mp hd
      have := h3 a ha
      refine ⟨fun z => ?_, fun xs z => ?_⟩
      · rw [z] at this; cases this
      · rw [z] at this; cases this
theorem srt_length (ds : List D) : (srt ds).length = ds.length := List.length_mergeSort _
theorem c_sortedG (hu : X.A.units + 64 < cLine) : CallR X (.builtin "sorted") (rC X.K true sortedG) := by
  intro pins s σ H vs us Q I r ⟨g, W, ds, d, ht, bs, e, q⟩
  unfold sortedG at e
  split at e
  · split at e
    · rename_i es c
      cases e
      obtain ⟨n1, n2, n3, n4⟩ := okS_of c
      obtain ⟨v, rfl, b⟩ := one_of bs
      obtain ⟨a, xs, rfl, hq, rr⟩ := b.lstT ht
      obtain ⟨its, rv, hl, hz⟩ := I.list (SqL.of hq)
      rw [Vals.ref1 r]
      have hlen : es.length = its.length := by rw [← rr.length, rv.length]
      refine PySem.W.sorted_data (enc := pd) hl.isList (each_of rv rr) (each_rd (K := X.K) I ht.sub rv rr n1) n2 n3 (by rw [← rr.length]; exact hz) (fun d hd => by have := n4 d hd; omega) fun out lo eo => ?_
      obtain ⟨ys, ry, qy⟩ := each_back eo
      obtain ⟨ep, he'⟩ := PyProof.Rows.sortedAll_at s.heap its out.toArray
      have hyl : ys.length ≤ sizeLine := by
        rw [qy.length, List.length_mergeSort, ← rr.length]
        exact hz
      exact ⟨.ref _, upd H (s.heap.objs.size + 1) (.lst ys), I.laid (t' := s.toks) (fun _ _ => PyProof.Rows.sortedAll_old) (Nat.le_succ _) ⟨hyl, out, ep, ry, he'⟩, rfl, newL (w := true) ht qy q _ (I.hok.fresh (Nat.le_succ _))⟩
    · cases e
  · split at e
    · rename_i es c
      cases e
      obtain ⟨n1, n2, n3, n4⟩ := okS_of c
      obtain ⟨v, rfl, b⟩ := one_of bs
      obtain ⟨a, xs, rfl, hq, rr⟩ := b.tupT ht
      obtain ⟨its, rv, hl, hz⟩ := I.tuple hq
      rw [Vals.ref1 r]
      have hlen : es.length = its.length := by rw [← rr.length, rv.length]
      refine sorted_tup (en := pd) hl (each_of rv rr) (each_rd (K := X.K) I ht.sub rv rr n1) n2 n3 (by rw [← rr.length]; exact hz) (fun d hd => by have := n4 d hd; omega) fun out lo eo => ?_
      obtain ⟨ys, ry, qy⟩ := each_back eo
      obtain ⟨ep, he'⟩ := PyProof.Rows.sortedAll_at s.heap its out.toArray
      have hyl : ys.length ≤ sizeLine := by
        rw [qy.length, List.length_mergeSort, ← rr.length]
        exact hz
      exact ⟨.ref _, upd H (s.heap.objs.size + 1) (.lst ys), I.laid (t' := s.toks) (fun _ _ => PyProof.Rows.sortedAll_old) (Nat.le_succ _) ⟨hyl, out, ep, ry, he'⟩, rfl, newL (w := true) ht qy q _ (I.hok.fresh (Nat.le_succ _))⟩
    · cases e
  · cases e
/-! ### list(range(..)) -/
def lrgD (c d : D) : Option D := match c, d with
  | .int i, .int j => if -(2 ^ 62) ≤ i ∧ i < 2 ^ 62 ∧ -(2 ^ 62) ≤ j ∧ j < 2 ^ 62 ∧ (j - i).toNat ≤ 16777216 then some (.lst (rng i (j - i).toNat)) else none
  | _, _ => none
def lrg1 (f : VS.Env → M D) : VS.Env → M D := fun ρ => bnd (f ρ) fun d => ofO (lrgD (.int 0) d)
def lrg2 (f h : VS.Env → M D) : VS.Env → M D := fun ρ => bnd (f ρ) fun c => bnd (h ρ) fun d => ofO (lrgD c d)
theorem rgV_rps {K : PySem.W.Frag} {g : Gh} (i j : Int) : Rps K g (rgV i j) (rng i (j - i).toNat) := by
  unfold rgV rng
  generalize (List.range (j - i).toNat) = l
  induction l with
  | nil => exact .nil
  | cons k r ih => exact .cons (.int _) ih
theorem v_listRg2 {p2 pos2 : Pos} (hc : X.calm = true) (hm : X.mg "list" = none) (hm2 : X.mg "range" = none) (ha : FV X τ false e f) (hb : FV X τ false e2 h) (hg : Gl X "list" := by rfl) (hg2 : Gl X "range" := by rfl)
    (na : starEach [e, e2] X.env = (false, eval e X.env) :: starEach [e2] X.env := by rfl) (nb : starEach [e2] X.env = (false, eval e2 X.env) :: starEach [] X.env := by rfl) (hp : (backTo pos2 (starEach [e2] X.env)).any (·.1) = false := by rfl)
    (nc : starEach [.Call (.Name "range" p2) [e, e2] [] pos2] X.env = (false, eval (.Call (.Name "range" p2) [e, e2] [] pos2) X.env) :: starEach [] X.env := by rfl) :
    FV X τ true (.Call (.Name "list" p) [.Call (.Name "range" p2) [e, e2] [] pos2] [] pos) (lrg2 f h) := PE.wk (pe_listRg hc hg hm (prg_2 hg2 hm2 ha hb na nb hp) nc) fun σ H Q ⟨ρ, W, g, k, W', ht, sl, ef, q⟩ => by
  obtain ⟨d, W1, ed, ef⟩ := bnd_some ef
  obtain ⟨d2, W2, ed2, ef⟩ := bnd_some ef
  obtain ⟨ei, rfl⟩ := ofO_some ef
  refine ⟨ρ, W, g, d, W1, ht, sl, ed, fun v H1 g1 h1 s1 r1 => ⟨ρ, W1, g1, d2, _, h1, sl.step s1, ed2, fun v2 H2 g2 h2 s2 r2 => ?_⟩⟩
  cases r1 with
  | int i =>
    cases r2 with
    | int j =>
      have ei : (if -(2 ^ 62) ≤ i ∧ i < 2 ^ 62 ∧ -(2 ^ 62) ≤ j ∧ j < 2 ^ 62 ∧ (j - i).toNat ≤ 16777216 then some (D.lst (rng i (j - i).toNat)) else none) = some k := ei
      split at ei
      · rename_i cc
        cases ei
        have st := s1.trans s2 h1
        exact ⟨i, j, rfl, rfl, ⟨cc.1, cc.2.1, cc.2.2.1, cc.2.2.2.1, cc.2.2.2.2⟩, newL (w := true) h2 (rgV_rps i j) fun z H4 g4 h4 s4 o4 => q z H4 g4 h4 (st.trans s4 h2) (o4.pre st h2)⟩
      · cases ei
    | _ => cases ei
  | _ => cases ei
theorem v_listRg1 {p2 pos2 : Pos} (hc : X.calm = true) (hm : X.mg "list" = none) (hm2 : X.mg "range" = none) (ha : FV X τ false e f) (hg : Gl X "list" := by rfl) (hg2 : Gl X "range" := by rfl)
    (na : starEach [e] X.env = (false, eval e X.env) :: starEach [] X.env := by rfl)
    (nc : starEach [.Call (.Name "range" p2) [e] [] pos2] X.env = (false, eval (.Call (.Name "range" p2) [e] [] pos2) X.env) :: starEach [] X.env := by rfl) :
    FV X τ true (.Call (.Name "list" p) [.Call (.Name "range" p2) [e] [] pos2] [] pos) (lrg1 f) := PE.wk (pe_listRg hc hg hm (prg_1 hg2 hm2 ha na) nc) fun σ H Q ⟨ρ, W, g, k, W', ht, sl, ef, q⟩ => by
  obtain ⟨d, W1, ed, ef⟩ := bnd_some ef
  obtain ⟨ei, rfl⟩ := ofO_some ef
  refine ⟨ρ, W, g, d, _, ht, sl, ed, fun v H1 g1 h1 s1 r1 => ?_⟩
  cases r1 with
  | int j =>
    have ei : (if -(2 ^ 62) ≤ (0 : Int) ∧ (0 : Int) < 2 ^ 62 ∧ -(2 ^ 62) ≤ j ∧ j < 2 ^ 62 ∧ (j - 0).toNat ≤ 16777216 then some (D.lst (rng 0 (j - 0).toNat)) else none) = some k := ei
    split at ei
    · rename_i cc
      cases ei
      exact ⟨j, rfl, ⟨cc.1, cc.2.1, cc.2.2.1, cc.2.2.2.1, cc.2.2.2.2⟩, newL (w := true) h1 (rgV_rps 0 j) fun z H4 g4 h4 s4 o4 => q z H4 g4 h4 (s1.trans s4 h1) (o4.pre s1 h1)⟩
    · cases ei
  | _ => cases ei
/-! ### slices of tuples -/
theorem cut_whole {α : Type} {xs : List α} {lo hi : Option Int} (h : HT.sIx xs.length 0 lo = 0 ∧ HT.sIx xs.length xs.length hi = xs.length) : cut xs lo hi = xs := by
  unfold cut
  rw [h.1, h.2]
  simp
theorem v_slT {lo hi : Option Expr} {fl fh : VS.Env → M (Option Int)} {p2 : Pos} (ha : FR X τ a fa) (hl : FO X τ lo fl) (hh : FO X τ hi fh) : FV X τ false (.Subscript a (.Slice lo hi none p2) pos) (slT fa fl fh) := PE.wk (pe_slice sl_tupA ha hl hh) fun σ H Q ⟨ρ, W, g, k, W', ht, sl, ef, q⟩ => by
  obtain ⟨d, W1, ed, ef⟩ := bnd_some ef
  obtain ⟨l, W2, el, ef⟩ := bnd_some ef
  obtain ⟨hh, W3, eh, ef⟩ := bnd_some ef
  refine ⟨ρ, W, g, d, W1, ht, sl, ed, fun v H1 g1 h1 s1 o1 => ⟨ρ, W1, g1, l, W2, h1, sl.step s1, el, fun H2 g2 h2 s2 => ⟨ρ, W2, g2, hh, W3, h2, (sl.step s1).step s2, eh, fun H3 g3 h3 s3 => ?_⟩⟩⟩
  have o3 := (o1.step s2).step s3
  have st := (s1.trans s2 h1).trans s3 h2
  cases d with
  | tup ds =>
    cases ef
    obtain ⟨p, xs, rfl, hq, r⟩ := o3.tupT h3
    refine ⟨p, xs, rfl, hq, fun hw => ?_, fun hw => newT h3 (cut_rel r l hh) fun z H4 g4 h4 s4 o4 => q z H4 g4 h4 (st.trans s4 h3) (o4.pre st h3)⟩
    rw [r.length] at hw
    refine q _ H3 g3 h3 st ?_
    rw [cut_whole hw]
    rcases o3 with o | ⟨_, _, _, _, _, _, hbo⟩
    · exact o
    · cases hbo
  | _ => cases ef
end
end VS
set_option Elab.async false
set_option linter.all false
set_option maxRecDepth 100000
/-! VS9: zip, enumerate; a popped item appended; recursion. -/
namespace VS
open PySem PySem.Spec PyProof.Rows L2
section
variable {X : Cx} {τ : Tg} {w : Bool} {a b c e e2 tg : Expr} {es rest elts : List Expr} {pos p tpos : Pos} {f h fa fb fc : VS.Env → M D} {fs : VS.Env → M (List D)} {x y : Str} {kk : Nat}
/-! ### zip -/
def zipL (xs ys : List D) : List D := List.zipWith (fun a b => D.tup [a, b]) xs ys
def zipD : List D → Option (List D)
  | [.lst xs, .lst ys] => some (zipL xs ys)
  | [.tup xs, .tup ys] => some (zipL xs ys)
  | _ => none
def zipI (fs : VS.Env → M (List D)) : VS.Env → M (List D) := fun ρ => bnd (fs ρ) fun ds => ofO (zipD ds)
theorem zipL_at {xs ys : List D} {i : Nat} {d : D} (e : (zipL xs ys)[i]? = some d) : ∃ a b, xs[i]? = some a ∧ ys[i]? = some b ∧ d = .tup [a, b] := by
  unfold zipL at e
  rw [List.getElem?_zipWith] at e
  split at e
  · rename_i a b ea eb
    cases e
    exact ⟨a, b, ea, eb, rfl⟩
  · cases e
theorem zipL_len {xs ys : List D} {i : Nat} (h : (zipL xs ys).length ≤ i) : xs.length ≤ i ∨ ys.length ≤ i := by
  unfold zipL at h
  rw [List.length_zipWith] at h
  omega
theorem new2 {K : PySem.W.Frag} {g : Gh} {W : Wd} {H : Hp} {T : Addr} {u v : V} {a b : D} (h : Ht K g W H) (n : H T = none) (ru : Rp K g u a) (rv : Rp K g v b) :
    ∃ g', Ht K g' W (upd H T (.tup [u, v])) ∧ Step g H g' (upd H T (.tup [u, v])) ∧ Rp K g' (.ref T) (.tup [a, b]) :=
  ⟨_, (h.newF n).1, (h.newF n).2, .tup upd_same (.cons (ru.mono (h.newF (o := .tup [u, v]) n).2.le) (.cons (rv.mono (h.newF (o := .tup [u, v]) n).2.le) .nil))⟩
theorem itz_ok {K : PySem.W.Frag} {H : Hp} {p q : Addr} {xs ys : List V} {ds es : List D} {g : Gh} {W : Wd} (h : Ht K g W H) (hx : SqL K H p xs) (hy : SqL K H q ys) (r : Rps K g xs ds) (r' : Rps K g ys es) (i : Nat) :
    (∀ d, (zipL ds es)[i]? = some d → (Itz K p q).go i H ∧ ∀ x H', (Itz K p q).yld i H x H' → ∃ g', Ht K g' W H' ∧ Step g H g' H' ∧ Rp K g' x d) ∧ ((zipL ds es).length ≤ i → (Itz K p q).stop i H) := by
  refine ⟨fun d e => ?_, fun l => ⟨xs, ys, hx, hy, by rw [r.length, r'.length]; exact zipL_len l⟩⟩
  obtain ⟨a, b, ea, eb, rfl⟩ := zipL_at e
  obtain ⟨u, eu, ru⟩ := r.get ea
  obtain ⟨v, ev, rv⟩ := r'.get eb
  refine ⟨⟨xs, ys, u, v, hx, hy, eu, ev⟩, fun x H' y => ?_⟩
  obtain ⟨T, u', v', rfl, n, rfl, y1, y2⟩ := y
  have k1 := y1 xs hx
  have k2 := y2 ys hy
  rw [eu] at k1
  rw [ev] at k2
  cases k1
  cases k2
  exact new2 h n ru rv
theorem itzT_ok {K : PySem.W.Frag} {H : Hp} {p q : Addr} {xs ys : List V} {ds es : List D} {g : Gh} {W : Wd} (h : Ht K g W H) (hx : SqT K H p xs) (hy : SqT K H q ys) (r : Rps K g xs ds) (r' : Rps K g ys es) (i : Nat) :
    (∀ d, (zipL ds es)[i]? = some d → (RZ.ItzT K p q).go i H ∧ ∀ x H', (RZ.ItzT K p q).yld i H x H' → ∃ g', Ht K g' W H' ∧ Step g H g' H' ∧ Rp K g' x d) ∧ ((zipL ds es).length ≤ i → (RZ.ItzT K p q).stop i H) := by
  refine ⟨fun d e => ?_, fun l => ⟨xs, ys, hx, hy, by rw [r.length, r'.length]; exact zipL_len l⟩⟩
  obtain ⟨a, b, ea, eb, rfl⟩ := zipL_at e
  obtain ⟨u, eu, ru⟩ := r.get ea
  obtain ⟨v, ev, rv⟩ := r'.get eb
  refine ⟨⟨xs, ys, u, v, hx, hy, eu, ev⟩, fun x H' y => ?_⟩
  obtain ⟨T, u', v', rfl, n, rfl, y1, y2⟩ := y
  have k1 := y1 xs hx
  have k2 := y2 ys hy
  rw [eu] at k1
  rw [ev] at k2
  cases k1
  cases k2
  exact new2 h n ru rv
theorem i_zip (hm : X.mg "zip" = none) (ha : FA X τ [e, e2] fs) (hg : Gl X "zip" := by rfl)
    (hs : starEach [e, e2] X.env = (false, eval e X.env) :: starEach [e2] X.env := by rfl) (hpl : (backTo pos (starEach [e2] X.env)).any (·.1) = false := by rfl) :
    FI X τ (.Tuple elts kk tpos) (.Call (.Name "zip" p) [e, e2] [] pos) (zipI fs) := PI.wk (RZ.pi_zipA hg hm ha hs hpl) fun σ H R ⟨ρ, W, g, ds, W', ht, sl, es, q⟩ => by
  obtain ⟨args, W1, ed, es⟩ := bnd_some es
  obtain ⟨ei, rfl⟩ := ofO_some es
  refine ⟨ρ, W, g, args, _, ht, sl, ed, fun vs H' g' h' s r => ?_⟩
  unfold zipD at ei
  split at ei
  · cases ei
    cases r with
    | cons r1 r =>
      cases r with
      | cons r2 r =>
        cases r
        cases r1 with
        | lst h1 q1 =>
          cases r2 with
          | lst h2 q2 =>
            exact ⟨_, _, _, _, rfl, .inl ⟨.of (h'.sub _ _ h1), .of (h'.sub _ _ h2), q _ H' g' h' s fun i g2 H2 W2 k2 l => itz_ok k2 (.of (k2.sub _ _ (l.gg _ _ h1))) (.of (k2.sub _ _ (l.gg _ _ h2))) (q1.mono l) (q2.mono l) i⟩⟩
  · cases ei
    cases r with
    | cons r1 r =>
      cases r with
      | cons r2 r =>
        cases r
        cases r1 with
        | tup h1 q1 =>
          cases r2 with
          | tup h2 q2 =>
            exact ⟨_, _, _, _, rfl, .inr ⟨sqT_same h'.sub (.of h1), sqT_same h'.sub (.of h2), q _ H' g' h' s fun i g2 H2 W2 k2 l => itzT_ok k2 (sqT_same k2.sub (sqT_same l.gg (.of h1))) (sqT_same k2.sub (sqT_same l.gg (.of h2))) (q1.mono l) (q2.mono l) i⟩⟩
  · cases ei
/-! ### enumerate -/
def enumAt : Nat → List D → List D
  | _, [] => []
  | k, d :: r => .tup [.int (k : Nat), d] :: enumAt (k + 1) r
theorem enumAt_len : ∀ (k : Nat) (ds : List D), (enumAt k ds).length = ds.length
  | _, [] => rfl
  | k, d :: r => by show (enumAt (k + 1) r).length + 1 = r.length + 1; rw [enumAt_len]
theorem enumAt_at : ∀ (k : Nat) (ds : List D) (i : Nat) (d : D), (enumAt k ds)[i]? = some d → ∃ a, ds[i]? = some a ∧ d = .tup [.int ((k + i : Nat) : Int), a]
  | _, [], _, _, e => by cases e
  | k, a :: r, 0, d, e => by cases e; exact ⟨a, rfl, rfl⟩
  | k, a :: r, i + 1, d, e => by
    obtain ⟨b, e1, e2⟩ := enumAt_at (k + 1) r i d e
    refine ⟨b, e1, ?_⟩
    rw [e2, show k + 1 + i = k + (i + 1) by omega]
def enumD (d : D) : Option (List D) := match d with
  | .lst ds => some (enumAt 0 ds)
  | .tup ds => some (enumAt 0 ds)
  | _ => none
def enumI (f : VS.Env → M D) : VS.Env → M (List D) := fun ρ => bnd (f ρ) fun d => ofO (enumD d)
theorem ite_ok {K : PySem.W.Frag} {H : Hp} {p : Addr} {xs : List V} {ds : List D} {g : Gh} {W : Wd} (h : Ht K g W H) (hx : SqL K H p xs) (r : Rps K g xs ds) (i : Nat) :
    (∀ d, (enumAt 0 ds)[i]? = some d → (Ite K p).go i H ∧ ∀ x H', (Ite K p).yld i H x H' → ∃ g', Ht K g' W H' ∧ Step g H g' H' ∧ Rp K g' x d) ∧ ((enumAt 0 ds).length ≤ i → (Ite K p).stop i H) := by
  refine ⟨fun d e => ?_, fun l => ⟨xs, hx, by rw [r.length]; rw [enumAt_len] at l; exact l⟩⟩
  obtain ⟨a, ea, rfl⟩ := enumAt_at 0 ds i d e
  obtain ⟨u, eu, ru⟩ := r.get ea
  refine ⟨⟨xs, u, hx, eu⟩, fun x H' y => ?_⟩
  obtain ⟨T, u', rfl, n, rfl, y1⟩ := y
  have k1 := y1 xs hx
  rw [eu] at k1
  cases k1
  rw [Nat.zero_add]
  exact new2 h n (.int _) ru
theorem iteT_ok {K : PySem.W.Frag} {H : Hp} {p : Addr} {xs : List V} {ds : List D} {g : Gh} {W : Wd} (h : Ht K g W H) (hx : SqT K H p xs) (r : Rps K g xs ds) (i : Nat) :
    (∀ d, (enumAt 0 ds)[i]? = some d → (VE.IteT K p).go i H ∧ ∀ x H', (VE.IteT K p).yld i H x H' → ∃ g', Ht K g' W H' ∧ Step g H g' H' ∧ Rp K g' x d) ∧ ((enumAt 0 ds).length ≤ i → (VE.IteT K p).stop i H) := by
  refine ⟨fun d e => ?_, fun l => ⟨xs, hx, by rw [r.length]; rw [enumAt_len] at l; exact l⟩⟩
  obtain ⟨a, ea, rfl⟩ := enumAt_at 0 ds i d e
  obtain ⟨u, eu, ru⟩ := r.get ea
  refine ⟨⟨xs, u, hx, eu⟩, fun x H' y => ?_⟩
  obtain ⟨T, u', rfl, n, rfl, y1⟩ := y
  have k1 := y1 xs hx
  rw [eu] at k1
  cases k1
  rw [Nat.zero_add]
  exact new2 h n (.int _) ru
theorem i_enum (hm : X.mg "enumerate" = none) (ha : FV X τ false e f) (hg : Gl X "enumerate" := by rfl) (hs : starEach [e] X.env = [(false, eval e X.env)] := by rfl) (hs' : starEach (e :: []) X.env = (false, eval e X.env) :: starEach [] X.env := by rfl) :
    FI X τ (.Tuple elts kk tpos) (.Call (.Name "enumerate" p) [e] [] pos) (enumI f) := PI.wk (VE.pi_enumA hg hm (pa_cons ha pa_nil hs') hs) fun σ H R ⟨ρ, W, g, ds, W', ht, sl, es, q⟩ => by
  obtain ⟨d, W1, ed, es⟩ := bnd_some es
  obtain ⟨ei, rfl⟩ := ofO_some es
  refine ⟨ρ, W, g, d, _, ht, sl, ed, fun v H' g' h' s r => ?_⟩
  unfold enumD at ei
  split at ei
  · cases ei
    cases r with
    | lst h1 q1 => exact ⟨_, _, rfl, .inl ⟨.of (h'.sub _ _ h1), q _ H' g' h' s fun i g2 H2 W2 k2 l => ite_ok k2 (.of (k2.sub _ _ (l.gg _ _ h1))) (q1.mono l) i⟩⟩
  · cases ei
    cases r with
    | tup h1 q1 => exact ⟨_, _, rfl, .inr ⟨sqT_same h'.sub (.of h1), q _ H' g' h' s fun i g2 H2 W2 k2 l => iteT_ok k2 (sqT_same k2.sub (sqT_same l.gg (.of h1))) (q1.mono l) i⟩⟩
  · cases ei
/-! ### xs.append(ys.pop(k)) -/
def lstAt (ρ : VS.Env) (i : Nat) : Option (List D) := match ρ[i]? with
  | some (some (.lst ds)) => some ds
  | _ => none
theorem lstAt_some {ρ : VS.Env} {i : Nat} {ds : List D} (h : lstAt ρ i = some ds) : ρ[i]? = some (some (.lst ds)) := by
  unfold lstAt at h
  split at h
  · rename_i es e; cases h; exact e
  · cases h
def appPopE (i j : Nat) (ρ : VS.Env) (k : D) : Option VS.Env := match k with
  | .int k => (lstAt ρ i).bind fun ds => (lstAt ρ j).bind fun es => (ixN es.length k).bind fun n => (es[n]?).bind fun d => if ds.length < 16777216 ∧ i ≠ j ∧ -(2 ^ 63) ≤ k ∧ k < 2 ^ 63 then some ((ρ.set j (some (.lst (es.eraseIdx n)))).set i (some (.lst (ds ++ [d])))) else none
  | _ => none
theorem appPopE_some {i j : Nat} {ρ ρ' : VS.Env} {k : D} (h : appPopE i j ρ k = some ρ') : ∃ z ds es n d, k = .int z ∧ ρ[i]? = some (some (.lst ds)) ∧ ρ[j]? = some (some (.lst es)) ∧ ixN es.length z = some n ∧ es[n]? = some d ∧ ds.length < 16777216 ∧ i ≠ j ∧ -(2 ^ 63) ≤ z ∧ z < 2 ^ 63 ∧
    ρ' = (ρ.set j (some (.lst (es.eraseIdx n)))).set i (some (.lst (ds ++ [d]))) := by
  unfold appPopE at h
  split at h
  · rename_i z
    obtain ⟨ds, e1, h⟩ := Option.bind_eq_some_iff.mp h
    obtain ⟨es, e2, h⟩ := Option.bind_eq_some_iff.mp h
    obtain ⟨n, e3, h⟩ := Option.bind_eq_some_iff.mp h
    obtain ⟨d, e4, h⟩ := Option.bind_eq_some_iff.mp h
    split at h
    · rename_i c
      cases h
      exact ⟨z, ds, es, n, d, rfl, lstAt_some e1, lstAt_some e2, e3, e4, c.1, c.2.1, c.2.2.1, c.2.2.2, rfl⟩
    · cases h
  · cases h
def appPopS (i j : Nat) (fk : VS.Env → M D) : VS.Env → M Out := fun ρ => bnd (fk ρ) fun k => bnd (ofO (appPopE i j ρ k)) fun ρ' => ret (.nx ρ')
theorem eraseIdx_rps {K : PySem.W.Frag} {g : Gh} : ∀ {xs : List V} {ds : List D} (n : Nat), Rps K g xs ds → Rps K g (xs.eraseIdx n) (ds.eraseIdx n)
  | _, _, _, .nil => .nil
  | _, _, 0, .cons r rr => rr
  | _, _, n + 1, .cons r rr => .cons r (eraseIdx_rps n rr)
section
variable {wr : Bool} {τl : Tg} {fe fk : VS.Env → M D} {apos cpos apos2 cpos2 : Pos} {p2 : Pos} {k : Expr}
theorem s_appPop (i j : Nat) (hk : PE X k (tV X.K τ false fk))
    (h2 : PE X (.Call (.Attribute (.Name y p2) "pop" apos2) [k] [] cpos2) (tBM X.K "list" rPopAt (tVar j) (tCons (tV X.K τ false fk) tNil)))
    (h : PE X (.Call (.Attribute (.Name x p) "append" apos) [.Call (.Attribute (.Name y p2) "pop" apos2) [k] [] cpos2] [] cpos) (tBM X.K "list" rAppend (tVar i) (tCons (tBM X.K "list" rPopAt (tVar j) (tCons (tV X.K τ false fk) tNil)) tNil)))
    (hτ : τ.getD i false = true := by rfl) (hτj : τ.getD j false = true := by rfl)
    (hs : swapsWith (.Call (.Attribute (.Name x p) "append" apos) [.Call (.Attribute (.Name y p2) "pop" apos2) [k] [] cpos2] [] cpos) none pos.line X.env = pure false := by rfl) :
    FS X wr τl τ τ (.Expr (.Call (.Attribute (.Name x p) "append" apos) [.Call (.Attribute (.Name y p2) "pop" apos2) [k] [] cpos2] [] cpos) pos) (appPopS i j fk) := PS.wk (ps_expr h hs) fun Dn σ H ⟨g0, H0, ρ, W, g, o, W', m, ef, q⟩ => by
  obtain ⟨kk, W1, ed, ef⟩ := bnd_some ef
  obtain ⟨ρ', W2, ee, ef2⟩ := bnd_some ef
  obtain ⟨eo, rfl⟩ := ofO_some ee
  cases ef2
  obtain ⟨z, ds, es, n, d, rfl, e1, e2, en, edn, hz, nij, k0, k1, rfl⟩ := appPopE_some eo
  obtain ⟨pp, ep, ow⟩ := m.sl.own i _ e1 hτ
  obtain ⟨n1, nb, xs, eh, r⟩ := ow.lstE
  obtain ⟨pj, epj, owj⟩ := m.sl.own j _ e2 hτj
  obtain ⟨n1j, nbj, ys, ehj, rj⟩ := owj.lstE
  refine ⟨_, ep, .inl ⟨rfl, xs, .of eh⟩, _, epj, .inl ⟨rfl, ys, .of ehj⟩, ρ, W, g, _, _, m.ht, m.sl, ed, fun v H1 g1 h1 s1 r1 => ?_⟩
  cases r1
  have m1 := m.step h1 s1
  have rj1 := rj.mono s1.le
  obtain ⟨u, eu, ru⟩ := rj1.get edn
  obtain ⟨q1, q2, _⟩ := ixN_seq en
  refine ⟨pj, ys, z, n, u, rfl, rfl, s1.kp _ _ ehj nbj, k0, k1, by rw [rj.length]; exact q1, eu, ?_⟩
  have m2 := m1.upd hτj e2 epj (eraseIdx_rps n rj1)
  have npp : pp ≠ pj := fun zz => m.sl.dis i j pp _ _ nij hτ hτj e1 e2 ep (by rw [zz]; exact epj)
  have e1' : (ρ.set j (some (D.lst (es.eraseIdx n))))[i]? = some (some (.lst ds)) := by rw [List.getElem?_set_ne (Ne.symm nij)]; exact e1
  refine ⟨pp, xs, u, rfl, rfl, ?_, by rw [line_eq, r.length]; exact hz, ?_⟩
  · rw [upd_ne npp]; exact s1.kp _ _ eh nb
  · exact q _ _ g1 s1.le (m2.upd hτ e1' ep ((r.mono s1.le).append (.cons ru .nil)))
end
end
/-! ### a def that is not covered (the bottom of a recursion) -/
theorem fk_stuck {P : Program} {w : World} {K : PySem.W.Frag} {mg : Str → Option Value} {base : Heap} {k : Nat} {f : Addr} {fd : FuncData} {ps : List Str} {wr : Bool} (kp : PySem.W.keepIn K (.ref f) = true) (bd : Binds K fd ps []) : Fk P w K mg base k f fd ps wr fun _ => stuck :=
  ⟨⟨fun vs H Q E h => (let ⟨ds, W, g, d, W', _, _, _, e, _⟩ := h; nomatch e), fun A outer s H args us vs Q E hr he hb hv hs => let ⟨ds, W, g, d, W', _, _, _, e, _⟩ := hs; nomatch e⟩, kp, bd⟩
end VS
namespace VS
theorem units65 {k : Nat} {A : PySem.Around} (r : L2.Room k A) : A.units + 65 < PySem.cLine := by have := r.un; omega
end VS
set_option Elab.async false
set_option linter.all false
set_option maxRecDepth 100000
/-! VS10: a, b = e1, e2 where a name is kept in a cell; a, b, c likewise. -/
namespace VS
open PySem PySem.Spec PyProof.Rows L2
section
variable {X : Cx} {wr w w1 w2 w3 : Bool} {τl τ : Tg} {e1 e2 e3 : Expr} {f1 f2 f3 : VS.Env → M D} {pos : Pos} {x y z : Str} {i j k : Nat}
theorem s_parT2 (i j : Nat) (hc : X.calm = true) (nd : X.N.Nodup) {px py pt : Pos} {kt k2 pt2} (h1 : FV X τ w1 e1 f1) (h2 : FV X τ w2 e2 f2) (hi' : w1 = true → i < τ.length := by decide) (hj' : w2 = true → j < (τ.set i w1).length := by decide) (hi : X.N[i]? = some x := by rfl) (hj : X.N[j]? = some y := by rfl)
    (hx : Loc X.env.scope x := by first | exact .inl rfl | exact .inr rfl) (hfx : X.fn x = true ∨ X.env.scope.names.lookup x = some .local := by first | exact .inl rfl | exact .inr rfl | assumption)
    (hy : Loc X.env.scope y := by first | exact .inl rfl | exact .inr rfl) (hfy : X.fn y = true ∨ X.env.scope.names.lookup y = some .local := by first | exact .inl rfl | exact .inr rfl | assumption)
    (hs : swapsWithSole [.Tuple [.Name x px, .Name y py] kt pt] (.Tuple [e1, e2] k2 pt2) pos.line X.env = pure false := by rfl) (hw : swappedStores [.Tuple [.Name x px, .Name y py] kt pt] (.Tuple [e1, e2] k2 pt2) X.env = pure none := by rfl)
    (ha : (assignEach [.Tuple [.Name x px, .Name y py] kt pt] X.env).map (·.2) = [assign (.Tuple [.Name x px, .Name y py] kt pt) X.env] := by rfl)
    (hn : (assignEach [.Name x px, .Name y py] X.env).length = 2 := by rfl) (hst : (assignEach [.Name x px, .Name y py] X.env).findIdx? (·.1) = none := by rfl)
    (hg1 : (assignEach (.Name x px :: [.Name y py]) X.env).map (·.2) = assign (.Name x px) X.env :: (assignEach [.Name y py] X.env).map (·.2) := by rfl) (hg2 : (assignEach (.Name y py :: []) X.env).map (·.2) = assign (.Name y py) X.env :: (assignEach [] X.env).map (·.2) := by rfl)
    (hs1 : starEach (e1 :: [e2]) X.env = (false, eval e1 X.env) :: starEach [e2] X.env := by rfl) (hs2 : starEach (e2 :: []) X.env = (false, eval e2 X.env) :: starEach [] X.env := by rfl) :
    FS X wr τl τ ((τ.set i w1).set j w2) (.Assign [.Tuple [.Name x px, .Name y py] kt pt] (.Tuple [e1, e2] k2 pt2) pos) (par2S i j f1 f2) :=
  PS.wk (ps_asg (pe_tup (pa_cons h1 (pa_cons h2 pa_nil hs2) hs1)) (pg_tup hc (pgs_cons (pg_name nd hi hx hfx) (pgs_cons (pg_name nd hj hy hfy) pgs_nil hg2) hg1) hn hst) hs hw ha) fun Dn σ H ⟨g0, H0, ρ, W, g, o, W', m, ef, q⟩ => by
  obtain ⟨d, W1, ed, ef⟩ := bnd_some ef
  obtain ⟨d2, W2, ed2, ef⟩ := bnd_some ef
  cases ef
  refine ⟨ρ, W, g, d, W1, m.ht, m.sl, ed, fun v H1 g1 h1 s1 o1 => ⟨ρ, W1, g1, d2, _, h1, m.sl.step s1, ed2, fun v2 H2 g2 h2 s2 o2 => ⟨by rw [line_eq]; show 2 ≤ 16777216; decide, fun p n => ?_⟩⟩⟩
  refine ⟨p, [v, v2], rfl, .of upd_same, rfl, v, [v2], rfl, v2, [], rfl, rfl, ?_⟩
  exact q _ _ g2 (s1.le.trans s2.le) (((m.set h1 s1 o1 hi').set h2 s2 o2 hj').step (h2.new n).1 (h2.new n).2)
theorem s_parT3 (i j k : Nat) (hc : X.calm = true) (nd : X.N.Nodup) {px py pz pt : Pos} {kt k2 pt2} (h1 : FV X τ w1 e1 f1) (h2 : FV X τ w2 e2 f2) (h3 : FV X τ w3 e3 f3) (hi' : w1 = true → i < τ.length := by decide) (hj' : w2 = true → j < (τ.set i w1).length := by decide) (hk' : w3 = true → k < ((τ.set i w1).set j w2).length := by decide)
    (hi : X.N[i]? = some x := by rfl) (hj : X.N[j]? = some y := by rfl) (hk : X.N[k]? = some z := by rfl)
    (hx : Loc X.env.scope x := by first | exact .inl rfl | exact .inr rfl) (hfx : X.fn x = true ∨ X.env.scope.names.lookup x = some .local := by first | exact .inl rfl | exact .inr rfl | assumption)
    (hy : Loc X.env.scope y := by first | exact .inl rfl | exact .inr rfl) (hfy : X.fn y = true ∨ X.env.scope.names.lookup y = some .local := by first | exact .inl rfl | exact .inr rfl | assumption)
    (hz : Loc X.env.scope z := by first | exact .inl rfl | exact .inr rfl) (hfz : X.fn z = true ∨ X.env.scope.names.lookup z = some .local := by first | exact .inl rfl | exact .inr rfl | assumption)
    (hs : swapsWithSole [.Tuple [.Name x px, .Name y py, .Name z pz] kt pt] (.Tuple [e1, e2, e3] k2 pt2) pos.line X.env = pure false := by rfl) (hw : swappedStores [.Tuple [.Name x px, .Name y py, .Name z pz] kt pt] (.Tuple [e1, e2, e3] k2 pt2) X.env = pure none := by rfl)
    (ha : (assignEach [.Tuple [.Name x px, .Name y py, .Name z pz] kt pt] X.env).map (·.2) = [assign (.Tuple [.Name x px, .Name y py, .Name z pz] kt pt) X.env] := by rfl)
    (hn : (assignEach [.Name x px, .Name y py, .Name z pz] X.env).length = 3 := by rfl) (hst : (assignEach [.Name x px, .Name y py, .Name z pz] X.env).findIdx? (·.1) = none := by rfl)
    (hg1 : (assignEach (.Name x px :: [.Name y py, .Name z pz]) X.env).map (·.2) = assign (.Name x px) X.env :: (assignEach [.Name y py, .Name z pz] X.env).map (·.2) := by rfl) (hg2 : (assignEach (.Name y py :: [.Name z pz]) X.env).map (·.2) = assign (.Name y py) X.env :: (assignEach [.Name z pz] X.env).map (·.2) := by rfl)
    (hg3 : (assignEach (.Name z pz :: []) X.env).map (·.2) = assign (.Name z pz) X.env :: (assignEach [] X.env).map (·.2) := by rfl)
    (hs1 : starEach (e1 :: [e2, e3]) X.env = (false, eval e1 X.env) :: starEach [e2, e3] X.env := by rfl) (hs2 : starEach (e2 :: [e3]) X.env = (false, eval e2 X.env) :: starEach [e3] X.env := by rfl) (hs3 : starEach (e3 :: []) X.env = (false, eval e3 X.env) :: starEach [] X.env := by rfl) :
    FS X wr τl τ (((τ.set i w1).set j w2).set k w3) (.Assign [.Tuple [.Name x px, .Name y py, .Name z pz] kt pt] (.Tuple [e1, e2, e3] k2 pt2) pos) (par3S i j k f1 f2 f3) :=
  PS.wk (ps_asg (pe_tup (pa_cons h1 (pa_cons h2 (pa_cons h3 pa_nil hs3) hs2) hs1)) (pg_tup hc (pgs_cons (pg_name nd hi hx hfx) (pgs_cons (pg_name nd hj hy hfy) (pgs_cons (pg_name nd hk hz hfz) pgs_nil hg3) hg2) hg1) hn hst) hs hw ha) fun Dn σ H ⟨g0, H0, ρ, W, g, o, W', m, ef, q⟩ => by
  obtain ⟨d, W1, ed, ef⟩ := bnd_some ef
  obtain ⟨d2, W2, ed2, ef⟩ := bnd_some ef
  obtain ⟨d3, W3, ed3, ef⟩ := bnd_some ef
  cases ef
  refine ⟨ρ, W, g, d, W1, m.ht, m.sl, ed, fun v H1 g1 h1 s1 o1 => ⟨ρ, W1, g1, d2, W2, h1, m.sl.step s1, ed2, fun v2 H2 g2 h2 s2 o2 => ⟨ρ, W2, g2, d3, _, h2, (m.sl.step s1).step s2, ed3, fun v3 H3 g3 h3 s3 o3 => ⟨by rw [line_eq]; show 3 ≤ 16777216; decide, fun p n => ?_⟩⟩⟩⟩
  refine ⟨p, [v, v2, v3], rfl, .of upd_same, rfl, v, [v2, v3], rfl, v2, [v3], rfl, v3, [], rfl, rfl, ?_⟩
  exact q _ _ g3 ((s1.le.trans s2.le).trans s3.le) ((((m.set h1 s1 o1 hi').set h2 s2 o2 hj').set h3 s3 o3 hk').step (h3.new n).1 (h3.new n).2)
end
end VS
set_option Elab.async false
set_option linter.all false
set_option maxRecDepth 100000
/-! VS11: dicts: {}, d[k], d[k] = v, d.get(k, x), k in d, len(d), d.values(). -/
namespace VS
open PySem PySem.Spec PyProof.Rows L2
section
variable {κ : Type} [DecidableEq κ] {K : PySem.W.Frag} {g : Gh}
def dLook : List κ → List D → κ → Option D
  | k' :: ks, d :: ds, k => if k' = k then some d else dLook ks ds k
  | _, _, _ => none
def dRepl : List κ → List D → κ → D → List D
  | k' :: ks, d' :: ds, k, d => (if k' = k then d else d') :: dRepl ks ds k d
  | _, ds, _, _ => ds
def dPutK (ks : List κ) (k : κ) : List κ := if k ∈ ks then ks else ks ++ [k]
def dPutV (ks : List κ) (ds : List D) (k : κ) (d : D) : List D := if k ∈ ks then dRepl ks ds k d else ds ++ [d]
theorem look_rel (k : κ) : ∀ {ks : List κ} {xs : List V} {ds : List D}, ks.length = xs.length → Rps K g xs ds → (∀ d, dLook ks ds k = some d → ∃ v, valV (ks.zip xs) k = some v ∧ Rp K g v d) ∧ (dLook ks ds k = none → valV (ks.zip xs) k = none)
  | [], [], _, _, .nil => ⟨fun d e => (by cases e), fun _ => rfl⟩
  | k' :: ks, x :: xs, d' :: ds, l, .cons h r => by
    have ih := look_rel k (Nat.succ.inj l) r
    show (∀ d, (if k' = k then some d' else dLook ks ds k) = some d → ∃ v, valV ((k', x) :: ks.zip xs) k = some v ∧ Rp K g v d) ∧ ((if k' = k then some d' else dLook ks ds k) = none → valV ((k', x) :: ks.zip xs) k = none)
    by_cases c : k' = k
    · rw [if_pos c, valV_pos (p := (k', x)) c]
      exact ⟨fun d e => (by cases e; exact ⟨_, rfl, h⟩), fun e => (by cases e)⟩
    · rw [if_neg c, valV_neg (p := (k', x)) c]
      exact ih
theorem repl_rel (k : κ) {v : V} {d : D} (q : Rp K g v d) : ∀ {ks : List κ} {xs : List V} {ds : List D}, ks.length = xs.length → Rps K g xs ds → ∃ ys, (ks.zip xs).map (fun kv => if kv.1 = k then (kv.1, v) else kv) = ks.zip ys ∧ ks.length = ys.length ∧ Rps K g ys (dRepl ks ds k d)
  | [], [], _, _, .nil => ⟨[], rfl, rfl, .nil⟩
  | k' :: ks, x :: xs, d' :: ds, l, .cons h r => by
    obtain ⟨ys, e1, e2, e3⟩ := repl_rel k q (Nat.succ.inj l) r
    by_cases c : k' = k
    · refine ⟨v :: ys, ?_, congrArg Nat.succ e2, ?_⟩
      · show (if k' = k then (k', v) else (k', x)) :: _ = (k', v) :: _
        rw [if_pos c]
        exact congrArg ((k', v) :: ·) e1
      · show Rps K g _ ((if k' = k then d else d') :: _)
        rw [if_pos c]; exact .cons q e3
    · refine ⟨x :: ys, ?_, congrArg Nat.succ e2, ?_⟩
      · show (if k' = k then (k', v) else (k', x)) :: _ = (k', x) :: _
        rw [if_neg c]
        exact congrArg ((k', x) :: ·) e1
      · show Rps K g _ ((if k' = k then d else d') :: _)
        rw [if_neg c]; exact .cons h e3
theorem any_zip (k : κ) : ∀ {ks : List κ} {xs : List V}, ks.length = xs.length → ((ks.zip xs).any fun kv => decide (kv.1 = k)) = decide (k ∈ ks)
  | [], [], _ => rfl
  | k' :: ks, x :: xs, l => by
    show (decide (k' = k) || (ks.zip xs).any fun kv => decide (kv.1 = k)) = _
    rw [any_zip k (Nat.succ.inj l)]
    by_cases c : k' = k
    · simp [c]
    · have : ¬ k = k' := fun e => c e.symm
      simp [c, this]
theorem zip_snoc {α β : Type} (a : α) (b : β) : ∀ {as : List α} {bs : List β}, as.length = bs.length → as.zip bs ++ [(a, b)] = (as ++ [a]).zip (bs ++ [b])
  | [], [], _ => rfl
  | x :: xs, y :: ys, l => congrArg ((x, y) :: ·) (zip_snoc a b (Nat.succ.inj l))
theorem put_rel (k : κ) {v : V} {d : D} (q : Rp K g v d) {ks : List κ} {xs : List V} {ds : List D} (l : ks.length = xs.length) (r : Rps K g xs ds) : ∃ ys, putK (ks.zip xs) k v = (dPutK ks k).zip ys ∧ (dPutK ks k).length = ys.length ∧ Rps K g ys (dPutV ks ds k d) := by
  unfold putK dPutK dPutV
  rw [any_zip k l]
  by_cases c : k ∈ ks
  · rw [if_pos (decide_eq_true c), if_pos c, if_pos c]
    exact repl_rel k q l r
  · rw [if_neg (by simpa using c), if_neg c, if_neg c]
    exact ⟨xs ++ [v], zip_snoc k v l, by simp [l], r.append (.cons q .nil)⟩
end
/-! keys -/
def asKey : D → Option Key
  | .int i => some (.inl i)
  | .str x => some (.inr x)
  | _ => none
def asKeys : List D → Option (List Key)
  | [] => some []
  | d :: r => (asKey d).bind fun k => (asKeys r).map (k :: ·)
section
variable {K : PySem.W.Frag} {g : Gh} {H : Hp} {W : Wd} {v x y : V} {d dx dy : D}
theorem asKey_rel (o : Bo K g H v d) {k : Key} (e : asKey d = some k) : v = kV k := by
  cases d with
  | int i => cases e; exact o.intT
  | str s => cases e; exact o.strT
  | _ => cases e
theorem asKeys_rel : ∀ {vs : List V} {ds : List D} {ks : List Key}, Rps K g vs ds → asKeys ds = some ks → vs = ks.map kV
  | _, _, _, .nil, e => by cases e; rfl
  | _, _, ks, .cons h r, e => by
    obtain ⟨k, e1, e2⟩ := Option.bind_eq_some_iff.mp e
    obtain ⟨ks', e3, e4⟩ := Option.map_eq_some_iff.mp e2
    subst e4
    rw [asKey_rel (H := fun _ => none) (.inl h) e1, asKeys_rel r e3]
    rfl
/-- what the dict holds at a key; none: not covered -/
def dGet (x y : D) : Option (Option D) := match x with
  | .dk ks ds => (asKey y).map fun k => dLook ks ds k
  | .dt ks ds => match y with
    | .tup es => (asKeys es).map fun k => dLook ks ds k
    | _ => none
  | _ => none
theorem dget_rel (ht : Ht K g W H) (bx : Bo K g H x dx) (by_ : Bo K g H y dy) {o : Option D} (e : dGet dx dy = some o) :
    ∃ a ov, x = .ref a ∧ IsD H a ∧ DGet H a y ov ∧ (∀ d, o = some d → ∃ v, ov = some v ∧ Rp K g v d) ∧ (o = none → ov = none) := by
  unfold dGet at e
  split at e
  · obtain ⟨a, xs, rfl, rd, l, r⟩ := bx.dkT ht
    obtain ⟨k, e1, rfl⟩ := Option.map_eq_some_iff.mp e
    have q := look_rel k l r
    exact ⟨a, _, rfl, .inl ⟨_, rd⟩, .inl ⟨_, k, rd, asKey_rel by_ e1, rfl⟩, q.1, q.2⟩
  · split at e
    · obtain ⟨a, xs, rfl, rd, l, r⟩ := bx.dtT ht
      obtain ⟨k, e1, rfl⟩ := Option.map_eq_some_iff.mp e
      have q := look_rel k l r
      obtain ⟨b, ys, rfl, eb, rb⟩ := by_.tupS ht
      rw [asKeys_rel rb e1] at eb
      exact ⟨a, _, rfl, .inr ⟨_, rd⟩, .inr ⟨_, k, b, rd, rfl, eb, rfl⟩, q.1, q.2⟩
    · cases e
  · cases e
/-- the dict behind d[k] = v; none: not covered -/
def dSet (x y z : D) : Option D := match x with
  | .dk ks ds => if ks.length < 16777216 then (asKey y).map fun k => .dk (dPutK ks k) (dPutV ks ds k z) else none
  | .dt ks ds => match y with
    | .tup es => if ks.length < 16777216 then (asKeys es).map fun k => .dt (dPutK ks k) (dPutV ks ds k z) else none
    | _ => none
  | _ => none
theorem dset_rel (ht : Ht K g W H) {a : Addr} {u : HO} (ha : H a = some u) (ho : Hob K g u dx) (by_ : Bo K g H y dy) {z : V} {dz d' : D} (rz : Rp K g z dz) (e : dSet dx dy dz = some d') : ∃ u', DPut H a y z (upd H a u') ∧ Hob K g u' d' := by
  unfold dSet at e
  split at e
  · split at e
    · rename_i c
      obtain ⟨k, e1, rfl⟩ := Option.map_eq_some_iff.mp e
      cases ho with
      | dk l r =>
        obtain ⟨ys, q1, q2, q3⟩ := put_rel k rz l r
        refine ⟨_, .inl ⟨_, k, ha, asKey_rel by_ e1, ?_, by rw [q1]⟩, .dk q2 q3⟩
        rw [List.length_zip, ← l, Nat.min_self]
        exact c
    · cases e
  · split at e
    · split at e
      · rename_i c
        obtain ⟨k, e1, rfl⟩ := Option.map_eq_some_iff.mp e
        obtain ⟨b, ys, rfl, eb, rb⟩ := by_.tupS ht
        rw [asKeys_rel rb e1] at eb
        cases ho with
        | dt l r =>
          obtain ⟨ys, q1, q2, q3⟩ := put_rel k rz l r
          refine ⟨_, .inr ⟨_, k, b, ha, rfl, eb, ?_, by rw [q1]⟩, .dt q2 q3⟩
          rw [List.length_zip, ← l, Nat.min_self]
          exact c
      · cases e
    · cases e
  · cases e
end
section
variable {X : Cx} {wr : Bool} {τ τl : Tg} {a b c e : Expr} {pos pos' p apos cpos : Pos} {fa fb fc fe fk : VS.Env → M D} {x : Str}
/-- d[k] -/
def dixF (f h : VS.Env → M D) : VS.Env → M D := fun ρ => bnd (f ρ) fun x => bnd (h ρ) fun y => ofO ((dGet x y).bind id)
theorem v_dix (hu : X.A.units + 65 < cLine) (ha : FR X τ a fa) (hb : FR X τ b fb) (hs : NoSl b) : FV X τ false (.Subscript a b pos) (dixF fa fb) := PE.wk (pe_dget (by omega) ha hb hs) fun σ H Q ⟨ρ, W, g, d, W', ht, sl, ef, q⟩ => by
  obtain ⟨x, W1, ex, ef⟩ := bnd_some ef
  obtain ⟨y, W2, ey, ef⟩ := bnd_some ef
  obtain ⟨eo, rfl⟩ := ofO_some ef
  obtain ⟨o, e1, e2⟩ := Option.bind_eq_some_iff.mp eo
  refine ⟨ρ, W, g, x, W1, ht, sl, ex, fun v H1 g1 h1 s1 o1 => ⟨ρ, W1, g1, y, _, h1, sl.step s1, ey, fun u H2 g2 h2 s2 o2 => ?_⟩⟩
  obtain ⟨a, ov, rfl, _, dg, k1, _⟩ := dget_rel h2 (o1.step s2) o2 e1
  obtain ⟨w, rfl, rw_⟩ := k1 d e2
  exact ⟨a, w, rfl, dg, q w H2 g2 h2 (s1.trans s2 h1) rw_⟩
/-- d.get(k, x) -/
def dgtF (f h k : VS.Env → M D) : VS.Env → M D := fun ρ => bnd (f ρ) fun x => bnd (h ρ) fun y => bnd (k ρ) fun z => ofO ((dGet x y).map fun o => o.getD z)
theorem v_dgt (hu : X.A.units + 65 < cLine) (ha : FR X τ a fa) (hb : FR X τ b fb) (hc : FV X τ false c fc) (m : M2 X a "get" apos b c cpos) : FV X τ false (.Call (.Attribute a "get" apos) [b, c] [] cpos) (dgtF fa fb fc) := PE.wk (pe_dget2 (by omega) ha hb hc m) fun σ H Q ⟨ρ, W, g, d, W', ht, sl, ef, q⟩ => by
  obtain ⟨x, W1, ex, ef⟩ := bnd_some ef
  obtain ⟨y, W2, ey, ef⟩ := bnd_some ef
  obtain ⟨z, W3, ez, ef⟩ := bnd_some ef
  obtain ⟨eo, rfl⟩ := ofO_some ef
  obtain ⟨o, e1, e2⟩ := Option.map_eq_some_iff.mp eo
  refine ⟨ρ, W, g, x, W1, ht, sl, ex, fun v H1 g1 h1 s1 o1 => ?_⟩
  have isd : ∃ a, v = .ref a ∧ IsD H1 a := by
    cases x with
    | dk ks ds => obtain ⟨a, xs, rfl, rd, _⟩ := o1.dkT h1; exact ⟨a, rfl, .inl ⟨_, rd⟩⟩
    | dt ks ds => obtain ⟨a, xs, rfl, rd, _⟩ := o1.dtT h1; exact ⟨a, rfl, .inr ⟨_, rd⟩⟩
    | _ => cases e1
  obtain ⟨a, rfl, isd⟩ := isd
  refine ⟨a, rfl, isd, ρ, W1, g1, y, W2, h1, sl.step s1, ey, fun u H2 g2 h2 s2 o2 => ⟨ρ, W2, g2, z, _, h2, (sl.step s1).step s2, ez, fun w H3 g3 h3 s3 o3 => ?_⟩⟩
  obtain ⟨a', ov, ea, _, dg, k1, k2⟩ := dget_rel h3 ((o1.step s2).step s3) (o2.step s3) e1
  cases ea
  refine ⟨ov, dg, ?_⟩
  have st := (s1.trans s2 h1).trans s3 h2
  cases o with
  | none =>
    rw [k2 rfl]
    cases e2
    exact q w H3 g3 h3 st o3
  | some d' =>
    obtain ⟨w', rfl, rw_⟩ := k1 d' rfl
    cases e2
    exact q w' H3 g3 h3 st rw_
/-- {}, empty, new -/
theorem v_dk0 : FV X τ true (.Dict [] [] pos) (kst (.dk [] [])) := PE.wk pe_dnewK fun σ H Q ⟨ρ, W, g, d, W', ht, sl, ef, q⟩ => by
  cases ef
  intro p n
  exact q _ _ g (ht.new n).1 (ht.new n).2 ⟨p, rfl, n, ht.gnone n, ht.bne n, _, upd_same, .dk (ks := []) (xs := []) rfl .nil⟩
theorem v_dt0 : FV X τ true (.Dict [] [] pos) (kst (.dt [] [])) := PE.wk pe_dnewT fun σ H Q ⟨ρ, W, g, d, W', ht, sl, ef, q⟩ => by
  cases ef
  intro p n
  exact q _ _ g (ht.new n).1 (ht.new n).2 ⟨p, rfl, n, ht.gnone n, ht.bne n, _, upd_same, .dt (ks := []) (xs := []) rfl .nil⟩
/-- d[k] = v -/
def dputS (i : Nat) (fk f : VS.Env → M D) : VS.Env → M Out := fun ρ => bnd (f ρ) fun d => bnd (fk ρ) fun k => match ρ[i]? with
  | some (some x) => bnd (ofO (dSet x k d)) fun x' => ret (.nx (ρ.set i (some x')))
  | _ => stuck
theorem s_dput (i : Nat) {k : Expr} {spos : Pos} (hu : X.A.units + 65 < cLine) (he : FV X τ false e fe) (hk : FR X τ k fk) (hτ : τ.getD i false = true := by rfl) (hN : X.N[i]? = some x := by rfl) (hv : Vis X.env.scope x := by first | exact Or.inl rfl | exact Or.inr (Or.inl rfl) | exact Or.inr (Or.inr rfl)) (hd : (x == ("__debug__" : Str)) = false := by decide)
    (hcd : (x == ("__classdict__" : Str)) = false := by decide) (hs : swapsWith e (some (.Subscript (.Name x p) k spos)) pos.line X.env = pure false := by rfl) :
    FS X wr τl τ τ (.Assign [.Subscript (.Name x p) k spos] e pos) (dputS i fk fe) := PS.wk (ps_dput (by omega) (pe_var hN hv hd hcd) hk he hs) fun Dn σ H ⟨g0, H0, ρ, W, g, o, W', m, ef, q⟩ => by
  obtain ⟨d, W1, ed, ef⟩ := bnd_some ef
  obtain ⟨kk, W2, ek, ef⟩ := bnd_some ef
  cases e1 : ρ[i]? with
  | none => rw [e1] at ef; cases ef
  | some oo =>
    rw [e1] at ef
    cases oo with
    | none => cases ef
    | some dd =>
      have ef2 : bnd (ofO (dSet dd kk d)) (fun x' => ret (Out.nx (ρ.set i (some x')))) W2 = some (o, W') := ef
      clear ef
      obtain ⟨dn, W3, en0, ef3⟩ := bnd_some ef2
      clear ef2
      obtain ⟨en, rfl⟩ := ofO_some en0
      cases ef3
      refine ⟨ρ, W, g, d, W1, m.ht, m.sl, ed, fun v H1 g1 h1 s1 r1 => ?_⟩
      obtain ⟨pp, ep, ow⟩ := m.sl.own i _ e1 hτ
      refine ⟨_, ep, ρ, W1, g1, _, _, h1, m.sl.step s1, ek, fun v2 H2 g2 h2 s2 o2 => ?_⟩
      have st := s1.trans s2 h1
      obtain ⟨n, nb, u, eh, hb⟩ := ow.step st
      obtain ⟨u', dp, hb'⟩ := dset_rel h2 eh hb o2 (r1.mono s2.le) en
      exact ⟨pp, _, rfl, dp, q _ _ g2 st.le ((m.step h2 st).updO hτ e1 ep hb')⟩
/-! ### the values of a dict -/
def hVals : HO → Option (List V)
  | .dK kvs => some (kvs.map (·.2))
  | .dT kvs => some (kvs.map (·.2))
  | _ => none
theorem frz_raw {pins : List (Addr × Obj)} {σ : L2.St} {H : Hp} {s : Shared} {d : Addr} {ob : Obj} {u : HO} {vs : List V} (I : Inv X pins σ H s) (h : H d = some (.frz ob u)) (hv : hVals u = some vs) :
    (d == sysModules) = false ∧ ∃ es ep, ob.data = .dict es ep ∧ s.heap.DictRaw d es ep ∧ es.size = vs.length ∧ ∀ (i : Nat) (v : V), vs[i]? = some v → ∃ en : DictEntry, es[i]? = some en ∧ RelV v en.val := by
  cases u with
  | dK kvs =>
    cases hv
    obtain ⟨hs, hd, hx, es, ep, ks, hdt, hz, kv, hm⟩ := I.frzK h
    refine ⟨hs, es, ep, hdt, ⟨ob, hd, hx, hdt⟩, by rw [List.length_map]; exact hz, fun i v ev => ?_⟩
    rw [List.getElem?_map] at ev
    obtain ⟨⟨k, v'⟩, e1, rfl⟩ := Option.map_eq_some_iff.mp ev
    obtain ⟨w, e2, rw_⟩ := kv_get kv e1
    obtain ⟨es', ep', ⟨o', ho', _, hd'⟩, hz', hval⟩ := hm.dictOf.raw
    rw [hd] at ho'
    cases ho'
    obtain ⟨rfl, rfl⟩ := dict_ep hdt hd'
    have hi : i < es'.size := by
      have := (List.getElem?_eq_some_iff.mp e2).1
      omega
    exact ⟨es'[i], by rw [Array.getElem?_eq_getElem hi], by rw [(hval i hi k w e2).2]; exact rw_⟩
  | dT kvs =>
    cases hv
    obtain ⟨hd, z, hs, xs, pr, o', es, ep, ho, hx, hdt, he, _⟩ := I.hok d _ h
    rw [hd] at ho
    cases ho
    have l1 : es.size = xs.length := size_of_entries he
    have l2 : kvs.length = xs.length := Paired.length pr
    refine ⟨hs, es, ep, hdt, ⟨_, hd, hx, hdt⟩, by rw [List.length_map]; omega, fun i v ev => ?_⟩
    rw [List.getElem?_map] at ev
    obtain ⟨⟨k, v'⟩, e1, rfl⟩ := Option.map_eq_some_iff.mp ev
    obtain ⟨b, hb, _, _, e3⟩ := L2.paired_get pr e1
    have q := entry_at he i
    rw [hb] at q
    exact ⟨_, q, e3⟩
  | _ => cases hv
def Itvd (d : Addr) (ob : Obj) (u : HO) (vs : List V) : It :=
  ⟨fun i H => H d = some (.frz ob u) ∧ i < vs.length, fun i H x H' => H' = H ∧ vs[i]? = some x, fun i H => H d = some (.frz ob u) ∧ vs.length ≤ i⟩
theorem turn_vd {P : Program} {w : World} {K : PySem.W.Frag} {tg : Expr} {d : Addr} {ob : Obj} {u : HO} {vs : List V} {es : Array DictEntry} {ep : Nat} (hv : hVals u = some vs) (it : Addr) (hod : ob.data = .dict es ep) :
    Turn P w K tg (Itvd d ob u vs) [it] it (fun i h => h.IsValIter it d i vs.length ep) where
  mem := List.mem_singleton.mpr rfl
  obj := fun i h q b hb => by
    obtain rfl : b = it := List.mem_singleton.mp hb
    obtain ⟨oi, h1, h2, h3⟩ := q
    exact ⟨oi, h1, fun v z => by rw [h3] at z; cases z⟩
  keep := fun i h h' q k => q.at fun oi => k it (List.mem_singleton.mpr rfl) oi
  item := by
    intro X hP hw hK hc i pins s σ H E I hf q hg
    subst hP hw hK
    obtain ⟨hd, hi⟩ := hg
    obtain ⟨f0, f1, _, f3, f4, f5⟩ := hf it (List.mem_singleton.mpr rfl)
    obtain ⟨_, es', ep', h1, raw, hz, hval⟩ := frz_raw I hd hv
    obtain ⟨rfl, rfl⟩ := dict_ep hod h1
    obtain ⟨en, e1, r1⟩ := hval i _ (List.getElem?_eq_getElem hi)
    have hi' : i < es'.size := by omega
    rw [← hz] at q
    refine wpAny_pyNext_values_item_raw q raw hi' fun h' q' sb => ?_
    have I1 : Inv X pins σ H { s with heap := h' } := I.turned (t' := s.toks) (fun b o hb => (sb.2 b hb).trans) f0 f1 f3 f4 f5
    obtain ⟨oi, k1, k2, k3⟩ := id q'
    have ev : es'[i].val = en.val := by
      rw [Array.getElem?_eq_getElem hi'] at e1
      cases e1; rfl
    rw [ev]
    refine ⟨en.val, rfl, go_of (s := { s with heap := h' }) k1 k2 k3 (by decide) ⟨_, H, I1, r1, ⟨rfl, List.getElem?_eq_getElem hi⟩, ?_, fun b hb => (hf b hb).1⟩⟩
    show h'.IsValIter it d (i + 1) vs.length _
    rw [← hz]
    exact q'
  done := by
    intro X hP hw hK hc i pins s σ H E I hf q hg
    subst hP hw hK
    obtain ⟨hd, hi⟩ := hg
    obtain ⟨f0, f1, _, f3, f4, f5⟩ := hf it (List.mem_singleton.mpr rfl)
    obtain ⟨_, es', ep', h1, raw, hz, _⟩ := frz_raw I hd hv
    obtain ⟨rfl, rfl⟩ := dict_ep hod h1
    rw [← hz] at q
    exact wpAny_pyNext_values_end_raw (I.ok.hd hc) q raw (by omega) fun h' eb => ⟨rfl, I.turned (t' := s.toks) (fun b o hb => eb b o hb) f0 f1 f3 f4 f5⟩
  self := fun A i s Q E q h => wpAny_pyIter_valiter q h
def iVd (td : TE) : TI := fun σ H R => td σ H fun x H1 => ∃ d ob u vs, x = .ref d ∧ H1 d = some (.frz ob u) ∧ hVals u = some vs ∧ R (Itvd d ob u vs) H1
theorem pi_vd {tg e : Expr} {td : TE} (he : PE X e td) (hb : attributeBase e "values" X.env (eval e X.env) = eval e X.env := by rfl) (hl : (apos.endLine == cpos.line) = true := by rfl) : PI X tg (.Call (.Attribute e "values" apos) [] [] cpos) (iVd td) := by
  refine ⟨fun pins s σ H R I h => ?_⟩
  refine wpAny_Call_method (T := "dict") (id := "dict.values") hb rfl hl F.plainAttrs_dict F.slot_dict_values F.type_dict_values (thn (he.run pins s σ H _ I h) fun w s1 ⟨x, H1, I1, rx, d, ob, u, vs, ex, hd, hv, q⟩ => ?_)
  subst ex
  obtain rfl : w = Value.ref d := rx
  obtain ⟨hs, es, ep, hdt, raw, hz, _⟩ := frz_raw I1 hd hv
  have raw0 := raw
  obtain ⟨oo, go, gx, gd⟩ := raw0
  refine ⟨raw.typeIs, fun b e => ?_, ?_⟩
  · cases e
    exact ⟨oo, go, gx.2.1⟩
  have I2 : Inv X pins σ H1 { s1 with heap := s1.heap.push { cls := .type "dict_values", data := .fields #[.ref d] } } := I1.kept (t' := s1.toks) fun b o q => Heap.get?_push_of_some _ q
  have raw2 : (s1.heap.push { cls := .type "dict_values", data := .fields #[.ref d] }).DictRaw d es ep := raw.at fun o q => Heap.get?_push_of_some _ q
  have fin : wpAny (model X.prog X.w) X.A (pyIter (.ref s1.heap.objs.size)) (PIE X pins σ tg R) X.xe { s1 with heap := s1.heap.push { cls := .type "dict_values", data := .fields #[.ref d] } } := by
    refine wpAny_pyIter_values_raw (d := d) ⟨_, Heap.get?_push_size _ rfl, rfl, rfl⟩ raw2 (pi_one (tk := s1.toks) I2 _ (turn_vd hv _ hdt) ⟨_, Heap.get?_push_size _ rfl, rfl, ?_⟩ q)
    rw [hz] <;> rfl
  show wpAny _ _ (callWith cpos (.builtin "dict.values") [.ref d] [] []) _ X.xe s1
  exact method_meetsIn F.slot_dict_values F.entry_dict_values rfl (PySem.evalArgs_none ⟨rfl, raw.typeIs, F.args_dict_values_1 _, _, meets_dict_values_raw d hs, ⟨es, ep, raw⟩, fin⟩)
/-! range(a, b, c) -/
def rngC (lo c : Int) (n : Nat) : List D := (List.range n).map fun k => .int (lo + (k : Nat) * c)
def rng3D : List D → Option (List D)
  | [.int i, .int j, .int c] => if c ≠ 0 ∧ c.natAbs < 1073741824 ∧ Builtin.Range.small i j c = true ∧ 0 ≤ Builtin.Range.rangeSize i j c then some (rngC i c (Builtin.Range.rangeSize i j c).toNat) else none
  | _ => none
def rng3F (fs : VS.Env → M (List D)) : VS.Env → M (List D) := fun ρ => bnd (fs ρ) fun ds => ofO (rng3D ds)
theorem itc_ok {K : PySem.W.Frag} {lo c : Int} {n : Nat} {g : Gh} {H : Hp} {W : Wd} (h : Ht K g W H) (i : Nat) :
    (∀ d, (rngC lo c n)[i]? = some d → (Itc lo c n).go i H ∧ ∀ x H', (Itc lo c n).yld i H x H' → ∃ g', Ht K g' W H' ∧ Step g H g' H' ∧ Rp K g' x d) ∧ ((rngC lo c n).length ≤ i → (Itc lo c n).stop i H) := by
  refine ⟨fun d e => ?_, fun l => by show n ≤ i; simpa [rngC] using l⟩
  unfold rngC at e
  rw [List.getElem?_map] at e
  by_cases hi : i < n
  · rw [List.getElem?_range hi] at e
    cases e
    exact ⟨hi, fun x H' ⟨e1, e2⟩ => by subst e1; subst e2; exact ⟨g, h, .refl _ _, .int _⟩⟩
  · rw [List.getElem?_eq_none (by simpa using hi)] at e; cases e
theorem i_range3 {tg e1 e2 e3 : Expr} {fs : VS.Env → M (List D)} (hm : X.mg "range" = none) (ha : FA X τ [e1, e2, e3] fs) (hg : Gl X "range" := by rfl)
    (hs : starEach [e1, e2, e3] X.env = (false, eval e1 X.env) :: starEach [e2, e3] X.env := by rfl) (hpl : (backTo pos (starEach [e2, e3] X.env)).any (·.1) = false := by rfl) : FI X τ tg (.Call (.Name "range" p) [e1, e2, e3] [] pos) (rng3F fs) :=
  PI.wk (pi_range3 hg hm ha hs hpl) fun σ H R ⟨ρ, W, g, ds, W', ht, sl, es, q⟩ => by
  obtain ⟨as, W1, ed, es⟩ := bnd_some es
  obtain ⟨ei, rfl⟩ := ofO_some es
  refine ⟨ρ, W, g, as, _, ht, sl, ed, fun vs H' g' h' s r => ?_⟩
  unfold rng3D at ei
  split at ei
  · rename_i i j c
    split at ei
    · rename_i cc
      cases ei
      cases r with
      | cons r1 r =>
        cases r with
        | cons r2 r =>
          cases r with
          | cons r3 r =>
            cases r; cases r1; cases r2; cases r3
            exact ⟨i, j, c, _, rfl, ⟨cc.1, cc.2.1, cc.2.2.1, (Int.toNat_of_nonneg cc.2.2.2).symm⟩, q _ H' g' h' s fun i g2 H2 W2 h2 _ => itc_ok h2 i⟩
    · cases ei
  · cases ei
def dVals : D → Option (List D)
  | .dk _ ds => some ds
  | .dt _ ds => some ds
  | _ => none
def valsF (f : VS.Env → M D) : VS.Env → M (List D) := fun ρ => bnd (f ρ) fun d => ofO (dVals d)
theorem itvd_ok {K : PySem.W.Frag} {H : Hp} {a : Addr} {ob : Obj} {u : HO} {vs : List V} {ds : List D} {g : Gh} {W : Wd} (h : Ht K g W H) (q : g.G a = some (.frz ob u)) (r : Rps K g vs ds) (i : Nat) :
    (∀ d, ds[i]? = some d → (Itvd a ob u vs).go i H ∧ ∀ x H', (Itvd a ob u vs).yld i H x H' → ∃ g', Ht K g' W H' ∧ Step g H g' H' ∧ Rp K g' x d) ∧ (ds.length ≤ i → (Itvd a ob u vs).stop i H) := by
  have qh := h.sub _ _ q
  refine ⟨fun d e => ?_, fun l => ⟨qh, by rw [r.length]; exact l⟩⟩
  obtain ⟨v, ev, rv⟩ := r.get e
  refine ⟨⟨qh, (List.getElem?_eq_some_iff.mp ev).1⟩, fun x H' y => ?_⟩
  obtain ⟨rfl, y⟩ := y
  rw [ev] at y
  cases y
  exact ⟨g, h, .refl _ _, rv⟩
theorem map_snd_zip {α : Type} {as : List α} {bs : List V} (l : as.length = bs.length) : (as.zip bs).map (·.2) = bs := by
  rw [List.map_snd_zip]
  omega
theorem i_vals {tg : Expr} (h : FV X τ false e fe) (hb : attributeBase e "values" X.env (eval e X.env) = eval e X.env := by rfl) (hl : (apos.endLine == cpos.line) = true := by rfl) : FI X τ tg (.Call (.Attribute e "values" apos) [] [] cpos) (valsF fe) := PI.wk (pi_vd h hb hl) fun σ H R ⟨ρ, W, g, ds, W', ht, sl, es, q⟩ => by
  obtain ⟨d, W1, ed, es⟩ := bnd_some es
  obtain ⟨ei, rfl⟩ := ofO_some es
  refine ⟨ρ, W, g, d, _, ht, sl, ed, fun v H' g' h' s r => ?_⟩
  cases r with
  | dk hs l rr =>
    cases ei
    refine ⟨_, _, _, _, rfl, h'.sub _ _ hs, rfl, q _ H' g' h' s fun i g2 H2 W2 h2 le => ?_⟩
    rw [map_snd_zip l]
    exact itvd_ok h2 (le.gg _ _ hs) (rr.mono le) i
  | dt hs l rr =>
    cases ei
    refine ⟨_, _, _, _, rfl, h'.sub _ _ hs, rfl, q _ H' g' h' s fun i g2 H2 W2 h2 le => ?_⟩
    rw [map_snd_zip l]
    exact itvd_ok h2 (le.gg _ _ hs) (rr.mono le) i
  | _ => cases ei
end
end VS
set_option Elab.async false
set_option linter.all false
set_option maxRecDepth 100000
/-! VS12: a def as a value, and the call of a name that holds one. -/
namespace VS
open PySem PySem.Spec PyProof.Rows L2
section
variable {X : Cx} {wr : Bool} {τ : Tg} {e : Expr} {es : List Expr} {pos p : Pos} {fs : VS.Env → M (List D)} {x y : Str}
theorem v_fnv {a : Addr} (hm : X.mg x = some (.ref a)) (hn : PySem.W.nsIn X.K mainGlobals x = some (some (.ref a))) (hg : Gl X x := by rfl) (hd : (x == ("__debug__" : Str)) = false := by decide) : FV X τ false (.Name x p) (kst (.fn x)) := v_glob (v := V.ref a) hg hm rfl (fun _ => .fn hn) hd
/-- the defs that a name may hold -/
abbrev Tab := List (Str × (List D → M D))
structure TabOk (P : Program) (w : World) (K : PySem.W.Frag) (mg : Str → Option Value) (base : Heap) (k n : Nat) (wr : Bool) (t : Tab) : Prop where
  ok : ∀ x φ, (x, φ) ∈ t → ∃ fn fd ps, Fk P w K mg base k fn fd ps wr φ ∧ ps.length = n ∧ PySem.W.nsIn K mainGlobals x = some (some (.ref fn))
def tabAt : Tab → Str → Option (List D → M D)
  | [], _ => none
  | (y, φ) :: r, x => if y = x then some φ else tabAt r x
theorem tabAt_mem {x : Str} {φ : List D → M D} : ∀ {t : Tab}, tabAt t x = some φ → (x, φ) ∈ t
  | (y, ψ) :: r, h => by
    unfold tabAt at h
    split at h
    · rename_i e
      subst e
      cases h
      exact List.mem_cons_self ..
    · exact List.mem_cons_of_mem _ (tabAt_mem h)
def callV (i : Nat) (t : Tab) (n : Nat) (fs : VS.Env → M (List D)) : VS.Env → M D := fun ρ => match ρ[i]? with
  | some (some (.fn x)) => match tabAt t x with
    | some φ => callF φ n fs ρ
    | none => stuck
  | _ => stuck
theorem v_callV {k n i : Nat} {t : Tab} (T : TabOk X.prog X.w X.K X.mg X.base k n wr t) (hr : Room k X.A) (ha : FA X τ (e :: es) fs) (hN : X.N[i]? = some x := by rfl) (hv : Vis X.env.scope x := by first | exact Or.inl rfl | exact Or.inr (Or.inl rfl) | exact Or.inr (Or.inr rfl))
    (hdb : (x == ("__debug__" : Str)) = false := by decide) (hcd : (x == ("__classdict__" : Str)) = false := by decide) (hτ : τ.getD i false = false := by rfl)
    (he : starEach (e :: es) X.env = (false, eval e X.env) :: starEach es X.env := by rfl) (hpl : (backTo pos (starEach es X.env)).any (·.1) = false := by rfl) :
    FV X τ wr (.Call (.Name x p) (e :: es) [] pos) (callV i t n fs) := by
  refine ⟨fun pins s σ H Q I h => ?_⟩
  obtain ⟨ρ, W, g, d, W', ht, sl, ef, q⟩ := h
  have key : ∃ y φ, ρ[i]? = some (some (.fn y)) ∧ tabAt t y = some φ ∧ callF φ n fs ρ W = some (d, W') := by
    unfold callV at ef
    cases e1 : ρ[i]? with
    | none => rw [e1] at ef; cases ef
    | some oo =>
      rw [e1] at ef
      cases oo with
      | none => cases ef
      | some dd =>
        cases dd with
        | fn y =>
          cases et : tabAt t y with
          | none =>
            have ef : (match tabAt t y with | some φ => callF φ n fs ρ | none => stuck) W = some (d, W') := ef
            rw [et] at ef; cases ef
          | some φ =>
            have ef : (match tabAt t y with | some φ => callF φ n fs ρ | none => stuck) W = some (d, W') := ef
            rw [et] at ef
            exact ⟨y, φ, rfl, et, ef⟩
        | _ => cases ef
  obtain ⟨y, φ, e1, et, ef⟩ := key
  obtain ⟨fn, fd, ps, F, hl, hn⟩ := T.ok y φ (tabAt_mem et)
  subst hl
  obtain ⟨v, e2, r⟩ := sl.frz i _ e1 hτ
  cases r with
  | fn h =>
    rw [hn] at h
    cases h
    exact (pe_callL (i := i) F.ok hr hN hv F.kp F.bd .nil pass0 ha hdb hcd he hpl).run pins s σ H Q I ⟨e2, call_tr (t := tA X.K τ fs) (fun _ q => q) ⟨ρ, W, g, d, W', ht, sl, ef, q⟩⟩
end
end VS
set_option Elab.async false
set_option linter.all false
set_option maxRecDepth 100000
set_option maxHeartbeats 1000000
/-! VZ: zip of two and of three sequences, lists and tuples in any mixture. Printed by mkvz.py. -/
namespace VZ
open PySem
open PySem.Sem (wp)
local macro_rules | `(tactic| walk_at "zom") => `(tactic| first | (change @Ne Nat _ _; omega) | (change @LT.lt Nat _ _ _; omega) | (change @LE.le Nat _ _ _; omega) | omega)
def ZI (k : Bool) (h : Heap) (i l : Addr) (n : Nat) : Prop := match k with | true => h.IsTupleIter i l n | false => h.IsListIter i l n
def ZS (k : Bool) (h : Heap) (l : Addr) (xs : Array Value) : Prop := match k with | true => h.IsTuple l xs | false => h.IsList l xs
def itn : Bool → String | true => "tuple_iterator" | false => "list_iterator"
theorem ZI.ext {k h h' i l n b} (x : ZI k h i l n) (hs : Heap.ExtBut b h h') (e : i ≠ b) : ZI k h' i l n := match k, x with | true, x => Heap.IsTupleIter.extBut x hs e | false, x => Heap.IsListIter.extBut x hs e
theorem ZI.at {k h h' i l n} (x : ZI k h i l n) (e : ∀ o, h.get? i = some o → h'.get? i = some o) : ZI k h' i l n := match k, x with | true, x => Heap.IsTupleIter.at x e | false, x => Heap.IsListIter.at x e
theorem ZI.get {k h i l n} (x : ZI k h i l n) : ∃ o vs, h.get? i = some o ∧ o.data = .fields vs := match k, x with | true, ⟨o, a, _, b⟩ => ⟨o, _, a, b⟩ | false, ⟨o, a, _, b⟩ => ⟨o, _, a, b⟩
theorem ZI.mk0 {k h i l} (e : h.get? i = some { cls := .type (itn k), data := .fields #[.ref l, .int 0 0] }) : ZI k h i l 0 := match k, e with | true, e => ⟨_, e, rfl, rfl⟩ | false, e => ⟨_, e, rfl, rfl⟩
theorem ZS.ext {k h h' l xs b} (x : ZS k h l xs) (hs : Heap.ExtBut b h h') (e : l ≠ b) : ZS k h' l xs := match k, x with | true, x => Heap.IsTuple.extBut x hs e | false, x => Heap.IsList.extBut x hs e
theorem ZS.push {k h l xs} (x : ZS k h l xs) (o : Obj) : ZS k (h.push o) l xs := match k, x with | true, x => Heap.IsTuple.push x o | false, x => Heap.IsList.push x o
section
variable {prog : Program} {w : World} {A : Around} {E : Value → Shared → Prop} {s : Shared}
theorem nextK_item {k : Bool} {it l : Addr} {i : Nat} {items} {x : Value} {Q : Value → Shared → Prop} (hit : ZI k s.heap it l i) (hl : ZS k s.heap l items) (hx : items[i]? = some x)
    (hQ : ∀ h', ZI k h' it l (i + 1) → Heap.SameBut it s.heap h' → Q x { s with heap := h' }) : wpAny (model prog w) A (Builtin.SmallTypes.nextOf (.ref it)) Q E s := by
  cases k
  · exact wpAny_nextOf_list_item hit hl hx hQ
  · exact RZ.nextOf_tuple_item hit hl hx hQ
theorem nextK_end {k : Bool} {it l : Addr} {i : Nat} {items} {Q : Value → Shared → Prop} (hh : A.handled = none) (hit : ZI k s.heap it l i) (hl : ZS k s.heap l items) (hx : items[i]? = none)
    (hE : ∀ h' e, Heap.ExtBut it s.heap h' → (∃ o, h'.get? e = some o ∧ o.cls = .type "StopIteration") → E (.ref e) { s with heap := h' }) : wpAny (model prog w) A (Builtin.SmallTypes.nextOf (.ref it)) Q E s := by
  cases k
  · exact wpAny_nextOf_list_end hh hit hl hx hE
  · exact RZ.nextOf_tuple_end hh hit hl hx hE
theorem pyIterK {k : Bool} {t : Addr} {items} {Q : Value → Shared → Prop} (ht : ZS k s.heap t items)
    (hQ : Q (.ref s.heap.objs.size) { s with heap := s.heap.push { cls := .type (itn k), data := .fields #[.ref t, .int 0 0] } }) : wpAny (model prog w) A (pyIter (.ref t)) Q E s := by
  cases k
  · exact wpAny_pyIter_list ht hQ
  · exact wpAny_pyIter_tuple ht hQ
theorem updateSeq2 {T : Addr} {a b x : Value} {k : Nat} {Q : Unit → Shared → Prop} (hT : s.heap.get? T = some { cls := .type "tuple", data := .seq #[a, b] })
    (h : ∀ h', h'.get? T = some { cls := .type "tuple", data := .seq ((#[a, b] : Array Value).setIfInBounds k x) } → Heap.SameBut T s.heap h' → Q () { s with heap := h' }) :
    wpAny (model prog w) A (updateSeq T (·.setIfInBounds k x)) Q E s := by
  refine wpAny_updateSeq hT rfl (h _ ?_ (Heap.SameBut.update ..))
  rw [Heap.get?_update_self _ hT rfl]
  simp [Obj.mapSeq]
theorem updateSeq3 {T : Addr} {a b c x : Value} {k : Nat} {Q : Unit → Shared → Prop} (hT : s.heap.get? T = some { cls := .type "tuple", data := .seq #[a, b, c] })
    (h : ∀ h', h'.get? T = some { cls := .type "tuple", data := .seq ((#[a, b, c] : Array Value).setIfInBounds k x) } → Heap.SameBut T s.heap h' → Q () { s with heap := h' }) :
    wpAny (model prog w) A (updateSeq T (·.setIfInBounds k x)) Q E s := by
  refine wpAny_updateSeq hT rfl (h _ ?_ (Heap.SameBut.update ..))
  rw [Heap.get?_update_self _ hT rfl]
  simp [Obj.mapSeq]
end
open PySem.Spec PyProof.Rows L2
def SqK (k : Bool) (K : PySem.W.Frag) (H : Hp) (a : Addr) (xs : List V) : Prop := match k with | true => SqT K H a xs | false => SqL K H a xs
theorem SqK.get {X : Cx} {pins : List (Addr × Obj)} {σ : L2.St} {H : Hp} {s : Shared} (I : Inv X pins σ H s) {k a xs} (h : SqK k X.K H a xs) : ∃ its, Vals xs its ∧ ZS k s.heap a its.toArray ∧ a < s.heap.objs.size := by
  cases k
  · obtain ⟨its, rv, p, _⟩ := I.list h
    exact ⟨its, rv, p.isList, p.lt⟩
  · obtain ⟨its, rv, p, _⟩ := I.tuple h
    obtain ⟨o, ho, _⟩ := id p
    exact ⟨its, rv, p, Heap.lt_size ho⟩
theorem SqK.inj {X : Cx} {pins : List (Addr × Obj)} {σ : L2.St} {H : Hp} {s : Shared} (I : Inv X pins σ H s) {k a xs ys} (h : SqK k X.K H a xs) (h' : SqK k X.K H a ys) : xs = ys := by
  cases k
  · exact I.list_inj h h'
  · exact I.tuple_inj h h'
section
variable {prog : Program} {w : World} {A : Around} {E : Value → Shared → Prop} {s : Shared}
theorem zip2_next_item {I l1 l2 : Nat} {k1 k2 : Bool} {n1 n2 : Nat} {y1 y2 : Array Value} {a1 a2 : Value} {x1 x2 : Value} {Q : Value → Shared → Prop} (d1 : l1 < I) (d2 : l2 < I) (hz : IsZip s.heap (I + 4) (I + 2) (I + 3) .none) (hTI : s.heap.get? (I + 2) = some { cls := .type "tuple", data := .seq #[.ref I, .ref (I + 1)] }) (hTO : s.heap.get? (I + 3) = some { cls := .type "tuple", data := .seq #[a1, a2] })
    (hi1 : ZI k1 s.heap I l1 n1) (hl1 : ZS k1 s.heap l1 y1) (hi2 : ZI k2 s.heap (I + 1) l2 n2) (hl2 : ZS k2 s.heap l2 y2) (hx1 : y1[n1]? = some x1) (hx2 : y2[n2]? = some x2)
    (hQ : ∀ h', IsZip h' (I + 4) (I + 2) (I + 3) (rawInt s.heap.objs.size) → h'.get? (I + 3) = some { cls := .type "tuple", data := .seq #[x1, x2] } → ZI k1 h' I l1 (n1 + 1) → ZI k2 h' (I + 1) l2 (n2 + 1) → h'.get? s.heap.objs.size = some { cls := .type "tuple", data := .seq #[x1, x2] } → h'.objs.size = s.heap.objs.size + 1 →
      (∀ (c : Nat) o, c ≠ (I + 4) → c ≠ (I + 3) → c ≠ I → c ≠ (I + 1) → s.heap.get? c = some o → h'.get? c = some o) → Q (.ref s.heap.objs.size) { s with heap := h' }) :
    wpAny (model prog w) A (Builtin.«zip.__next__» ⟨[.ref (I + 4)], []⟩) (fun fin s' => ∃ v, fin = .done (.ret v) ∧ Q v s') E s := by
  show wpAny _ _ (field (.ref (I + 4)) 2 >>= _) _ _ _
  refine wpAny_bind (wpAny_field hz rfl (x := .bool false) rfl ?_)
  show wpAny _ _ (field (.ref (I + 4)) 3 >>= _) _ _ _
  refine wpAny_bind (wpAny_field hz rfl (x := .ref (I + 2)) rfl ?_)
  refine wpAny_bind (wpAny_seqItems hTI rfl ?_)
  show wpAny _ _ (Builtin.SmallTypes.ownedTupleIsFree (.ref (I + 4)) >>= _) _ _ _
  refine wpAny_bind ?_
  unfold Builtin.SmallTypes.ownedTupleIsFree
  refine wpAny_bind (wpAny_field hz rfl (x := .none) rfl (wpAny_pure ?_))
  simp only [if_true]
  refine wpAny_bind (wpAny_rule ?_)
  refine wpAny_bind (wpAny_field hz rfl (x := .ref (I + 3)) rfl ?_)
  refine wpAny_bind (wpAny_setField_rec hz (by simp) fun h₁ hz₁ hs₁ => ?_)
  replace hz : IsZip h₁ (I + 4) (I + 2) (I + 3) .ellipsis := hz₁
  have sz := hs₁.1
  have up : ∀ (c : Nat) o, c ≠ (I + 4) → c ≠ (I + 3) → c ≠ I → c ≠ (I + 1) → s.heap.get? c = some o → h₁.get? c = some o := fun c o c0 c1 c2 c3 e => hs₁.extBut _ _ c0 e
  replace hTO := hs₁.extBut _ _ (by walk_at "zom") hTO
  replace hi1 := hi1.ext hs₁.extBut (by walk_at "zom")
  replace hl1 := hl1.ext hs₁.extBut (by walk_at "zom")
  replace hi2 := hi2.ext hs₁.extBut (by walk_at "zom")
  replace hl2 := hl2.ext hs₁.extBut (by walk_at "zom")
  refine wpAny_bind ?_
  simp only [List.zipIdx_cons, List.zipIdx_nil, List.forIn_cons, List.forIn_nil]
  refine wpAny_bind (wpAny_bind (wpAny_onRaise ?_))
  show wpAny _ _ (Builtin.SmallTypes.nextOf (.ref I) >>= _) _ _ _
  refine wpAny_bind (nextK_item hi1 hl1 hx1 fun h2 hi hs => wpAny_pure ?_)
  replace hi1 := hi
  replace hz := hs.extBut _ _ (by walk_at "zom") hz
  replace hTO := hs.extBut _ _ (by walk_at "zom") hTO
  replace hl1 := hl1.ext hs.extBut (by walk_at "zom")
  replace hi2 := hi2.ext hs.extBut (by walk_at "zom")
  replace hl2 := hl2.ext hs.extBut (by walk_at "zom")
  replace sz := hs.1.trans sz
  replace up : ∀ (c : Nat) o, c ≠ (I + 4) → c ≠ (I + 3) → c ≠ I → c ≠ (I + 1) → s.heap.get? c = some o → (_ : Heap).get? c = some o := fun c o c0 c1 c2 c3 e => hs.extBut _ _ c2 (up c o c0 c1 c2 c3 e)
  clear hs
  refine wpAny_bind (wpAny_seqItems hTO rfl ?_)
  refine wpAny_bind (updateSeq2 hTO fun h3 hTO3 hs => ?_)
  replace hz := hs.extBut _ _ (by walk_at "zom") hz
  replace hi1 := hi1.ext hs.extBut (by walk_at "zom")
  replace hl1 := hl1.ext hs.extBut (by walk_at "zom")
  replace hi2 := hi2.ext hs.extBut (by walk_at "zom")
  replace hl2 := hl2.ext hs.extBut (by walk_at "zom")
  replace sz := hs.1.trans sz
  replace up : ∀ (c : Nat) o, c ≠ (I + 4) → c ≠ (I + 3) → c ≠ I → c ≠ (I + 1) → s.heap.get? c = some o → (_ : Heap).get? c = some o := fun c o c0 c1 c2 c3 e => hs.extBut _ _ c1 (up c o c0 c1 c2 c3 e)
  replace hTO : h3.get? (I + 3) = some { cls := .type "tuple", data := .seq #[x1, a2] } := hTO3
  clear hs
  refine wpAny_bind (wpAny_letGo (wpAny_pure ?_))
  refine wpAny_bind (wpAny_bind (wpAny_onRaise ?_))
  show wpAny _ _ (Builtin.SmallTypes.nextOf (.ref (I + 1)) >>= _) _ _ _
  refine wpAny_bind (nextK_item hi2 hl2 hx2 fun h2 hi hs => wpAny_pure ?_)
  replace hi2 := hi
  replace hz := hs.extBut _ _ (by walk_at "zom") hz
  replace hTO := hs.extBut _ _ (by walk_at "zom") hTO
  replace hi1 := hi1.ext hs.extBut (by walk_at "zom")
  replace hl1 := hl1.ext hs.extBut (by walk_at "zom")
  replace hl2 := hl2.ext hs.extBut (by walk_at "zom")
  replace sz := hs.1.trans sz
  replace up : ∀ (c : Nat) o, c ≠ (I + 4) → c ≠ (I + 3) → c ≠ I → c ≠ (I + 1) → s.heap.get? c = some o → (_ : Heap).get? c = some o := fun c o c0 c1 c2 c3 e => hs.extBut _ _ c3 (up c o c0 c1 c2 c3 e)
  clear hs
  refine wpAny_bind (wpAny_seqItems hTO rfl ?_)
  refine wpAny_bind (updateSeq2 hTO fun h3 hTO3 hs => ?_)
  replace hz := hs.extBut _ _ (by walk_at "zom") hz
  replace hi1 := hi1.ext hs.extBut (by walk_at "zom")
  replace hl1 := hl1.ext hs.extBut (by walk_at "zom")
  replace hi2 := hi2.ext hs.extBut (by walk_at "zom")
  replace hl2 := hl2.ext hs.extBut (by walk_at "zom")
  replace sz := hs.1.trans sz
  replace up : ∀ (c : Nat) o, c ≠ (I + 4) → c ≠ (I + 3) → c ≠ I → c ≠ (I + 1) → s.heap.get? c = some o → (_ : Heap).get? c = some o := fun c o c0 c1 c2 c3 e => hs.extBut _ _ c1 (up c o c0 c1 c2 c3 e)
  replace hTO : h3.get? (I + 3) = some { cls := .type "tuple", data := .seq #[x1, x2] } := hTO3
  clear hs
  refine wpAny_bind (wpAny_letGo (wpAny_pure (wpAny_pure ?_)))
  refine wpAny_bind (wpAny_seqItems hTO rfl ?_)
  refine wpAny_bind (wpAny_newTuple ?_)
  have zlt := Heap.lt_size hz
  show wpAny _ _ (Builtin.SmallTypes.ownedTupleHandOut (.ref (I + 4)) (.ref h3.objs.size) >>= _) _ _ _
  refine wpAny_bind ?_
  unfold Builtin.SmallTypes.ownedTupleHandOut
  have hz₆ : IsZip (h3.push { cls := .type "tuple", data := .seq #[x1, x2] }) (I + 4) (I + 2) (I + 3) .ellipsis := Heap.get?_push_of_some _ hz
  refine wpAny_bind (wpAny_setField_rec hz₆ (by simp) fun h₇ hz₇ hs₇ => ?_)
  replace hz₇ : IsZip h₇ (I + 4) (I + 2) (I + 3) (rawInt h3.objs.size) := hz₇
  refine wpAny_setField_rec hz₇ (by simp) fun h₈ hz₈ hs₈ => ?_
  replace hz₈ : IsZip h₈ (I + 4) (I + 2) (I + 3) (rawInt h3.objs.size) := hz₈
  have up8 : ∀ (c : Nat) o, c ≠ (I + 4) → h3.get? c = some o → h₈.get? c = some o := fun c o c1 e => hs₈.extBut _ _ c1 (hs₇.extBut _ _ c1 (Heap.get?_push_of_some _ e))
  have hT₈ : h₈.get? h3.objs.size = some { cls := .type "tuple", data := .seq #[x1, x2] } := hs₈.extBut _ _ (Nat.ne_of_gt zlt) (hs₇.extBut _ _ (Nat.ne_of_gt zlt) (Heap.get?_push_size _ rfl))
  have hz8 : h₈.objs.size = h3.objs.size + 1 := by rw [hs₈.1, hs₇.1, Heap.size_push]
  rw [sz] at hz₈ hT₈ hz8
  refine wpAny_pure ⟨_, rfl, ?_⟩
  show Q (.ref h3.objs.size) _
  rw [sz]
  exact hQ h₈ hz₈ (up8 _ _ (by walk_at "zom") hTO) (hi1.at fun o e => up8 _ o (by walk_at "zom") e) (hi2.at fun o e => up8 _ o (by walk_at "zom") e) hT₈ hz8 fun c o c0 c1 c2 c3 e => up8 c o c0 (up c o c0 c1 c2 c3 e)
theorem zip2_next_end {I l1 l2 : Nat} {k1 k2 : Bool} {n1 n2 : Nat} {y1 y2 : Array Value} {a1 a2 : Value} {Q : Fin → Shared → Prop} (hh : A.handled = none) (d1 : l1 < I) (d2 : l2 < I) (hz : IsZip s.heap (I + 4) (I + 2) (I + 3) .none) (hTI : s.heap.get? (I + 2) = some { cls := .type "tuple", data := .seq #[.ref I, .ref (I + 1)] }) (hTO : s.heap.get? (I + 3) = some { cls := .type "tuple", data := .seq #[a1, a2] })
    (hi1 : ZI k1 s.heap I l1 n1) (hl1 : ZS k1 s.heap l1 y1) (hi2 : ZI k2 s.heap (I + 1) l2 n2) (hl2 : ZS k2 s.heap l2 y2) (hend : y1[n1]? = none ∨ y2[n2]? = none)
    (hE : ∀ h' e, (∀ (c : Nat) o, c ≠ (I + 4) → c ≠ (I + 3) → c ≠ I → c ≠ (I + 1) → s.heap.get? c = some o → h'.get? c = some o) → (∃ o, h'.get? e = some o ∧ o.cls = .type "StopIteration") → E (.ref e) { s with heap := h' }) :
    wpAny (model prog w) A (Builtin.«zip.__next__» ⟨[.ref (I + 4)], []⟩) Q E s := by
  show wpAny _ _ (field (.ref (I + 4)) 2 >>= _) _ _ _
  refine wpAny_bind (wpAny_field hz rfl (x := .bool false) rfl ?_)
  show wpAny _ _ (field (.ref (I + 4)) 3 >>= _) _ _ _
  refine wpAny_bind (wpAny_field hz rfl (x := .ref (I + 2)) rfl ?_)
  refine wpAny_bind (wpAny_seqItems hTI rfl ?_)
  show wpAny _ _ (Builtin.SmallTypes.ownedTupleIsFree (.ref (I + 4)) >>= _) _ _ _
  refine wpAny_bind ?_
  unfold Builtin.SmallTypes.ownedTupleIsFree
  refine wpAny_bind (wpAny_field hz rfl (x := .none) rfl (wpAny_pure ?_))
  simp only [if_true]
  refine wpAny_bind (wpAny_rule ?_)
  refine wpAny_bind (wpAny_field hz rfl (x := .ref (I + 3)) rfl ?_)
  refine wpAny_bind (wpAny_setField_rec hz (by simp) fun h₁ hz₁ hs₁ => ?_)
  replace hz : IsZip h₁ (I + 4) (I + 2) (I + 3) .ellipsis := hz₁
  have sz := hs₁.1
  have up : ∀ (c : Nat) o, c ≠ (I + 4) → c ≠ (I + 3) → c ≠ I → c ≠ (I + 1) → s.heap.get? c = some o → h₁.get? c = some o := fun c o c0 c1 c2 c3 e => hs₁.extBut _ _ c0 e
  replace hTO := hs₁.extBut _ _ (by walk_at "zom") hTO
  replace hi1 := hi1.ext hs₁.extBut (by walk_at "zom")
  replace hl1 := hl1.ext hs₁.extBut (by walk_at "zom")
  replace hi2 := hi2.ext hs₁.extBut (by walk_at "zom")
  replace hl2 := hl2.ext hs₁.extBut (by walk_at "zom")
  refine wpAny_bind ?_
  simp only [List.zipIdx_cons, List.zipIdx_nil, List.forIn_cons, List.forIn_nil]
  refine wpAny_bind (wpAny_bind (wpAny_onRaise ?_))
  show wpAny _ _ (Builtin.SmallTypes.nextOf (.ref I) >>= _) _ _ _
  cases hx1 : y1[n1]? with
  | none =>
    refine wpAny_bind (nextK_end hh hi1 hl1 hx1 fun h2 e hs he => ?_)
    obtain ⟨oe, hoe, hce⟩ := he
    replace hz := hs _ _ (by walk_at "zom") hz
    have hez : e ≠ (I + 4) := fun x => by subst x; rw [hz] at hoe; cases hoe; simp at hce
    exact wpAny_setField_rec hz (by simp) fun h3 _ hs3 => hE h3 e (fun c o c0 c1 c2 c3 x => hs3.extBut _ _ c0 (hs _ _ c2 (up c o c0 c1 c2 c3 x))) ⟨oe, hs3.extBut _ _ hez hoe, hce⟩
  | some x1 =>
    refine wpAny_bind (nextK_item hi1 hl1 hx1 fun h2 hi hs => wpAny_pure ?_)
    replace hi1 := hi
    replace hz := hs.extBut _ _ (by walk_at "zom") hz
    replace hTO := hs.extBut _ _ (by walk_at "zom") hTO
    replace hl1 := hl1.ext hs.extBut (by walk_at "zom")
    replace hi2 := hi2.ext hs.extBut (by walk_at "zom")
    replace hl2 := hl2.ext hs.extBut (by walk_at "zom")
    replace sz := hs.1.trans sz
    replace up : ∀ (c : Nat) o, c ≠ (I + 4) → c ≠ (I + 3) → c ≠ I → c ≠ (I + 1) → s.heap.get? c = some o → (_ : Heap).get? c = some o := fun c o c0 c1 c2 c3 e => hs.extBut _ _ c2 (up c o c0 c1 c2 c3 e)
    clear hs
    refine wpAny_bind (wpAny_seqItems hTO rfl ?_)
    refine wpAny_bind (updateSeq2 hTO fun h3 hTO3 hs => ?_)
    replace hz := hs.extBut _ _ (by walk_at "zom") hz
    replace hi1 := hi1.ext hs.extBut (by walk_at "zom")
    replace hl1 := hl1.ext hs.extBut (by walk_at "zom")
    replace hi2 := hi2.ext hs.extBut (by walk_at "zom")
    replace hl2 := hl2.ext hs.extBut (by walk_at "zom")
    replace sz := hs.1.trans sz
    replace up : ∀ (c : Nat) o, c ≠ (I + 4) → c ≠ (I + 3) → c ≠ I → c ≠ (I + 1) → s.heap.get? c = some o → (_ : Heap).get? c = some o := fun c o c0 c1 c2 c3 e => hs.extBut _ _ c1 (up c o c0 c1 c2 c3 e)
    replace hTO : h3.get? (I + 3) = some { cls := .type "tuple", data := .seq #[x1, a2] } := hTO3
    clear hs
    refine wpAny_bind (wpAny_letGo (wpAny_pure ?_))
    refine wpAny_bind (wpAny_bind (wpAny_onRaise ?_))
    show wpAny _ _ (Builtin.SmallTypes.nextOf (.ref (I + 1)) >>= _) _ _ _
    have hx2 : y2[n2]? = none := by
      rcases hend with h | h
      · rw [hx1] at h; cases h
      · exact h
    refine wpAny_bind (nextK_end hh hi2 hl2 hx2 fun h2 e hs he => ?_)
    obtain ⟨oe, hoe, hce⟩ := he
    replace hz := hs _ _ (by walk_at "zom") hz
    have hez : e ≠ (I + 4) := fun x => by subst x; rw [hz] at hoe; cases hoe; simp at hce
    exact wpAny_setField_rec hz (by simp) fun h3 _ hs3 => hE h3 e (fun c o c0 c1 c2 c3 x => hs3.extBut _ _ c0 (hs _ _ c3 (up c o c0 c1 c2 c3 x))) ⟨oe, hs3.extBut _ _ hez hoe, hce⟩
theorem pyNext_zip2_item {I l1 l2 : Nat} {k1 k2 : Bool} {n1 n2 : Nat} {y1 y2 : Array Value} {a1 a2 : Value} {x1 x2 : Value} {Q : Option Value → Shared → Prop} (d1 : l1 < I) (d2 : l2 < I) (hz : IsZip s.heap (I + 4) (I + 2) (I + 3) .none) (hTI : s.heap.get? (I + 2) = some { cls := .type "tuple", data := .seq #[.ref I, .ref (I + 1)] }) (hTO : s.heap.get? (I + 3) = some { cls := .type "tuple", data := .seq #[a1, a2] })
    (hi1 : ZI k1 s.heap I l1 n1) (hl1 : ZS k1 s.heap l1 y1) (hi2 : ZI k2 s.heap (I + 1) l2 n2) (hl2 : ZS k2 s.heap l2 y2) (hx1 : y1[n1]? = some x1) (hx2 : y2[n2]? = some x2)
    (hQ : ∀ h', IsZip h' (I + 4) (I + 2) (I + 3) (rawInt s.heap.objs.size) → h'.get? (I + 3) = some { cls := .type "tuple", data := .seq #[x1, x2] } → ZI k1 h' I l1 (n1 + 1) → ZI k2 h' (I + 1) l2 (n2 + 1) → h'.get? s.heap.objs.size = some { cls := .type "tuple", data := .seq #[x1, x2] } → h'.objs.size = s.heap.objs.size + 1 →
      (∀ (c : Nat) o, c ≠ (I + 4) → c ≠ (I + 3) → c ≠ I → c ≠ (I + 1) → s.heap.get? c = some o → h'.get? c = some o) → Q (some (.ref s.heap.objs.size)) { s with heap := h' }) :
    wpAny (model prog w) A (pyNext (.ref (I + 4))) Q E s := by
  have hT : s.TypeIs (.ref (I + 4)) "zip" := ⟨_, hz, rfl⟩
  unfold pyNext
  exact wpAny_bind (wpAny_attempt (wpAny_callSpecial?_slot (name := Str.ofString "__next__") hT F.slot_zip_next
    (wpAny_call_entry F.slot_zip_next hT F.entry_zip_next
      (zip2_next_item d1 d2 hz hTI hTO hi1 hl1 hi2 hl2 hx1 hx2 fun h' b0 b1 b2 b3 b4 b5 b6 => wpAny_pure (hQ h' b0 b1 b2 b3 b4 b5 b6)) (F.args_zip_next_1 _))))
theorem pyNext_zip2_end {I l1 l2 : Nat} {k1 k2 : Bool} {n1 n2 : Nat} {y1 y2 : Array Value} {a1 a2 : Value} {Q : Option Value → Shared → Prop} (hh : A.handled = none) (d1 : l1 < I) (d2 : l2 < I) (hz : IsZip s.heap (I + 4) (I + 2) (I + 3) .none) (hTI : s.heap.get? (I + 2) = some { cls := .type "tuple", data := .seq #[.ref I, .ref (I + 1)] }) (hTO : s.heap.get? (I + 3) = some { cls := .type "tuple", data := .seq #[a1, a2] })
    (hi1 : ZI k1 s.heap I l1 n1) (hl1 : ZS k1 s.heap l1 y1) (hi2 : ZI k2 s.heap (I + 1) l2 n2) (hl2 : ZS k2 s.heap l2 y2) (hend : y1[n1]? = none ∨ y2[n2]? = none)
    (hQ : ∀ h', (∀ (c : Nat) o, c ≠ (I + 4) → c ≠ (I + 3) → c ≠ I → c ≠ (I + 1) → s.heap.get? c = some o → h'.get? c = some o) → Q none { s with heap := h' }) : wpAny (model prog w) A (pyNext (.ref (I + 4))) Q E s := by
  have hT : s.TypeIs (.ref (I + 4)) "zip" := ⟨_, hz, rfl⟩
  unfold pyNext
  refine wpAny_bind (wpAny_attempt (wpAny_callSpecial?_slot (name := Str.ofString "__next__") hT F.slot_zip_next
    (wpAny_call_entry F.slot_zip_next hT F.entry_zip_next (zip2_next_end hh d1 d2 hz hTI hTO hi1 hl1 hi2 hl2 hend fun h' e hk he => ?_) (F.args_zip_next_1 _))))
  obtain ⟨o, ho, hc⟩ := he
  refine wpAny_bind (wpAny_isInstance (T := "StopIteration") (b := true) ⟨o, ho, hc⟩ isSubtype_stop ?_)
  exact wpAny_pure (hQ _ hk)
end
theorem newCall_zip2 (x1 x2 : Value) : checkTypeCall "zip" ⟨[x1, x2], []⟩ = pure () ∧ checkBuiltinCall "zip.__new__" ⟨[.type "zip", x1, x2], []⟩ = pure () := ⟨by kernel_rfl, by kernel_rfl⟩
abbrev zp2_1 (k1 k2 : Bool) (h : Heap) (l1 l2 : Addr) : Heap := (h).push { cls := .type (itn k1), data := .fields #[.ref l1, .int 0 0] }
abbrev zp2_2 (k1 k2 : Bool) (h : Heap) (l1 l2 : Addr) : Heap := (zp2_1 k1 k2 h l1 l2).push { cls := .type (itn k2), data := .fields #[.ref l2, .int 0 0] }
abbrev zp2_3 (k1 k2 : Bool) (h : Heap) (l1 l2 : Addr) : Heap := (zp2_2 k1 k2 h l1 l2).push { cls := .type "tuple", data := .seq #[.ref h.objs.size, .ref (zp2_1 k1 k2 h l1 l2).objs.size] }
abbrev zp2_4 (k1 k2 : Bool) (h : Heap) (l1 l2 : Addr) : Heap := (zp2_3 k1 k2 h l1 l2).push { cls := .type "tuple", data := .seq #[.none, .none] }
abbrev zp2_5 (k1 k2 : Bool) (h : Heap) (l1 l2 : Addr) : Heap := (zp2_4 k1 k2 h l1 l2).push { cls := .type "zip", data := .fields #[.none, .bool false, .bool false, .ref (zp2_2 k1 k2 h l1 l2).objs.size, .ref (zp2_3 k1 k2 h l1 l2).objs.size] }
theorem meets_zip2_new (k1 k2 : Bool) (l1 l2 : Addr) (y1 y2 : Array Value) :
    Meets (Builtin.«zip.__new__» ⟨[.type "zip", .ref l1, .ref l2], []⟩) (fun _ R s => ZS k1 s.heap l1 y1 ∧ ZS k2 s.heap l2 y2 ∧
      R (.ok (.ret (.ref (zp2_4 k1 k2 s.heap l1 l2).objs.size))) { s with heap := zp2_5 k1 k2 s.heap l1 l2 }) :=
  .of_wp fun prog w A R s h => by
    obtain ⟨hp, g, d, tk, os⟩ := s; obtain ⟨hl1, hl2, h⟩ := h
    have hsub := sub_zip
    have hL1 : ZS k1 (Shared.heap ⟨hp, g, d, tk, os⟩) l1 y1 := hl1
    have hL2 : ZS k2 (Shared.heap ⟨(hp).push { cls := .type (itn k1), data := .fields #[.ref l1, .int 0 0] }, g, d, tk, os⟩) l2 y2 := hl2.push _
    wp_walk using pyIterK hL1, pyIterK hL2
    exact ⟨_, rfl, h⟩
section
variable {prog : Program} {w : World} {A : Around} {E : Value → Shared → Prop} {s : Shared}
theorem call_zip2 {k1 k2 : Bool} {l1 l2 : Addr} {y1 y2 : Array Value} {Q : Value → Shared → Prop} (hl1 : ZS k1 s.heap l1 y1) (hl2 : ZS k2 s.heap l2 y2)
    (h : ∀ h', IsZip h' (s.heap.objs.size + 4) (s.heap.objs.size + 2) (s.heap.objs.size + 3) .none → h'.get? (s.heap.objs.size + 2) = some { cls := .type "tuple", data := .seq #[.ref s.heap.objs.size, .ref (s.heap.objs.size + 1)] } → h'.get? (s.heap.objs.size + 3) = some { cls := .type "tuple", data := .seq #[.none, .none] } → ZI k1 h' (s.heap.objs.size + 0) l1 0 → ZI k2 h' (s.heap.objs.size + 1) l2 0 → h'.objs.size = s.heap.objs.size + 5 →
      (∀ c o, s.heap.get? c = some o → h'.get? c = some o) → Q (.ref (s.heap.objs.size + 4)) { s with heap := h' }) :
    wpAny (model prog w) A (call (.type "zip") [.ref l1, .ref l2]) Q E s := by
  refine callType_new F.called_zip (by decide) (newCall_zip2 _ _).1 (newCall_zip2 _ _).2 (fun obj => F.args_object_init_3 obj _ _) F.entry_zip_new
    (meets_zip2_new k1 k2 l1 l2 y1 y2) ⟨hl1, hl2, ?_⟩
  have z1 : (zp2_1 k1 k2 s.heap l1 l2).objs.size = s.heap.objs.size + 1 := by rw [Heap.size_push]
  have z2 : (zp2_2 k1 k2 s.heap l1 l2).objs.size = s.heap.objs.size + 2 := by rw [Heap.size_push, z1]
  have z3 : (zp2_3 k1 k2 s.heap l1 l2).objs.size = s.heap.objs.size + 3 := by rw [Heap.size_push, z2]
  have z4 : (zp2_4 k1 k2 s.heap l1 l2).objs.size = s.heap.objs.size + 4 := by rw [Heap.size_push, z3]
  have z5 : (zp2_5 k1 k2 s.heap l1 l2).objs.size = s.heap.objs.size + 5 := by rw [Heap.size_push, z4]
  have g5 : (zp2_5 k1 k2 s.heap l1 l2).get? (zp2_4 k1 k2 s.heap l1 l2).objs.size = some _ := Heap.get?_push_size _ rfl
  have g4 : (zp2_5 k1 k2 s.heap l1 l2).get? (zp2_3 k1 k2 s.heap l1 l2).objs.size = some _ := Heap.get?_push_of_some _ (Heap.get?_push_size _ rfl)
  have g3 : (zp2_5 k1 k2 s.heap l1 l2).get? (zp2_2 k1 k2 s.heap l1 l2).objs.size = some _ := Heap.get?_push_of_some _ (Heap.get?_push_of_some _ (Heap.get?_push_size _ rfl))
  have g2 : (zp2_5 k1 k2 s.heap l1 l2).get? (zp2_1 k1 k2 s.heap l1 l2).objs.size = some _ := Heap.get?_push_of_some _ (Heap.get?_push_of_some _ (Heap.get?_push_of_some _ (Heap.get?_push_size _ rfl)))
  have g1 : (zp2_5 k1 k2 s.heap l1 l2).get? s.heap.objs.size = some _ := Heap.get?_push_of_some _ (Heap.get?_push_of_some _ (Heap.get?_push_of_some _ (Heap.get?_push_of_some _ (Heap.get?_push_size _ rfl))))
  show _ ∧ _
  rw [z1] at g2
  rw [z1, z2] at g3
  rw [z3] at g4
  rw [z2, z3, z4] at g5
  rw [z4]
  exact ⟨⟨_, g5, rfl⟩, h _ g5 g3 g4 (.mk0 g1) (.mk0 g2) z5 fun c o x => Heap.get?_push_of_some _ (Heap.get?_push_of_some _ (Heap.get?_push_of_some _ (Heap.get?_push_of_some _ (Heap.get?_push_of_some _ (x)))))⟩
end
def Itz2 (k1 k2 : Bool) (K : PySem.W.Frag) (a1 a2 : Addr) : It :=
  ⟨fun i H => ∃ (zs1 zs2 : List V) (v1 v2 : V), SqK k1 K H a1 zs1 ∧ SqK k2 K H a2 zs2 ∧ zs1[i]? = some v1 ∧ zs2[i]? = some v2,
    fun i H v H' => ∃ T v1 v2, v = .ref T ∧ H T = none ∧ H' = upd H T (.tup [v1, v2]) ∧ (∀ xs, SqK k1 K H a1 xs → xs[i]? = some v1) ∧ (∀ xs, SqK k2 K H a2 xs → xs[i]? = some v2),
    fun i H => ∃ zs1 zs2 : List V, SqK k1 K H a1 zs1 ∧ SqK k2 K H a2 zs2 ∧ (zs1.length ≤ i ∨ zs2.length ≤ i)⟩
theorem turn_zip2 {P : Program} {w : World} {K : PySem.W.Frag} {elts : List Expr} {kk : Nat} {tpos : Pos} {k1 k2 : Bool} {I a1 a2 : Nat} (d1 : a1 < I) (d2 : a2 < I) :
    Turn P w K (.Tuple elts kk tpos) (Itz2 k1 k2 K a1 a2) [(I + 4), (I + 2), (I + 3), I, (I + 1)] (I + 4) (fun i h => IsZip h (I + 4) (I + 2) (I + 3) .none ∧ h.get? (I + 2) = some { cls := .type "tuple", data := .seq #[.ref I, .ref (I + 1)] } ∧ (∃ b1 b2, h.get? (I + 3) = some { cls := .type "tuple", data := .seq #[b1, b2] }) ∧ ZI k1 h I a1 i ∧ ZI k2 h (I + 1) a2 i) where
  mem := by simp
  obj := fun i h st c hc => by
    obtain ⟨hz, hTI, ⟨b1, b2, hTO⟩, hi1, hi2⟩ := st
    have e' : c = (I + 4) ∨ c = (I + 2) ∨ c = (I + 3) ∨ c = I ∨ c = (I + 1) := by simpa using hc
    rcases e' with q | q | q | q | q
    · rw [q]; exact ⟨_, hz, fun v q => nomatch q⟩
    · rw [q]; exact ⟨_, hTI, fun v q => nomatch q⟩
    · rw [q]; exact ⟨_, hTO, fun v q => nomatch q⟩
    · obtain ⟨o, vs, e, d⟩ := hi1.get; rw [q]; exact ⟨o, e, fun v q => by rw [d] at q; cases q⟩
    · obtain ⟨o, vs, e, d⟩ := hi2.get; rw [q]; exact ⟨o, e, fun v q => by rw [d] at q; cases q⟩
  keep := fun i h h' st k => by
    obtain ⟨hz, hTI, ⟨b1, b2, hTO⟩, hi1, hi2⟩ := st
    exact ⟨k _ (by simp) _ hz, k _ (by simp) _ hTI, ⟨b1, b2, k _ (by simp) _ hTO⟩, hi1.at fun o q => k _ (by simp) o q, hi2.at fun o q => k _ (by simp) o q⟩
  item := by
    intro X hP hw hK hc i pins s σ H E iv hf st hg
    subst hP hw hK
    obtain ⟨hz, hTI, ⟨b1, b2, hTO⟩, hi1, hi2⟩ := st
    obtain ⟨zs1, zs2, v1, v2, hq1, hq2, hv1, hv2⟩ := hg
    obtain ⟨its1, rv1, p1, _⟩ := hq1.get iv
    obtain ⟨u1, hu1, ru1⟩ := rv1.get hv1
    obtain ⟨its2, rv2, p2, _⟩ := hq2.get iv
    obtain ⟨u2, hu2, ru2⟩ := rv2.get hv2
    have hzl := Heap.lt_size hz
    refine pyNext_zip2_item d1 d2 hz hTI hTO hi1 p1 hi2 p2 (by simpa using hu1) (by simpa using hu2) fun h' z' TO' hi1' hi2' hT hsz hk => ?_
    refine ⟨_, rfl, wpAny_letOwnedTupleGo_zip (s := { s with heap := h' }) z' fun h'' z'' sb => ?_⟩
    have hT2 : h''.get? s.heap.objs.size = some { cls := .type "tuple", data := .seq #[u1, u2] } := (sb.2 _ (Nat.ne_of_gt hzl)).trans hT
    have new : ObjOk X.prog X.w (upd H s.heap.objs.size (.tup [v1, v2])) h'' s.heap.objs.size (.tup [v1, v2]) :=
      ⟨by show 2 ≤ sizeLine; decide, [u1, u2], .cons ru1 (.cons ru2 .nil), ⟨_, hT2, rfl, _, rfl⟩⟩
    have I1 : Inv X pins σ (upd H s.heap.objs.size (.tup [v1, v2])) { s with heap := h'' } :=
      iv.turnedNew (t' := s.toks) (ch := [(I + 4), (I + 2), (I + 3), I, (I + 1)]) (fun c o hb q => (sb.2 c (fun q' => hb (by simp [q']))).trans (hk c o (fun q' => hb (by simp [q'])) (fun q' => hb (by simp [q'])) (fun q' => hb (by simp [q'])) (fun q' => hb (by simp [q'])) q)) hf (Nat.le_refl _) new
    refine ⟨.ref s.heap.objs.size, _, I1, rfl, ⟨_, v1, v2, rfl, iv.hok.fresh (Nat.le_refl _), rfl, fun l hl => by rw [hl.inj iv hq1]; exact hv1, fun l hl => by rw [hl.inj iv hq2]; exact hv2⟩, ⟨z'', ?_, ⟨u1, u2, ?_⟩, ?_, ?_⟩, fun c hcm => ?_⟩
    · exact (sb.2 _ (by walk_at "zom")).trans (hk _ _ (by walk_at "zom") (by walk_at "zom") (by walk_at "zom") (by walk_at "zom") hTI)
    · exact (sb.2 _ (by walk_at "zom")).trans TO'
    · exact hi1'.at fun o q => (sb.2 _ (by walk_at "zom")).trans q
    · exact hi2'.at fun o q => (sb.2 _ (by walk_at "zom")).trans q
    · have hlt : c < s.heap.objs.size := by
        have e' : c = (I + 4) ∨ c = (I + 2) ∨ c = (I + 3) ∨ c = I ∨ c = (I + 1) := by simpa using hcm
        rcases e' with q | q | q | q | q
        · rw [q]; exact hzl
        · rw [q]; exact Heap.lt_size hTI
        · rw [q]; exact Heap.lt_size hTO
        · obtain ⟨o, vs, e, d⟩ := hi1.get; rw [q]; exact Heap.lt_size e
        · obtain ⟨o, vs, e, d⟩ := hi2.get; rw [q]; exact Heap.lt_size e
      rw [upd_ne (Nat.ne_of_lt hlt)]
      exact (hf c hcm).1
  done := by
    intro X hP hw hK hc i pins s σ H E iv hf st hg
    subst hP hw hK
    obtain ⟨hz, hTI, ⟨b1, b2, hTO⟩, hi1, hi2⟩ := st
    obtain ⟨zs1, zs2, hq1, hq2, hend⟩ := hg
    obtain ⟨its1, rv1, p1, _⟩ := hq1.get iv
    have l1 := rv1.length
    obtain ⟨its2, rv2, p2, _⟩ := hq2.get iv
    have l2 := rv2.length
    have he : its1.toArray[i]? = none ∨ its2.toArray[i]? = none := by
      rcases hend with q | q
      · exact .inl (by simp; omega)
      · exact .inr (by simp; omega)
    exact pyNext_zip2_end (iv.ok.hd hc) d1 d2 hz hTI hTO hi1 p1 hi2 p2 he fun h' hk => ⟨rfl, iv.turnedL (t' := s.toks) (ch := [(I + 4), (I + 2), (I + 3), I, (I + 1)]) (fun c o hb q =>
      hk c o (fun q' => hb (by simp [q'])) (fun q' => hb (by simp [q'])) (fun q' => hb (by simp [q'])) (fun q' => hb (by simp [q'])) q) hf⟩
  self := fun A i s Q E st h => wpAny_pyIter_zip st.1 h
def iZip2 (K : PySem.W.Frag) (ta : TA) : TI := fun σ H R => ta σ H fun vs H1 => ∃ (k1 k2 : Bool) (a1 a2 : Addr) (zs1 zs2 : List V), vs = [.ref a1, .ref a2] ∧ SqK k1 K H1 a1 zs1 ∧ SqK k2 K H1 a2 zs2 ∧ R (Itz2 k1 k2 K a1 a2) H1
theorem pi_zip2 {X : Cx} {e1 e2 : Expr} {ta : TA} {p pos tpos : Pos} {elts : List Expr} {kk : Nat} (hg : Gl X "zip") (hm : X.mg "zip" = none) (ha : PA X [e1, e2] ta)
    (hs : starEach [e1, e2] X.env = (false, eval e1 X.env) :: starEach [e2] X.env := by rfl) (hpl : (backTo pos (starEach [e2] X.env)).any (·.1) = false := by rfl) :
    PI X (.Tuple elts kk tpos) (.Call (.Name "zip" p) [e1, e2] [] pos) (iZip2 X.K ta) := by
  refine ⟨fun pins s σ H R iv h => ?_⟩
  refine Call_ (ld_blt iv hg hm PyProof.Rows.boot_zip (PyProof.Rows.callWith_type1 (thn (ha.run pos pins s σ H _ iv h) fun us s1 ⟨vs, H1, I1, r1, q1⟩ => ?_) hs hpl))
  obtain ⟨k1, k2, a1, a2, zs1, zs2, ex, hq1, hq2, q⟩ := q1
  subst ex
  cases r1 with
  | cons g1 rr1 =>
    cases rr1 with
    | cons g2 rr2 =>
      cases rr2
      cases g1
      cases g2
      obtain ⟨its1, rv1, p1, lt1⟩ := hq1.get I1
      obtain ⟨its2, rv2, p2, lt2⟩ := hq2.get I1
      refine call_zip2 p1 p2 fun h' hz hTI hTO hi1 hi2 hsz hk => wpAny_pyIter_zip hz ?_
      have I2 : Inv X pins σ H1 { s1 with heap := h' } := I1.kept (t' := s1.toks) hk
      refine ⟨s1.heap.objs.size + 4, [s1.heap.objs.size + 4, s1.heap.objs.size + 2, s1.heap.objs.size + 3, s1.heap.objs.size, s1.heap.objs.size + 1], _, _, H1, rfl, I2, turn_zip2 lt1 lt2, ⟨hz, hTI, ⟨_, _, hTO⟩, hi1, hi2⟩, fun c hcm => ?_, q⟩
      have hle : s1.heap.objs.size ≤ c := by
        simp only [List.mem_cons, List.not_mem_nil, or_false] at hcm
        rcases hcm with rfl | rfl | rfl | rfl | rfl
        · exact Nat.le_add_right _ _
        · exact Nat.le_add_right _ _
        · exact Nat.le_add_right _ _
        · exact Nat.le_refl _
        · exact Nat.le_add_right _ _
      exact I1.fpOk hle (I1.hok.fresh hle)
section
variable {prog : Program} {w : World} {A : Around} {E : Value → Shared → Prop} {s : Shared}
theorem zip3_next_item {I l1 l2 l3 : Nat} {k1 k2 k3 : Bool} {n1 n2 n3 : Nat} {y1 y2 y3 : Array Value} {a1 a2 a3 : Value} {x1 x2 x3 : Value} {Q : Value → Shared → Prop} (d1 : l1 < I) (d2 : l2 < I) (d3 : l3 < I) (hz : IsZip s.heap (I + 5) (I + 3) (I + 4) .none) (hTI : s.heap.get? (I + 3) = some { cls := .type "tuple", data := .seq #[.ref I, .ref (I + 1), .ref (I + 2)] }) (hTO : s.heap.get? (I + 4) = some { cls := .type "tuple", data := .seq #[a1, a2, a3] })
    (hi1 : ZI k1 s.heap I l1 n1) (hl1 : ZS k1 s.heap l1 y1) (hi2 : ZI k2 s.heap (I + 1) l2 n2) (hl2 : ZS k2 s.heap l2 y2) (hi3 : ZI k3 s.heap (I + 2) l3 n3) (hl3 : ZS k3 s.heap l3 y3) (hx1 : y1[n1]? = some x1) (hx2 : y2[n2]? = some x2) (hx3 : y3[n3]? = some x3)
    (hQ : ∀ h', IsZip h' (I + 5) (I + 3) (I + 4) (rawInt s.heap.objs.size) → h'.get? (I + 4) = some { cls := .type "tuple", data := .seq #[x1, x2, x3] } → ZI k1 h' I l1 (n1 + 1) → ZI k2 h' (I + 1) l2 (n2 + 1) → ZI k3 h' (I + 2) l3 (n3 + 1) → h'.get? s.heap.objs.size = some { cls := .type "tuple", data := .seq #[x1, x2, x3] } → h'.objs.size = s.heap.objs.size + 1 →
      (∀ (c : Nat) o, c ≠ (I + 5) → c ≠ (I + 4) → c ≠ I → c ≠ (I + 1) → c ≠ (I + 2) → s.heap.get? c = some o → h'.get? c = some o) → Q (.ref s.heap.objs.size) { s with heap := h' }) :
    wpAny (model prog w) A (Builtin.«zip.__next__» ⟨[.ref (I + 5)], []⟩) (fun fin s' => ∃ v, fin = .done (.ret v) ∧ Q v s') E s := by
  show wpAny _ _ (field (.ref (I + 5)) 2 >>= _) _ _ _
  refine wpAny_bind (wpAny_field hz rfl (x := .bool false) rfl ?_)
  show wpAny _ _ (field (.ref (I + 5)) 3 >>= _) _ _ _
  refine wpAny_bind (wpAny_field hz rfl (x := .ref (I + 3)) rfl ?_)
  refine wpAny_bind (wpAny_seqItems hTI rfl ?_)
  show wpAny _ _ (Builtin.SmallTypes.ownedTupleIsFree (.ref (I + 5)) >>= _) _ _ _
  refine wpAny_bind ?_
  unfold Builtin.SmallTypes.ownedTupleIsFree
  refine wpAny_bind (wpAny_field hz rfl (x := .none) rfl (wpAny_pure ?_))
  simp only [if_true]
  refine wpAny_bind (wpAny_rule ?_)
  refine wpAny_bind (wpAny_field hz rfl (x := .ref (I + 4)) rfl ?_)
  refine wpAny_bind (wpAny_setField_rec hz (by simp) fun h₁ hz₁ hs₁ => ?_)
  replace hz : IsZip h₁ (I + 5) (I + 3) (I + 4) .ellipsis := hz₁
  have sz := hs₁.1
  have up : ∀ (c : Nat) o, c ≠ (I + 5) → c ≠ (I + 4) → c ≠ I → c ≠ (I + 1) → c ≠ (I + 2) → s.heap.get? c = some o → h₁.get? c = some o := fun c o c0 c1 c2 c3 c4 e => hs₁.extBut _ _ c0 e
  replace hTO := hs₁.extBut _ _ (by walk_at "zom") hTO
  replace hi1 := hi1.ext hs₁.extBut (by walk_at "zom")
  replace hl1 := hl1.ext hs₁.extBut (by walk_at "zom")
  replace hi2 := hi2.ext hs₁.extBut (by walk_at "zom")
  replace hl2 := hl2.ext hs₁.extBut (by walk_at "zom")
  replace hi3 := hi3.ext hs₁.extBut (by walk_at "zom")
  replace hl3 := hl3.ext hs₁.extBut (by walk_at "zom")
  refine wpAny_bind ?_
  simp only [List.zipIdx_cons, List.zipIdx_nil, List.forIn_cons, List.forIn_nil]
  refine wpAny_bind (wpAny_bind (wpAny_onRaise ?_))
  show wpAny _ _ (Builtin.SmallTypes.nextOf (.ref I) >>= _) _ _ _
  refine wpAny_bind (nextK_item hi1 hl1 hx1 fun h2 hi hs => wpAny_pure ?_)
  replace hi1 := hi
  replace hz := hs.extBut _ _ (by walk_at "zom") hz
  replace hTO := hs.extBut _ _ (by walk_at "zom") hTO
  replace hl1 := hl1.ext hs.extBut (by walk_at "zom")
  replace hi2 := hi2.ext hs.extBut (by walk_at "zom")
  replace hl2 := hl2.ext hs.extBut (by walk_at "zom")
  replace hi3 := hi3.ext hs.extBut (by walk_at "zom")
  replace hl3 := hl3.ext hs.extBut (by walk_at "zom")
  replace sz := hs.1.trans sz
  replace up : ∀ (c : Nat) o, c ≠ (I + 5) → c ≠ (I + 4) → c ≠ I → c ≠ (I + 1) → c ≠ (I + 2) → s.heap.get? c = some o → (_ : Heap).get? c = some o := fun c o c0 c1 c2 c3 c4 e => hs.extBut _ _ c2 (up c o c0 c1 c2 c3 c4 e)
  clear hs
  refine wpAny_bind (wpAny_seqItems hTO rfl ?_)
  refine wpAny_bind (updateSeq3 hTO fun h3 hTO3 hs => ?_)
  replace hz := hs.extBut _ _ (by walk_at "zom") hz
  replace hi1 := hi1.ext hs.extBut (by walk_at "zom")
  replace hl1 := hl1.ext hs.extBut (by walk_at "zom")
  replace hi2 := hi2.ext hs.extBut (by walk_at "zom")
  replace hl2 := hl2.ext hs.extBut (by walk_at "zom")
  replace hi3 := hi3.ext hs.extBut (by walk_at "zom")
  replace hl3 := hl3.ext hs.extBut (by walk_at "zom")
  replace sz := hs.1.trans sz
  replace up : ∀ (c : Nat) o, c ≠ (I + 5) → c ≠ (I + 4) → c ≠ I → c ≠ (I + 1) → c ≠ (I + 2) → s.heap.get? c = some o → (_ : Heap).get? c = some o := fun c o c0 c1 c2 c3 c4 e => hs.extBut _ _ c1 (up c o c0 c1 c2 c3 c4 e)
  replace hTO : h3.get? (I + 4) = some { cls := .type "tuple", data := .seq #[x1, a2, a3] } := hTO3
  clear hs
  refine wpAny_bind (wpAny_letGo (wpAny_pure ?_))
  refine wpAny_bind (wpAny_bind (wpAny_onRaise ?_))
  show wpAny _ _ (Builtin.SmallTypes.nextOf (.ref (I + 1)) >>= _) _ _ _
  refine wpAny_bind (nextK_item hi2 hl2 hx2 fun h2 hi hs => wpAny_pure ?_)
  replace hi2 := hi
  replace hz := hs.extBut _ _ (by walk_at "zom") hz
  replace hTO := hs.extBut _ _ (by walk_at "zom") hTO
  replace hi1 := hi1.ext hs.extBut (by walk_at "zom")
  replace hl1 := hl1.ext hs.extBut (by walk_at "zom")
  replace hl2 := hl2.ext hs.extBut (by walk_at "zom")
  replace hi3 := hi3.ext hs.extBut (by walk_at "zom")
  replace hl3 := hl3.ext hs.extBut (by walk_at "zom")
  replace sz := hs.1.trans sz
  replace up : ∀ (c : Nat) o, c ≠ (I + 5) → c ≠ (I + 4) → c ≠ I → c ≠ (I + 1) → c ≠ (I + 2) → s.heap.get? c = some o → (_ : Heap).get? c = some o := fun c o c0 c1 c2 c3 c4 e => hs.extBut _ _ c3 (up c o c0 c1 c2 c3 c4 e)
  clear hs
  refine wpAny_bind (wpAny_seqItems hTO rfl ?_)
  refine wpAny_bind (updateSeq3 hTO fun h3 hTO3 hs => ?_)
  replace hz := hs.extBut _ _ (by walk_at "zom") hz
  replace hi1 := hi1.ext hs.extBut (by walk_at "zom")
  replace hl1 := hl1.ext hs.extBut (by walk_at "zom")
  replace hi2 := hi2.ext hs.extBut (by walk_at "zom")
  replace hl2 := hl2.ext hs.extBut (by walk_at "zom")
  replace hi3 := hi3.ext hs.extBut (by walk_at "zom")
  replace hl3 := hl3.ext hs.extBut (by walk_at "zom")
  replace sz := hs.1.trans sz
  replace up : ∀ (c : Nat) o, c ≠ (I + 5) → c ≠ (I + 4) → c ≠ I → c ≠ (I + 1) → c ≠ (I + 2) → s.heap.get? c = some o → (_ : Heap).get? c = some o := fun c o c0 c1 c2 c3 c4 e => hs.extBut _ _ c1 (up c o c0 c1 c2 c3 c4 e)
  replace hTO : h3.get? (I + 4) = some { cls := .type "tuple", data := .seq #[x1, x2, a3] } := hTO3
  clear hs
  refine wpAny_bind (wpAny_letGo (wpAny_pure ?_))
  refine wpAny_bind (wpAny_bind (wpAny_onRaise ?_))
  show wpAny _ _ (Builtin.SmallTypes.nextOf (.ref (I + 2)) >>= _) _ _ _
  refine wpAny_bind (nextK_item hi3 hl3 hx3 fun h2 hi hs => wpAny_pure ?_)
  replace hi3 := hi
  replace hz := hs.extBut _ _ (by walk_at "zom") hz
  replace hTO := hs.extBut _ _ (by walk_at "zom") hTO
  replace hi1 := hi1.ext hs.extBut (by walk_at "zom")
  replace hl1 := hl1.ext hs.extBut (by walk_at "zom")
  replace hi2 := hi2.ext hs.extBut (by walk_at "zom")
  replace hl2 := hl2.ext hs.extBut (by walk_at "zom")
  replace hl3 := hl3.ext hs.extBut (by walk_at "zom")
  replace sz := hs.1.trans sz
  replace up : ∀ (c : Nat) o, c ≠ (I + 5) → c ≠ (I + 4) → c ≠ I → c ≠ (I + 1) → c ≠ (I + 2) → s.heap.get? c = some o → (_ : Heap).get? c = some o := fun c o c0 c1 c2 c3 c4 e => hs.extBut _ _ c4 (up c o c0 c1 c2 c3 c4 e)
  clear hs
  refine wpAny_bind (wpAny_seqItems hTO rfl ?_)
  refine wpAny_bind (updateSeq3 hTO fun h3 hTO3 hs => ?_)
  replace hz := hs.extBut _ _ (by walk_at "zom") hz
  replace hi1 := hi1.ext hs.extBut (by walk_at "zom")
  replace hl1 := hl1.ext hs.extBut (by walk_at "zom")
  replace hi2 := hi2.ext hs.extBut (by walk_at "zom")
  replace hl2 := hl2.ext hs.extBut (by walk_at "zom")
  replace hi3 := hi3.ext hs.extBut (by walk_at "zom")
  replace hl3 := hl3.ext hs.extBut (by walk_at "zom")
  replace sz := hs.1.trans sz
  replace up : ∀ (c : Nat) o, c ≠ (I + 5) → c ≠ (I + 4) → c ≠ I → c ≠ (I + 1) → c ≠ (I + 2) → s.heap.get? c = some o → (_ : Heap).get? c = some o := fun c o c0 c1 c2 c3 c4 e => hs.extBut _ _ c1 (up c o c0 c1 c2 c3 c4 e)
  replace hTO : h3.get? (I + 4) = some { cls := .type "tuple", data := .seq #[x1, x2, x3] } := hTO3
  clear hs
  refine wpAny_bind (wpAny_letGo (wpAny_pure (wpAny_pure ?_)))
  refine wpAny_bind (wpAny_seqItems hTO rfl ?_)
  refine wpAny_bind (wpAny_newTuple ?_)
  have zlt := Heap.lt_size hz
  show wpAny _ _ (Builtin.SmallTypes.ownedTupleHandOut (.ref (I + 5)) (.ref h3.objs.size) >>= _) _ _ _
  refine wpAny_bind ?_
  unfold Builtin.SmallTypes.ownedTupleHandOut
  have hz₆ : IsZip (h3.push { cls := .type "tuple", data := .seq #[x1, x2, x3] }) (I + 5) (I + 3) (I + 4) .ellipsis := Heap.get?_push_of_some _ hz
  refine wpAny_bind (wpAny_setField_rec hz₆ (by simp) fun h₇ hz₇ hs₇ => ?_)
  replace hz₇ : IsZip h₇ (I + 5) (I + 3) (I + 4) (rawInt h3.objs.size) := hz₇
  refine wpAny_setField_rec hz₇ (by simp) fun h₈ hz₈ hs₈ => ?_
  replace hz₈ : IsZip h₈ (I + 5) (I + 3) (I + 4) (rawInt h3.objs.size) := hz₈
  have up8 : ∀ (c : Nat) o, c ≠ (I + 5) → h3.get? c = some o → h₈.get? c = some o := fun c o c1 e => hs₈.extBut _ _ c1 (hs₇.extBut _ _ c1 (Heap.get?_push_of_some _ e))
  have hT₈ : h₈.get? h3.objs.size = some { cls := .type "tuple", data := .seq #[x1, x2, x3] } := hs₈.extBut _ _ (Nat.ne_of_gt zlt) (hs₇.extBut _ _ (Nat.ne_of_gt zlt) (Heap.get?_push_size _ rfl))
  have hz8 : h₈.objs.size = h3.objs.size + 1 := by rw [hs₈.1, hs₇.1, Heap.size_push]
  rw [sz] at hz₈ hT₈ hz8
  refine wpAny_pure ⟨_, rfl, ?_⟩
  show Q (.ref h3.objs.size) _
  rw [sz]
  exact hQ h₈ hz₈ (up8 _ _ (by walk_at "zom") hTO) (hi1.at fun o e => up8 _ o (by walk_at "zom") e) (hi2.at fun o e => up8 _ o (by walk_at "zom") e) (hi3.at fun o e => up8 _ o (by walk_at "zom") e) hT₈ hz8 fun c o c0 c1 c2 c3 c4 e => up8 c o c0 (up c o c0 c1 c2 c3 c4 e)
theorem zip3_next_end {I l1 l2 l3 : Nat} {k1 k2 k3 : Bool} {n1 n2 n3 : Nat} {y1 y2 y3 : Array Value} {a1 a2 a3 : Value} {Q : Fin → Shared → Prop} (hh : A.handled = none) (d1 : l1 < I) (d2 : l2 < I) (d3 : l3 < I) (hz : IsZip s.heap (I + 5) (I + 3) (I + 4) .none) (hTI : s.heap.get? (I + 3) = some { cls := .type "tuple", data := .seq #[.ref I, .ref (I + 1), .ref (I + 2)] }) (hTO : s.heap.get? (I + 4) = some { cls := .type "tuple", data := .seq #[a1, a2, a3] })
    (hi1 : ZI k1 s.heap I l1 n1) (hl1 : ZS k1 s.heap l1 y1) (hi2 : ZI k2 s.heap (I + 1) l2 n2) (hl2 : ZS k2 s.heap l2 y2) (hi3 : ZI k3 s.heap (I + 2) l3 n3) (hl3 : ZS k3 s.heap l3 y3) (hend : y1[n1]? = none ∨ y2[n2]? = none ∨ y3[n3]? = none)
    (hE : ∀ h' e, (∀ (c : Nat) o, c ≠ (I + 5) → c ≠ (I + 4) → c ≠ I → c ≠ (I + 1) → c ≠ (I + 2) → s.heap.get? c = some o → h'.get? c = some o) → (∃ o, h'.get? e = some o ∧ o.cls = .type "StopIteration") → E (.ref e) { s with heap := h' }) :
    wpAny (model prog w) A (Builtin.«zip.__next__» ⟨[.ref (I + 5)], []⟩) Q E s := by
  show wpAny _ _ (field (.ref (I + 5)) 2 >>= _) _ _ _
  refine wpAny_bind (wpAny_field hz rfl (x := .bool false) rfl ?_)
  show wpAny _ _ (field (.ref (I + 5)) 3 >>= _) _ _ _
  refine wpAny_bind (wpAny_field hz rfl (x := .ref (I + 3)) rfl ?_)
  refine wpAny_bind (wpAny_seqItems hTI rfl ?_)
  show wpAny _ _ (Builtin.SmallTypes.ownedTupleIsFree (.ref (I + 5)) >>= _) _ _ _
  refine wpAny_bind ?_
  unfold Builtin.SmallTypes.ownedTupleIsFree
  refine wpAny_bind (wpAny_field hz rfl (x := .none) rfl (wpAny_pure ?_))
  simp only [if_true]
  refine wpAny_bind (wpAny_rule ?_)
  refine wpAny_bind (wpAny_field hz rfl (x := .ref (I + 4)) rfl ?_)
  refine wpAny_bind (wpAny_setField_rec hz (by simp) fun h₁ hz₁ hs₁ => ?_)
  replace hz : IsZip h₁ (I + 5) (I + 3) (I + 4) .ellipsis := hz₁
  have sz := hs₁.1
  have up : ∀ (c : Nat) o, c ≠ (I + 5) → c ≠ (I + 4) → c ≠ I → c ≠ (I + 1) → c ≠ (I + 2) → s.heap.get? c = some o → h₁.get? c = some o := fun c o c0 c1 c2 c3 c4 e => hs₁.extBut _ _ c0 e
  replace hTO := hs₁.extBut _ _ (by walk_at "zom") hTO
  replace hi1 := hi1.ext hs₁.extBut (by walk_at "zom")
  replace hl1 := hl1.ext hs₁.extBut (by walk_at "zom")
  replace hi2 := hi2.ext hs₁.extBut (by walk_at "zom")
  replace hl2 := hl2.ext hs₁.extBut (by walk_at "zom")
  replace hi3 := hi3.ext hs₁.extBut (by walk_at "zom")
  replace hl3 := hl3.ext hs₁.extBut (by walk_at "zom")
  refine wpAny_bind ?_
  simp only [List.zipIdx_cons, List.zipIdx_nil, List.forIn_cons, List.forIn_nil]
  refine wpAny_bind (wpAny_bind (wpAny_onRaise ?_))
  show wpAny _ _ (Builtin.SmallTypes.nextOf (.ref I) >>= _) _ _ _
  cases hx1 : y1[n1]? with
  | none =>
    refine wpAny_bind (nextK_end hh hi1 hl1 hx1 fun h2 e hs he => ?_)
    obtain ⟨oe, hoe, hce⟩ := he
    replace hz := hs _ _ (by walk_at "zom") hz
    have hez : e ≠ (I + 5) := fun x => by subst x; rw [hz] at hoe; cases hoe; simp at hce
    exact wpAny_setField_rec hz (by simp) fun h3 _ hs3 => hE h3 e (fun c o c0 c1 c2 c3 c4 x => hs3.extBut _ _ c0 (hs _ _ c2 (up c o c0 c1 c2 c3 c4 x))) ⟨oe, hs3.extBut _ _ hez hoe, hce⟩
  | some x1 =>
    refine wpAny_bind (nextK_item hi1 hl1 hx1 fun h2 hi hs => wpAny_pure ?_)
    replace hi1 := hi
    replace hz := hs.extBut _ _ (by walk_at "zom") hz
    replace hTO := hs.extBut _ _ (by walk_at "zom") hTO
    replace hl1 := hl1.ext hs.extBut (by walk_at "zom")
    replace hi2 := hi2.ext hs.extBut (by walk_at "zom")
    replace hl2 := hl2.ext hs.extBut (by walk_at "zom")
    replace hi3 := hi3.ext hs.extBut (by walk_at "zom")
    replace hl3 := hl3.ext hs.extBut (by walk_at "zom")
    replace sz := hs.1.trans sz
    replace up : ∀ (c : Nat) o, c ≠ (I + 5) → c ≠ (I + 4) → c ≠ I → c ≠ (I + 1) → c ≠ (I + 2) → s.heap.get? c = some o → (_ : Heap).get? c = some o := fun c o c0 c1 c2 c3 c4 e => hs.extBut _ _ c2 (up c o c0 c1 c2 c3 c4 e)
    clear hs
    refine wpAny_bind (wpAny_seqItems hTO rfl ?_)
    refine wpAny_bind (updateSeq3 hTO fun h3 hTO3 hs => ?_)
    replace hz := hs.extBut _ _ (by walk_at "zom") hz
    replace hi1 := hi1.ext hs.extBut (by walk_at "zom")
    replace hl1 := hl1.ext hs.extBut (by walk_at "zom")
    replace hi2 := hi2.ext hs.extBut (by walk_at "zom")
    replace hl2 := hl2.ext hs.extBut (by walk_at "zom")
    replace hi3 := hi3.ext hs.extBut (by walk_at "zom")
    replace hl3 := hl3.ext hs.extBut (by walk_at "zom")
    replace sz := hs.1.trans sz
    replace up : ∀ (c : Nat) o, c ≠ (I + 5) → c ≠ (I + 4) → c ≠ I → c ≠ (I + 1) → c ≠ (I + 2) → s.heap.get? c = some o → (_ : Heap).get? c = some o := fun c o c0 c1 c2 c3 c4 e => hs.extBut _ _ c1 (up c o c0 c1 c2 c3 c4 e)
    replace hTO : h3.get? (I + 4) = some { cls := .type "tuple", data := .seq #[x1, a2, a3] } := hTO3
    clear hs
    refine wpAny_bind (wpAny_letGo (wpAny_pure ?_))
    refine wpAny_bind (wpAny_bind (wpAny_onRaise ?_))
    show wpAny _ _ (Builtin.SmallTypes.nextOf (.ref (I + 1)) >>= _) _ _ _
    cases hx2 : y2[n2]? with
    | none =>
      refine wpAny_bind (nextK_end hh hi2 hl2 hx2 fun h2 e hs he => ?_)
      obtain ⟨oe, hoe, hce⟩ := he
      replace hz := hs _ _ (by walk_at "zom") hz
      have hez : e ≠ (I + 5) := fun x => by subst x; rw [hz] at hoe; cases hoe; simp at hce
      exact wpAny_setField_rec hz (by simp) fun h3 _ hs3 => hE h3 e (fun c o c0 c1 c2 c3 c4 x => hs3.extBut _ _ c0 (hs _ _ c3 (up c o c0 c1 c2 c3 c4 x))) ⟨oe, hs3.extBut _ _ hez hoe, hce⟩
    | some x2 =>
      refine wpAny_bind (nextK_item hi2 hl2 hx2 fun h2 hi hs => wpAny_pure ?_)
      replace hi2 := hi
      replace hz := hs.extBut _ _ (by walk_at "zom") hz
      replace hTO := hs.extBut _ _ (by walk_at "zom") hTO
      replace hi1 := hi1.ext hs.extBut (by walk_at "zom")
      replace hl1 := hl1.ext hs.extBut (by walk_at "zom")
      replace hl2 := hl2.ext hs.extBut (by walk_at "zom")
      replace hi3 := hi3.ext hs.extBut (by walk_at "zom")
      replace hl3 := hl3.ext hs.extBut (by walk_at "zom")
      replace sz := hs.1.trans sz
      replace up : ∀ (c : Nat) o, c ≠ (I + 5) → c ≠ (I + 4) → c ≠ I → c ≠ (I + 1) → c ≠ (I + 2) → s.heap.get? c = some o → (_ : Heap).get? c = some o := fun c o c0 c1 c2 c3 c4 e => hs.extBut _ _ c3 (up c o c0 c1 c2 c3 c4 e)
      clear hs
      refine wpAny_bind (wpAny_seqItems hTO rfl ?_)
      refine wpAny_bind (updateSeq3 hTO fun h3 hTO3 hs => ?_)
      replace hz := hs.extBut _ _ (by walk_at "zom") hz
      replace hi1 := hi1.ext hs.extBut (by walk_at "zom")
      replace hl1 := hl1.ext hs.extBut (by walk_at "zom")
      replace hi2 := hi2.ext hs.extBut (by walk_at "zom")
      replace hl2 := hl2.ext hs.extBut (by walk_at "zom")
      replace hi3 := hi3.ext hs.extBut (by walk_at "zom")
      replace hl3 := hl3.ext hs.extBut (by walk_at "zom")
      replace sz := hs.1.trans sz
      replace up : ∀ (c : Nat) o, c ≠ (I + 5) → c ≠ (I + 4) → c ≠ I → c ≠ (I + 1) → c ≠ (I + 2) → s.heap.get? c = some o → (_ : Heap).get? c = some o := fun c o c0 c1 c2 c3 c4 e => hs.extBut _ _ c1 (up c o c0 c1 c2 c3 c4 e)
      replace hTO : h3.get? (I + 4) = some { cls := .type "tuple", data := .seq #[x1, x2, a3] } := hTO3
      clear hs
      refine wpAny_bind (wpAny_letGo (wpAny_pure ?_))
      refine wpAny_bind (wpAny_bind (wpAny_onRaise ?_))
      show wpAny _ _ (Builtin.SmallTypes.nextOf (.ref (I + 2)) >>= _) _ _ _
      have hx3 : y3[n3]? = none := by
        rcases hend with h | h | h
        · rw [hx1] at h; cases h
        · rw [hx2] at h; cases h
        · exact h
      refine wpAny_bind (nextK_end hh hi3 hl3 hx3 fun h2 e hs he => ?_)
      obtain ⟨oe, hoe, hce⟩ := he
      replace hz := hs _ _ (by walk_at "zom") hz
      have hez : e ≠ (I + 5) := fun x => by subst x; rw [hz] at hoe; cases hoe; simp at hce
      exact wpAny_setField_rec hz (by simp) fun h3 _ hs3 => hE h3 e (fun c o c0 c1 c2 c3 c4 x => hs3.extBut _ _ c0 (hs _ _ c4 (up c o c0 c1 c2 c3 c4 x))) ⟨oe, hs3.extBut _ _ hez hoe, hce⟩
theorem pyNext_zip3_item {I l1 l2 l3 : Nat} {k1 k2 k3 : Bool} {n1 n2 n3 : Nat} {y1 y2 y3 : Array Value} {a1 a2 a3 : Value} {x1 x2 x3 : Value} {Q : Option Value → Shared → Prop} (d1 : l1 < I) (d2 : l2 < I) (d3 : l3 < I) (hz : IsZip s.heap (I + 5) (I + 3) (I + 4) .none) (hTI : s.heap.get? (I + 3) = some { cls := .type "tuple", data := .seq #[.ref I, .ref (I + 1), .ref (I + 2)] }) (hTO : s.heap.get? (I + 4) = some { cls := .type "tuple", data := .seq #[a1, a2, a3] })
    (hi1 : ZI k1 s.heap I l1 n1) (hl1 : ZS k1 s.heap l1 y1) (hi2 : ZI k2 s.heap (I + 1) l2 n2) (hl2 : ZS k2 s.heap l2 y2) (hi3 : ZI k3 s.heap (I + 2) l3 n3) (hl3 : ZS k3 s.heap l3 y3) (hx1 : y1[n1]? = some x1) (hx2 : y2[n2]? = some x2) (hx3 : y3[n3]? = some x3)
    (hQ : ∀ h', IsZip h' (I + 5) (I + 3) (I + 4) (rawInt s.heap.objs.size) → h'.get? (I + 4) = some { cls := .type "tuple", data := .seq #[x1, x2, x3] } → ZI k1 h' I l1 (n1 + 1) → ZI k2 h' (I + 1) l2 (n2 + 1) → ZI k3 h' (I + 2) l3 (n3 + 1) → h'.get? s.heap.objs.size = some { cls := .type "tuple", data := .seq #[x1, x2, x3] } → h'.objs.size = s.heap.objs.size + 1 →
      (∀ (c : Nat) o, c ≠ (I + 5) → c ≠ (I + 4) → c ≠ I → c ≠ (I + 1) → c ≠ (I + 2) → s.heap.get? c = some o → h'.get? c = some o) → Q (some (.ref s.heap.objs.size)) { s with heap := h' }) :
    wpAny (model prog w) A (pyNext (.ref (I + 5))) Q E s := by
  have hT : s.TypeIs (.ref (I + 5)) "zip" := ⟨_, hz, rfl⟩
  unfold pyNext
  exact wpAny_bind (wpAny_attempt (wpAny_callSpecial?_slot (name := Str.ofString "__next__") hT F.slot_zip_next
    (wpAny_call_entry F.slot_zip_next hT F.entry_zip_next
      (zip3_next_item d1 d2 d3 hz hTI hTO hi1 hl1 hi2 hl2 hi3 hl3 hx1 hx2 hx3 fun h' b0 b1 b2 b3 b4 b5 b6 b7 => wpAny_pure (hQ h' b0 b1 b2 b3 b4 b5 b6 b7)) (F.args_zip_next_1 _))))
theorem pyNext_zip3_end {I l1 l2 l3 : Nat} {k1 k2 k3 : Bool} {n1 n2 n3 : Nat} {y1 y2 y3 : Array Value} {a1 a2 a3 : Value} {Q : Option Value → Shared → Prop} (hh : A.handled = none) (d1 : l1 < I) (d2 : l2 < I) (d3 : l3 < I) (hz : IsZip s.heap (I + 5) (I + 3) (I + 4) .none) (hTI : s.heap.get? (I + 3) = some { cls := .type "tuple", data := .seq #[.ref I, .ref (I + 1), .ref (I + 2)] }) (hTO : s.heap.get? (I + 4) = some { cls := .type "tuple", data := .seq #[a1, a2, a3] })
    (hi1 : ZI k1 s.heap I l1 n1) (hl1 : ZS k1 s.heap l1 y1) (hi2 : ZI k2 s.heap (I + 1) l2 n2) (hl2 : ZS k2 s.heap l2 y2) (hi3 : ZI k3 s.heap (I + 2) l3 n3) (hl3 : ZS k3 s.heap l3 y3) (hend : y1[n1]? = none ∨ y2[n2]? = none ∨ y3[n3]? = none)
    (hQ : ∀ h', (∀ (c : Nat) o, c ≠ (I + 5) → c ≠ (I + 4) → c ≠ I → c ≠ (I + 1) → c ≠ (I + 2) → s.heap.get? c = some o → h'.get? c = some o) → Q none { s with heap := h' }) : wpAny (model prog w) A (pyNext (.ref (I + 5))) Q E s := by
  have hT : s.TypeIs (.ref (I + 5)) "zip" := ⟨_, hz, rfl⟩
  unfold pyNext
  refine wpAny_bind (wpAny_attempt (wpAny_callSpecial?_slot (name := Str.ofString "__next__") hT F.slot_zip_next
    (wpAny_call_entry F.slot_zip_next hT F.entry_zip_next (zip3_next_end hh d1 d2 d3 hz hTI hTO hi1 hl1 hi2 hl2 hi3 hl3 hend fun h' e hk he => ?_) (F.args_zip_next_1 _))))
  obtain ⟨o, ho, hc⟩ := he
  refine wpAny_bind (wpAny_isInstance (T := "StopIteration") (b := true) ⟨o, ho, hc⟩ isSubtype_stop ?_)
  exact wpAny_pure (hQ _ hk)
end
theorem newCall_zip3 (x1 x2 x3 : Value) : checkTypeCall "zip" ⟨[x1, x2, x3], []⟩ = pure () ∧ checkBuiltinCall "zip.__new__" ⟨[.type "zip", x1, x2, x3], []⟩ = pure () := ⟨by kernel_rfl, by kernel_rfl⟩
theorem args_object_init_4 (a b c d : Value) : argsOk "object.__init__" ⟨[a, b, c, d], []⟩ := by
  unfold argsOk; rw [signature?_of (id := "object.__init__") (n := ['_', '_', 't', 'i', 'n', 'i', '_', '_']) (o := ['t', 'c', 'e', 'j', 'b', 'o']) (by kernel_rfl) F.owner_object]; kernel_rfl
abbrev zp3_1 (k1 k2 k3 : Bool) (h : Heap) (l1 l2 l3 : Addr) : Heap := (h).push { cls := .type (itn k1), data := .fields #[.ref l1, .int 0 0] }
abbrev zp3_2 (k1 k2 k3 : Bool) (h : Heap) (l1 l2 l3 : Addr) : Heap := (zp3_1 k1 k2 k3 h l1 l2 l3).push { cls := .type (itn k2), data := .fields #[.ref l2, .int 0 0] }
abbrev zp3_3 (k1 k2 k3 : Bool) (h : Heap) (l1 l2 l3 : Addr) : Heap := (zp3_2 k1 k2 k3 h l1 l2 l3).push { cls := .type (itn k3), data := .fields #[.ref l3, .int 0 0] }
abbrev zp3_4 (k1 k2 k3 : Bool) (h : Heap) (l1 l2 l3 : Addr) : Heap := (zp3_3 k1 k2 k3 h l1 l2 l3).push { cls := .type "tuple", data := .seq #[.ref h.objs.size, .ref (zp3_1 k1 k2 k3 h l1 l2 l3).objs.size, .ref (zp3_2 k1 k2 k3 h l1 l2 l3).objs.size] }
abbrev zp3_5 (k1 k2 k3 : Bool) (h : Heap) (l1 l2 l3 : Addr) : Heap := (zp3_4 k1 k2 k3 h l1 l2 l3).push { cls := .type "tuple", data := .seq #[.none, .none, .none] }
abbrev zp3_6 (k1 k2 k3 : Bool) (h : Heap) (l1 l2 l3 : Addr) : Heap := (zp3_5 k1 k2 k3 h l1 l2 l3).push { cls := .type "zip", data := .fields #[.none, .bool false, .bool false, .ref (zp3_3 k1 k2 k3 h l1 l2 l3).objs.size, .ref (zp3_4 k1 k2 k3 h l1 l2 l3).objs.size] }
theorem meets_zip3_new (k1 k2 k3 : Bool) (l1 l2 l3 : Addr) (y1 y2 y3 : Array Value) :
    Meets (Builtin.«zip.__new__» ⟨[.type "zip", .ref l1, .ref l2, .ref l3], []⟩) (fun _ R s => ZS k1 s.heap l1 y1 ∧ ZS k2 s.heap l2 y2 ∧ ZS k3 s.heap l3 y3 ∧
      R (.ok (.ret (.ref (zp3_5 k1 k2 k3 s.heap l1 l2 l3).objs.size))) { s with heap := zp3_6 k1 k2 k3 s.heap l1 l2 l3 }) :=
  .of_wp fun prog w A R s h => by
    obtain ⟨hp, g, d, tk, os⟩ := s; obtain ⟨hl1, hl2, hl3, h⟩ := h
    have hsub := sub_zip
    have hL1 : ZS k1 (Shared.heap ⟨hp, g, d, tk, os⟩) l1 y1 := hl1
    have hL2 : ZS k2 (Shared.heap ⟨(hp).push { cls := .type (itn k1), data := .fields #[.ref l1, .int 0 0] }, g, d, tk, os⟩) l2 y2 := hl2.push _
    have hL3 : ZS k3 (Shared.heap ⟨((hp).push { cls := .type (itn k1), data := .fields #[.ref l1, .int 0 0] }).push { cls := .type (itn k2), data := .fields #[.ref l2, .int 0 0] }, g, d, tk, os⟩) l3 y3 := (hl3.push _).push _
    wp_walk using pyIterK hL1, pyIterK hL2, pyIterK hL3
    exact ⟨_, rfl, h⟩
section
variable {prog : Program} {w : World} {A : Around} {E : Value → Shared → Prop} {s : Shared}
theorem call_zip3 {k1 k2 k3 : Bool} {l1 l2 l3 : Addr} {y1 y2 y3 : Array Value} {Q : Value → Shared → Prop} (hl1 : ZS k1 s.heap l1 y1) (hl2 : ZS k2 s.heap l2 y2) (hl3 : ZS k3 s.heap l3 y3)
    (h : ∀ h', IsZip h' (s.heap.objs.size + 5) (s.heap.objs.size + 3) (s.heap.objs.size + 4) .none → h'.get? (s.heap.objs.size + 3) = some { cls := .type "tuple", data := .seq #[.ref s.heap.objs.size, .ref (s.heap.objs.size + 1), .ref (s.heap.objs.size + 2)] } → h'.get? (s.heap.objs.size + 4) = some { cls := .type "tuple", data := .seq #[.none, .none, .none] } → ZI k1 h' (s.heap.objs.size + 0) l1 0 → ZI k2 h' (s.heap.objs.size + 1) l2 0 → ZI k3 h' (s.heap.objs.size + 2) l3 0 → h'.objs.size = s.heap.objs.size + 6 →
      (∀ c o, s.heap.get? c = some o → h'.get? c = some o) → Q (.ref (s.heap.objs.size + 5)) { s with heap := h' }) :
    wpAny (model prog w) A (call (.type "zip") [.ref l1, .ref l2, .ref l3]) Q E s := by
  refine callType_new F.called_zip (by decide) (newCall_zip3 _ _ _).1 (newCall_zip3 _ _ _).2 (fun obj => args_object_init_4 obj _ _ _) F.entry_zip_new
    (meets_zip3_new k1 k2 k3 l1 l2 l3 y1 y2 y3) ⟨hl1, hl2, hl3, ?_⟩
  have z1 : (zp3_1 k1 k2 k3 s.heap l1 l2 l3).objs.size = s.heap.objs.size + 1 := by rw [Heap.size_push]
  have z2 : (zp3_2 k1 k2 k3 s.heap l1 l2 l3).objs.size = s.heap.objs.size + 2 := by rw [Heap.size_push, z1]
  have z3 : (zp3_3 k1 k2 k3 s.heap l1 l2 l3).objs.size = s.heap.objs.size + 3 := by rw [Heap.size_push, z2]
  have z4 : (zp3_4 k1 k2 k3 s.heap l1 l2 l3).objs.size = s.heap.objs.size + 4 := by rw [Heap.size_push, z3]
  have z5 : (zp3_5 k1 k2 k3 s.heap l1 l2 l3).objs.size = s.heap.objs.size + 5 := by rw [Heap.size_push, z4]
  have z6 : (zp3_6 k1 k2 k3 s.heap l1 l2 l3).objs.size = s.heap.objs.size + 6 := by rw [Heap.size_push, z5]
  have g6 : (zp3_6 k1 k2 k3 s.heap l1 l2 l3).get? (zp3_5 k1 k2 k3 s.heap l1 l2 l3).objs.size = some _ := Heap.get?_push_size _ rfl
  have g5 : (zp3_6 k1 k2 k3 s.heap l1 l2 l3).get? (zp3_4 k1 k2 k3 s.heap l1 l2 l3).objs.size = some _ := Heap.get?_push_of_some _ (Heap.get?_push_size _ rfl)
  have g4 : (zp3_6 k1 k2 k3 s.heap l1 l2 l3).get? (zp3_3 k1 k2 k3 s.heap l1 l2 l3).objs.size = some _ := Heap.get?_push_of_some _ (Heap.get?_push_of_some _ (Heap.get?_push_size _ rfl))
  have g3 : (zp3_6 k1 k2 k3 s.heap l1 l2 l3).get? (zp3_2 k1 k2 k3 s.heap l1 l2 l3).objs.size = some _ := Heap.get?_push_of_some _ (Heap.get?_push_of_some _ (Heap.get?_push_of_some _ (Heap.get?_push_size _ rfl)))
  have g2 : (zp3_6 k1 k2 k3 s.heap l1 l2 l3).get? (zp3_1 k1 k2 k3 s.heap l1 l2 l3).objs.size = some _ := Heap.get?_push_of_some _ (Heap.get?_push_of_some _ (Heap.get?_push_of_some _ (Heap.get?_push_of_some _ (Heap.get?_push_size _ rfl))))
  have g1 : (zp3_6 k1 k2 k3 s.heap l1 l2 l3).get? s.heap.objs.size = some _ := Heap.get?_push_of_some _ (Heap.get?_push_of_some _ (Heap.get?_push_of_some _ (Heap.get?_push_of_some _ (Heap.get?_push_of_some _ (Heap.get?_push_size _ rfl)))))
  show _ ∧ _
  rw [z1] at g2
  rw [z2] at g3
  rw [z1, z2, z3] at g4
  rw [z4] at g5
  rw [z3, z4, z5] at g6
  rw [z5]
  exact ⟨⟨_, g6, rfl⟩, h _ g6 g4 g5 (.mk0 g1) (.mk0 g2) (.mk0 g3) z6 fun c o x => Heap.get?_push_of_some _ (Heap.get?_push_of_some _ (Heap.get?_push_of_some _ (Heap.get?_push_of_some _ (Heap.get?_push_of_some _ (Heap.get?_push_of_some _ (x))))))⟩
end
def Itz3 (k1 k2 k3 : Bool) (K : PySem.W.Frag) (a1 a2 a3 : Addr) : It :=
  ⟨fun i H => ∃ (zs1 zs2 zs3 : List V) (v1 v2 v3 : V), SqK k1 K H a1 zs1 ∧ SqK k2 K H a2 zs2 ∧ SqK k3 K H a3 zs3 ∧ zs1[i]? = some v1 ∧ zs2[i]? = some v2 ∧ zs3[i]? = some v3,
    fun i H v H' => ∃ T v1 v2 v3, v = .ref T ∧ H T = none ∧ H' = upd H T (.tup [v1, v2, v3]) ∧ (∀ xs, SqK k1 K H a1 xs → xs[i]? = some v1) ∧ (∀ xs, SqK k2 K H a2 xs → xs[i]? = some v2) ∧ (∀ xs, SqK k3 K H a3 xs → xs[i]? = some v3),
    fun i H => ∃ zs1 zs2 zs3 : List V, SqK k1 K H a1 zs1 ∧ SqK k2 K H a2 zs2 ∧ SqK k3 K H a3 zs3 ∧ (zs1.length ≤ i ∨ zs2.length ≤ i ∨ zs3.length ≤ i)⟩
theorem turn_zip3 {P : Program} {w : World} {K : PySem.W.Frag} {elts : List Expr} {kk : Nat} {tpos : Pos} {k1 k2 k3 : Bool} {I a1 a2 a3 : Nat} (d1 : a1 < I) (d2 : a2 < I) (d3 : a3 < I) :
    Turn P w K (.Tuple elts kk tpos) (Itz3 k1 k2 k3 K a1 a2 a3) [(I + 5), (I + 3), (I + 4), I, (I + 1), (I + 2)] (I + 5) (fun i h => IsZip h (I + 5) (I + 3) (I + 4) .none ∧ h.get? (I + 3) = some { cls := .type "tuple", data := .seq #[.ref I, .ref (I + 1), .ref (I + 2)] } ∧ (∃ b1 b2 b3, h.get? (I + 4) = some { cls := .type "tuple", data := .seq #[b1, b2, b3] }) ∧ ZI k1 h I a1 i ∧ ZI k2 h (I + 1) a2 i ∧ ZI k3 h (I + 2) a3 i) where
  mem := by simp
  obj := fun i h st c hc => by
    obtain ⟨hz, hTI, ⟨b1, b2, b3, hTO⟩, hi1, hi2, hi3⟩ := st
    have e' : c = (I + 5) ∨ c = (I + 3) ∨ c = (I + 4) ∨ c = I ∨ c = (I + 1) ∨ c = (I + 2) := by simpa using hc
    rcases e' with q | q | q | q | q | q
    · rw [q]; exact ⟨_, hz, fun v q => nomatch q⟩
    · rw [q]; exact ⟨_, hTI, fun v q => nomatch q⟩
    · rw [q]; exact ⟨_, hTO, fun v q => nomatch q⟩
    · obtain ⟨o, vs, e, d⟩ := hi1.get; rw [q]; exact ⟨o, e, fun v q => by rw [d] at q; cases q⟩
    · obtain ⟨o, vs, e, d⟩ := hi2.get; rw [q]; exact ⟨o, e, fun v q => by rw [d] at q; cases q⟩
    · obtain ⟨o, vs, e, d⟩ := hi3.get; rw [q]; exact ⟨o, e, fun v q => by rw [d] at q; cases q⟩
  keep := fun i h h' st k => by
    obtain ⟨hz, hTI, ⟨b1, b2, b3, hTO⟩, hi1, hi2, hi3⟩ := st
    exact ⟨k _ (by simp) _ hz, k _ (by simp) _ hTI, ⟨b1, b2, b3, k _ (by simp) _ hTO⟩, hi1.at fun o q => k _ (by simp) o q, hi2.at fun o q => k _ (by simp) o q, hi3.at fun o q => k _ (by simp) o q⟩
  item := by
    intro X hP hw hK hc i pins s σ H E iv hf st hg
    subst hP hw hK
    obtain ⟨hz, hTI, ⟨b1, b2, b3, hTO⟩, hi1, hi2, hi3⟩ := st
    obtain ⟨zs1, zs2, zs3, v1, v2, v3, hq1, hq2, hq3, hv1, hv2, hv3⟩ := hg
    obtain ⟨its1, rv1, p1, _⟩ := hq1.get iv
    obtain ⟨u1, hu1, ru1⟩ := rv1.get hv1
    obtain ⟨its2, rv2, p2, _⟩ := hq2.get iv
    obtain ⟨u2, hu2, ru2⟩ := rv2.get hv2
    obtain ⟨its3, rv3, p3, _⟩ := hq3.get iv
    obtain ⟨u3, hu3, ru3⟩ := rv3.get hv3
    have hzl := Heap.lt_size hz
    refine pyNext_zip3_item d1 d2 d3 hz hTI hTO hi1 p1 hi2 p2 hi3 p3 (by simpa using hu1) (by simpa using hu2) (by simpa using hu3) fun h' z' TO' hi1' hi2' hi3' hT hsz hk => ?_
    refine ⟨_, rfl, wpAny_letOwnedTupleGo_zip (s := { s with heap := h' }) z' fun h'' z'' sb => ?_⟩
    have hT2 : h''.get? s.heap.objs.size = some { cls := .type "tuple", data := .seq #[u1, u2, u3] } := (sb.2 _ (Nat.ne_of_gt hzl)).trans hT
    have new : ObjOk X.prog X.w (upd H s.heap.objs.size (.tup [v1, v2, v3])) h'' s.heap.objs.size (.tup [v1, v2, v3]) :=
      ⟨by show 3 ≤ sizeLine; decide, [u1, u2, u3], .cons ru1 (.cons ru2 (.cons ru3 .nil)), ⟨_, hT2, rfl, _, rfl⟩⟩
    have I1 : Inv X pins σ (upd H s.heap.objs.size (.tup [v1, v2, v3])) { s with heap := h'' } :=
      iv.turnedNew (t' := s.toks) (ch := [(I + 5), (I + 3), (I + 4), I, (I + 1), (I + 2)]) (fun c o hb q => (sb.2 c (fun q' => hb (by simp [q']))).trans (hk c o (fun q' => hb (by simp [q'])) (fun q' => hb (by simp [q'])) (fun q' => hb (by simp [q'])) (fun q' => hb (by simp [q'])) (fun q' => hb (by simp [q'])) q)) hf (Nat.le_refl _) new
    refine ⟨.ref s.heap.objs.size, _, I1, rfl, ⟨_, v1, v2, v3, rfl, iv.hok.fresh (Nat.le_refl _), rfl, fun l hl => by rw [hl.inj iv hq1]; exact hv1, fun l hl => by rw [hl.inj iv hq2]; exact hv2, fun l hl => by rw [hl.inj iv hq3]; exact hv3⟩, ⟨z'', ?_, ⟨u1, u2, u3, ?_⟩, ?_, ?_, ?_⟩, fun c hcm => ?_⟩
    · exact (sb.2 _ (by walk_at "zom")).trans (hk _ _ (by walk_at "zom") (by walk_at "zom") (by walk_at "zom") (by walk_at "zom") (by walk_at "zom") hTI)
    · exact (sb.2 _ (by walk_at "zom")).trans TO'
    · exact hi1'.at fun o q => (sb.2 _ (by walk_at "zom")).trans q
    · exact hi2'.at fun o q => (sb.2 _ (by walk_at "zom")).trans q
    · exact hi3'.at fun o q => (sb.2 _ (by walk_at "zom")).trans q
    · have hlt : c < s.heap.objs.size := by
        have e' : c = (I + 5) ∨ c = (I + 3) ∨ c = (I + 4) ∨ c = I ∨ c = (I + 1) ∨ c = (I + 2) := by simpa using hcm
        rcases e' with q | q | q | q | q | q
        · rw [q]; exact hzl
        · rw [q]; exact Heap.lt_size hTI
        · rw [q]; exact Heap.lt_size hTO
        · obtain ⟨o, vs, e, d⟩ := hi1.get; rw [q]; exact Heap.lt_size e
        · obtain ⟨o, vs, e, d⟩ := hi2.get; rw [q]; exact Heap.lt_size e
        · obtain ⟨o, vs, e, d⟩ := hi3.get; rw [q]; exact Heap.lt_size e
      rw [upd_ne (Nat.ne_of_lt hlt)]
      exact (hf c hcm).1
  done := by
    intro X hP hw hK hc i pins s σ H E iv hf st hg
    subst hP hw hK
    obtain ⟨hz, hTI, ⟨b1, b2, b3, hTO⟩, hi1, hi2, hi3⟩ := st
    obtain ⟨zs1, zs2, zs3, hq1, hq2, hq3, hend⟩ := hg
    obtain ⟨its1, rv1, p1, _⟩ := hq1.get iv
    have l1 := rv1.length
    obtain ⟨its2, rv2, p2, _⟩ := hq2.get iv
    have l2 := rv2.length
    obtain ⟨its3, rv3, p3, _⟩ := hq3.get iv
    have l3 := rv3.length
    have he : its1.toArray[i]? = none ∨ its2.toArray[i]? = none ∨ its3.toArray[i]? = none := by
      rcases hend with q | q | q
      · exact .inl (by simp; omega)
      · exact .inr (.inl (by simp; omega))
      · exact .inr (.inr (by simp; omega))
    exact pyNext_zip3_end (iv.ok.hd hc) d1 d2 d3 hz hTI hTO hi1 p1 hi2 p2 hi3 p3 he fun h' hk => ⟨rfl, iv.turnedL (t' := s.toks) (ch := [(I + 5), (I + 3), (I + 4), I, (I + 1), (I + 2)]) (fun c o hb q =>
      hk c o (fun q' => hb (by simp [q'])) (fun q' => hb (by simp [q'])) (fun q' => hb (by simp [q'])) (fun q' => hb (by simp [q'])) (fun q' => hb (by simp [q'])) q) hf⟩
  self := fun A i s Q E st h => wpAny_pyIter_zip st.1 h
def iZip3 (K : PySem.W.Frag) (ta : TA) : TI := fun σ H R => ta σ H fun vs H1 => ∃ (k1 k2 k3 : Bool) (a1 a2 a3 : Addr) (zs1 zs2 zs3 : List V), vs = [.ref a1, .ref a2, .ref a3] ∧ SqK k1 K H1 a1 zs1 ∧ SqK k2 K H1 a2 zs2 ∧ SqK k3 K H1 a3 zs3 ∧ R (Itz3 k1 k2 k3 K a1 a2 a3) H1
theorem pi_zip3 {X : Cx} {e1 e2 e3 : Expr} {ta : TA} {p pos tpos : Pos} {elts : List Expr} {kk : Nat} (hg : Gl X "zip") (hm : X.mg "zip" = none) (ha : PA X [e1, e2, e3] ta)
    (hs : starEach [e1, e2, e3] X.env = (false, eval e1 X.env) :: starEach [e2, e3] X.env := by rfl) (hpl : (backTo pos (starEach [e2, e3] X.env)).any (·.1) = false := by rfl) :
    PI X (.Tuple elts kk tpos) (.Call (.Name "zip" p) [e1, e2, e3] [] pos) (iZip3 X.K ta) := by
  refine ⟨fun pins s σ H R iv h => ?_⟩
  refine Call_ (ld_blt iv hg hm PyProof.Rows.boot_zip (PyProof.Rows.callWith_type1 (thn (ha.run pos pins s σ H _ iv h) fun us s1 ⟨vs, H1, I1, r1, q1⟩ => ?_) hs hpl))
  obtain ⟨k1, k2, k3, a1, a2, a3, zs1, zs2, zs3, ex, hq1, hq2, hq3, q⟩ := q1
  subst ex
  cases r1 with
  | cons g1 rr1 =>
    cases rr1 with
    | cons g2 rr2 =>
      cases rr2 with
      | cons g3 rr3 =>
        cases rr3
        cases g1
        cases g2
        cases g3
        obtain ⟨its1, rv1, p1, lt1⟩ := hq1.get I1
        obtain ⟨its2, rv2, p2, lt2⟩ := hq2.get I1
        obtain ⟨its3, rv3, p3, lt3⟩ := hq3.get I1
        refine call_zip3 p1 p2 p3 fun h' hz hTI hTO hi1 hi2 hi3 hsz hk => wpAny_pyIter_zip hz ?_
        have I2 : Inv X pins σ H1 { s1 with heap := h' } := I1.kept (t' := s1.toks) hk
        refine ⟨s1.heap.objs.size + 5, [s1.heap.objs.size + 5, s1.heap.objs.size + 3, s1.heap.objs.size + 4, s1.heap.objs.size, s1.heap.objs.size + 1, s1.heap.objs.size + 2], _, _, H1, rfl, I2, turn_zip3 lt1 lt2 lt3, ⟨hz, hTI, ⟨_, _, _, hTO⟩, hi1, hi2, hi3⟩, fun c hcm => ?_, q⟩
        have hle : s1.heap.objs.size ≤ c := by
          simp only [List.mem_cons, List.not_mem_nil, or_false] at hcm
          rcases hcm with rfl | rfl | rfl | rfl | rfl | rfl
          · exact Nat.le_add_right _ _
          · exact Nat.le_add_right _ _
          · exact Nat.le_add_right _ _
          · exact Nat.le_refl _
          · exact Nat.le_add_right _ _
          · exact Nat.le_add_right _ _
        exact I1.fpOk hle (I1.hok.fresh hle)
end VZ
set_option Elab.async false
set_option linter.all false
set_option maxRecDepth 100000
/-! VS13: zip of two and of three lists or tuples in any mixture; max and min of three. -/
namespace VS
open PySem PySem.Spec PyProof.Rows L2
section
variable {X : Cx} {τ : Tg} {w : Bool} {a b c e1 e2 e3 tg : Expr} {es rest elts : List Expr} {pos p tpos : Pos} {f h fa fb fc : VS.Env → M D} {fs : VS.Env → M (List D)} {x y : Str} {kk : Nat}
def seqOf : D → Option (List D)
  | .lst xs => some xs
  | .tup xs => some xs
  | _ => none
def zipL3 : List D → List D → List D → List D
  | x :: xs, y :: ys, z :: zs => .tup [x, y, z] :: zipL3 xs ys zs
  | _, _, _ => []
def zipM2 : List D → Option (List D)
  | [a, b] => match seqOf a, seqOf b with
    | some xs, some ys => some (zipL xs ys)
    | _, _ => none
  | _ => none
def zipM3 : List D → Option (List D)
  | [a, b, c] => match seqOf a, seqOf b, seqOf c with
    | some xs, some ys, some zs => some (zipL3 xs ys zs)
    | _, _, _ => none
  | _ => none
def zipI2 (fs : VS.Env → M (List D)) : VS.Env → M (List D) := fun ρ => bnd (fs ρ) fun ds => ofO (zipM2 ds)
def zipI3 (fs : VS.Env → M (List D)) : VS.Env → M (List D) := fun ρ => bnd (fs ρ) fun ds => ofO (zipM3 ds)
theorem zipL3_at : ∀ {xs ys zs : List D} {i : Nat} {d : D}, (zipL3 xs ys zs)[i]? = some d → ∃ a b c, xs[i]? = some a ∧ ys[i]? = some b ∧ zs[i]? = some c ∧ d = .tup [a, b, c]
  | x :: xs, y :: ys, z :: zs, 0, d, e => by cases e; exact ⟨x, y, z, rfl, rfl, rfl, rfl⟩
  | x :: xs, y :: ys, z :: zs, i + 1, d, e => zipL3_at (xs := xs) (ys := ys) (zs := zs) (i := i) e
  | [], _, _, _, _, e => by cases e
  | _ :: _, [], _, _, _, e => by cases e
  | _ :: _, _ :: _, [], _, _, e => by cases e
theorem zipL3_len : ∀ {xs ys zs : List D} {i : Nat}, (zipL3 xs ys zs).length ≤ i → xs.length ≤ i ∨ ys.length ≤ i ∨ zs.length ≤ i
  | x :: xs, y :: ys, z :: zs, i, e => by
    have e' : (zipL3 xs ys zs).length + 1 ≤ i := e
    have := zipL3_len (xs := xs) (ys := ys) (zs := zs) (i := i - 1) (by omega)
    simp only [List.length_cons]
    omega
  | [], _, _, _, _ => .inl (Nat.zero_le _)
  | _ :: _, [], _, _, _ => .inr (.inl (Nat.zero_le _))
  | _ :: _, _ :: _, [], _, _ => .inr (.inr (Nat.zero_le _))
theorem seq_get {K : PySem.W.Frag} {g : Gh} {v : V} {d : D} {ds : List D} (r : Rp K g v d) (e : seqOf d = some ds) :
    ∃ k a xs, v = .ref a ∧ Rps K g xs ds ∧ ∀ {H : Hp}, Same g.G H → VZ.SqK k K H a xs := by
  cases r with
  | tup h r => cases e; exact ⟨true, _, _, rfl, r, fun s => sqT_same s (.of h)⟩
  | lst h r => cases e; exact ⟨false, _, _, rfl, r, fun s => SqL.of (s _ _ h)⟩
  | _ => cases e
theorem new3 {K : PySem.W.Frag} {g : Gh} {W : Wd} {H : Hp} {T : Addr} {u v t : V} {a b c : D} (h : Ht K g W H) (n : H T = none) (ru : Rp K g u a) (rv : Rp K g v b) (rt : Rp K g t c) :
    ∃ g', Ht K g' W (upd H T (.tup [u, v, t])) ∧ Step g H g' (upd H T (.tup [u, v, t])) ∧ Rp K g' (.ref T) (.tup [a, b, c]) :=
  ⟨_, (h.newF n).1, (h.newF n).2, .tup upd_same (.cons (ru.mono (h.newF (o := .tup [u, v, t]) n).2.le) (.cons (rv.mono (h.newF (o := .tup [u, v, t]) n).2.le) (.cons (rt.mono (h.newF (o := .tup [u, v, t]) n).2.le) .nil)))⟩
theorem itz2_ok {K : PySem.W.Frag} {H : Hp} {k1 k2 : Bool} {p q : Addr} {xs ys : List V} {ds es : List D} {g : Gh} {W : Wd} (h : Ht K g W H) (hx : VZ.SqK k1 K H p xs) (hy : VZ.SqK k2 K H q ys) (r : Rps K g xs ds) (r' : Rps K g ys es) (i : Nat) :
    (∀ d, (zipL ds es)[i]? = some d → (VZ.Itz2 k1 k2 K p q).go i H ∧ ∀ x H', (VZ.Itz2 k1 k2 K p q).yld i H x H' → ∃ g', Ht K g' W H' ∧ Step g H g' H' ∧ Rp K g' x d) ∧ ((zipL ds es).length ≤ i → (VZ.Itz2 k1 k2 K p q).stop i H) := by
  refine ⟨fun d e => ?_, fun l => ⟨xs, ys, hx, hy, by rw [r.length, r'.length]; exact zipL_len l⟩⟩
  obtain ⟨a, b, ea, eb, rfl⟩ := zipL_at e
  obtain ⟨u, eu, ru⟩ := r.get ea
  obtain ⟨v, ev, rv⟩ := r'.get eb
  refine ⟨⟨xs, ys, u, v, hx, hy, eu, ev⟩, fun x H' y => ?_⟩
  obtain ⟨T, u', v', rfl, n, rfl, y1, y2⟩ := y
  have k1 := y1 xs hx
  have k2 := y2 ys hy
  rw [eu] at k1
  rw [ev] at k2
  cases k1
  cases k2
  exact new2 h n ru rv
theorem itz3_ok {K : PySem.W.Frag} {H : Hp} {k1 k2 k3 : Bool} {p q t : Addr} {xs ys zs : List V} {ds es gs : List D} {g : Gh} {W : Wd} (h : Ht K g W H) (hx : VZ.SqK k1 K H p xs) (hy : VZ.SqK k2 K H q ys) (hz : VZ.SqK k3 K H t zs) (r : Rps K g xs ds) (r' : Rps K g ys es) (r'' : Rps K g zs gs) (i : Nat) :
    (∀ d, (zipL3 ds es gs)[i]? = some d → (VZ.Itz3 k1 k2 k3 K p q t).go i H ∧ ∀ x H', (VZ.Itz3 k1 k2 k3 K p q t).yld i H x H' → ∃ g', Ht K g' W H' ∧ Step g H g' H' ∧ Rp K g' x d) ∧ ((zipL3 ds es gs).length ≤ i → (VZ.Itz3 k1 k2 k3 K p q t).stop i H) := by
  refine ⟨fun d e => ?_, fun l => ⟨xs, ys, zs, hx, hy, hz, by rw [r.length, r'.length, r''.length]; exact zipL3_len l⟩⟩
  obtain ⟨a, b, c, ea, eb, ec, rfl⟩ := zipL3_at e
  obtain ⟨u, eu, ru⟩ := r.get ea
  obtain ⟨v, ev, rv⟩ := r'.get eb
  obtain ⟨z, ez, rz⟩ := r''.get ec
  refine ⟨⟨xs, ys, zs, u, v, z, hx, hy, hz, eu, ev, ez⟩, fun x H' y => ?_⟩
  obtain ⟨T, u', v', z', rfl, n, rfl, y1, y2, y3⟩ := y
  have k1 := y1 xs hx
  have k2 := y2 ys hy
  have k3 := y3 zs hz
  rw [eu] at k1
  rw [ev] at k2
  rw [ez] at k3
  cases k1
  cases k2
  cases k3
  exact new3 h n ru rv rz
theorem i_zip2 (hm : X.mg "zip" = none) (ha : FA X τ [e1, e2] fs) (hg : Gl X "zip" := by rfl)
    (hs : starEach [e1, e2] X.env = (false, eval e1 X.env) :: starEach [e2] X.env := by rfl) (hpl : (backTo pos (starEach [e2] X.env)).any (·.1) = false := by rfl) :
    FI X τ (.Tuple elts kk tpos) (.Call (.Name "zip" p) [e1, e2] [] pos) (zipI2 fs) := PI.wk (VZ.pi_zip2 hg hm ha hs hpl) fun σ H R ⟨ρ, W, g, ds, W', ht, sl, es, q⟩ => by
  obtain ⟨args, W1, ed, es⟩ := bnd_some es
  obtain ⟨ei, rfl⟩ := ofO_some es
  refine ⟨ρ, W, g, args, _, ht, sl, ed, fun vs H' g' h' s r => ?_⟩
  unfold zipM2 at ei
  split at ei
  · split at ei
    · rename_i e1' e2'
      cases ei
      cases r with
      | cons r1 r =>
        cases r with
        | cons r2 r =>
          cases r
          obtain ⟨k1, a1, x1, rfl, q1, s1⟩ := seq_get r1 e1'
          obtain ⟨k2, a2, x2, rfl, q2, s2⟩ := seq_get r2 e2'
          exact ⟨k1, k2, a1, a2, x1, x2, rfl, s1 h'.sub, s2 h'.sub, q _ H' g' h' s fun i g2 H2 W2 k2 l => itz2_ok k2 (s1 (l.gg.trans k2.sub)) (s2 (l.gg.trans k2.sub)) (q1.mono l) (q2.mono l) i⟩
    · cases ei
  · cases ei
theorem i_zip3 (hm : X.mg "zip" = none) (ha : FA X τ [e1, e2, e3] fs) (hg : Gl X "zip" := by rfl)
    (hs : starEach [e1, e2, e3] X.env = (false, eval e1 X.env) :: starEach [e2, e3] X.env := by rfl) (hpl : (backTo pos (starEach [e2, e3] X.env)).any (·.1) = false := by rfl) :
    FI X τ (.Tuple elts kk tpos) (.Call (.Name "zip" p) [e1, e2, e3] [] pos) (zipI3 fs) := PI.wk (VZ.pi_zip3 hg hm ha hs hpl) fun σ H R ⟨ρ, W, g, ds, W', ht, sl, es, q⟩ => by
  obtain ⟨args, W1, ed, es⟩ := bnd_some es
  obtain ⟨ei, rfl⟩ := ofO_some es
  refine ⟨ρ, W, g, args, _, ht, sl, ed, fun vs H' g' h' s r => ?_⟩
  unfold zipM3 at ei
  split at ei
  · split at ei
    · rename_i e1' e2' e3'
      cases ei
      cases r with
      | cons r1 r =>
        cases r with
        | cons r2 r =>
          cases r with
          | cons r3 r =>
            cases r
            obtain ⟨k1, a1, x1, rfl, q1, s1⟩ := seq_get r1 e1'
            obtain ⟨k2, a2, x2, rfl, q2, s2⟩ := seq_get r2 e2'
            obtain ⟨k3, a3, x3, rfl, q3, s3⟩ := seq_get r3 e3'
            exact ⟨k1, k2, k3, a1, a2, a3, x1, x2, x3, rfl, s1 h'.sub, s2 h'.sub, s3 h'.sub, q _ H' g' h' s fun i g2 H2 W2 k2 l => itz3_ok k2 (s1 (l.gg.trans k2.sub)) (s2 (l.gg.trans k2.sub)) (s3 (l.gg.trans k2.sub)) (q1.mono l) (q2.mono l) (q3.mono l) i⟩
    · cases ei
  · cases ei
/-! ### max and min of three -/
def int3 (k : Int → Int → Int → Option D) : List D → Option D
  | [.int i, .int j, .int l] => k i j l
  | _ => none
def max3D : List D → Option D := int3 fun i j l => some (.int (if j > i then (if l > j then l else j) else (if l > i then l else i)))
def min3D : List D → Option D := int3 fun i j l => some (.int (if j < i then (if l < j then l else j) else (if l < i then l else i)))
theorem int3_some {k : Int → Int → Int → Option D} {ds : List D} {d : D} (e : int3 k ds = some d) : ∃ i j l, ds = [.int i, .int j, .int l] ∧ k i j l = some d := by
  unfold int3 at e
  split at e
  · exact ⟨_, _, _, rfl, e⟩
  · cases e
theorem call_max3I (hc : X.calm = true) : CallR X (.builtin "max") (fun xs H Q => ∃ i j l : Int, xs = [.int i, .int j, .int l] ∧ Q (.int (if j > i then (if l > j then l else j) else (if l > i then l else i))) H) := by
  intro pins s σ H xs us Q I r h
  obtain ⟨i, j, l, rfl, q⟩ := h
  cases r with
  | cons r1 r =>
    cases r with
    | cons r2 r =>
      cases r with
      | cons r3 r =>
        cases r
        obtain ⟨t1, rfl⟩ := r1
        obtain ⟨t2, rfl⟩ := r2
        obtain ⟨t3, rfl⟩ := r3
        refine max_three_ints (I.ok.hd hc) fun h' tk k => ⟨_, H, I.kept k, ?_, q⟩
        split <;> split <;> exact ⟨_, rfl⟩
theorem call_min3I (hc : X.calm = true) : CallR X (.builtin "min") (fun xs H Q => ∃ i j l : Int, xs = [.int i, .int j, .int l] ∧ Q (.int (if j < i then (if l < j then l else j) else (if l < i then l else i))) H) := by
  intro pins s σ H xs us Q I r h
  obtain ⟨i, j, l, rfl, q⟩ := h
  cases r with
  | cons r1 r =>
    cases r with
    | cons r2 r =>
      cases r with
      | cons r3 r =>
        cases r
        obtain ⟨t1, rfl⟩ := r1
        obtain ⟨t2, rfl⟩ := r2
        obtain ⟨t3, rfl⟩ := r3
        refine min_three_ints (I.ok.hd hc) fun h' tk k => ⟨_, H, I.kept k, ?_, q⟩
        split <;> split <;> exact ⟨_, rfl⟩
theorem three_of {K : PySem.W.Frag} {g : Gh} {H : Hp} {vs : List V} {d d' d'' : D} (b : Bos K g H vs [d, d', d'']) : ∃ v v' v'', vs = [v, v', v''] ∧ Bo K g H v d ∧ Bo K g H v' d' ∧ Bo K g H v'' d'' := by
  cases b with
  | cons b1 b =>
    cases b with
    | cons b2 b =>
      cases b with
      | cons b3 b =>
        cases b
        exact ⟨_, _, _, rfl, b1, b2, b3⟩
theorem c_max3 (hc : X.calm = true) : CallR X (.builtin "max") (rC X.K false max3D) := callS (call_max3I hc) fun {g W H vs ds d} ht bs e => by
  obtain ⟨i, j, l, rfl, e⟩ := int3_some e
  obtain ⟨v, v', v'', rfl, b, b', b''⟩ := three_of bs
  cases e
  exact ⟨_, .int _, fun Q q => ⟨i, j, l, by rw [b.intT, b'.intT, b''.intT], q⟩⟩
theorem c_min3 (hc : X.calm = true) : CallR X (.builtin "min") (rC X.K false min3D) := callS (call_min3I hc) fun {g W H vs ds d} ht bs e => by
  obtain ⟨i, j, l, rfl, e⟩ := int3_some e
  obtain ⟨v, v', v'', rfl, b, b', b''⟩ := three_of bs
  cases e
  exact ⟨_, .int _, fun Q q => ⟨i, j, l, by rw [b.intT, b'.intT, b''.intT], q⟩⟩
theorem max3_i (i j l : Int) : max3D [.int i, .int j, .int l] = some (.int (max i (max j l))) := by
  show some (D.int _) = _
  congr 2
  split <;> split <;> omega
theorem min3_i (i j l : Int) : min3D [.int i, .int j, .int l] = some (.int (min i (min j l))) := by
  show some (D.int _) = _
  congr 2
  split <;> split <;> omega
/-! ### a, b, .. = a list -/
def gLst (n : Nat) (bs : Bns) : Bn := fun d ρ => match d with
  | .lst ds => if ds.length = n then bs ds ρ else none
  | _ => none
theorem g_lst {τ1 : Tg} {is : List Nat} {bs : Bns} {n k : Nat} (hc : X.calm = true) (h : FGs X τ τ1 is es bs) (hn : (assignEach es X.env).length = n := by rfl) (hst : (assignEach es X.env).findIdx? (·.1) = none := by rfl) : FG X τ τ1 is (.Tuple es k pos) (gLst n bs) :=
  PG.wk (pg_unl hc h hn hst) fun v σ H Q ⟨ρ, W, g, d, ρ', ht, sl, r, e, q⟩ => by
  cases r with
  | lst hs rr =>
    have e : (if _ then bs _ ρ else none) = some ρ' := e
    split at e
    · rename_i c
      exact ⟨_, _, rfl, .of (ht.sub _ _ hs), by rw [rr.length]; exact c, ρ, W, g, _, ρ', ht, sl, rr, e, q⟩
    · cases e
  | _ => cases e
end
end VS
set_option Elab.async false
set_option linter.all false
set_option maxRecDepth 100000
/-! VS14: sum of a tuple. -/
namespace VS
open PySem PySem.Spec PyProof.Rows L2
def sumG : List D → Option D
  | [.tup ds] => (asInts ds).map fun ns => .int ns.sum
  | ds => sumD ds
theorem sum_rawT {prog : Program} {w : World} {A : Around} {E : Value → Shared → Prop} {s : Shared} {l : Addr} {its : List Value} {ns : List Int} {Q : Value → Shared → Prop} (hh : A.handled = none) (hl : s.heap.IsTuple l its.toArray) (hi : IntsAre its ns)
    (h : ∀ h' tk t', (∀ b o, s.heap.get? b = some o → h'.get? b = some o) → Q (.int ns.sum t') { s with heap := h', toks := tk }) : wpAny (model prog w) A (call (.builtin "sum") [.ref l]) Q E s := by
  obtain ⟨xs, e⟩ := hi.allInts.items
  have hn : numsOf (intItems xs).toList = ns := by rw [← e]; exact hi.numsOf
  rw [nums_intItems] at hn
  rw [e] at hl
  refine PySem.W.ktm_sumG hh hl fun h' tk t' hk => ?_
  have := h h' tk t' hk
  rw [preSum_eq, List.take_of_length_le (by simp), hn]; exact this
theorem c_sumG (hc : X.calm = true) : CallR X (.builtin "sum") (rC X.K false sumG) := by
  intro pins s σ H vs us Q I r ⟨g, W, ds, d, ht, bs, e, q⟩
  unfold sumG at e
  split at e
  · obtain ⟨v, rfl, b⟩ := one_of bs
    obtain ⟨ns, e1, rfl⟩ := Option.map_eq_some_iff.mp e
    obtain ⟨a, xs, rfl, hq, rr⟩ := b.tupT ht
    rw [asInts_some e1] at rr
    rw [rr.of_ints] at hq
    obtain ⟨its, rv, hl, hz⟩ := I.tuple hq
    rw [Vals.ref1 r]
    exact sum_rawT (I.ok.hd hc) hl rv.ints fun h' tk t' hk => ⟨.int _, H, I.kept hk, ⟨_, rfl⟩, q _ H g ht (.refl _ _) (.int _)⟩
  · exact c_sum hc pins s σ H vs us Q I r ⟨g, W, ds, d, ht, bs, e, q⟩
end VS
set_option Elab.async false
set_option linter.all false
set_option maxRecDepth 100000
/-! VSS: a set of a list of ints. -/
namespace VS
open PySem PySem.Spec PyProof.Rows L2
/-! ### a set of a list of ints -/
abbrev nS (w : World) : Obj := { cls := .type "set", dict := none, data := .set #[] 0 (.fresh 0 0 (!w.params.followText "set-order")) }
section
variable {P : Program} {w : World} {A : Around} {E : Value → Shared → Prop} {s : Shared}
set_option maxHeartbeats 3200000 in
theorem call_set_lst {l : Addr} {items : Array Value} (ns : List Int) {Q : Value → Shared → Prop} (hh : A.handled = none) (hl : s.heap.IsList l items) (hit : IntsAre items.toList ns) (hb : ns.length + 1 < scanBound)
    (hQ : ∀ (h' : Heap) (tk c : Nat), SetR w h' s.heap.objs.size (fun j => decide (j ∈ ns)) c → c ≤ ns.length → (∀ b o, s.heap.get? b = some o → h'.get? b = some o) → Q (.ref s.heap.objs.size) { s with heap := h', toks := tk }) :
    wpAny (model P w) A (call (.type "set") [.ref l]) Q E s := by
  have hisz : items.size = ns.length := by have q := IntsAre.length hit; rw [Array.length_toList] at q; exact q
  obtain ⟨c, tl, hmro⟩ := F.called_set.mro; have hmade := F.called_set.made; have hsub := F.called_set.sub
  refine wpAny_call (codeAny_of_tree ?_); show wpAny _ _ (callAny (.type "set") _) _ _ _
  refine wpAny_pure ⟨Code.quiet_builtin _ (by decide +kernel), codeAny_builtin F.entry_type_call ?_⟩; rw [Around.under_plain (weight_type_call_type "set" [.ref l] []) rfl]
  have h1 := F.called_set.notType; have h2 := F.called_set.canCreate; have hct := F.typeCall_set_1 (.ref l)
  repeat (any_goals (first | (assumption) | wp_step))
  refine codeAny_mono (code_set_led1 (.ref l) (E := E) (Q₁ := fun obj s₁ => obj = .ref s.heap.objs.size ∧ s₁ = { s with heap := s.heap.push (nS w) }) ⟨rfl, rfl⟩) fun r s₁ hr => ?_
  cases r with
  | error e => exact hr
  | ok fl =>
    cases fl with
    | ret obj =>
      obtain ⟨rfl, rfl⟩ := hr
      have hS : (s.heap.push (nS w)).get? s.heap.objs.size = some (nS w) := Heap.get?_push_size _ rfl
      have hT : Shared.TypeIs { s with heap := s.heap.push (nS w) } (.ref s.heap.objs.size) "set" := ⟨_, hS, rfl⟩
      have hli := F.called_set.init.lookup; have hbi := F.called_set.init.bind (.ref s.heap.objs.size)
      repeat (any_goals (first | (assumption) | wp_step))
      refine codeAny_mono (codeAny_call_builtin (R := wants (fun r s₂ => r = .none ∧ ∃ h' tk c, s₂ = { s with heap := h', toks := tk } ∧ SetR w h' s.heap.objs.size (fun j => decide (j ∈ ns)) c ∧ c ≤ ns.length ∧ (∀ b o, s.heap.get? b = some o → h'.get? b = some o)) E) F.called_set.init.plain F.entry_set_init (check_set_init_1 hT ?_)) fun r₂ s₂ hr₂ => ?_
      · obtain ⟨ol, hol, hcl, nl, hdl⟩ := hl
        obtain ⟨ocls, odict, odata, oslots⟩ := ol; simp only at hcl hdl; subst hcl; subst hdl
        have hol' : (s.heap.push (nS w)).get? l = some { cls := .type "list", dict := odict, data := .seq items nl, slots := oslots } := Heap.get?_push_of_some _ hol
        have hsls := F.sub_list_set; have hslf := F.sub_list_frozenset
        have hne : (Value.type "list" == Value.type "dict") = false := by decide
        have hl1 : (s.heap.push (nS w)).IsList l items := ⟨_, hol', rfl, nl, rfl⟩
        unfold Builtin.«set.__init__» noKeywords Builtin.Frozenset.updateFrom; generalize hPI : pyIter = PI
        wp_walk
        subst hPI
        refine wpAny_pyIter_list hl1 ?_; refine wpAny_bind (wpAny_runValue ?_)
        have hlS : l < s.heap.objs.size := Heap.lt_size hol
        have hh3 : A.in1.in1.in1.handled = none := by rw [Around.in1_handled, Around.in1_handled, Around.in1_handled]; exact hh
        have hneI : l ≠ (s.heap.push (nS w)).objs.size := by rw [Heap.size_push]; exact Nat.ne_of_lt (Nat.lt_succ_of_lt hlS)
        have hSf : s.heap.objs.size ∉ [(s.heap.push (nS w)).objs.size, l] := by
          rw [Heap.size_push]; simp only [List.mem_cons, List.mem_singleton, List.not_mem_nil, or_false, not_or]; exact ⟨Nat.ne_of_lt (Nat.lt_succ_self _), Nat.ne_of_gt hlS⟩
        have hval : ∀ (i : Nat) (v : Value), items[i]? = some v → ∃ k t, ns[i]? = some k ∧ v = .int k t := fun i v hv => by
          have hi : i < ns.length := by rw [← hisz]; exact (Array.getElem?_eq_some_iff.mp hv).1
          obtain ⟨t, e⟩ := PyProof.Rows.IntsAre.int_at hit i v (by rw [Array.getElem?_toList]; exact hv)
          exact ⟨ns[i], t, List.getElem?_eq_getElem hi, by rw [e, List.getD_eq_getElem?_getD, List.getElem?_eq_getElem hi]; rfl⟩
        refine set_update_ints ((Walks.list hh3 _ l hneI items).toS) s.heap.objs.size hSf ns hisz hb hval (items.size - 0) 0 _ (by omega) (Nat.zero_le _) ⟨⟨_, Heap.get?_push_size _ rfl, rfl, rfl⟩, (hl1.push _)⟩ ?hS0 ?hR
        case hS0 => exact ⟨0, Nat.le_refl 0, setR_new_at (Heap.get?_push_of_some _ hS)⟩
        case hR =>
          intro s' c' hm hc' hS'; obtain ⟨h', g2, d', tk', os'⟩ := s'
          have eg : g2 = s.gens := hm.gens; have ed : d' = s.drawn := hm.drawn; have eo : os' = s.os := hm.os; subst eg; subst ed; subst eo
          show wpAny _ _ _ _ _ _; refine wpAny_pure ?_; show wpAny _ _ (PySem.ret Value.none) _ _ _
          rw [hisz] at hc'
          refine wpAny_pure ⟨rfl, h', tk', c', rfl, hS', hc', fun b o e => ?_⟩
          have hb0 : b < s.heap.objs.size := Heap.lt_size e
          refine hm.heap b o ?_ (Heap.get?_push_of_some _ (Heap.get?_push_of_some _ e))
          rw [Heap.size_push]; simp only [List.mem_cons, List.mem_singleton, List.not_mem_nil, or_false, not_or]; exact ⟨Nat.ne_of_lt hb0, Nat.ne_of_lt (Nat.lt_succ_of_lt hb0)⟩
      · cases r₂ with
        | error e => exact hr₂
        | ok fl₂ =>
          cases fl₂ with
          | ret r =>
            obtain ⟨rfl, h', tk, c', rfl, hS', hc', hk'⟩ := hr₂
            repeat (any_goals (first | (assumption) | wp_step))
            exact hQ _ _ _ hS' hc' hk'
          | _ => exact hr₂.elim
    | _ => exact hr.elim
end
end VS
set_option Elab.async false
set_option linter.all false
set_option maxRecDepth 100000
/-! VS15: the keys of a dict (list, sorted), sorted(set(list of ints)), len(set(..)). -/
namespace VS
open PySem PySem.Spec PyProof.Rows L2
section
variable {pr : Program} {wo : World} {Ar : Around} {Er : Value → Shared → Prop} {st : Shared}
open PySem.W in
theorem sorted_of {β : Type} {v : Value} {en : β → PyData} {R : Value → β → Prop} {Good : List Value → Shared → Prop} {Qr : Value → Shared → Prop}
    (hc : ∀ (Rr : List Value → Shared → Prop), (∀ us s1, Good us s1 → Rr us s1) → wpAny (model pr wo) Ar.in1 (collect v) Rr Er st)
    (k : ∀ us s1, Good us s1 → ∃ bs : List β, EachIs R us bs ∧ EachIs (fun v b => ∃ as, Reads s1.heap v (en b) as) us bs ∧ AllAlike (bs.map en) ∧ Sortable (bs.map en) ∧ bs.length ≤ sizeLine ∧ (∀ b, b ∈ bs → Ar.units + 2 + (en b).depth < cLine) ∧
      ∀ out, out.length = bs.length → EachIs R out (bs.mergeSort (dataLe false en)) → Qr (.ref s1.heap.objs.size) { s1 with heap := sortedHeap (s1.heap.push (seqObj "list" us.toArray 0)) s1.heap.objs.size us (List.toArray out) }) :
    wpAny (model pr wo) Ar (call (.builtin "sorted") [v]) Qr Er st := by
  refine Calls.call_function_entry kind_sorted plain_sorted entry_sorted (args_sorted1 _) ?_
  unfold Builtin.«sorted»
  refine wpAny_bind (m := checkCount "sorted" 1 1 _) (wpAny_pure (wpAny_bind (hc _ fun us s1 gd => ?_)))
  obtain ⟨bs, e, er, al, so, hz, hu, fin⟩ := k us s1 gd
  have hzu : us.length ≤ sizeLine := by rw [e.length]; exact hz
  refine wpAny_bind (wpAny_newList ?_ hzu)
  have hoL : (s1.heap.push (seqObj "list" us.toArray 0)).get? s1.heap.objs.size = some (seqObj "list" us.toArray 0) := Heap.get?_push_size _ rfl
  have er2 : EachIs (fun v b => ∃ as, Reads (sortingHeap (s1.heap.push (seqObj "list" us.toArray 0)) s1.heap.objs.size us) v (en b) as) us bs := er.mono fun _ _ ⟨as, r⟩ => ⟨as, PyProof.Rows.Reads.keeps (fun b o e => sortingHeap_old (Nat.ne_of_lt (Heap.lt_size e)) (Heap.get?_push_of_some _ e)) r⟩
  have sa : SortsAt pr wo Ar.in1.in1 { s1 with heap := sortingHeap (s1.heap.push (seqObj "list" us.toArray 0)) s1.heap.objs.size us } _ us :=
    SortsAt.data (each_map (R := fun v d => ∃ as, Reads (sortingHeap (s1.heap.push (seqObj "list" us.toArray 0)) s1.heap.objs.size us) v d as) en er2) al so (bound_map hu)
  have fin2 := fin _ (by rw [sortVals_length false rfl]; exact e.length) (sortVals_data false e er2 al)
  refine wpAny_bind (wpAny_holding (wpAny_call_entry_kw slot_list_sort ⟨_, hoL, rfl⟩ entry_list_sort ?_ (args_list_sort _)))
  show wpAny (model pr wo) Ar.in1.in1 (Builtin.«list.sort» ⟨[.ref s1.heap.objs.size], []⟩) _ _ _
  exact list_sort_vals (s := { s1 with heap := s1.heap.push (seqObj "list" us.toArray 0) }) hoL sa hzu ⟨_, rfl, wpAny_pure ⟨_, rfl, fin2⟩⟩
end
theorem vals_at : ∀ {xs : List V} {us : List Value}, xs.length = us.length → (∀ (j : Nat) (x : V) (u : Value), xs[j]? = some x → us[j]? = some u → RelV x u) → Vals xs us
  | [], [], _, _ => .nil
  | x :: xs, u :: us, l, h => .cons (h 0 x u rfl rfl) (vals_at (Nat.succ.inj l) fun j x u e1 e2 => h (j + 1) x u (by simpa using e1) (by simpa using e2))
/-! ### the keys of a dict, as data -/
def kD : Key → D
  | .inl i => .int i
  | .inr x => .str x
def keyD (k : List Key) : D := .tup (k.map kD)
def keysOf : D → Option (List D)
  | .dk ks _ => some (ks.map kD)
  | .dt ks _ => some (ks.map keyD)
  | _ => none
theorem kD_rp {K : PySem.W.Frag} {g : Gh} (k : Key) : Rp K g (kV k) (kD k) := by
  cases k with
  | inl i => exact .int i
  | inr x => exact .str x
theorem kD_rps {K : PySem.W.Frag} {g : Gh} : ∀ ks : List Key, Rps K g (ks.map kV) (ks.map kD)
  | [] => .nil
  | k :: r => .cons (kD_rp k) (kD_rps r)
theorem frz_keys {K : PySem.W.Frag} {W : Wd} {H : Hp} : ∀ {g : Gh} (qs : List Addr) (ks : List (List Key)), Ht K g W H → qs.length = ks.length → (∀ (j : Nat) (q : Addr) (k : List Key), qs[j]? = some q → ks[j]? = some k → H q = some (.tup (k.map kV))) → ∃ g', Ht K g' W H ∧ Step g H g' H ∧ Rps K g' (qs.map V.ref) (ks.map keyD)
  | g, [], [], ht, _, _ => ⟨g, ht, .refl _ _, .nil⟩
  | g, q :: qs, k :: ks, ht, l, h => by
    have e := h 0 q k rfl rfl
    obtain ⟨g1, h1, s1, e1⟩ : ∃ g1, Ht K g1 W H ∧ Step g H g1 H ∧ g1.G q = some (.tup (k.map kV)) := by
      cases eg : g.G q with
      | some o =>
        have := ht.sub _ _ eg
        rw [e] at this
        cases this
        exact ⟨g, ht, .refl _ _, eg⟩
      | none =>
        obtain ⟨a, b, _⟩ := ht.frzT (.refl g H) e eg
        exact ⟨_, a, b, upd_same⟩
    obtain ⟨g2, h2, s2, r2⟩ := frz_keys qs ks h1 (Nat.succ.inj l) fun j q k a b => h (j + 1) q k (by simpa using a) (by simpa using b)
    exact ⟨g2, h2, s1.trans s2 h1, .cons (.tup (s2.le.gg _ _ e1) (kD_rps k)) r2⟩
/-- what the keys of a dict are -/
theorem dkeys {X : Cx} {pins : List (Addr × Obj)} {σ : L2.St} {H : Hp} {s : Shared} {g : Gh} {W : Wd} {v : V} {d : D} {ds : List D} (I : Inv X pins σ H s) (ht : Ht X.K g W H) (b : Bo X.K g H v d) (e : keysOf d = some ds) :
    ∃ a es ep, v = .ref a ∧ (a == sysModules) = false ∧ s.heap.DictRaw a es ep ∧ es.size ≤ sizeLine ∧ ∃ g' xs, Ht X.K g' W H ∧ Step g H g' H ∧ Rps X.K g' xs ds ∧ xs.length = es.size ∧ ∀ us : List Value, us.length = es.size → (∀ j u, us[j]? = some u → ∃ hi : j < es.size, u = es[j].key) → Vals xs us := by
  cases d with
  | dk ks vs =>
    cases e
    obtain ⟨a, xs, rfl, rd, l, r⟩ := b.dkT ht
    obtain ⟨hz, hs, ws, kv, dd⟩ := dk_rd I.hok rd
    obtain ⟨es, ep, raw, hes, hent⟩ := dd.raw
    have hl : (ks.zip xs).length = ws.length := Paired.length kv
    rw [List.length_zip, ← l, Nat.min_self] at hl
    rw [List.length_zip, ← l, Nat.min_self] at hz
    refine ⟨a, es, ep, rfl, hs, raw, by omega, g, ks.map kV, ht, .refl _ _, kD_rps ks, by rw [List.length_map]; omega, fun us hu h => vals_at (by rw [List.length_map]; omega) fun j x u e1 e2 => ?_⟩
    rw [List.getElem?_map] at e1
    obtain ⟨k, ek, rfl⟩ := Option.map_eq_some_iff.mp e1
    obtain ⟨hi, rfl⟩ := h j u e2
    have hj : j < ks.length := (List.getElem?_eq_some_iff.mp ek).1
    have ez : (ks.zip xs)[j]? = some (k, xs[j]'(by omega)) := by
      rw [List.getElem?_zip_eq_some]
      exact ⟨ek, List.getElem?_eq_getElem _⟩
    obtain ⟨u2, e3, _⟩ := kv_get kv ez
    exact relV_key (hent j hi _ _ e3).1
  | dt ks vs =>
    cases e
    obtain ⟨a, xs, rfl, rd, l, r⟩ := b.dtT ht
    obtain ⟨hz, hs, ws, kt, dd⟩ := dt_rd I.hok rd
    obtain ⟨es, ep, raw, hes, hent⟩ := dd.raw
    have hl : (ks.zip xs).length = ws.length := Paired.length kt
    rw [List.length_zip, ← l, Nat.min_self] at hl
    rw [List.length_zip, ← l, Nat.min_self] at hz
    have at_ : ∀ (j : Nat) k, ks[j]? = some k → ∃ y, ws[j]? = some y ∧ H y.2.1 = some (.tup (k.map kV)) := fun j k ek => by
      have hj : j < ks.length := (List.getElem?_eq_some_iff.mp ek).1
      have ez : (ks.zip xs)[j]? = some (k, xs[j]'(by omega)) := by
        rw [List.getElem?_zip_eq_some]
        exact ⟨ek, List.getElem?_eq_getElem _⟩
      obtain ⟨y, e3, _, e4, _⟩ := L2.paired_get kt ez
      exact ⟨y, e3, e4⟩
    obtain ⟨g', h', s', rr⟩ := frz_keys (ws.map fun y => y.2.1) ks ht (by rw [List.length_map]; omega) fun j q k e1 e2 => by
      rw [List.getElem?_map] at e1
      obtain ⟨y, ey, rfl⟩ := Option.map_eq_some_iff.mp e1
      obtain ⟨y', ey', e5⟩ := at_ j k e2
      rw [ey] at ey'
      cases ey'
      exact e5
    refine ⟨a, es, ep, rfl, hs, raw, by omega, g', _, h', s', rr, by rw [List.length_map, List.length_map]; omega, fun us hu h => vals_at (by rw [List.length_map, List.length_map]; omega) fun j x u e1 e2 => ?_⟩
    rw [List.getElem?_map, List.getElem?_map] at e1
    obtain ⟨q, e6, rfl⟩ := Option.map_eq_some_iff.mp e1
    obtain ⟨y, ey, rfl⟩ := Option.map_eq_some_iff.mp e6
    obtain ⟨hi, rfl⟩ := h j u e2
    obtain ⟨y', ey', e7, _⟩ := hent j hi
    rw [ey] at ey'
    cases ey'
    show es[j].key = _
    rw [e7]
  | _ => cases e
def sortedH : List D → Option D
  | [d] => match keysOf d with
    | some es => if okS es then some (.lst (srt es)) else none
    | none => sortedG [d]
  | ds => sortedG ds
def listH : List D → Option D
  | [d] => match keysOf d with
    | some es => some (.lst es)
    | none => listD [d]
  | ds => listD ds
section
variable {X : Cx}
theorem c_sortedH (hc : X.calm = true) (hu : X.A.units + 64 < cLine) : CallR X (.builtin "sorted") (rC X.K true sortedH) := by
  intro pins s σ H vs us Q I r ⟨g, W, ds, d, ht, bs, e, q⟩
  unfold sortedH at e
  split at e
  · rename_i d0
    split at e
    · rename_i es0 ek
      split at e
      · rename_i ok
        cases e
        obtain ⟨v, rfl, b⟩ := one_of bs
        obtain ⟨a, es, ep, rfl, hs, raw, hn, g', xs, h', s', rr, hl, hv⟩ := dkeys I ht b ek
        rw [Vals.ref1 r]
        obtain ⟨n1, n2, n3, n4⟩ := okS_of ok
        refine sorted_of (en := pd) (R := fun v d => ∃ x, RelV x v ∧ Rp X.K g' x d) (Good := fun us s1 => ∃ (hp : Heap) (tk : Nat), s1 = { s with heap := hp, toks := tk } ∧ (∀ b o, s.heap.get? b = some o → hp.get? b = some o) ∧ us.length = es.size ∧ ∀ j u, us[j]? = some u → ∃ hi : j < es.size, u = es[j].key)
          (fun Rr hR => PySem.W.kdu_collect (KdlSrc.rawDict hs) (by simpa using I.ok.hd hc) raw hn fun hp tk acc k ha => hR _ _ ⟨hp, tk, rfl, k, by rw [Array.length_toList]; exact ha.1, fun j u eu => ha.2 j u (by rw [← Array.getElem?_toList]; exact eu)⟩) ?_
        rintro us s1 ⟨hp, tk, rfl, kk, hlu, hju⟩
        have rv := hv us hlu hju
        have hz : es0.length ≤ sizeLine := by rw [← rr.length, hl]; exact hn
        refine ⟨es0, each_of rv rr, (each_rd (K := X.K) I h'.sub rv rr n1).mono fun _ _ ⟨as, rd⟩ => ⟨as, PyProof.Rows.Reads.keeps kk rd⟩, n2, n3, hz, fun d hd => by have := n4 d hd; omega, fun out lo eo => ?_⟩
        obtain ⟨ys, ry, qy⟩ := each_back eo
        have hoL : (hp.push (seqObj "list" us.toArray 0)).get? hp.objs.size = some (seqObj "list" us.toArray 0) := Heap.get?_push_size _ rfl
        obtain ⟨c, hcx⟩ := sortedHeap_at (vs := us) (out := out.toArray) hoL
        have hyl : ys.length ≤ sizeLine := by rw [qy.length, List.length_mergeSort]; exact hz
        have hno : s.heap.get? hp.objs.size = none := by
          cases z : s.heap.get? hp.objs.size with
          | none => rfl
          | some o => exact absurd (Heap.lt_size (kk _ _ z)) (Nat.lt_irrefl _)
        have hnH := I.hok.gone hno
        exact ⟨.ref _, upd H hp.objs.size (.lst ys), I.laidN (t' := tk) (fun b o eb => by
          have q1 := kk b o eb
          have hlt := Heap.lt_size q1
          rw [sortedHeap_old (Nat.ne_of_lt hlt) (by rw [size_push']; exact Nat.lt_succ_of_lt hlt)]
          exact Heap.get?_push_of_some _ q1) hno hnH ⟨hyl, out, c, ry, hcx⟩, rfl, newL (w := true) h' qy (fun z H2 g2 h2 s2 o2 => q z H2 g2 h2 (s'.trans s2 h') o2) _ hnH⟩
      · cases e
    · exact c_sortedG hu pins s σ H vs us Q I r ⟨g, W, _, d, ht, bs, e, q⟩
  · exact c_sortedG hu pins s σ H vs us Q I r ⟨g, W, _, d, ht, bs, e, q⟩
theorem c_listH (hc : X.calm = true) : CallR X (.type "list") (rC X.K true listH) := by
  intro pins s σ H vs us Q I r ⟨g, W, ds, d, ht, bs, e, q⟩
  unfold listH at e
  split at e
  · rename_i d0
    split at e
    · rename_i es0 ek
      cases e
      obtain ⟨v, rfl, b⟩ := one_of bs
      obtain ⟨a, es, ep, rfl, hs, raw, hn, g', xs, h', s', rr, hl, hv⟩ := dkeys I ht b ek
      rw [Vals.ref1 r]
      refine PySem.W.kdl_call (KdlSrc.rawDict hs) (I.ok.hd hc) raw hn fun hp tk acc c k hS ha => ?_
      have rv := hv acc.toList (by rw [Array.length_toList]; exact ha.1) fun j u eu => ha.2 j u (by rw [← Array.getElem?_toList]; exact eu)
      have hxl : xs.length ≤ sizeLine := by rw [hl]; exact hn
      exact ⟨.ref _, upd H s.heap.objs.size (.lst xs), I.laid (t' := tk) k (Nat.le_refl _) ⟨hxl, acc.toList, c, rv, by rw [Array.toArray_toList]; exact hS⟩, rfl, newL (w := true) h' rr (fun z H2 g2 h2 s2 o2 => q z H2 g2 h2 (s'.trans s2 h') o2) _ (I.hok.fresh (Nat.le_refl _))⟩
    · exact c_list pins s σ H vs us Q I r ⟨g, W, _, d, ht, bs, e, q⟩
  · exact c_list pins s σ H vs us Q I r ⟨g, W, _, d, ht, bs, e, q⟩
end
/-! ### sorted(set(e)), e a list of ints -/
/-- each once -/
def dd : List Int → List Int
  | [] => []
  | x :: r => if x ∈ r then dd r else x :: dd r
theorem mem_dd {x : Int} : ∀ {l : List Int}, x ∈ dd l ↔ x ∈ l
  | [] => Iff.rfl
  | y :: r => by
    unfold dd
    by_cases c : y ∈ r
    · rw [if_pos c, mem_dd, List.mem_cons]
      exact ⟨.inr, fun h => h.elim (fun e => by subst e; exact c) id⟩
    · rw [if_neg c, List.mem_cons, List.mem_cons, mem_dd]
theorem dd_nodup : ∀ l : List Int, (dd l).Nodup
  | [] => List.nodup_nil
  | y :: r => by
    unfold dd
    by_cases c : y ∈ r
    · rw [if_pos c]; exact dd_nodup r
    · rw [if_neg c, List.nodup_cons]
      exact ⟨fun h => c (mem_dd.mp h), dd_nodup r⟩
/-- rising, each once -/
def once (ns : List Int) : List Int := sortI (dd ns)
theorem mem_once {x : Int} {ns : List Int} : x ∈ once ns ↔ x ∈ ns := by
  unfold once
  rw [(sortI_perm _).mem_iff, mem_dd]
theorem once_rising (ns : List Int) : (once ns).Pairwise (· < ·) := lt_of_le_nodup _ (sortI_sorted _) ((sortI_perm _).nodup_iff.mpr (dd_nodup ns))
theorem rising_one : ∀ {xs ys : List Int}, xs.Pairwise (· < ·) → ys.Pairwise (· < ·) → (∀ x, x ∈ xs ↔ x ∈ ys) → xs = ys
  | [], [], _, _, _ => rfl
  | [], y :: r, _, _, h => absurd ((h y).mpr (List.mem_cons_self ..)) (by simp)
  | x :: r, [], _, _, h => absurd ((h x).mp (List.mem_cons_self ..)) (by simp)
  | x :: r, y :: q, h1, h2, h => by
    have p1 := List.pairwise_cons.mp h1
    have p2 := List.pairwise_cons.mp h2
    have e : x = y := by
      rcases List.mem_cons.mp ((h x).mp (List.mem_cons_self ..)) with e | m1
      · exact e
      · rcases List.mem_cons.mp ((h y).mpr (List.mem_cons_self ..)) with e | m2
        · exact e.symm
        · have := p2.1 x m1
          have := p1.1 y m2
          omega
    subst e
    rw [rising_one p1.2 p2.2 fun z => ⟨fun hz => ?_, fun hz => ?_⟩]
    · have := p1.1 z hz
      rcases List.mem_cons.mp ((h z).mp (List.mem_cons_of_mem _ hz)) with e | hz
      · omega
      · exact hz
    · have := p2.1 z hz
      rcases List.mem_cons.mp ((h z).mpr (List.mem_cons_of_mem _ hz)) with e | hz
      · omega
      · exact hz
def sortSetD : D → Option D
  | .lst ds => (asInts ds).bind fun ns => if ns.length < 4090 then some (.lst ((once ns).map .int)) else none
  | _ => none
def sortSetF (f : VS.Env → M D) : VS.Env → M D := fun ρ => bnd (f ρ) fun d => ofO (sortSetD d)
def tSortSet (K : PySem.W.Frag) (te : TE) : TE := fun σ H Q => te σ H fun v H1 => ∃ (a : Addr) (ns : List Int), v = .ref a ∧ SqL K H1 a (ns.map V.int) ∧ ns.length < 4095 ∧ ∀ q, H1 q = none → Q (.ref q) (upd H1 q (.lst ((once ns).map V.int)))
section
variable {X : L2.Cx}
theorem pe_sortSet {e : Expr} {te : TE} {p p2 pos pos2 : Pos} (hc : X.calm = true) (hu : X.A.units + 64 < cLine) (hg : Gl X "sorted") (hm : X.mg "sorted" = none) (hg2 : Gl X "set") (hm2 : X.mg "set" = none) (he : PE X e te)
    (hs : starEach [e] X.env = (false, eval e X.env) :: starEach [] X.env := by rfl)
    (hs2 : starEach [.Call (.Name "set" p2) [e] [] pos2] X.env = (false, eval (.Call (.Name "set" p2) [e] [] pos2) X.env) :: starEach [] X.env := by rfl) :
    PE X (.Call (.Name "sorted" p) [.Call (.Name "set" p2) [e] [] pos2] [] pos) (tSortSet X.K te) := by
  refine ⟨fun pins s σ H Q I h => ?_⟩
  have hbs : bootBuiltins "sorted" = some (.builtin "sorted") := by decide +kernel
  refine Call_ (ld_blt I hg hm hbs (PyProof.Rows.callWith_builtin1 (args_cons (Call_ (ld_blt I hg2 hm2 PyProof.Rows.boot_set (PyProof.Rows.callWith_type1 (args_cons (thn (he.run pins s σ H _ I h) fun u s1 ⟨v, H1, I1, r1, q1⟩ => args_nil ?_) hs) hs rfl))) hs2) hs2 rfl))
  obtain ⟨a, ns, ev, hq, hl, q⟩ := q1
  subst ev
  obtain rfl : u = Value.ref a := r1
  obtain ⟨its, rv, p', hz⟩ := I1.list hq
  have hit : IntsAre its.toArray.toList ns := by simpa using rv.ints
  refine call_set_lst ns (I1.ok.hd hc) p'.isList hit (by unfold scanBound; omega) fun h' tk c R1 hcn k0 => args_nil ?_
  obtain ⟨o, es, ep, t, ho, hex, hdt, g, nd, hm3, hb, hf, hn, hr, hl2⟩ := R1
  have mem : ∀ x : Int, x ∈ es.toList.map keyOf ↔ x ∈ ns := fun x => by rw [← hm3 x, decide_eq_true_eq]
  refine sorted_of (β := Int) (en := fun k : Int => PyData.int k) (R := fun v k => ∃ t, v = Value.int k t) (Good := fun us s2 => (∀ b o, s1.heap.get? b = some o → s2.heap.get? b = some o) ∧ s2.gens = s1.gens ∧ s2.os = s1.os ∧ us.Perm (es.toList.map (·.2)))
    (fun Rr hR => collect_set (s := { s1 with heap := h', toks := tk }) (by simpa using I1.ok.hd hc) ⟨o, ho, hex.1, hdt⟩ hf hb hr hl2 fun s2 out k1 _ g1 o1 pm => hR _ _ ⟨fun b u e => k1 b u (k0 b u e), g1, o1, pm⟩) ?_
  rintro us s2 ⟨kk, g2, o2, pm⟩
  have hI : IntsAre us (us.map Builtin.Re.reRawOf) := ints_of us fun v hv => by
    obtain ⟨e, he2, q2⟩ := List.mem_map.mp (pm.mem_iff.mp hv)
    obtain ⟨kx, tkx, h1, _⟩ := g e he2
    exact ⟨kx, tkx, by rw [← q2]; exact h1⟩
  have pk : (us.map Builtin.Re.reRawOf).Perm (es.toList.map keyOf) := by
    have q3 := pm.map Builtin.Re.reRawOf
    rw [List.map_map] at q3
    exact q3
  generalize us.map Builtin.Re.reRawOf = ks at *
  have ei : PySem.W.EachIs (fun v k => ∃ t, v = Value.int k t) us ks := by
    clear pk pm
    induction hI with
    | nil => exact .nil
    | cons k t _ ih => exact .cons ⟨t, rfl⟩ ih
  have hz2 : ks.length ≤ sizeLine := by
    rw [pk.length_eq, List.length_map, Array.length_toList]
    exact fits_of_scanBound hb
  refine ⟨ks, ei, ei.mono fun _ _ ⟨t, e⟩ => by subst e; exact ⟨[], .int ..⟩, ?_, ?_, hz2, fun b _ => ?_, fun out lo eo => ?_⟩
  · exact PySem.W.AllAlike.of fun b b' => by simp [PySem.W.alike]
  · exact PySem.W.Sortable.others fun b => ⟨(fun z => by cases z), fun xs z => (by cases z)⟩
  · show X.A.units + 2 + PyData.depth (.int b) < cLine
    simp only [PyData.depth]
    omega
  have srt0 : ks.mergeSort (PySem.W.dataLe false fun k : Int => PyData.int k) = once ns := by
    refine rising_one ?_ (once_rising ns) fun x => ?_
    · have h1 : ks.mergeSort (PySem.W.dataLe false fun k : Int => PyData.int k) = sortI ks := by
        unfold sortI
        congr 1
        exact PySem.W.dataLe_int fun k : Int => k
      rw [h1]
      exact lt_of_le_nodup _ (sortI_sorted _) ((sortI_perm _).nodup_iff.mpr (pk.nodup_iff.mpr nd))
    · rw [(List.mergeSort_perm _ _).mem_iff, pk.mem_iff, mem_once]
      exact mem x
  rw [srt0] at eo
  have hno : s1.heap.get? s2.heap.objs.size = none := by
    cases z : s1.heap.get? s2.heap.objs.size with
    | none => rfl
    | some o => exact absurd (Heap.lt_size (kk _ _ z)) (Nat.lt_irrefl _)
  have hnH := I1.hok.gone hno
  have hoL : (s2.heap.push (seqObj "list" us.toArray 0)).get? s2.heap.objs.size = some (seqObj "list" us.toArray 0) := Heap.get?_push_size _ rfl
  obtain ⟨c2, hcx⟩ := sortedHeap_at (vs := us) (out := out.toArray) hoL
  have rvs : Vals ((once ns).map V.int) out := by
    clear hcx
    generalize once ns = zs at eo
    clear srt0 lo
    induction eo with
    | nil => exact .nil
    | cons r _ ih =>
      obtain ⟨t, rfl⟩ := r
      exact .cons ⟨t, rfl⟩ ih
  have hyl : ((once ns).map V.int).length ≤ sizeLine := by
    rw [List.length_map, ← srt0, List.length_mergeSort]
    exact hz2
  have kf : ∀ b o, s1.heap.get? b = some o → (sortedHeap (s2.heap.push (seqObj "list" us.toArray 0)) s2.heap.objs.size us out.toArray).get? b = some o := fun b o eb => by
    have q1 := kk b o eb
    have hlt := Heap.lt_size q1
    rw [sortedHeap_old (Nat.ne_of_lt hlt) (by rw [size_push']; exact Nat.lt_succ_of_lt hlt)]
    exact Heap.get?_push_of_some _ q1
  have J : Inv X pins σ (upd H1 s2.heap.objs.size (.lst ((once ns).map V.int))) { s2 with heap := sortedHeap (s2.heap.push (seqObj "list" us.toArray 0)) s2.heap.objs.size us out.toArray } :=
    I1.call' (ch := []) o2 (Un.laidN kf hno hnH) (I1.hok.laidN kf hnH ⟨hyl, out, c2, rvs, hcx⟩) (by show AllBare s2.gens; rw [g2]; exact I1.bare) (fun _ z => nomatch z)
  exact ⟨.ref _, _, J, rfl, q _ hnH⟩
end
section
variable {X : Cx} {τ : Tg} {e : Expr} {p pos : Pos} {f : VS.Env → M D}
theorem v_sortSet {p2 pos2 : Pos} (hc : X.calm = true) (hu : X.A.units + 64 < cLine) (hm : X.mg "sorted" = none) (hm2 : X.mg "set" = none) (he : FR X τ e f) (hg : Gl X "sorted" := by rfl) (hg2 : Gl X "set" := by rfl)
    (hs : starEach [e] X.env = (false, eval e X.env) :: starEach [] X.env := by rfl)
    (hs2 : starEach [.Call (.Name "set" p2) [e] [] pos2] X.env = (false, eval (.Call (.Name "set" p2) [e] [] pos2) X.env) :: starEach [] X.env := by rfl) :
    FV X τ true (.Call (.Name "sorted" p) [.Call (.Name "set" p2) [e] [] pos2] [] pos) (sortSetF f) := PE.wk (pe_sortSet hc hu hg hm hg2 hm2 he hs hs2) fun σ H Q ⟨ρ, W, g, k, W', ht, sl, ef, q⟩ => by
  obtain ⟨d, W1, ed, ef⟩ := bnd_some ef
  refine ⟨ρ, W, g, d, W1, ht, sl, ed, fun v H1 g1 h1 s1 o => ?_⟩
  obtain ⟨ek, rfl⟩ := ofO_some ef
  cases d with
  | lst ds =>
    obtain ⟨ns, en, e2⟩ := Option.bind_eq_some_iff.mp ek
    by_cases hl : ns.length < 4090
    · rw [if_pos hl] at e2
      cases e2
      obtain ⟨a, xs, rfl, h, r⟩ := o.lstT h1
      rw [asInts_some en] at r
      rw [r.of_ints] at h
      exact ⟨a, ns, rfl, .of h, by omega, newL (w := true) h1 (.ints _) fun z H2 g2 h2 s2 o2 => q z H2 g2 h2 (s1.trans s2 h1) (o2.pre s1 h1)⟩
    · rw [if_neg hl] at e2
      cases e2
  | _ => cases ek
end
end VS
set_option Elab.async false
set_option linter.all false
set_option maxRecDepth 100000
/-! VS16: gcd of three, lcm, in for dicts, the keys of a dict one by one. -/
namespace VS
open PySem PySem.Spec PySem.Calls PyProof.Rows L2
section
variable {X : Cx}
/-! gcd of three -/
theorem args_gcd3 (a b c : Value) : argsOk "math.gcd" ⟨[a, b, c], []⟩ := by unfold argsOk; kernel_rfl
theorem run_gcd3 (a : Int) (t : Tok) (b : Int) (u : Tok) (c : Int) (v : Tok) : Gives (Builtin.«math.gcd» ⟨[.int a t, .int b u, .int c v], []⟩) (.int (((((Nat.gcd 0 a.natAbs).gcd b.natAbs).gcd c.natAbs : Nat) : Int))) :=
  .of_wp fun M A E s Q h => by obtain ⟨hp, g, d, tk, os⟩ := s; wp_walk; exact ⟨_, rfl, h⟩
theorem cr_gcd3 : CallR X (.builtin "math.gcd") (fun vs H Q => ∃ a b c : Int, vs = [.int a, .int b, .int c] ∧ Q (.int (((a.natAbs.gcd b.natAbs).gcd c.natAbs : Nat) : Int)) H) := by
  intro pins s σ H vs us Q I r h
  obtain ⟨a, b, c, rfl, q⟩ := h
  cases r with
  | cons r1 r =>
    obtain ⟨u, v, rfl⟩ := Vals.int2 r
    obtain ⟨t, rfl⟩ := r1
    have g := run_gcd3 a t b u c v
    rw [Nat.gcd_zero_left] at g
    exact call_function_meets PySem.W.MGF.kind_gcd PySem.W.MGF.plain_gcd PySem.W.MGF.entry_gcd (args_gcd3 _ _ _) g.meets ⟨.int _, H, I.tok _, ⟨_, rfl⟩, q⟩
def gcd3D : List D → Option D := int3 fun i j k => some (.int ((i.natAbs.gcd j.natAbs).gcd k.natAbs : Nat))
theorem c_gcd3 : CallR X (.builtin "math.gcd") (rC X.K false gcd3D) := callS cr_gcd3 fun {g W H vs ds d} ht bs e => by
  obtain ⟨i, j, k, rfl, e⟩ := int3_some e
  obtain ⟨v, v', v'', rfl, b, b', b''⟩ := three_of bs
  cases e
  exact ⟨_, .int _, fun Q q => ⟨i, j, k, by rw [b.intT, b'.intT, b''.intT], q⟩⟩
/-! lcm -/
theorem cr_lcm : CallR X (.builtin "math.lcm") (fun vs H Q => ∃ a b : Int, vs = [.int a, .int b] ∧ a.natAbs.log2 < 13000 ∧ b.natAbs.log2 < 13000 ∧ Q (.int ((a.natAbs.lcm b.natAbs : Nat) : Int)) H) := by
  intro pins s σ H vs us Q I r h
  obtain ⟨a, b, rfl, ha, hb, q⟩ := h
  obtain ⟨t, u, rfl⟩ := Vals.int2 r
  have m1 : (max 1 a.natAbs).log2 < 13000 := by
    by_cases c : a.natAbs ≤ 1
    · rw [Nat.max_eq_left c]; decide
    · rw [Nat.max_eq_right (by omega)]; exact ha
  have m2 : (max a.natAbs b.natAbs).log2 < 13000 := by
    by_cases c : a.natAbs ≤ b.natAbs
    · rw [Nat.max_eq_right c]; exact hb
    · rw [Nat.max_eq_left (by omega)]; exact ha
  have hsz : ((((Nat.lcm 1 a.natAbs).lcm b.natAbs : Nat) : Int)).natAbs.log2 < bitsLine := by
    rw [Int.natAbs_natCast, Nat.lcm_one_left]
    by_cases z : a.natAbs.lcm b.natAbs = 0
    · rw [z]; decide
    · have l1 : a.natAbs.lcm b.natAbs ≤ a.natAbs * b.natAbs := Nat.div_le_self _ _
      have l2 : a.natAbs < 2 ^ 13000 := by
        by_cases y : a.natAbs = 0
        · rw [y]; exact Nat.two_pow_pos _
        · exact (Nat.log2_lt y).mp ha
      have l3 : b.natAbs < 2 ^ 13000 := by
        by_cases y : b.natAbs = 0
        · rw [y]; exact Nat.two_pow_pos _
        · exact (Nat.log2_lt y).mp hb
      refine Nat.lt_of_lt_of_le ((Nat.log2_lt z).mpr (Nat.lt_of_le_of_lt l1 (Nat.mul_lt_mul'' l2 l3 |> fun h => by rw [← Nat.pow_add] at h; exact h))) ?_
      rw [show (bitsLine : Nat) = 134217728 by decide]
      decide
  have g := PySem.W.mg_run_lcm a t b u (by omega) (by omega) hsz
  rw [Nat.lcm_one_left] at g
  exact call_function_meets PySem.W.MGF.kind_lcm PySem.W.MGF.plain_lcm PySem.W.MGF.entry_lcm (PySem.W.MGF.args_lcm _ _) g.meets ⟨.int _, H, I.tok _, ⟨_, rfl⟩, q⟩
def lcmD : List D → Option D := int2 fun i j => if i.natAbs.log2 < 13000 ∧ j.natAbs.log2 < 13000 then some (.int (i.natAbs.lcm j.natAbs : Nat)) else none
theorem c_lcm : CallR X (.builtin "math.lcm") (rC X.K false lcmD) := callS cr_lcm fun {g W H vs ds d} ht bs e => by
  obtain ⟨i, j, rfl, e'⟩ := int2_some e
  clear e
  obtain ⟨v, v', rfl, b, b'⟩ := two_of bs
  split at e'
  · rename_i c
    cases e'
    exact ⟨_, .int _, fun Q q => ⟨i, j, by rw [b.intT, b'.intT], c.1, c.2, q⟩⟩
  · cases e'
/-! x in d -/
def inG (x y : D) : Option D := match y with
  | .dk _ _ => (dGet y x).map fun o => .bl o.isSome
  | .dt _ _ => (dGet y x).map fun o => .bl o.isSome
  | _ => inD x y
def ninG (x y : D) : Option D := match y with
  | .dk _ _ => (dGet y x).map fun o => .bl (!o.isSome)
  | .dt _ _ => (dGet y x).map fun o => .bl (!o.isSome)
  | _ => ninD x y
theorem isSome_rel {K : PySem.W.Frag} {g : Gh} {o : Option D} {ov : Option V} (h1 : ∀ d, o = some d → ∃ v, ov = some v ∧ Rp K g v d) (h2 : o = none → ov = none) : ov.isSome = o.isSome := by
  cases o with
  | none => rw [h2 rfl]; rfl
  | some d => obtain ⟨v, rfl, _⟩ := h1 d rfl; rfl
theorem o_inG (hu : X.A.units + 65 < cLine) : OpR X (compareOp .In) (rS X.K false inG) := by
  intro pins s σ H x y u v Q I rx ry ⟨g, W, da, db, d, ht, bx, by_, e, q⟩
  have dict : ∀ o, dGet db da = some o → d = .bl o.isSome → wpAny (model X.prog X.w) X.A (compareOp .In u v) (EP X pins σ Q) X.xe s := fun o e1 e2 => by
    subst e2
    obtain ⟨a, ov, rfl, _, dg, k1, k2⟩ := dget_rel ht by_ bx e1
    cases (show v = Value.ref a from ry)
    refine d_in (by omega) I dg rx fun s' I' => ⟨.bl _, H, I', rfl, ?_⟩
    rw [isSome_rel k1 k2]
    exact q _ H g ht (.refl _ _) (.bl _)
  cases db with
  | dk ks ds => obtain ⟨o, e1, e2⟩ := Option.map_eq_some_iff.mp e; exact dict o e1 e2.symm
  | dt ks ds => obtain ⟨o, e1, e2⟩ := Option.map_eq_some_iff.mp e; exact dict o e1 e2.symm
  | _ => exact o_in hu pins s σ H x y u v Q I rx ry ⟨g, W, da, _, d, ht, bx, by_, e, q⟩
theorem o_ninG (hu : X.A.units + 65 < cLine) : OpR X (compareOp .NotIn) (rS X.K false ninG) := by
  intro pins s σ H x y u v Q I rx ry ⟨g, W, da, db, d, ht, bx, by_, e, q⟩
  have dict : ∀ o, dGet db da = some o → d = .bl (!o.isSome) → wpAny (model X.prog X.w) X.A (compareOp .NotIn u v) (EP X pins σ Q) X.xe s := fun o e1 e2 => by
    subst e2
    obtain ⟨a, ov, rfl, _, dg, k1, k2⟩ := dget_rel ht by_ bx e1
    cases (show v = Value.ref a from ry)
    refine d_notIn (by omega) I dg rx fun s' I' => ⟨.bl _, H, I', rfl, ?_⟩
    rw [isSome_rel k1 k2]
    exact q _ H g ht (.refl _ _) (.bl _)
  cases db with
  | dk ks ds => obtain ⟨o, e1, e2⟩ := Option.map_eq_some_iff.mp e; exact dict o e1 e2.symm
  | dt ks ds => obtain ⟨o, e1, e2⟩ := Option.map_eq_some_iff.mp e; exact dict o e1 e2.symm
  | _ => exact o_nin hu pins s σ H x y u v Q I rx ry ⟨g, W, da, _, d, ht, bx, by_, e, q⟩
end
/-! the keys, one by one -/
def keysI (f : VS.Env → M D) : VS.Env → M (List D) := fun ρ => bnd (f ρ) fun d => ofO (keysOf d)
section
variable {X : Cx} {τ : Tg} {tg e : Expr} {fe : VS.Env → M D}
theorem i_keys (h : FV X τ false e fe) : FI X τ tg e (keysI fe) := PI.wk (pi_keys h) fun σ H R ⟨ρ, W, g, ds, W', ht, sl, es, q⟩ => by
  obtain ⟨d, W1, ed, es⟩ := bnd_some es
  obtain ⟨ei, rfl⟩ := ofO_some es
  refine ⟨ρ, W, g, d, _, ht, sl, ed, fun v H' g' h' s r => ?_⟩
  cases r with
  | @dk a od ks xs vs hs l rr =>
    cases ei
    refine ⟨a, od, rfl, .inl ⟨_, h'.sub _ _ hs, q _ H' g' h' s fun i g2 H2 W2 h2 le => ?_⟩⟩
    have qh := h2.sub _ _ (le.gg _ _ hs)
    have hz : (ks.zip xs).length = ks.length := by rw [List.length_zip, ← l, Nat.min_self]
    refine ⟨fun d e => ?_, fun ll => ⟨qh, by rw [hz]; simpa using ll⟩⟩
    rw [List.getElem?_map] at e
    obtain ⟨k, ek, rfl⟩ := Option.map_eq_some_iff.mp e
    have hi := (List.getElem?_eq_some_iff.mp ek).1
    refine ⟨⟨qh, by rw [hz]; exact hi⟩, fun x H3 y => ?_⟩
    obtain ⟨rfl, k', v', e1, rfl⟩ := y
    have e2 := (List.getElem?_zip_eq_some.mp e1).1
    rw [ek] at e2
    cases e2
    exact ⟨g2, h2, .refl _ _, kD_rp _⟩
  | @dt a od ks xs vs hs l rr =>
    cases ei
    refine ⟨a, od, rfl, .inr ⟨_, h'.sub _ _ hs, q _ H' g' h' s fun i g2 H2 W2 h2 le => ?_⟩⟩
    have qh := h2.sub _ _ (le.gg _ _ hs)
    have hz : (ks.zip xs).length = ks.length := by rw [List.length_zip, ← l, Nat.min_self]
    refine ⟨fun d e => ?_, fun ll => ⟨qh, by rw [hz]; simpa using ll⟩⟩
    rw [List.getElem?_map] at e
    obtain ⟨k, ek, rfl⟩ := Option.map_eq_some_iff.mp e
    have hi := (List.getElem?_eq_some_iff.mp ek).1
    refine ⟨⟨qh, by rw [hz]; exact hi⟩, fun x H3 y => ?_⟩
    obtain ⟨rfl, k', v', qa, e1, rfl, e3⟩ := y
    have e2 := (List.getElem?_zip_eq_some.mp e1).1
    rw [ek] at e2
    obtain rfl : k = k' := Option.some.inj e2
    obtain ⟨g3, h3, s3, r3⟩ := frz_keys [qa] [k] h2 rfl fun j q k' a b => by
      cases j with
      | zero => simp at a b; subst a; subst b; exact e3
      | succ j => simp at a
    cases r3 with
    | cons r _ => exact ⟨g3, h3, s3, r⟩
  | _ => cases ei
end
end VS
set_option Elab.async false
set_option linter.all false
set_option maxRecDepth 100000
/-! VS17: dict of a list of pairs. -/
namespace VS
open PySem PySem.Spec PySem.Calls PyProof.Rows L2
/-- the pairs (key, value) of a list -/
def asPairs : List D → Option (List (Key × D))
  | [] => some []
  | .tup [k, v] :: r => (asKey k).bind fun k => (asPairs r).map fun ps => (k, v) :: ps
  | _ => none
def putAll : List (Key × D) → List Key × List D → List Key × List D
  | [], p => p
  | (k, v) :: r, p => putAll r (dPutK p.1 k, dPutV p.1 p.2 k v)
def dictD : List D → Option D
  | [.lst ds] => (asPairs ds).map fun ps => .dk (putAll ps ([], [])).1 (putAll ps ([], [])).2
  | _ => none
section
variable {K : PySem.W.Frag} {g : Gh} {W : Wd} {H : Hp}
theorem pairs_rel (ht : Ht K g W H) : ∀ {xs : List V} {ds : List D} {ps : List (Key × D)}, Rps K g xs ds → asPairs ds = some ps → ∃ (as : List Addr) (kvs : List (Key × V)), xs = as.map V.ref ∧ Paired (fun p (kv : Key × V) => SqT K H p [kV kv.1, kv.2]) as kvs ∧ Paired (fun (kv : Key × V) (p : Key × D) => kv.1 = p.1 ∧ Rp K g kv.2 p.2) kvs ps
  | _, _, _, .nil, e => by cases e; exact ⟨[], [], rfl, .nil, .nil⟩
  | _, d :: ds, ps, .cons h r, e => by
    unfold asPairs at e
    split at e
    · rename_i e0; cases e0
    · rename_i k v r' e0
      cases e0
      obtain ⟨kk, e1, e2⟩ := Option.bind_eq_some_iff.mp e
      obtain ⟨ps', e3, rfl⟩ := Option.map_eq_some_iff.mp e2
      obtain ⟨as, kvs, rfl, p1, p2⟩ := pairs_rel ht r e3
      cases h with
      | @tup a ys _ hs rr =>
        cases rr with
        | cons h1 rr =>
          cases rr with
          | cons h2 rr =>
            cases rr
            have ek := asKey_rel (H := H) (.inl h1) e1
            subst ek
            exact ⟨a :: as, (kk, _) :: kvs, rfl, .cons (.of (ht.sub _ _ hs)) p1, .cons (show kk = kk ∧ Rp K g _ v from ⟨rfl, h2⟩) p2⟩
    · cases e
theorem put_all_rel : ∀ {kvs : List (Key × V)} {ps : List (Key × D)} {ks : List Key} {xs : List V} {ds : List D}, Paired (fun (kv : Key × V) (p : Key × D) => kv.1 = p.1 ∧ Rp K g kv.2 p.2) kvs ps → ks.length = xs.length → Rps K g xs ds →
    ∃ ys, mergeK (ks.zip xs) kvs = (putAll ps (ks, ds)).1.zip ys ∧ (putAll ps (ks, ds)).1.length = ys.length ∧ Rps K g ys (putAll ps (ks, ds)).2
  | _, _, ks, xs, ds, .nil, l, r => ⟨xs, rfl, l, r⟩
  | _, _, ks, xs, ds, .cons h t, l, r => by
    obtain ⟨e, q⟩ := h
    rename_i kv p kvs ps
    obtain ⟨k, v⟩ := kv
    obtain ⟨k', d⟩ := p
    cases e
    obtain ⟨ys, e1, e2, e3⟩ := put_rel k q l r
    obtain ⟨zs, f1, f2, f3⟩ := put_all_rel t e2 e3
    refine ⟨zs, ?_, f2, f3⟩
    show mergeK (putK (ks.zip xs) k v) kvs = _
    rw [e1]
    exact f1
end
section
variable {X : Cx}
theorem c_dict (hc : X.calm = true) : CallR X (.type "dict") (rC X.K true dictD) := CallR.wk (call_dictP hc) fun vs H Q ⟨g, W, ds, d, ht, bs, e, q⟩ => by
  unfold dictD at e
  split at e
  · obtain ⟨v, rfl, b⟩ := one_of bs
    obtain ⟨ps, e1, rfl⟩ := Option.map_eq_some_iff.mp e
    obtain ⟨a, xs, rfl, hx, r⟩ := b.lstT ht
    obtain ⟨as, kvs, rfl, p1, p2⟩ := pairs_rel ht r e1
    obtain ⟨ys, f1, f2, f3⟩ := put_all_rel (ks := []) (xs := []) (ds := []) p2 rfl .nil
    refine ⟨a, as, kvs, rfl, .of hx, p1, fun p n => ?_⟩
    rw [show mergeK [] kvs = _ from f1]
    exact q _ _ g (ht.new n).1 (ht.new n).2 ⟨p, rfl, n, ht.gnone n, ht.bne n, _, upd_same, .dk f2 f3⟩
  · cases e
end
end VS
set_option Elab.async false
set_option linter.all false
set_option maxRecDepth 100000
/-! VS18: how many pairs a dict holds. -/
namespace VS
open PySem PySem.Spec PySem.Calls PyProof.Rows L2
def lenH : List D → Option D
  | [.dk ks _] => some (.int ks.length)
  | [.dt ks _] => some (.int ks.length)
  | ds => lenD ds
section
variable {X : Cx}
theorem c_lenH : CallR X (.builtin "len") (rC X.K false lenH) := by
  intro pins s σ H vs us Q I r ⟨g, W, ds, d, ht, bs, e, q⟩
  unfold lenH at e
  split at e
  · rename_i ks xs0
    cases e
    obtain ⟨v, rfl, b⟩ := one_of bs
    obtain ⟨a, xs, rfl, rd, l, rr⟩ := b.dkT ht
    rw [Vals.ref1 r]
    have hl : (ks.zip xs).length = ks.length := by rw [List.length_zip, ← l, Nat.min_self]
    exact d_len I rd fun t s' I' => ⟨.int (ks.zip xs).length, H, I', ⟨t, rfl⟩, q _ H g ht (.refl _ _) (by rw [hl]; exact .int _)⟩
  · rename_i ks xs0
    cases e
    obtain ⟨v, rfl, b⟩ := one_of bs
    obtain ⟨a, xs, rfl, rd, l, rr⟩ := b.dtT ht
    rw [Vals.ref1 r]
    have hl : (ks.zip xs).length = ks.length := by rw [List.length_zip, ← l, Nat.min_self]
    obtain ⟨z, hd, ys, rel, dd⟩ := dt_rd I.hok rd
    have hl2 : (ks.zip xs).length = ys.length := Paired.length rel
    refine call_len_dictH hd dd (by rw [← hl2]; rw [sizeLine_eq] at z; omega) ?_
    rw [← hl2, hl]
    exact ⟨.int ((ks.length : Nat) : Int), H, I.tok _, ⟨_, rfl⟩, q _ H g ht (.refl _ _) (.int _)⟩
  · exact c_len pins s σ H vs us Q I r ⟨g, W, _, d, ht, bs, e, q⟩
end
end VS
set_option Elab.async false
set_option linter.all false
set_option maxRecDepth 100000
/-! VS19: sorted(e.items()). -/
namespace VS
open PySem PySem.Spec PyProof.Rows L2
def pairD (k : Key) (d : D) : D := .tup [kD k, d]
def itemsD : D → Option (List D)
  | .dk ks ds => some (List.zipWith pairD ks ds)
  | _ => none
def sortItems1 (d : D) : Option D := match itemsD d with
  | some es => if okS es then some (.lst (srt es)) else none
  | none => none
def sortItemsD : List D → Option D
  | [d] => sortItems1 d
  | _ => none
section
variable {X : L2.Cx}
/-- the tuples that the walk over the view has made -/
theorem tups_laid {pins : List (Addr × Obj)} {σ : L2.St} {H : Hp} {s : Shared} {h' : Heap} {tk : Nat} {kvs : List (Key × V)} {vs : List (Key × Value)} {as : List Addr} (I : Inv X pins σ H s) (kv : KV kvs vs)
    (hk : ∀ b o, s.heap.get? b = some o → h'.get? b = some o) (hl : as.length = vs.length) (hG : PySem.W.KdxG (mixKind X.prog X.w) vs s.heap.objs.size h' as) :
    (∀ t ∈ as, H t = none) ∧ as.Nodup ∧ Inv X pins σ (LiI.putT H as kvs) { s with heap := h', toks := tk } := by
  have lk : kvs.length = vs.length := Paired.length kv
  have nd : as.Nodup := List.Pairwise.imp (fun {a b} (h : a < b) => Nat.ne_of_lt h) hG.rise
  have new : ∀ t ∈ as, H t = none := fun t ht => I.hok.fresh (Nat.le_of_lt (hG.above t ht))
  have atP := LiI.putT_at as kvs H (by omega) nd
  have kp : ∀ b u, H b = some u → (LiI.putT H as kvs) b = some u := fun b u e => by
    rw [LiI.putT_off as kvs _ fun z => by rw [new b z] at e; cases e]
    exact e
  refine ⟨new, nd, ?_⟩
  refine I.call' (ch := []) rfl ⟨fun b o q _ _ _ => hk b o q, fun b o q _ _ _ => ⟨o.slots, hk b o q⟩, fun b o q n _ => ?_, fun b o q _ => ⟨o, hk b o q⟩, fun b xs q => kp b _ q, fun b o u q => kp b _ q, fun b ps q => ⟨#[], by rw [kp b _ q]; simp⟩⟩ (fun b u q => ?_) I.bare fun b z => by simp at z
  · rw [LiI.putT_off as kvs _ fun z => absurd (Heap.lt_size q) (Nat.not_lt.mpr (Nat.le_of_lt (hG.above b z)))]
    exact n
  · by_cases hb : b ∈ as
    · obtain ⟨j, pk, e1, e2, e3⟩ := LiI.paired_ix atP hb
      rw [e3] at q
      cases q
      obtain ⟨key, k, x, f1, f2, f3⟩ := hG.pairs j b e1
      obtain ⟨qv, g1, g2, g3⟩ := LiI.paired_get kv e2
      rw [f1] at g1
      cases g1
      have rk : RelV (kV pk.1) key := by
        rw [g2]
        exact relV_key (show keyIs k key = true from f2)
      exact ⟨by show 2 ≤ sizeLine; decide, [key, x], .cons rk (.cons g3 .nil), ⟨_, f3, rfl, _, rfl⟩⟩
    · rw [LiI.putT_off as kvs _ hb] at q
      exact (I.hok b u q).stay (fun d v _ y => hk d v y) (fun d y => kp d _ y) fun d xs y => kp d _ y
/-- they are frozen as they come -/
theorem put_frozen {K : PySem.W.Frag} {W : Wd} : ∀ (as : List Addr) (kvs : List (Key × V)) {g : Gh} {H : Hp} {ds : List D}, Ht K g W H → (∀ a ∈ as, H a = none) → as.Nodup → as.length = kvs.length → Rps K g (kvs.map (·.2)) ds →
    ∃ g', Ht K g' W (LiI.putT H as kvs) ∧ Step g H g' (LiI.putT H as kvs) ∧ Rps K g' (as.map V.ref) (List.zipWith pairD (kvs.map (·.1)) ds)
  | [], [], g, H, ds, ht, _, _, _, r => by
    cases r
    exact ⟨g, ht, .refl _ _, .nil⟩
  | [], _ :: _, _, _, _, _, _, _, l, _ => by cases l
  | _ :: _, [], _, _, _, _, _, _, l, _ => by cases l
  | a :: as, p :: kvs, g, H, ds, ht, hn, nd, l, r => by
    cases r with
    | cons r1 rr =>
      rename_i d ds
      have n := hn a (List.mem_cons_self ..)
      have nd' := List.nodup_cons.mp nd
      have N := ht.newF (o := .tup [kV p.1, p.2]) n
      obtain ⟨g2, h2, s2, r2⟩ := put_frozen as kvs N.1 (fun b hb => by
        rw [upd_ne fun z => nd'.1 (by rw [← z]; exact hb)]
        exact hn b (List.mem_cons_of_mem _ hb)) nd'.2 (Nat.succ.inj l) (rr.mono N.2.le)
      refine ⟨g2, h2, N.2.trans s2 N.1, .cons (.tup (s2.le.gg _ _ upd_same) (.cons (kD_rp p.1) (.cons ((r1.mono N.2.le).mono s2.le) .nil))) r2⟩
open PySem.W in
theorem each_zip {R : Value → D → Prop} : ∀ {as : List Addr} {es : List D}, EachIs R (as.map Value.ref) es → EachIs (fun v (b : Addr × D) => v = Value.ref b.1 ∧ R v b.2) (as.map Value.ref) (as.zip es)
  | [], [], _ => .nil
  | [], _ :: _, h => by cases h
  | _ :: _, [], h => by cases h
  | a :: as, e :: es, h => by
    cases h with
    | cons h r => exact .cons ⟨rfl, h⟩ (each_zip r)
def tSortItems (K : PySem.W.Frag) (te : TE) : TE := fun σ H Q => te σ H fun v H1 => rC K true sortItemsD [v] H1 Q
theorem pe_sortItems {e : Expr} {te : TE} {p apos cpos pos : Pos} (hc : X.calm = true) (hu : X.A.units + 64 < cLine) (hg : Gl X "sorted") (hm : X.mg "sorted" = none) (he : PE X e te)
    (hbase : attributeBase e "items" X.env (eval e X.env) = eval e X.env := by rfl) (hline : (apos.endLine == cpos.line) = true := by rfl)
    (hs : starEach [.Call (.Attribute e "items" apos) [] [] cpos] X.env = (false, eval (.Call (.Attribute e "items" apos) [] [] cpos) X.env) :: starEach [] X.env := by rfl) :
    PE X (.Call (.Name "sorted" p) [.Call (.Attribute e "items" apos) [] [] cpos] [] pos) (tSortItems X.K te) := by
  refine ⟨fun pins s σ H Q I h => ?_⟩
  have hbs : bootBuiltins "sorted" = some (.builtin "sorted") := by decide +kernel
  refine Call_ (ld_blt I hg hm hbs (PyProof.Rows.callWith_builtin1 (args_cons ?_ hs) hs rfl))
  refine wpAny_Call_method (T := "dict") (id := "dict.items") hbase rfl hline F.plainAttrs_dict F.slot_dict_items F.type_dict_items (thn (he.run pins s σ H _ I h) fun u s1 ⟨x, H1, I1, rx, g, W, ds, d, ht, bs, e, q⟩ => ?_)
  unfold sortItemsD at e
  split at e
  rotate_left
  · cases e
  rename_i d0
  obtain ⟨v0, ev, b⟩ := one_of bs
  cases ev
  unfold sortItems1 itemsD at e
  split at e
  rotate_left
  · cases e
  rename_i es0 ek
  split at e
  rotate_left
  · cases e
  rename_i ok
  cases e
  cases d0 with
  | dk ks ds0 =>
    cases ek
    obtain ⟨a, xs, rfl, rd, l, rr⟩ := b.dkT ht
    obtain rfl : u = Value.ref a := rx
    obtain ⟨hz, hs0, vs, kv, hdo⟩ := dk_rd I1.hok rd
    obtain ⟨ep, hat⟩ := hdo.dictAt
    have lk : (ks.zip xs).length = vs.length := Paired.length kv
    have lz : (ks.zip xs).length = ks.length := by rw [List.length_zip, ← l, Nat.min_self]
    have I2 : Inv X pins σ H1 { s1 with heap := s1.heap.push { cls := .type "dict_items", data := .fields #[.ref a] } } := I1.kept (t' := s1.toks) fun b ob q => Heap.get?_push_of_some _ q
    refine ⟨hdo.typeIs, hdo.mapOf.noDict, ?_⟩
    show wpAny _ _ (callWith cpos (.builtin "dict.items") [.ref a] [] []) _ X.xe s1
    refine method_meetsIn F.slot_dict_items F.entry_dict_items rfl (PySem.evalArgs_none ⟨rfl, hdo.typeIs, F.args_dict_items_1 _, _, meets_dict_items (mixKind X.prog X.w) a hs0, ⟨vs, hdo⟩, ?_⟩)
    refine args_nil ?_
    obtain ⟨n1, n2, n3, n4⟩ := okS_of ok
    refine sorted_of (β := Addr × D) (en := fun b => pd b.2) (R := fun v b => v = Value.ref b.1)
      (Good := fun us s2 => ∃ (hp : Heap) (tk : Nat) (as : List Addr), us = as.map Value.ref ∧ s2 = { s1 with heap := hp, toks := tk } ∧ (∀ b o, (s1.heap.push { cls := .type "dict_items", data := .fields #[.ref a] }).get? b = some o → hp.get? b = some o) ∧ as.length = vs.length ∧ PySem.W.KdxG (mixKind X.prog X.w) vs (s1.heap.push { cls := .type "dict_items", data := .fields #[.ref a] }).objs.size hp as)
      (fun Rr hR => PySem.W.kdx_collect (knd := mixKind X.prog X.w) (kvs := vs) (ep := ep) (by simpa using I1.ok.hd hc) ⟨_, Heap.get?_push_size _ rfl, rfl, rfl⟩ (hat.push _) (by omega) fun h' tk as hk hl hG => hR _ _ ⟨h', tk, as, rfl, rfl, hk, hl, hG⟩) ?_
    rintro us s2 ⟨hp, tk, as, rfl, rfl, hk, hl, hG⟩
    obtain ⟨new, nd, J⟩ := tups_laid (tk := tk) I2 kv hk hl hG
    obtain ⟨g', h', s', r'⟩ := put_frozen as (ks.zip xs) ht new nd (by omega) (ds := ds0) (by rw [List.map_snd_zip (by omega)]; exact rr)
    rw [List.map_fst_zip (by omega)] at r'
    generalize LiI.putT H1 as (ks.zip xs) = H2 at *
    generalize List.zipWith pairD ks ds0 = es at *
    have lae : as.length = es.length := by have := r'.length; rwa [List.length_map] at this
    have er := each_rd (K := X.K) J h'.sub (LiI.vals_refs as) r' n1
    have ez := each_zip er
    have sn : (as.zip es).map (·.2) = es := List.map_snd_zip (by omega)
    have en : (as.zip es).map (fun b => pd b.2) = es.map pd := (List.map_map (f := fun b : Addr × D => b.2) (g := pd) (l := as.zip es)).symm.trans (by rw [sn])
    have hmem : ∀ b ∈ as.zip es, Rp X.K g' (.ref b.1) b.2 := by
      have : ∀ {as : List Addr} {es : List D}, Rps X.K g' (as.map V.ref) es → ∀ b ∈ as.zip es, Rp X.K g' (.ref b.1) b.2 := fun {as} => by
        induction as with
        | nil => intro es _ b hb; cases hb
        | cons a as ih =>
          intro es r b hb
          cases es with
          | nil => cases hb
          | cons e es =>
            cases r with
            | cons r1 rr =>
              rcases List.mem_cons.mp hb with rfl | hb
              · exact r1
              · exact ih rr b hb
      exact this r'
    refine ⟨as.zip es, ez.mono fun _ _ h => h.1, ez.mono fun _ _ h => h.2, by rw [en]; exact n2, by rw [en]; exact n3, by rw [List.length_zip]; omega, fun b hb => by have := n4 b.2 (by rw [← sn]; exact List.mem_map.mpr ⟨b, hb, rfl⟩); omega, fun out lo eo => ?_⟩
    have hsort : ((as.zip es).mergeSort (PySem.W.dataLe false fun b => pd b.2)).map (·.2) = srt es := by
      exact (List.map_mergeSort (r := PySem.W.dataLe false fun b : Addr × D => pd b.2) (s := PySem.W.dataLe false pd) (f := fun b : Addr × D => b.2) (l := as.zip es) fun a _ b _ => rfl).trans (by rw [sn]; rfl)
    have hperm := List.mergeSort_perm (as.zip es) (PySem.W.dataLe false fun b => pd b.2)
    have qm : ∀ b ∈ (as.zip es).mergeSort (PySem.W.dataLe false fun b => pd b.2), Rp X.K g' (.ref b.1) b.2 := fun b hb => hmem b (hperm.mem_iff.mp hb)
    have qlen : ((as.zip es).mergeSort (PySem.W.dataLe false fun b => pd b.2)).length ≤ sizeLine := by rw [List.length_mergeSort, List.length_zip]; omega
    rw [← hsort] at q
    generalize (as.zip es).mergeSort (PySem.W.dataLe false fun b => pd b.2) = bs at *
    have qy : Rps X.K g' (bs.map fun b => V.ref b.1) (bs.map (·.2)) := by
      clear eo lo hsort hperm qlen q
      induction bs with
      | nil => exact .nil
      | cons b r ih => exact .cons (qm b (List.mem_cons_self ..)) (ih fun c hc => qm c (List.mem_cons_of_mem _ hc))
    have ry : Vals (bs.map fun b => V.ref b.1) out := by
      clear qy lo hsort hperm qlen q qm
      induction eo with
      | nil => exact .nil
      | cons r _ ih => exact .cons r ih
    have hoL : (hp.push (seqObj "list" (as.map Value.ref).toArray 0)).get? hp.objs.size = some (seqObj "list" (as.map Value.ref).toArray 0) := Heap.get?_push_size _ rfl
    obtain ⟨c, hcx⟩ := sortedHeap_at (vs := as.map Value.ref) (out := out.toArray) hoL
    have hno : hp.get? hp.objs.size = none := by
      cases z : hp.get? hp.objs.size with
      | none => rfl
      | some o => exact absurd (Heap.lt_size z) (Nat.lt_irrefl _)
    have hnH := J.hok.gone hno
    exact ⟨.ref _, upd H2 hp.objs.size (.lst (bs.map fun b => V.ref b.1)), J.laidN (t' := tk) (fun b o eb => by
      have hlt := Heap.lt_size eb
      rw [sortedHeap_old (Nat.ne_of_lt hlt) (by rw [size_push']; exact Nat.lt_succ_of_lt hlt)]
      exact Heap.get?_push_of_some _ eb) hno hnH ⟨by rw [List.length_map]; exact qlen, out, c, ry, hcx⟩, rfl, newL (w := true) h' qy (fun z H3 g2 h2 s2 o2 => q z H3 g2 h2 (s'.trans s2 h') (o2.pre s' h')) _ hnH⟩
  | _ => cases ek
end
def sortItemsF (f : VS.Env → M D) : VS.Env → M D := fun ρ => bnd (f ρ) fun d => ofO (sortItems1 d)
section
variable {X : Cx} {τ : Tg} {e : Expr} {p apos cpos pos : Pos} {f : VS.Env → M D}
theorem v_sortItems (hc : X.calm = true) (hu : X.A.units + 64 < cLine) (hm : X.mg "sorted" = none) (he : FR X τ e f) (hg : Gl X "sorted" := by rfl)
    (hbase : attributeBase e "items" X.env (eval e X.env) = eval e X.env := by rfl) (hline : (apos.endLine == cpos.line) = true := by rfl)
    (hs : starEach [.Call (.Attribute e "items" apos) [] [] cpos] X.env = (false, eval (.Call (.Attribute e "items" apos) [] [] cpos) X.env) :: starEach [] X.env := by rfl) :
    FV X τ true (.Call (.Name "sorted" p) [.Call (.Attribute e "items" apos) [] [] cpos] [] pos) (sortItemsF f) := PE.wk (pe_sortItems hc hu hg hm he hbase hline hs) fun σ H Q ⟨ρ, W, g, k, W', ht, sl, ef, q⟩ => by
  obtain ⟨d, W1, ed, ef⟩ := bnd_some ef
  obtain ⟨ek, rfl⟩ := ofO_some ef
  exact ⟨ρ, W, g, d, _, ht, sl, ed, fun v H1 g1 h1 s1 o => ⟨g1, _, [d], k, h1, .cons o .nil, ek, fun z H2 g2 h2 s2 o2 => q z H2 g2 h2 (s1.trans s2 h1) (o2.pre s1 h1)⟩⟩
end
end VS
set_option Elab.async false
set_option linter.all false
set_option maxRecDepth 100000
/-! VS20: try, where the body raises nothing. -/
namespace VS
open PySem PySem.Spec PyProof.Rows L2
section
variable {X : L2.Cx} {wr : Bool} {τl τ τ1 : Tg} {body : List Stmt} {h0 : ExceptHandler} {hs : List ExceptHandler} {f : VS.Env → M Out} {pos : Pos}
theorem s_try (hb : FB X.nox wr τl τ τ1 body f) : FS X wr τl τ τ1 (.Try body (h0 :: hs) [] [] pos) f := ps_try_thru0 hb
end
end VS
set_option Elab.async false
set_option linter.all false
set_option maxRecDepth 100000
/-! VS21: slices of lists with a step. -/
namespace VS
open PySem PySem.Spec PySem.Calls PyProof.Rows L2
def pickL {α : Type} (xs : List α) (lo hi st : Option Int) : List α := (sliceRange (sliceBounds lo hi st xs.length).1 (sliceBounds lo hi st xs.length).2.1 (sliceBounds lo hi st xs.length).2.2).filterMap fun i => xs[i]?
theorem pick_vals : ∀ (is : List Nat) {xs : List V} {its : List Value}, Vals xs its → Vals (is.filterMap fun i => xs[i]?) (is.filterMap fun i => its[i]?)
  | [], _, _, _ => .nil
  | i :: r, xs, its, h => by
    have q : (xs[i]? = none ∧ its[i]? = none) ∨ ∃ x v, xs[i]? = some x ∧ its[i]? = some v ∧ RelV x v := by
      clear r
      induction h generalizing i with
      | nil => exact .inl ⟨rfl, rfl⟩
      | cons a b ih =>
        cases i with
        | zero => exact .inr ⟨_, _, rfl, rfl, a⟩
        | succ i => simpa using ih i
    have ih := pick_vals r h
    rcases q with ⟨e1, e2⟩ | ⟨x, v, e1, e2, rv⟩
    · rw [List.filterMap_cons, List.filterMap_cons, e1, e2]
      exact ih
    · rw [List.filterMap_cons, List.filterMap_cons, e1, e2]
      exact .cons rv ih
theorem pick_rps {K : PySem.W.Frag} {g : Gh} : ∀ (is : List Nat) {xs : List V} {ds : List D}, Rps K g xs ds → Rps K g (is.filterMap fun i => xs[i]?) (is.filterMap fun i => ds[i]?)
  | [], _, _, _ => .nil
  | i :: r, xs, ds, h => by
    have ih := pick_rps r h
    have hl := h.length
    cases e : ds[i]? with
    | none =>
      have e1 : xs[i]? = none := by
        rw [List.getElem?_eq_none_iff] at e ⊢
        omega
      rw [List.filterMap_cons, List.filterMap_cons, e1, e]
      exact ih
    | some d =>
      obtain ⟨x, e1, rx⟩ := h.get e
      rw [List.filterMap_cons, List.filterMap_cons, e1, e]
      exact .cons rx ih
theorem pickL_rel {K : PySem.W.Frag} {g : Gh} {xs : List V} {ds : List D} (r : Rps K g xs ds) (lo hi st : Option Int) : Rps K g (pickL xs lo hi st) (pickL ds lo hi st) := by
  unfold pickL
  rw [r.length]
  exact pick_rps _ r
theorem pickL_len {xs : List V} {its : List Value} (r : Vals xs its) (lo hi st : Option Int) : (pickL xs lo hi st).length ≤ xs.length := by
  have h := slicePick_size_le its.toArray lo hi st
  have e : (slicePick its.toArray lo hi st).toList = (sliceRange (sliceBounds lo hi st xs.length).1 (sliceBounds lo hi st xs.length).2.1 (sliceBounds lo hi st xs.length).2.2).filterMap fun i => its[i]? := by
    unfold slicePick
    rw [List.size_toArray, r.length]
    simp
  have v := (pick_vals (sliceRange (sliceBounds lo hi st xs.length).1 (sliceBounds lo hi st xs.length).2.1 (sliceBounds lo hi st xs.length).2.2) r).length
  unfold pickL
  rw [v, ← e, Array.length_toList, r.length]
  rw [List.size_toArray] at h
  exact h
def tSlS (K : PySem.W.Frag) (te : TE) (tl th ts : TO) : TE := fun σ H Q => te σ H fun x H1 => tl σ H1 fun l H2 => th σ H2 fun u H3 => ts σ H3 fun k H4 => ∃ a xs, x = .ref a ∧ SqL K H4 a xs ∧ k ≠ some 0 ∧ ∀ p, H4 p = none → Q (.ref p) (upd H4 p (.lst (pickL xs l u k)))
section
variable {X : L2.Cx}
theorem pe_sliceS {e : Expr} {lo hi : Option Expr} {sp : Expr} {te : TE} {tl th ts : TO} {p2 pos : Pos} (he : PE X e te) (hl : PO X lo tl) (hu : PO X hi th) (hk : PO X (some sp) ts) : PE X (.Subscript e (.Slice lo hi (some sp) p2) pos) (tSlS X.K te tl th ts) := by
  refine ⟨fun pins s σ H Q I h => ?_⟩
  refine Subscript_ (thn (he.run pins s σ H _ I h) fun v s1 ⟨x, H1, I1, r1, q1⟩ => ?_)
  refine wpAny_Slice (thn (hl.run pins s1 σ H1 _ I1 q1) fun vl s2 ⟨l, H2, I2, pl, q2⟩ => thn (hu.run pins s2 σ H2 _ I2 q2) fun vu s3 ⟨u, H3, I3, pu, q3⟩ => thn (hk.run pins s3 σ H3 _ I3 q3) fun vk s4 ⟨k, H4, I4, pk, a, xs, ex, hx, hn, q4⟩ => ?_)
  subst ex
  obtain rfl : v = Value.ref a := r1
  have I5 : Inv X pins σ H4 { s4 with heap := s4.heap.push { cls := .type "slice", data := .fields #[vl, vu, vk] } } := I4.kept (t' := s4.toks) fun b ob q => Heap.get?_push_of_some _ q
  obtain ⟨its, r, ht, hz⟩ := I5.list hx
  have hlen := r.length
  show wpAny (model X.prog X.w) X.A (subscriptTail e (.Slice lo hi (some sp) p2) (.ref a) (.ref s4.heap.objs.size)) (EP X pins σ Q) X.xe { s4 with heap := s4.heap.push { cls := .type "slice", data := .fields #[vl, vu, vk] } }
  refine tail_any (ops := [.ref a, .ref s4.heap.objs.size]) ht.isList.typeIs slot_list_getitem.lookup (wpAny_getItem_list_slice ht.isList (Heap.IsSliceOf.new ..) pl pu pk hn ?_ (by rw [List.size_toArray] <;> omega)) (by with_unfolding_all rfl)
  have e : slicePick its.toArray l u k = ((sliceRange (sliceBounds l u k xs.length).1 (sliceBounds l u k xs.length).2.1 (sliceBounds l u k xs.length).2.2).filterMap fun i => its[i]?).toArray := by
    unfold slicePick
    rw [List.size_toArray, hlen]
    simp
  rw [e]
  refine ⟨.ref _, _, I5.laid (t' := s4.toks) (o := .lst (pickL xs l u k)) (fun b ob q => Heap.get?_push_of_some _ q) (Nat.le_refl _) ?_, rfl, q4 _ (I5.hok.fresh (Nat.le_refl _))⟩
  exact ⟨Nat.le_trans (pickL_len r l u k) hz, _, 0, pick_vals _ r, Heap.get?_push_size _ rfl⟩
end
/-- a list's slice with a step: a new list -/
def slS (f : VS.Env → M D) (l h k : VS.Env → M (Option Int)) : VS.Env → M D := fun ρ => bnd (f ρ) fun d => bnd (l ρ) fun lo => bnd (h ρ) fun hi => bnd (k ρ) fun st => match d with
  | .lst ds => if st ≠ some 0 then ret (.lst (pickL ds lo hi st)) else stuck
  | _ => stuck
section
variable {X : Cx} {τ : Tg} {a : Expr} {pos : Pos} {fa : VS.Env → M D}
theorem v_slS {lo hi : Option Expr} {sp : Expr} {fl fh fk : VS.Env → M (Option Int)} {p2 : Pos} (ha : FR X τ a fa) (hl : FO X τ lo fl) (hh : FO X τ hi fh) (hk : FO X τ (some sp) fk) : FV X τ true (.Subscript a (.Slice lo hi (some sp) p2) pos) (slS fa fl fh fk) := PE.wk (pe_sliceS ha hl hh hk) fun σ H Q ⟨ρ, W, g, k, W', ht, sl, ef, q⟩ => by
  obtain ⟨d, W1, ed, ef⟩ := bnd_some ef
  obtain ⟨l, W2, el, ef⟩ := bnd_some ef
  obtain ⟨h, W3, eh, ef⟩ := bnd_some ef
  obtain ⟨st, W4, es, ef⟩ := bnd_some ef
  refine ⟨ρ, W, g, d, W1, ht, sl, ed, fun v H1 g1 h1 s1 o1 => ⟨ρ, W1, g1, l, W2, h1, sl.step s1, el, fun H2 g2 h2 s2 => ⟨ρ, W2, g2, h, W3, h2, (sl.step s1).step s2, eh, fun H3 g3 h3 s3 => ⟨ρ, W3, g3, st, W4, h3, ((sl.step s1).step s2).step s3, es, fun H4 g4 h4 s4 => ?_⟩⟩⟩⟩
  have o3 := ((o1.step s2).step s3).step s4
  have sa := ((s1.trans s2 h1).trans s3 h2).trans s4 h3
  cases d with
  | lst ds =>
    change (if st ≠ some 0 then VS.ret (D.lst (pickL ds l h st)) else stuck) W4 = some (k, W') at ef
    by_cases c : st ≠ some 0
    · rw [if_pos c] at ef
      cases ef
      obtain ⟨p, xs, rfl, hq, r⟩ := o3.lstT h4
      exact ⟨p, xs, rfl, .of hq, c, newL (w := true) h4 (pickL_rel r l h st) fun z H5 g5 h5 s5 o5 => q z H5 g5 h5 (sa.trans s5 h4) (o5.pre sa h4)⟩
    · rw [if_neg c] at ef
      cases ef
  | _ => cases ef
end
end VS
set_option Elab.async false
set_option linter.all false
/-! VSM: reckoning with meanings. -/
namespace VS
open PySem L2
/-! ### the monad's laws -/
theorem bnd_ret {α β : Type} (a : α) (f : α → M β) : bnd (ret a) f = f a := rfl
theorem bnd_bnd {α β γ : Type} (x : M α) (f : α → M β) (h : β → M γ) : bnd (bnd x f) h = bnd x fun a => bnd (f a) h := by
  funext W
  unfold bnd
  cases x W with
  | none => rfl
  | some p => rfl
theorem bnd_stuck {α β : Type} (f : α → M β) : bnd stuck f = stuck := rfl
theorem ofO_s {α : Type} (a : α) : ofO (some a) = ret a := rfl
theorem ofO_n {α : Type} : ofO (none : Option α) = stuck := rfl
theorem asB_ret (k : Bool) : asB (ret (.bl k)) = ret k := rfl
theorem rd_at {i : Nat} {ρ : Env} {d : D} (h : ρ[i]? = some (some d)) : rd i ρ = ret d := by
  unfold rd; rw [h]; rfl
theorem rd_0 (d : D) (ρ : Env) : rd 0 (some d :: ρ) = ret d := rfl
theorem rd_s (i : Nat) (x : Option D) (ρ : Env) : rd (i + 1) (x :: ρ) = rd i ρ := rfl
/-! ### what a meaning comes to -/
def Ev {α : Type} (m : M α) (W : Wd) (Q : α → Wd → Prop) : Prop := ∃ a W', m W = some (a, W') ∧ Q a W'
theorem Ev.ret {α : Type} {a : α} {W : Wd} {Q : α → Wd → Prop} (h : Q a W) : Ev (VS.ret a) W Q := ⟨a, W, rfl, h⟩
theorem Ev.bnd {α β : Type} {x : M α} {f : α → M β} {W : Wd} {Q : β → Wd → Prop} (h : Ev x W fun a W' => Ev (f a) W' Q) : Ev (VS.bnd x f) W Q := by
  obtain ⟨a, W1, e, b, W2, e2, q⟩ := h
  exact ⟨b, W2, by unfold VS.bnd; rw [e]; exact e2, q⟩
theorem Ev.mono {α : Type} {m : M α} {W : Wd} {Q R : α → Wd → Prop} (h : Ev m W Q) (i : ∀ a W', Q a W' → R a W') : Ev m W R := let ⟨a, W1, e, q⟩ := h; ⟨a, W1, e, i _ _ q⟩
theorem Ev.eq {α : Type} {m : M α} {a : α} {W : Wd} {Q : α → Wd → Prop} (e : m = VS.ret a) (h : Q a W) : Ev m W Q := by subst e; exact .ret h
theorem Ev.rw {α : Type} {m m' : M α} {W : Wd} {Q : α → Wd → Prop} (e : m = m') (h : Ev m' W Q) : Ev m W Q := by subst e; exact h
/-! ### sizes -/
class Sz (k : outParam Nat) (x : Int) : Prop where
  h : x.natAbs < 2 ^ k
theorem pow_le_add (a b : Nat) : 2 ^ a ≤ 2 ^ (a + b) ∧ 2 ^ b ≤ 2 ^ (a + b) := ⟨Nat.pow_le_pow_right (by decide) (Nat.le_add_right _ _), Nat.pow_le_pow_right (by decide) (Nat.le_add_left _ _)⟩
instance Sz.add {a b : Nat} {x y : Int} [p : Sz a x] [q : Sz b y] : Sz (a + b + 1) (x + y) := ⟨by
  have h1 := p.h
  have h2 := q.h
  have h3 := pow_le_add a b
  rw [Nat.pow_succ]
  omega⟩
instance Sz.sub {a b : Nat} {x y : Int} [p : Sz a x] [q : Sz b y] : Sz (a + b + 1) (x - y) := ⟨by
  have h1 := p.h
  have h2 := q.h
  have h3 := pow_le_add a b
  rw [Nat.pow_succ]
  omega⟩
instance Sz.neg {a : Nat} {x : Int} [p : Sz a x] : Sz a (-x) := ⟨by have h1 := p.h; omega⟩
instance Sz.mul {a b : Nat} {x y : Int} [p : Sz a x] [q : Sz b y] : Sz (a + b) (x * y) := ⟨by
  rw [Int.natAbs_mul, Nat.pow_add]
  exact Nat.mul_lt_mul'' p.h q.h⟩
instance Sz.lit {n : Nat} : Sz (n.log2 + 1) (no_index (@OfNat.ofNat Int n _root_.instOfNat)) := ⟨by
  show ((n : Nat) : Int).natAbs < _
  rw [Int.natAbs_natCast]
  exact Nat.lt_log2_self⟩
theorem sz_of {k : Nat} {x : Int} (h0 : -(2 ^ k : Nat) < x) (h1 : x < (2 ^ k : Nat)) : Sz k x := ⟨by omega⟩
theorem bits_le {k : Nat} {x : Int} (h : x.natAbs < 2 ^ k) : Builtin.Int.intBits x ≤ k := by
  unfold Builtin.Int.intBits
  split
  · exact Nat.zero_le _
  · rename_i c
    have c : x.natAbs ≠ 0 := fun z => c (by simpa using Int.natAbs_eq_zero.mp z)
    have := (Nat.log2_lt c).mpr h
    omega
theorem okMul_sz {a b : Nat} {x y : Int} [p : Sz a x] [q : Sz b y] (h : a + b ≤ 100000000) : okMul x y = true := by
  unfold okMul
  have := bits_le p.h
  have := bits_le q.h
  exact decide_eq_true (by omega)
theorem mulD_ok {a b : Nat} {x y : Int} [p : Sz a x] [q : Sz b y] (h : a + b ≤ 100000000) : mulD (.int x) (.int y) = some (.int (x * y)) := by
  show (if okMul x y = true then _ else _) = _
  rw [if_pos (okMul_sz h)]
theorem log2_lt_of {n k : Nat} (hk : 0 < k) (h : n < 2 ^ k) : n.log2 < k := by
  by_cases z : n = 0
  · subst z; simpa using hk
  · exact (Nat.log2_lt z).mpr h
theorem fdivD_ok {x y : Int} (h0 : 0 < y) (h1 : y < 2 ^ 64) : fdivD (.int x) (.int y) = some (.int (x / y)) := by
  have h2 : y.natAbs < 2 ^ 64 := by
    have e : (2 : Int) ^ 64 = ((2 ^ 64 : Nat) : Int) := by decide
    rw [e] at h1; omega
  have h3 : y.natAbs.log2 < 9000 := Nat.lt_trans (log2_lt_of (by decide) h2) (by decide)
  exact if_pos ⟨h0, h3⟩
theorem modD_ok {x y : Int} (h0 : 0 < y) : modD (.int x) (.int y) = some (.int (x % y)) := by
  show (if 0 < y then _ else _) = _
  rw [if_pos h0]
theorem addD_i (x y : Int) : addD (.int x) (.int y) = some (.int (x + y)) := rfl
theorem subD_i (x y : Int) : subD (.int x) (.int y) = some (.int (x - y)) := rfl
theorem ordD_i (p : Int → Int → Bool) (x y : Int) : ordD p (.int x) (.int y) = some (.bl (p x y)) := rfl
theorem eqO_i (x y : Int) : eqO (.int x) (.int y) = some (.bl (decide (x = y))) := by
  show (if okE (.int x) && okE (.int y) then some (D.bl (PyData.eqv (.int x) (.int y))) else none) = _
  have : ∀ z : Int, okE (.int z) = true := fun z => by simp [okE, noBag, pd, SeqAt.shaped, PyData.canLay0, PyData.depth]
  rw [this, this]
  simp [PyData.eqv, Bool.beq_eq_decide_eq]
theorem neO_i (x y : Int) : neO (.int x) (.int y) = some (.bl (decide (x ≠ y))) := by
  show (if okE (.int x) && okE (.int y) then some (D.bl (!PyData.eqv (.int x) (.int y))) else none) = _
  have : ∀ z : Int, okE (.int z) = true := fun z => by simp [okE, noBag, pd, SeqAt.shaped, PyData.canLay0, PyData.depth]
  rw [this, this]
  simp [PyData.eqv, Bool.beq_eq_decide_eq]
/-! ### loops -/
/-- a for: what holds of the rest and the frame -/
theorem Ev.forF {b : Bn} {f : Env → M Out} {J : List Nat} {Q : Out → Wd → Prop} (I : List D → Env → Wd → Prop) (hn : ∀ ρ W, I [] ρ W → Q (.nx ρ) W)
    (hs : ∀ d r ρ W, I (d :: r) ρ W → ∃ ρ1, b d ρ = some ρ1 ∧ Ev (f ρ1) W fun o W' => match o with
      | .nx ρ' => I r (fg ρ' J) W'
      | .ct ρ' => I r (fg ρ' J) W'
      | .bk ρ' => Q (.nx (fg ρ' J)) W'
      | .rt d => Q (.rt d) W') : ∀ (ds : List D) (ρ : Env) (W : Wd), I ds ρ W → Ev (VS.forF b f J ds ρ) W Q
  | [], ρ, W, h => .ret (hn ρ W h)
  | d :: r, ρ, W, h => by
    obtain ⟨ρ1, e1, h1⟩ := hs d r ρ W h
    show Ev (VS.bnd (ofO (b d ρ)) _) W Q
    rw [e1, ofO_s, bnd_ret]
    refine .bnd (h1.mono fun o W' h2 => ?_)
    cases o with
    | nx ρ' => exact Ev.forF I hn hs r _ _ h2
    | ct ρ' => exact Ev.forF I hn hs r _ _ h2
    | bk ρ' => exact .ret h2
    | rt d => exact .ret h2
/-- a while: what holds of the frame, and a number that falls -/
theorem Ev.whF {c : Env → M Bool} {f : Env → M Out} {J : List Nat} {Q : Out → Wd → Prop} (I : Nat → Env → Wd → Prop)
    (hs : ∀ n ρ W, I n ρ W → Ev (c ρ) W fun k W1 => match k with
      | false => Q (.nx ρ) W1
      | true => Ev (f ρ) W1 fun o W' => match o with
        | .nx ρ' => ∃ m, m < n ∧ I m (fg ρ' J) W'
        | .ct ρ' => ∃ m, m < n ∧ I m (fg ρ' J) W'
        | .bk ρ' => Q (.nx (fg ρ' J)) W'
        | .rt d => Q (.rt d) W') : ∀ (N n : Nat) (ρ : Env) (W : Wd), n < N → I n ρ W → Ev (VS.whF c f J N ρ) W Q
  | 0, n, ρ, W, hl, h => absurd hl (Nat.not_lt_zero _)
  | N + 1, n, ρ, W, hl, h => by
    refine .bnd ((hs n ρ W h).mono fun k W1 h1 => ?_)
    cases k with
    | false => exact .ret h1
    | true =>
      rw [cond_true]
      refine .bnd (h1.mono fun o W' h2 => ?_)
      cases o with
      | nx ρ' => obtain ⟨m, hm, h2⟩ := h2; exact Ev.whF I hs N m _ _ (by omega) h2
      | ct ρ' => obtain ⟨m, hm, h2⟩ := h2; exact Ev.whF I hs N m _ _ (by omega) h2
      | bk ρ' => exact .ret h2
      | rt d => exact .ret h2
/-- a comprehension whose items are told one by one, without the bag -/
theorem lcF_map {b : Bn} {c : Env → M Bool} {f : Env → M D} {ρ : Env} {g : D → D} : ∀ (ds : List D), (∀ d ∈ ds, ∃ ρ1, b d ρ = some ρ1 ∧ c ρ1 = ret true ∧ f ρ1 = ret (g d)) → lcF b c f ρ ds = ret (ds.map g)
  | [], _ => rfl
  | d :: r, h => by
    obtain ⟨ρ1, e1, e2, e3⟩ := h d (List.mem_cons_self ..)
    show bnd (ofO (b d ρ)) _ = _
    rw [e1, ofO_s, bnd_ret, e2, bnd_ret, cond_true, e3, bnd_ret, lcF_map r fun x hx => h x (List.mem_cons_of_mem _ hx)]
    rfl
theorem lcF_filter {b : Bn} {c : Env → M Bool} {f : Env → M D} {ρ : Env} {t : D → Bool} {g : D → D} : ∀ (ds : List D), (∀ d ∈ ds, ∃ ρ1, b d ρ = some ρ1 ∧ c ρ1 = ret (t d) ∧ (t d = true → f ρ1 = ret (g d))) → lcF b c f ρ ds = ret ((ds.filter t).map g)
  | [], _ => rfl
  | d :: r, h => by
    obtain ⟨ρ1, e1, e2, e3⟩ := h d (List.mem_cons_self ..)
    have ih := lcF_filter r fun x hx => h x (List.mem_cons_of_mem _ hx)
    show bnd (ofO (b d ρ)) _ = _
    rw [e1, ofO_s, bnd_ret, e2, bnd_ret]
    cases et : t d with
    | true =>
      rw [cond_true, e3 et, bnd_ret, ih, List.filter_cons_of_pos et]
      rfl
    | false =>
      rw [cond_false, ih, List.filter_cons_of_neg (by rw [et]; decide)]
/-- .. with the bag, each item of a kind -/
theorem Ev.lcF {b : Bn} {c : Env → M Bool} {f : Env → M D} {ρ : Env} {J : Wd → Prop} {P : D → Prop} : ∀ (ds : List D), (∀ d ∈ ds, ∀ W, J W → ∃ ρ1, b d ρ = some ρ1 ∧ c ρ1 = VS.ret true ∧ Ev (f ρ1) W fun x W' => J W' ∧ P x) → ∀ W, J W → Ev (VS.lcF b c f ρ ds) W fun xs W' => J W' ∧ xs.length = ds.length ∧ ∀ x ∈ xs, P x
  | [], _, W, h => .ret ⟨h, rfl, fun x hx => by cases hx⟩
  | d :: r, hs, W, h => by
    obtain ⟨ρ1, e1, e2, e3⟩ := hs d (List.mem_cons_self ..) W h
    show Ev (VS.bnd (ofO (b d ρ)) _) W _
    rw [e1, ofO_s, bnd_ret, e2, bnd_ret, cond_true]
    refine .bnd (e3.mono fun x W1 ⟨h1, p⟩ => .bnd ((Ev.lcF r (fun d hd => hs d (List.mem_cons_of_mem _ hd)) W1 h1).mono fun xs W2 ⟨h2, l, hp⟩ => .ret ⟨h2, by simp [l], fun y hy => ?_⟩))
    rcases List.mem_cons.mp hy with e | hy
    · subst e; exact p
    · exact hp y hy
/-! ### isqrt -/
theorem isqrtD_ok {x : Int} (h0 : 0 ≤ x) (h1 : x < 2 ^ 200) : isqrtD [.int x] = some (.int (Float64.isqrt x.toNat : Nat)) := by
  have h2 : x.toNat < 2 ^ 200 := by
    have e : (2 : Int) ^ 200 = ((2 ^ 200 : Nat) : Int) := by decide
    rw [e] at h1; omega
  have h3 : x.toNat.log2 ≤ 13000 := Nat.le_trans (Nat.le_of_lt (log2_lt_of (by decide) h2)) (by decide)
  exact if_pos ⟨h0, h3⟩
end VS
set_option Elab.async false
set_option linter.all false
set_option maxRecDepth 100000
/-! VSN: reckoning, what most laws need. -/
namespace VS
open PySem L2
theorem truth_bl (k : Bool) : truth (.bl k) = some k := rfl
theorem truth_i (k : Int) : truth (.int k) = some (k != 0) := rfl
theorem isi_i (f : VS.Env → M D) (ρ : VS.Env) (k : Int) (h : f ρ = ret (.int k)) : isiF "int" f ρ = ret (.bl true) := by
  unfold isiF; rw [h]; rfl
theorem isb_i (f : VS.Env → M D) (ρ : VS.Env) (k : Int) (h : f ρ = ret (.int k)) : isiF "bool" f ρ = ret (.bl false) := by
  unfold isiF; rw [h]; rfl
theorem max_i (i j : Int) : maxD [.int i, .int j] = some (.int (max i j)) := by
  show some (D.int (if j > i then j else i)) = _
  congr 2; split <;> omega
theorem min_i (i j : Int) : minD [.int i, .int j] = some (.int (min i j)) := by
  show some (D.int (if j < i then j else i)) = _
  congr 2; split <;> omega
theorem int_i (i : Int) : intD [.int i] = some (.int i) := rfl
theorem len_l (ds : List D) : lenD [.lst ds] = some (.int ds.length) := rfl
theorem len_t (ds : List D) : lenD [.tup ds] = some (.int ds.length) := rfl
theorem len_s (ds : List Int) : lenD [.scr ds] = some (.int ds.length) := rfl
theorem okE_bl (k : Bool) : okE (.bl k) = true := by simp [okE, noBag, pd, SeqAt.shaped, PyData.canLay0, PyData.depth]
theorem eqO_bl (x y : Bool) : eqO (.bl x) (.bl y) = some (.bl (x == y)) := by
  show (if okE (.bl x) && okE (.bl y) then some (D.bl (PyData.eqv (.bool x) (.bool y))) else none) = _
  rw [okE_bl, okE_bl]
  cases x <;> cases y <;> rfl
theorem neO_bl (x y : Bool) : neO (.bl x) (.bl y) = some (.bl (x != y)) := by
  show (if okE (.bl x) && okE (.bl y) then some (D.bl (!PyData.eqv (.bool x) (.bool y))) else none) = _
  rw [okE_bl, okE_bl]
  cases x <;> cases y <;> rfl
theorem add_l (xs ys : List D) (h : xs.length + ys.length ≤ 16777216) : addD (.lst xs) (.lst ys) = some (.lst (xs ++ ys)) := if_pos h
theorem ixM_l (ds : List D) (i : Int) : ixM (.lst ds) (.int i) = ofO (atI ds i) := rfl
theorem ixM_t (ds : List D) (i : Int) : ixM (.tup ds) (.int i) = ofO (atI ds i) := rfl
theorem ixM_s (ds : List Int) (i : Int) : ixM (.scr ds) (.int i) = ofO ((atI ds i).map .int) := rfl
theorem ixM_b (i : Int) : ixM .bag (.int i) = bagAt i := rfl
theorem atI_lt {α : Type} {l : List α} {i : Int} (h0 : 0 ≤ i) (h1 : i < l.length) : ∃ x ∈ l, atI l i = some x := by
  obtain ⟨n, rfl⟩ := Int.eq_ofNat_of_zero_le h0
  have hn : n < l.length := by omega
  refine ⟨l[n], List.getElem_mem hn, ?_⟩
  unfold atI ixN
  simp only [Int.natCast_nonneg, if_true, Int.ofNat_eq_natCast]
  simp [hn]
/-! ### the bag -/
structure OkB (W : Wd) : Prop where
  o : ∃ w : Bg, W = some w ∧ 0 ≤ w.dig ∧ 0 ≤ w.mix ∧ w.mix < 2147483647 ∧ ∀ c ∈ w.cells, 0 ≤ c
theorem Ev.at1 {β : Type} {f : D → M β} {w : Bg} {Q : β → Wd → Prop} : Ev (VS.bnd (bagAt 1) f) (some w) Q = Ev (f (.int w.dig)) (some w) Q := rfl
theorem Ev.at2 {β : Type} {f : D → M β} {w : Bg} {Q : β → Wd → Prop} : Ev (VS.bnd (bagAt 2) f) (some w) Q = Ev (f (.int w.mix)) (some w) Q := rfl
theorem Ev.bagE {β : Type} {f : Bool → M β} {w : Bg} {Q : β → Wd → Prop} : Ev (VS.bnd bagE f) (some w) Q = Ev (f w.cells.isEmpty) (some w) Q := rfl
theorem Ev.bagL {β : Type} {f : D → M β} {w : Bg} {Q : β → Wd → Prop} : Ev (VS.bnd bagL f) (some w) Q = Ev (f (.int w.cells.length)) (some w) Q := rfl
theorem Ev.set1 {β : Type} {f : Unit → M β} {w : Bg} {z : Int} {Q : β → Wd → Prop} : Ev (VS.bnd (bagSet 1 z) f) (some w) Q = Ev (f ()) (some { w with dig := z }) Q := rfl
theorem Ev.set2 {β : Type} {f : Unit → M β} {w : Bg} {z : Int} {Q : β → Wd → Prop} : Ev (VS.bnd (bagSet 2 z) f) (some w) Q = Ev (f ()) (some { w with mix := z }) Q := rfl
theorem Ev.pop {β : Type} {f : D → M β} {c : List Int} {x d m : Int} {Q : β → Wd → Prop} : Ev (VS.bnd bagP f) (some ⟨c ++ [x], d, m⟩) Q = Ev (f (.int x)) (some ⟨c, d, m⟩) Q := by
  have : bagP (some ⟨c ++ [x], d, m⟩) = some (.int x, some ⟨c, d, m⟩) := by
    unfold bagP
    simp
  unfold Ev VS.bnd
  rw [this]
theorem cells_cases (c : List Int) : c = [] ∨ ∃ d x, c = d ++ [x] := by
  rcases List.eq_nil_or_concat c with h | ⟨d, x, h⟩
  · exact .inl h
  · exact .inr ⟨d, x, by simpa using h⟩
theorem Ev.rt {α : Type} {a : α} {W : Wd} {Q : α → Wd → Prop} : Ev (VS.ret a) W Q = Q a W := propext ⟨fun ⟨b, W', e, q⟩ => by cases e; exact q, fun q => ⟨a, W, rfl, q⟩⟩
theorem Ev.ite {α : Type} {c : Prop} [Decidable c] {a b : M α} {W : Wd} {Q : α → Wd → Prop} : Ev (if c then a else b) W Q = if c then Ev a W Q else Ev b W Q := by
  by_cases h : c
  · simp only [if_pos h]
  · simp only [if_neg h]
theorem isqrt_ok (n : Nat) : Float64.isqrt n * Float64.isqrt n ≤ n ∧ n < (Float64.isqrt n + 1) * (Float64.isqrt n + 1) := Float64.isqrt_spec n
end VS
namespace VS
open PySem L2
theorem items_l (ds : List D) : (D.lst ds).items = some ds := rfl
theorem items_t (ds : List D) : (D.tup ds).items = some ds := rfl
theorem items_s (ds : List Int) : (D.scr ds).items = some (ds.map .int) := rfl
theorem lcF_i {b : Bn} {c : VS.Env → M Bool} {f : VS.Env → M D} {ρ : VS.Env} {t : Int → Bool} {g : Int → Int} (cs : List Int) (h : ∀ x ∈ cs, ∃ ρ1, b (.int x) ρ = some ρ1 ∧ c ρ1 = ret (t x) ∧ (t x = true → f ρ1 = ret (.int (g x)))) : lcF b c f ρ (cs.map .int) = ret (((cs.filter t).map g).map .int) := by
  induction cs with
  | nil => rfl
  | cons d r ih =>
    obtain ⟨ρ1, e1, e2, e3⟩ := h d (List.mem_cons_self ..)
    have ih := ih fun x hx => h x (List.mem_cons_of_mem _ hx)
    show bnd (ofO (b (.int d) ρ)) _ = _
    rw [e1, ofO_s, bnd_ret, e2, bnd_ret]
    cases et : t d with
    | true =>
      rw [cond_true, e3 et, bnd_ret, ih, List.filter_cons_of_pos et]
      rfl
    | false =>
      rw [cond_false, ih, List.filter_cons_of_neg (by rw [et]; decide)]
/-- a loop that leaves the frame as it was -/
theorem forF_same {b : Bn} {f : VS.Env → M Out} {J : List Nat} {ρ : VS.Env} : ∀ ds : List D, (∀ d ∈ ds, ∃ ρ1, b d ρ = some ρ1 ∧ ∃ ρ2, f ρ1 = ret (.nx ρ2) ∧ fg ρ2 J = ρ) → VS.forF b f J ds ρ = ret (.nx ρ)
  | [], _ => rfl
  | d :: r, h => by
    obtain ⟨ρ1, e1, ρ2, e2, e3⟩ := h d (List.mem_cons_self ..)
    show bnd (ofO (b d ρ)) _ = _
    rw [e1, ofO_s, bnd_ret, e2, bnd_ret]
    show VS.forF b f J r (fg ρ2 J) = _
    rw [e3]
    exact forF_same r fun d hd => h d (List.mem_cons_of_mem _ hd)
theorem absD_i (i : Int) : absD [.int i] = some (.int (if i < 0 then -i else i)) := rfl
theorem listD_l (ds : List D) : listD [.lst ds] = some (.lst ds) := rfl
theorem pow_i9 : powD (.int 10) (.int 9) = some (.int 1000000000) := by
  show (if 0 ≤ (9 : Int) ∧ (Builtin.Int.intBits 10 : Int) * 9 ≤ 100000000 then some (D.int ((10 : Int) ^ (9 : Int).toNat)) else none) = _
  rw [if_pos (by decide)]
  rfl
end VS
namespace VS
open PySem L2
section
variable {Q : Out → Wd → Prop} {W : Wd} {ρ : VS.Env} {f h : VS.Env → M Out} {fe : VS.Env → M D}
theorem Ev.seqS (e : Ev (f ρ) W fun o W' => match o with
    | .nx ρ' => Ev (h ρ') W' Q
    | o => Q o W') : Ev (VS.seqS f h ρ) W Q := .bnd (e.mono fun o W' q => by
  cases o with
  | nx ρ' => exact q
  | rt d => exact .ret q
  | bk ρ' => exact .ret q
  | ct ρ' => exact .ret q)
theorem Ev.setS {i : Nat} (e : Ev (fe ρ) W fun d W' => Q (.nx (ρ.set i (some d))) W') : Ev (VS.setS i fe ρ) W Q := .bnd (e.mono fun _ _ q => .ret q)
theorem Ev.retS (e : Ev (fe ρ) W fun d W' => Q (.rt d) W') : Ev (VS.retS fe ρ) W Q := .bnd (e.mono fun _ _ q => .ret q)
theorem Ev.iteS {c : VS.Env → M Bool} (e : Ev (c ρ) W fun k W' => Ev (cond k (f ρ) (h ρ)) W' Q) : Ev (VS.iteS c f h ρ) W Q := .bnd e
theorem Ev.nxS (q : Q (.nx ρ) W) : Ev (VS.nxS ρ) W Q := .ret q
theorem Ev.forS {J : List Nat} {s : VS.Env → M (List D)} {b : Bn} (e : Ev (s ρ) W fun ds W' => Ev (VS.forF b f J ds (fg ρ J)) W' Q) : Ev (VS.forS J s b f ρ) W Q := .bnd e
theorem Ev.body {N : Nat} {ds : List D} {R : D → Wd → Prop} (e : Ev (f (ds.map some ++ List.replicate (N - ds.length) none)) W fun o W' => match o with
    | .rt d => R d W'
    | .nx _ => R .non W'
    | _ => False) : Ev (bodyF false N f ds) W R := .bnd (e.mono fun o W' q => by
  cases o with
  | nx ρ' => exact .ret q
  | rt d => exact .ret q
  | bk ρ' => exact q.elim
  | ct ρ' => exact q.elim)
end
theorem lcS_eq {vs : List Nat} {s : VS.Env → M (List D)} {b : Bn} {c : VS.Env → M Bool} {f : VS.Env → M D} {ρ : VS.Env} {ds xs : List D} (h1 : s ρ = ret ds) (h2 : ds.length ≤ 16777216) (h3 : lcF b c f (fg ρ vs) ds = ret xs) : lcS vs s b c f ρ = ret (.lst xs) := by
  show bnd (s ρ) _ = _
  rw [h1, bnd_ret]
  show (if ds.length ≤ 16777216 then _ else _) = _
  rw [if_pos h2, h3]
  rfl
theorem cut_len {α : Type} (xs : List α) (lo hi : Option Int) : (cut xs lo hi).length ≤ xs.length := by
  unfold cut
  rw [List.length_take, List.length_drop]
  omega
end VS
namespace VS
open PySem L2
section
variable {Q : Out → Wd → Prop} {W : Wd} {ρ : VS.Env} {f0 f1 f2 fe : VS.Env → M D}
theorem Ev.retBag {cs : List Int} {i j : Int} (h0 : f0 ρ = VS.ret (.lst (cs.map .int))) (h1 : f1 ρ = VS.ret (.int i)) (h2 : f2 ρ = VS.ret (.int j)) (q : Q (.rt .bag) (some ⟨cs, i, j⟩)) : Ev (retBagS f0 f1 f2 ρ) none Q := by
  unfold retBagS
  rw [h0, h1, h2]
  simp only [bnd_ret, asInts_map]
  exact ⟨_, _, rfl, q⟩
theorem Ev.appS {i : Nat} {ds : List D} (hl : ds.length < 16777216) (e : Ev (fe ρ) W fun d W' => ρ[i]? = some (some (.lst ds)) ∧ Q (.nx (ρ.set i (some (.lst (ds ++ [d]))))) W') : Ev (VS.appS i fe ρ) W Q := .bnd (e.mono fun d W' ⟨h, q⟩ => by
  show Ev (match ρ[i]? with
    | some (some (.lst ds)) => _
    | _ => _) W' Q
  rw [h]
  show Ev (if ds.length < 16777216 then _ else _) W' Q
  rw [if_pos hl]
  exact .ret q)
theorem Ev.extS {i : Nat} {ds : List D} (e : Ev (fe ρ) W fun d W' => ρ[i]? = some (some (.lst ds)) ∧ ∃ es, d = .lst es ∧ ds.length + es.length ≤ 16777216 ∧ Q (.nx (ρ.set i (some (.lst (ds ++ es))))) W') : Ev (VS.extS i fe ρ) W Q := .bnd (e.mono fun d W' ⟨h, es, hd, hl, q⟩ => by
  subst hd
  show Ev (match ρ[i]?, D.lst es with
    | some (some (.lst ds)), .lst es => _
    | _, _ => _) W' Q
  rw [h]
  show Ev (if ds.length + es.length ≤ 16777216 then _ else _) W' Q
  rw [if_pos hl]
  exact .ret q)
theorem Ev.par2S {i j : Nat} (e : Ev (f0 ρ) W fun d W' => Ev (f1 ρ) W' fun d' W' => Q (.nx ((ρ.set i (some d)).set j (some d'))) W') : Ev (VS.par2S i j f0 f1 ρ) W Q := .bnd (e.mono fun _ _ q => .bnd (q.mono fun _ _ q => .ret q))
end
theorem Ev.wk {α : Type} {m : M α} {W : Wd} {Q R : α → Wd → Prop} (i : ∀ a W', Q a W' → R a W') (h : Ev m W Q) : Ev m W R := h.mono i
theorem mem_rng {lo : Int} {n : Nat} {d : D} (h : d ∈ rng lo n) : ∃ i, d = .int i ∧ lo ≤ i ∧ i < lo + n := by
  unfold rng at h
  obtain ⟨k, hk, rfl⟩ := List.mem_map.mp h
  have := List.mem_range.mp hk
  exact ⟨_, rfl, by omega, by omega⟩
theorem rng_len (lo : Int) (n : Nat) : (rng lo n).length = n := by simp [rng]
theorem rng1_eq {j : Int} (h0 : 0 ≤ j) (h1 : j < 2 ^ 62) : rng1D (.int j) = some (rng 0 j.toNat) := if_pos ⟨by omega, h1⟩
theorem rng2_eq {i j : Int} (h0 : -(2 ^ 62) ≤ i) (h1 : i < 2 ^ 62) (h2 : -(2 ^ 62) ≤ j) (h3 : j < 2 ^ 62) : rng2D (.int i) (.int j) = some (rng i (j - i).toNat) := if_pos ⟨h0, h1, h2, h3⟩
end VS
namespace VS
open PySem L2
theorem tyN_i (k : Int) : tyN (.int k) = some "int" := rfl
theorem tyN_b (k : Bool) : tyN (.bl k) = some "bool" := rfl
theorem tyN_n : tyN .non = some "NoneType" := rfl
theorem tyN_t (ds : List D) : tyN (.tup ds) = some "tuple" := rfl
theorem tyN_l (ds : List D) : tyN (.lst ds) = some "list" := rfl
theorem tyN_s (x : Str) : tyN (.str x) = some "str" := rfl
theorem isTy_1 : isTy "int" "int" = true := by decide
theorem isTy_2 : isTy "int" "bool" = false := by decide
theorem isTy_3 : isTy "int" "str" = false := by decide
theorem isTy_4 : isTy "int" "tuple" = false := by decide
theorem isTy_5 : isTy "int" "list" = false := by decide
theorem isTy_6 : isTy "bool" "int" = true := by decide
theorem isTy_7 : isTy "bool" "bool" = true := by decide
theorem isTy_8 : isTy "tuple" "tuple" = true := by decide
theorem isTy_9 : isTy "str" "str" = true := by decide
theorem isTy_10 : isTy "list" "list" = true := by decide
theorem isTy_11 : isTy "tuple" "int" = false := by decide
theorem isTy_12 : isTy "tuple" "str" = false := by decide
theorem isBD_i (i : Int) (k : Bool) : isBD (.int i) (.bl k) = some (.bl false) := rfl
theorem Ev.toEq {α : Type} {m : M α} {P : α → Prop} (h : ∀ W, Ev m W fun a W' => W' = W ∧ P a) (u : ∀ a b, P a → P b → a = b) : ∃ a, P a ∧ m = VS.ret a := by
  obtain ⟨a, _, _, _, p⟩ := h none
  refine ⟨a, p, ?_⟩
  funext W
  obtain ⟨b, W', e, rfl, q⟩ := h W
  rw [e, u b a q p]
  rfl
theorem rng_zero (lo : Int) : rng lo 0 = [] := rfl
theorem rng_succ (lo : Int) (n : Nat) : rng lo (n + 1) = .int lo :: rng (lo + 1) n := by
  unfold rng
  rw [List.range_succ_eq_map, List.map_cons, List.map_map]
  congr 1
  · congr 1
    show lo + ((0 : Nat) : Int) = lo
    omega
  · refine List.map_congr_left fun k _ => ?_
    show D.int (lo + ((k + 1 : Nat) : Int)) = D.int (lo + 1 + (k : Int))
    congr 1
    omega
end VS
namespace VS
theorem mem_cut {α : Type} {xs : List α} {lo hi : Option Int} {x : α} (h : x ∈ cut xs lo hi) : x ∈ xs := List.mem_of_mem_drop (List.mem_of_mem_take h)
end VS
set_option Elab.async false
set_option linter.all false
set_option maxRecDepth 100000
/-! VSO: reckoning with lists of ints, sorted rows. -/
namespace VS
open PySem L2
theorem pds_ints : ∀ ns : List Int, pds (ns.map .int) = ns.map .int
  | [] => by unfold pds; rfl
  | n :: r => by
    show pds (D.int n :: r.map .int) = _
    unfold pds
    rw [pds_ints r]
    unfold pd
    rfl
theorem noBags_ints : ∀ ns : List Int, noBags (ns.map .int) = true
  | [] => by unfold noBags; rfl
  | n :: r => by
    show noBags (D.int n :: r.map .int) = true
    unfold noBags
    rw [noBags_ints r]
    unfold noBag
    rfl
theorem okE_ints (ns : List Int) : okE (.lst (ns.map .int)) = true := by
  unfold okE noBag pd
  rw [noBags_ints, pds_ints, shaped_ints]
  rfl
theorem eqv_nil (xs : List PyData) : PyData.eqv (.list xs) (.list []) = xs.isEmpty := by
  cases xs with
  | nil => simp [PyData.eqv, PyData.eqvAll]
  | cons x r => simp [PyData.eqv, PyData.eqvAll]
theorem eqO_nil (ns : List Int) : eqO (.lst (ns.map .int)) (.lst []) = some (.bl ns.isEmpty) := by
  unfold eqO
  rw [okE_ints, show okE (.lst []) = true from okE_ints []]
  unfold pd
  rw [pds_ints]
  show some (D.bl (PyData.eqv (.list (ns.map .int)) (.list (pds [])))) = _
  rw [show pds [] = [] from pds_ints [], eqv_nil]
  cases ns <;> rfl
theorem neO_nil (ns : List Int) : neO (.lst (ns.map .int)) (.lst []) = some (.bl (!ns.isEmpty)) := by
  unfold neO
  rw [okE_ints, show okE (.lst []) = true from okE_ints []]
  unfold pd
  rw [pds_ints]
  show some (D.bl (!PyData.eqv (.list (ns.map .int)) (.list (pds [])))) = _
  rw [show pds [] = [] from pds_ints [], eqv_nil]
  cases ns <;> rfl
theorem eqv_int (x y : Int) : PyData.eqv (.int x) (.int y) = decide (x = y) := by
  simp [PyData.eqv, Bool.beq_eq_decide_eq]
theorem inL_i (x : Int) (ns : List Int) : inL (.int x) (ns.map .int) = decide (x ∈ ns) := by
  unfold inL
  rw [List.any_map]
  induction ns with
  | nil => rfl
  | cons n r ih =>
    rw [List.any_cons, ih]
    show (PyData.eqv (pd (.int n)) (pd (.int x)) || _) = _
    unfold pd
    rw [eqv_int]
    by_cases h : n = x
    · simp [h]
    · have : ¬ x = n := fun e => h e.symm
      simp [h, this]
theorem inD_i (x : Int) (ns : List Int) : inD (.int x) (.lst (ns.map .int)) = some (.bl (decide (x ∈ ns))) := by
  show (if okE (.int x) && okE (.lst (ns.map .int)) then some (D.bl (inL (.int x) (ns.map .int))) else none) = _
  rw [okE_ints, show okE (.int x) = true by simp [okE, noBag, pd, SeqAt.shaped, PyData.canLay0, PyData.depth], inL_i]
  rfl
theorem ninD_i (x : Int) (ns : List Int) : ninD (.int x) (.lst (ns.map .int)) = some (.bl (decide (x ∉ ns))) := by
  show (if okE (.int x) && okE (.lst (ns.map .int)) then some (D.bl (!inL (.int x) (ns.map .int))) else none) = _
  rw [okE_ints, show okE (.int x) = true by simp [okE, noBag, pd, SeqAt.shaped, PyData.canLay0, PyData.depth], inL_i]
  simp
/-! sorted -/
theorem srt_i (ns : List Int) : srt (ns.map .int) = (sortI ns).map .int := by
  unfold srt sortI
  symm
  refine List.map_mergeSort fun a _ b _ => ?_
  have h := congrFun (congrFun (PySem.W.dataLe_int fun k : Int => k) a) b
  refine h.symm.trans ?_
  unfold PySem.W.dataLe PySem.W.sortLe
  unfold pd
  rfl
theorem okS_i (ns : List Int) : okS (ns.map .int) = true := by
  unfold okS
  rw [noBags_ints]
  have h1 : ((ns.map D.int).all fun a => (ns.map D.int).all fun b => PySem.W.alike (pd a) (pd b)) = true := by
    rw [List.all_eq_true]
    intro x hx
    obtain ⟨a, _, rfl⟩ := List.mem_map.mp hx
    rw [List.all_eq_true]
    intro y hy
    obtain ⟨b, _, rfl⟩ := List.mem_map.mp hy
    unfold pd
    simp [PySem.W.alike]
  have h2 : ((ns.map D.int).all fun d => noTup (pd d)) = true := by
    rw [List.all_eq_true]
    intro x hx
    obtain ⟨a, _, rfl⟩ := List.mem_map.mp hx
    unfold pd
    rfl
  have h3 : ((ns.map D.int).all fun d => decide ((pd d).depth ≤ 60)) = true := by
    rw [List.all_eq_true]
    intro x hx
    obtain ⟨a, _, rfl⟩ := List.mem_map.mp hx
    unfold pd
    simp [PyData.depth]
  rw [h1, h2, h3]
  simp
theorem sortedG_i (ns : List Int) : sortedG [.lst (ns.map .int)] = some (.lst ((sortI ns).map .int)) := by
  show (if okS (ns.map .int) then some (D.lst (srt (ns.map .int))) else none) = _
  rw [if_pos (okS_i ns), srt_i]
theorem mem_sortI {ns : List Int} {x : Int} : x ∈ sortI ns ↔ x ∈ ns := (sortI_perm ns).mem_iff
theorem sortI_len (ns : List Int) : (sortI ns).length = ns.length := (sortI_perm ns).length_eq
/-- rows of ints -/
def row (r : List Int) : D := .tup (r.map .int)
theorem pd_row (r : List Int) : pd (row r) = .tuple (r.map .int) := by
  unfold row pd
  rw [pds_ints]
theorem noBags_rows : ∀ rs : List (List Int), noBags (rs.map row) = true
  | [] => by unfold noBags; rfl
  | r :: rs => by
    show noBags (row r :: rs.map row) = true
    unfold noBags
    rw [noBags_rows rs]
    unfold row noBag
    rw [noBags_ints]
    rfl
theorem okS_rows {rs : List (List Int)} (h : ∀ r ∈ rs, r ≠ []) : okS (rs.map row) = true := by
  unfold okS
  rw [noBags_rows]
  have h1 : ((rs.map row).all fun a => (rs.map row).all fun b => PySem.W.alike (pd a) (pd b)) = true := by
    rw [List.all_eq_true]
    intro x hx
    obtain ⟨a, _, rfl⟩ := List.mem_map.mp hx
    rw [List.all_eq_true]
    intro y hy
    obtain ⟨b, _, rfl⟩ := List.mem_map.mp hy
    rw [pd_row, pd_row]
    simp only [PySem.W.alike]
    exact PySem.W.alike_ints a b
  have h2 : ((rs.map row).all fun d => tupl1 (pd d)) = true := by
    rw [List.all_eq_true]
    intro x hx
    obtain ⟨a, ha, rfl⟩ := List.mem_map.mp hx
    rw [pd_row]
    cases a with
    | nil => exact absurd rfl (h _ ha)
    | cons n r => rfl
  have h3 : ((rs.map row).all fun d => decide ((pd d).depth ≤ 60)) = true := by
    rw [List.all_eq_true]
    intro x hx
    obtain ⟨a, _, rfl⟩ := List.mem_map.mp hx
    rw [pd_row]
    simp [PyData.depth, PySem.W.depth_ints]
  rw [h1, h2, h3]
  simp
theorem srt_perm (ds : List D) : (srt ds).Perm ds := List.mergeSort_perm _ _
theorem sortedG_rows {rs : List (List Int)} (h : ∀ r ∈ rs, r ≠ []) : ∃ qs : List (List Int), sortedG [.lst (rs.map row)] = some (.lst (qs.map row)) ∧ qs.Perm rs := by
  refine ⟨rs.mergeSort (fun a b => PySem.W.dataLe false pd (row a) (row b)), ?_, List.mergeSort_perm _ _⟩
  show (if okS (rs.map row) then some (D.lst (srt (rs.map row))) else none) = _
  rw [if_pos (okS_rows h)]
  unfold srt
  rw [List.map_mergeSort (s := PySem.W.dataLe false pd) fun a _ b _ => rfl]
/-- rising lists with the same members are one -/
theorem rising_ext : ∀ {xs ys : List Int}, xs.Pairwise (· < ·) → ys.Pairwise (· < ·) → (∀ x, x ∈ xs ↔ x ∈ ys) → xs = ys
  | [], [], _, _, _ => rfl
  | [], y :: r, _, _, h => absurd ((h y).mpr (List.mem_cons_self ..)) (by simp)
  | x :: r, [], _, _, h => absurd ((h x).mp (List.mem_cons_self ..)) (by simp)
  | x :: r, y :: q, h1, h2, h => by
    rw [List.pairwise_cons] at h1 h2
    have hxy : x = y := by
      have a := (h x).mp (List.mem_cons_self ..)
      have b := (h y).mpr (List.mem_cons_self ..)
      rcases List.mem_cons.mp a with e | a
      · exact e
      · rcases List.mem_cons.mp b with e | b
        · exact e.symm
        · have := h2.1 x a
          have := h1.1 y b
          omega
    subst hxy
    congr 1
    refine rising_ext h1.2 h2.2 fun z => ⟨fun hz => ?_, fun hz => ?_⟩
    · have := h1.1 z hz
      rcases List.mem_cons.mp ((h z).mp (List.mem_cons_of_mem _ hz)) with e | hz
      · omega
      · exact hz
    · have := h2.1 z hz
      rcases List.mem_cons.mp ((h z).mpr (List.mem_cons_of_mem _ hz)) with e | hz
      · omega
      · exact hz
end VS
namespace VS
open PySem L2
/-- a loop as a fold -/
theorem forF_fold {σ : Type} {b : Bn} {f : VS.Env → M Out} {J : List Nat} (R : σ → VS.Env) (st : σ → D → σ) (I : σ → Nat → Prop) : ∀ (ds : List D) (s : σ), (∀ s, ∀ d ∈ ds, ∀ n, I s (n + 1) → ∃ ρ1, b d (R s) = some ρ1 ∧ ∃ ρ2, f ρ1 = ret (.nx ρ2) ∧ fg ρ2 J = R (st s d) ∧ I (st s d) n) → I s ds.length →
    VS.forF b f J ds (R s) = ret (.nx (R (ds.foldl st s)))
  | [], _, _, _ => rfl
  | d :: r, s, h, i => by
    obtain ⟨ρ1, e1, ρ2, e2, e3, i2⟩ := h s d (List.mem_cons_self ..) r.length i
    show bnd (ofO (b d (R s))) _ = _
    rw [e1, ofO_s, bnd_ret, e2, bnd_ret]
    show VS.forF b f J r (fg ρ2 J) = _
    rw [e3, List.foldl_cons]
    exact forF_fold R st I r _ (fun s d hd => h s d (List.mem_cons_of_mem _ hd)) i2
theorem seqS_eq {f h : VS.Env → M Out} {ρ ρ1 : VS.Env} (e : f ρ = ret (.nx ρ1)) : VS.seqS f h ρ = h ρ1 := by
  show bnd (f ρ) _ = _
  rw [e, bnd_ret]
theorem forS_eq {J : List Nat} {s : VS.Env → M (List D)} {b : Bn} {f : VS.Env → M Out} {ρ : VS.Env} {ds : List D} (e : s ρ = ret ds) : VS.forS J s b f ρ = VS.forF b f J ds (fg ρ J) := by
  show bnd (s ρ) _ = _
  rw [e, bnd_ret]
theorem setS_eq {i : Nat} {f : VS.Env → M D} {ρ : VS.Env} {d : D} (e : f ρ = ret d) : VS.setS i f ρ = ret (.nx (ρ.set i (some d))) := by
  show bnd (f ρ) _ = _
  rw [e, bnd_ret]
theorem retS_eq {f : VS.Env → M D} {ρ : VS.Env} {d : D} (e : f ρ = ret d) : VS.retS f ρ = ret (.rt d) := by
  show bnd (f ρ) _ = _
  rw [e, bnd_ret]
theorem body_eq {N : Nat} {wr : Bool} {b : VS.Env → M Out} {ds : List D} {d : D} (e : b (ds.map some ++ List.replicate (N - ds.length) none) = ret (.rt d)) : bodyF wr N b ds = ret d := by
  show bnd (b _) _ = _
  rw [e, bnd_ret]
  rfl
end VS
namespace VS
open PySem L2
theorem extS_eq {i : Nat} {f : VS.Env → M D} {ρ : VS.Env} {ds es : List D} (h : ρ[i]? = some (some (.lst ds))) (e : f ρ = ret (.lst es)) (l : ds.length + es.length ≤ 16777216) : VS.extS i f ρ = ret (.nx (ρ.set i (some (.lst (ds ++ es))))) := by
  unfold VS.extS
  rw [e, bnd_ret, h]
  show (if ds.length + es.length ≤ 16777216 then _ else _) = _
  rw [if_pos l]
theorem appS_eq {i : Nat} {f : VS.Env → M D} {ρ : VS.Env} {ds : List D} {d : D} (h : ρ[i]? = some (some (.lst ds))) (e : f ρ = ret d) (l : ds.length < 16777216) : VS.appS i f ρ = ret (.nx (ρ.set i (some (.lst (ds ++ [d]))))) := by
  unfold VS.appS
  rw [e, bnd_ret, h]
  show (if ds.length < 16777216 then _ else _) = _
  rw [if_pos l]
theorem lcS_m {α : Type} {en : α → D} {ge : α → D} {vs : List Nat} {s : VS.Env → M (List D)} {b : Bn} {f : VS.Env → M D} {ρ : VS.Env} (cs : List α) (h1 : s ρ = ret (cs.map en)) (h2 : cs.length ≤ 16777216) (h : ∀ x ∈ cs, ∃ ρ1, b (en x) (fg ρ vs) = some ρ1 ∧ f ρ1 = ret (ge x)) : lcS vs s b yesB f ρ = ret (.lst (cs.map ge)) := by
  refine lcS_eq h1 (by rw [List.length_map]; exact h2) ?_
  clear h1 h2
  induction cs with
  | nil => rfl
  | cons d r ih =>
    obtain ⟨ρ1, e1, e3⟩ := h d (List.mem_cons_self ..)
    show bnd (ofO (b (en d) (fg ρ vs))) _ = _
    rw [e1, ofO_s, bnd_ret]
    show bnd (ret true) _ = _
    rw [bnd_ret, cond_true, e3, bnd_ret, ih fun x hx => h x (List.mem_cons_of_mem _ hx)]
    rfl
theorem lcS_f {α : Type} {en : α → D} {ge : α → D} {t : α → Bool} {vs : List Nat} {s : VS.Env → M (List D)} {b : Bn} {c : VS.Env → M Bool} {f : VS.Env → M D} {ρ : VS.Env} (cs : List α) (h1 : s ρ = ret (cs.map en)) (h2 : cs.length ≤ 16777216) (h : ∀ x ∈ cs, ∃ ρ1, b (en x) (fg ρ vs) = some ρ1 ∧ c ρ1 = ret (t x) ∧ f ρ1 = ret (ge x)) : lcS vs s b c f ρ = ret (.lst ((cs.filter t).map ge)) := by
  refine lcS_eq h1 (by rw [List.length_map]; exact h2) ?_
  clear h1 h2
  induction cs with
  | nil => rfl
  | cons d r ih =>
    obtain ⟨ρ1, e1, e2, e3⟩ := h d (List.mem_cons_self ..)
    have ih := ih fun x hx => h x (List.mem_cons_of_mem _ hx)
    show bnd (ofO (b (en d) (fg ρ vs))) _ = _
    rw [e1, ofO_s, bnd_ret, e2, bnd_ret]
    cases et : t d with
    | true =>
      rw [cond_true, e3, bnd_ret, ih, List.filter_cons_of_pos et]
      rfl
    | false =>
      rw [cond_false, ih, List.filter_cons_of_neg (by rw [et]; decide)]
end VS
namespace VS
open PySem L2
theorem cons_eq {A : VS.Env → M D} {fs : VS.Env → M (List D)} {ρ : VS.Env} {a : D} {as : List D} (h : A ρ = ret a) (k : fs ρ = ret as) : consF A fs ρ = ret (a :: as) := by
  show bnd (A ρ) _ = _
  rw [h, bnd_ret, k, bnd_ret]
theorem nil_eq {ρ : VS.Env} : nilF ρ = ret [] := rfl
theorem tup_eq {fs : VS.Env → M (List D)} {ρ : VS.Env} {ds : List D} (h : fs ρ = ret ds) (l : ds.length ≤ 16777216) : tupF fs ρ = ret (.tup ds) := by
  show bnd (fs ρ) _ = _
  rw [h, bnd_ret]
  exact if_pos l
theorem bi_eq {op : List D → Option D} {fs : VS.Env → M (List D)} {ρ : VS.Env} {ds : List D} {d : D} (h : fs ρ = ret ds) (k : op ds = some d) : biF op fs ρ = ret d := by
  show bnd (fs ρ) _ = _
  rw [h, bnd_ret, k]
  rfl
theorem call_eq {φ : List D → M D} {n : Nat} {fs : VS.Env → M (List D)} {ρ : VS.Env} {ds : List D} {d : D} (h : fs ρ = ret ds) (l : ds.length = n) (k : φ ds = ret d) : callF φ n fs ρ = ret d := by
  show bnd (fs ρ) _ = _
  rw [h, bnd_ret]
  show (if ds.length = n then _ else _) = _
  rw [if_pos l, k]
theorem tupleD_l (ds : List D) : tupleD [.lst ds] = some (.tup ds) := rfl
theorem tupleD_t (ds : List D) : tupleD [.tup ds] = some (.tup ds) := rfl
end VS
namespace VS
open PySem L2
theorem appPopE_of {i j : Nat} {ρ : VS.Env} {z : Int} {ds es : List D} {n : Nat} {d : D} (hi : ρ[i]? = some (some (.lst ds))) (hj : ρ[j]? = some (some (.lst es))) (hn : ixN es.length z = some n) (hd : es[n]? = some d) (l : ds.length < 16777216) (ne : i ≠ j) (k0 : -(2 ^ 63) ≤ z) (k1 : z < 2 ^ 63) :
    appPopE i j ρ (.int z) = some ((ρ.set j (some (.lst (es.eraseIdx n)))).set i (some (.lst (ds ++ [d])))) := by
  have e1 : lstAt ρ i = some ds := by unfold lstAt; rw [hi]
  have e2 : lstAt ρ j = some es := by unfold lstAt; rw [hj]
  show (lstAt ρ i).bind _ = _
  rw [e1]
  show (lstAt ρ j).bind _ = _
  rw [e2]
  show (ixN es.length z).bind _ = _
  rw [hn]
  show (es[n]?).bind _ = _
  rw [hd]
  exact if_pos ⟨l, ne, k0, k1⟩
theorem Ev.appPop {i j : Nat} {fk : VS.Env → M D} {ρ : VS.Env} {W : Wd} {Q : Out → Wd → Prop} (e : Ev (fk ρ) W fun k W' => ∃ ρ', appPopE i j ρ k = some ρ' ∧ Q (.nx ρ') W') : Ev (VS.appPopS i j fk ρ) W Q := .bnd (e.mono fun k W' ⟨ρ', h, q⟩ => by
  rw [h, ofO_s, bnd_ret]
  exact .ret q)
theorem ixN_lt {n : Nat} {z : Int} (h0 : 0 ≤ z) (h1 : z < n) : ixN n z = some z.toNat := by
  unfold ixN
  rw [if_pos h0, if_pos h1]
theorem lrg_eq {i j : Int} (h0 : -(2 ^ 62) ≤ i) (h1 : i < 2 ^ 62) (h2 : -(2 ^ 62) ≤ j) (h3 : j < 2 ^ 62) (h4 : (j - i).toNat ≤ 16777216) : lrgD (.int i) (.int j) = some (.lst (rng i (j - i).toNat)) := if_pos ⟨h0, h1, h2, h3, h4⟩
/-- the ints lo .. lo + n - 1 -/
def rngI (lo : Int) (n : Nat) : List Int := (List.range n).map fun k => lo + (k : Nat)
theorem rng_I (lo : Int) (n : Nat) : rng lo n = (rngI lo n).map .int := by
  unfold rng rngI
  rw [List.map_map]
  rfl
theorem mem_rngI {lo x : Int} {n : Nat} : x ∈ rngI lo n ↔ lo ≤ x ∧ x < lo + n := by
  unfold rngI
  rw [List.mem_map]
  constructor
  · rintro ⟨k, hk, rfl⟩
    have := List.mem_range.mp hk
    omega
  · rintro ⟨h0, h1⟩
    exact ⟨(x - lo).toNat, List.mem_range.mpr (by omega), by omega⟩
theorem rngI_len (lo : Int) (n : Nat) : (rngI lo n).length = n := by simp [rngI]
end VS
namespace VS
theorem map_erase {α β : Type} (f : α → β) : ∀ (l : List α) (i : Nat), (l.map f).eraseIdx i = (l.eraseIdx i).map f
  | [], _ => rfl
  | _ :: _, 0 => rfl
  | a :: r, i + 1 => by
    show f a :: (r.map f).eraseIdx i = _
    rw [map_erase f r i]
    rfl
end VS
set_option Elab.async false
set_option linter.all false
set_option maxRecDepth 100000
/-! VSP: equations of meanings, one for each form. -/
namespace VS
open PySem L2
section
variable {ρ : VS.Env} {f h : VS.Env → M Out} {A B : VS.Env → M D} {S T : VS.Env → M Bool} {a b d : D} {k m : Bool}
theorem op2E {op : D → D → Option D} (ha : A ρ = ret a) (hb : B ρ = ret b) (h : op a b = some d) : op2 op A B ρ = ret d := by
  show bnd (A ρ) _ = _
  rw [ha, bnd_ret, hb, bnd_ret, h]
  rfl
theorem ixE (ha : A ρ = ret a) (hb : B ρ = ret b) (h : ixM a b = ret d) : ixF A B ρ = ret d := by
  show bnd (A ρ) _ = _
  rw [ha, bnd_ret, hb, bnd_ret, h]
theorem testE {op : D → D → Option D} (ha : A ρ = ret a) (hb : B ρ = ret b) (h : op a b = some (.bl k)) : (fun ρ => asB (op2 op A B ρ)) ρ = ret k := by
  show asB (op2 op A B ρ) = _
  rw [op2E ha hb h]
  rfl
theorem iteE (h1 : S ρ = ret k) : iteS S f h ρ = cond k (f ρ) (h ρ) := by
  show bnd (S ρ) _ = _
  rw [h1, bnd_ret]
theorem iteT (h1 : S ρ = ret true) : iteS S f h ρ = f ρ := iteE h1
theorem iteN (h1 : S ρ = ret false) : iteS S f h ρ = h ρ := iteE h1
theorem iteFE (h1 : S ρ = ret k) : VS.iteF S A B ρ = cond k (A ρ) (B ρ) := by
  show bnd (S ρ) _ = _
  rw [h1, bnd_ret]
theorem truE (ha : A ρ = ret (.bl k)) : truF A ρ = ret k := by
  show bnd (A ρ) _ = _
  rw [ha, bnd_ret]
  rfl
theorem notE (h : S ρ = ret k) : notB S ρ = ret (!k) := by
  show bnd (S ρ) _ = _
  rw [h, bnd_ret]
theorem orE (h : S ρ = ret false) (h2 : T ρ = ret m) : orB S T ρ = ret m := by
  show bnd (S ρ) _ = _
  rw [h, bnd_ret, cond_false, h2]
theorem orT (h : S ρ = ret true) : orB S T ρ = ret true := by
  show bnd (S ρ) _ = _
  rw [h, bnd_ret, cond_true]
theorem andE (h : S ρ = ret true) (h2 : T ρ = ret m) : andB S T ρ = ret m := by
  show bnd (S ρ) _ = _
  rw [h, bnd_ret, cond_true, h2]
theorem andF (h : S ρ = ret false) : andB S T ρ = ret false := by
  show bnd (S ρ) _ = _
  rw [h, bnd_ret, cond_false]
theorem andVE (h : A ρ = ret (.bl true)) (h2 : B ρ = ret d) : andV A B ρ = ret d := by
  show bnd (asB (A ρ)) _ = _
  rw [h, asB_ret, bnd_ret, cond_true, h2]
theorem orVE (h : A ρ = ret (.bl false)) (h2 : B ρ = ret d) : orV A B ρ = ret d := by
  show bnd (asB (A ρ)) _ = _
  rw [h, asB_ret, bnd_ret, cond_false, h2]
theorem notVE (h : A ρ = ret (.bl k)) : notV A ρ = ret (.bl (!k)) := by
  show bnd (asB (A ρ)) _ = _
  rw [h, asB_ret, bnd_ret]
theorem callKE {φ : List D → M D} {n n1 n2 : Nat} {ix : List Nat} {fs gs : VS.Env → M (List D)} {ds es : List D} (h1 : fs ρ = ret ds) (h2 : gs ρ = ret es) (l1 : ds.length = n1) (l2 : es.length = n2) (l3 : (pick ix (ds ++ es)).length = n) (k : φ (pick ix (ds ++ es)) = ret d) : callK φ n n1 n2 ix fs gs ρ = ret d := by
  show bnd (fs ρ) _ = _
  rw [h1, bnd_ret, h2, bnd_ret, if_pos ⟨l1, l2, l3⟩, k]
theorem callE {φ : List D → M D} {n : Nat} {fs : VS.Env → M (List D)} {ds : List D} (h : fs ρ = ret ds) (l : ds.length = n) : callF φ n fs ρ = φ ds := by
  show bnd (fs ρ) _ = _
  rw [h, bnd_ret, if_pos l]
theorem lstE {fs : VS.Env → M (List D)} {ds : List D} (h : fs ρ = ret ds) (l : ds.length ≤ 16777216) : lstF fs ρ = ret (.lst ds) := by
  show bnd (fs ρ) _ = _
  rw [h, bnd_ret]
  exact if_pos l
/-- if not f(..): with what f draws -/
theorem notCallE {φ : List D → M D} {n : Nat} {fs : VS.Env → M (List D)} {ds : List D} (h : fs ρ = ret ds) (l : ds.length = n) : notB (truF (callF φ n fs)) ρ = bnd (φ ds) fun f => bnd (ofO (truth f)) fun k => ret (!k) := by
  show bnd (bnd (callF φ n fs ρ) _) _ = _
  rw [callE h l, bnd_bnd]
theorem par2E {i j : Nat} (ha : A ρ = ret a) (hb : B ρ = ret b) : par2S i j A B ρ = ret (.nx ((ρ.set i (some a)).set j (some b))) := by
  show bnd (A ρ) _ = _
  rw [ha, bnd_ret, hb, bnd_ret]
/-- a guard that is passed: if not told: return False -/
theorem guardE (h1 : S ρ = ret true) : iteS (notB S) f nxS ρ = ret (.nx ρ) := by
  rw [iteN (notE h1 : notB S ρ = ret false)]
  rfl
theorem negE {i : Int} (h : A ρ = ret (.int i)) : negV A ρ = ret (.int (-i)) := by
  show bnd (A ρ) _ = _
  rw [h, bnd_ret]
theorem rng2E {i j : Int} (ha : A ρ = ret (.int i)) (hb : B ρ = ret (.int j)) (h0 : -(2 ^ 62) ≤ i) (h1 : i < 2 ^ 62) (h2 : -(2 ^ 62) ≤ j) (h3 : j < 2 ^ 62) : rng2F A B ρ = ret (rng i (j - i).toNat) := by
  show bnd (A ρ) _ = _
  rw [ha, bnd_ret, hb, bnd_ret, rng2_eq h0 h1 h2 h3, ofO_s]
theorem rng1E {j : Int} (hb : B ρ = ret (.int j)) (h2 : 0 ≤ j) (h3 : j < 2 ^ 62) : rng1F B ρ = ret (rng 0 j.toNat) := by
  show bnd (B ρ) _ = _
  rw [hb, bnd_ret, rng1_eq h2 h3, ofO_s]
theorem dropE (h : A ρ = ret a) : dropS A ρ = ret (.nx ρ) := by
  show bnd (A ρ) _ = _
  rw [h, bnd_ret]
end
end VS
set_option Elab.async false
set_option linter.all false
set_option maxRecDepth 100000
/-! VSQ: what each form comes to, with the bag. -/
namespace VS
open PySem L2
section
variable {ρ : VS.Env} {A B : VS.Env → M D} {fs : VS.Env → M (List D)} {W : Wd}
theorem Ev.consF {Q : List D → Wd → Prop} (e : Ev (A ρ) W fun a W1 => Ev (fs ρ) W1 fun as W2 => Q (a :: as) W2) : Ev (VS.consF A fs ρ) W Q := .bnd (e.mono fun _ _ h => .bnd (h.mono fun _ _ q => .ret q))
theorem Ev.nilF {Q : List D → Wd → Prop} (q : Q [] W) : Ev (VS.nilF ρ) W Q := .ret q
theorem Ev.lstF {Q : D → Wd → Prop} (e : Ev (fs ρ) W fun ds W' => ds.length ≤ 16777216 ∧ Q (.lst ds) W') : Ev (VS.lstF fs ρ) W Q := .bnd (e.mono fun ds W' ⟨l, q⟩ => by
  show Ev (if ds.length ≤ 16777216 then _ else _) W' Q
  rw [if_pos l]
  exact .ret q)
theorem Ev.tupF {Q : D → Wd → Prop} (e : Ev (fs ρ) W fun ds W' => ds.length ≤ 16777216 ∧ Q (.tup ds) W') : Ev (VS.tupF fs ρ) W Q := .bnd (e.mono fun ds W' ⟨l, q⟩ => by
  show Ev (if ds.length ≤ 16777216 then _ else _) W' Q
  rw [if_pos l]
  exact .ret q)
theorem Ev.op2F {op : D → D → Option D} {Q : D → Wd → Prop} (e : Ev (A ρ) W fun a W1 => Ev (B ρ) W1 fun b W2 => ∃ d, op a b = some d ∧ Q d W2) : Ev (op2 op A B ρ) W Q := .bnd (e.mono fun a W1 h => .bnd (h.mono fun b W2 ⟨d, e, q⟩ => by
  rw [e]
  exact .ret q))
theorem Ev.biF {op : List D → Option D} {Q : D → Wd → Prop} (e : Ev (fs ρ) W fun ds W' => ∃ d, op ds = some d ∧ Q d W') : Ev (VS.biF op fs ρ) W Q := .bnd (e.mono fun a W1 ⟨d, e, q⟩ => by
  rw [e]
  exact .ret q)
theorem Ev.ixF {Q : D → Wd → Prop} (e : Ev (A ρ) W fun a W1 => Ev (B ρ) W1 fun b W2 => ∃ d, ixM a b = VS.ret d ∧ Q d W2) : Ev (VS.ixF A B ρ) W Q := .bnd (e.mono fun a W1 h => .bnd (h.mono fun b W2 ⟨d, e, q⟩ => by
  rw [e]
  exact .ret q))
theorem Ev.callF {φ : List D → M D} {n : Nat} {Q : D → Wd → Prop} (e : Ev (fs ρ) W fun ds W' => ds.length = n ∧ Ev (φ ds) W' Q) : Ev (VS.callF φ n fs ρ) W Q := .bnd (e.mono fun ds W1 ⟨l, q⟩ => by
  show Ev (if ds.length = n then _ else _) W1 Q
  rw [if_pos l]
  exact q)
theorem Ev.truF {Q : Bool → Wd → Prop} (e : Ev (A ρ) W fun d W' => ∃ k, d = .bl k ∧ Q k W') : Ev (VS.truF A ρ) W Q := .bnd (e.mono fun a W1 ⟨k, e, q⟩ => by
  subst e
  exact .ret q)
theorem Ev.notB {S : VS.Env → M Bool} {Q : Bool → Wd → Prop} (e : Ev (S ρ) W fun k W' => Q (!k) W') : Ev (VS.notB S ρ) W Q := .bnd (e.mono fun k W1 q => .ret q)
theorem Ev.orB {S T : VS.Env → M Bool} {Q : Bool → Wd → Prop} (e : Ev (S ρ) W fun k W' => cond k (Q true W') (Ev (T ρ) W' Q)) : Ev (VS.orB S T ρ) W Q := .bnd (e.mono fun k W1 q => by
  cases k with
  | true => exact .ret q
  | false => exact q)
theorem Ev.andB {S T : VS.Env → M Bool} {Q : Bool → Wd → Prop} (e : Ev (S ρ) W fun k W' => cond k (Ev (T ρ) W' Q) (Q false W')) : Ev (VS.andB S T ρ) W Q := .bnd (e.mono fun k W1 q => by
  cases k with
  | true => exact q
  | false => exact .ret q)
theorem Ev.iteF {S : VS.Env → M Bool} {Q : D → Wd → Prop} (e : Ev (S ρ) W fun k W' => cond k (Ev (A ρ) W' Q) (Ev (B ρ) W' Q)) : Ev (VS.iteF S A B ρ) W Q := .bnd (e.mono fun k W1 q => by
  cases k with
  | true => exact q
  | false => exact q)
end
end VS
set_option Elab.async false
set_option linter.all false
set_option maxRecDepth 100000
/-! VSR: rows of ints by a function of the place; one step at a time. -/
namespace VS
open PySem L2
theorem le_rfl_n {a b : Nat} (h : Nat.ble a b = true) : a ≤ b := Nat.le_of_ble_eq_true h
theorem rdE {i : Nat} {ρ : VS.Env} {d : D} (h : ρ[i]? = some (some d)) : rd i ρ = ret d := rd_at h
theorem kstE {d : D} {ρ : VS.Env} : kst d ρ = ret d := rfl
theorem iteB {S : VS.Env → M Bool} {A B : VS.Env → M D} {ρ : VS.Env} {k : Bool} {a b : D} (h : S ρ = ret k) (ha : k = true → A ρ = ret a) (hb : k = false → B ρ = ret b) : VS.iteF S A B ρ = ret (if k = true then a else b) := by
  rw [iteFE h]
  cases k with
  | true => exact ha rfl
  | false => exact hb rfl
/-- a row of ints: n of them, told by their places -/
def vc (n : Nat) (f : Nat → Int) : List D := (List.range n).map fun k => D.int (f k)
theorem vc_len (n : Nat) (f : Nat → Int) : (vc n f).length = n := by simp [vc]
theorem vc_congr {n : Nat} {f g : Nat → Int} (h : ∀ k, k < n → f k = g k) : vc n f = vc n g := List.map_congr_left fun k hk => by rw [h k (List.mem_range.mp hk)]
theorem vc_at {n k : Nat} (f : Nat → Int) (h : k < n) : (vc n f)[k]? = some (.int (f k)) := by
  unfold vc
  rw [List.getElem?_map, List.getElem?_range h]
  rfl
theorem vc_set {n k : Nat} (f : Nat → Int) (v : Int) : (vc n f).set k (.int v) = vc n fun j => if j = k then v else f j := by
  apply List.ext_getElem?
  intro i
  unfold vc
  rw [List.getElem?_set, List.getElem?_map, List.getElem?_map]
  by_cases c : i < n
  · rw [List.getElem?_range c]
    by_cases e : k = i
    · subst e
      rw [if_pos rfl, if_pos (by simpa using c)]
      simp
    · have e' : ¬ i = k := fun x => e x.symm
      rw [if_neg e]
      simp [e']
  · have : (List.range n)[i]? = none := by rw [List.getElem?_eq_none_iff]; simpa using c
    rw [this]
    by_cases e : k = i
    · subst e
      rw [if_pos rfl, if_neg (by simpa using c)]
      rfl
    · rw [if_neg e]
      rfl
theorem vc_snoc (n : Nat) (f : Nat → Int) : vc (n + 1) f = vc n f ++ [.int (f n)] := by
  unfold vc
  rw [List.range_succ, List.map_append]
  rfl
theorem vc_append (m n : Nat) (f : Nat → Int) : vc (m + n) f = vc m f ++ vc n fun k => f (m + k) := by
  unfold vc
  rw [List.range_add, List.map_append, List.map_map]
  rfl
theorem vc_rep (n : Nat) (v : Int) : (List.replicate n [D.int v]).flatten = vc n fun _ => v := by
  induction n with
  | zero => rfl
  | succ n ih =>
    rw [List.replicate_succ', List.flatten_append, ih, vc_snoc]
    simp
theorem atI_vc {n k : Nat} (f : Nat → Int) (h : k < n) : atI (vc n f) (k : Int) = some (.int (f k)) := by
  unfold atI
  rw [ixN_lt (by omega) (by rw [vc_len]; omega)]
  exact vc_at f h
theorem ixM_vc {n : Nat} (f : Nat → Int) {i : Int} (h0 : 0 ≤ i) (h : i < n) : ixM (.lst (vc n f)) (.int i) = ret (.int (f i.toNat)) := by
  obtain ⟨k, rfl⟩ := Int.eq_ofNat_of_zero_le h0
  rw [ixM_l, atI_vc f (by omega)]
  rfl
theorem ixM_vcT {n : Nat} (f : Nat → Int) {i : Int} (h0 : 0 ≤ i) (h : i < n) : ixM (.tup (vc n f)) (.int i) = ret (.int (f i.toNat)) := by
  obtain ⟨k, rfl⟩ := Int.eq_ofNat_of_zero_le h0
  rw [ixM_t, atI_vc f (by omega)]
  rfl
theorem putS_vc {i : Nat} {fk f : VS.Env → M D} {ρ : VS.Env} {n : Nat} {g : Nat → Int} {z v : Int} (h : ρ[i]? = some (some (.lst (vc n g)))) (e : f ρ = ret (.int v)) (ek : fk ρ = ret (.int z)) (z0 : 0 ≤ z) (z1 : z < n) :
    VS.putS i fk f ρ = ret (.nx (ρ.set i (some (.lst (vc n fun j => if j = z.toNat then v else g j))))) := by
  unfold VS.putS
  rw [e, bnd_ret, ek, bnd_ret, h]
  show (match ixN (vc n g).length z with
      | some j => _
      | none => _) = _
  rw [ixN_lt z0 (by rw [vc_len]; exact z1), ← vc_set]
/-! sums -/
def sg : Nat → (Nat → Int) → Int
  | 0, _ => 0
  | n + 1, f => sg n f + f n
theorem sg_congr : ∀ {n : Nat} {f g : Nat → Int}, (∀ i, i < n → f i = g i) → sg n f = sg n g
  | 0, _, _, _ => rfl
  | n + 1, f, g, h => by
    show sg n f + f n = sg n g + g n
    rw [sg_congr fun i hi => h i (by omega), h n (by omega)]
theorem sg_zero : ∀ {n : Nat} {f : Nat → Int}, (∀ i, i < n → f i = 0) → sg n f = 0
  | 0, _, _ => rfl
  | n + 1, f, h => by
    show sg n f + f n = 0
    rw [sg_zero fun i hi => h i (by omega), h n (by omega)]
    rfl
theorem sg_add : ∀ (n : Nat) (f g : Nat → Int), sg n (fun i => f i + g i) = sg n f + sg n g
  | 0, _, _ => rfl
  | n + 1, f, g => by
    show sg n (fun i => f i + g i) + (f n + g n) = sg n f + f n + (sg n g + g n)
    rw [sg_add n]; omega
theorem sg_sub : ∀ (n : Nat) (f g : Nat → Int), sg n (fun i => f i - g i) = sg n f - sg n g
  | 0, _, _ => rfl
  | n + 1, f, g => by
    show sg n (fun i => f i - g i) + (f n - g n) = sg n f + f n - (sg n g + g n)
    rw [sg_sub n]; omega
theorem sg_mul (c : Int) : ∀ (n : Nat) (f : Nat → Int), sg n (fun i => c * f i) = c * sg n f
  | 0, _ => by show 0 = c * 0; omega
  | n + 1, f => by
    show sg n (fun i => c * f i) + c * f n = c * (sg n f + f n)
    rw [sg_mul c n, Int.mul_add]
theorem sg_mulr (c : Int) (n : Nat) (f : Nat → Int) : sg n (fun i => f i * c) = sg n f * c := by
  rw [Int.mul_comm, ← sg_mul]
  exact sg_congr fun i _ => Int.mul_comm _ _
theorem sg_swap : ∀ (n m : Nat) (f : Nat → Nat → Int), sg n (fun i => sg m fun j => f i j) = sg m fun j => sg n fun i => f i j
  | 0, m, f => (sg_zero fun _ _ => rfl).symm
  | n + 1, m, f => by
    show sg n (fun i => sg m fun j => f i j) + sg m (fun j => f n j) = sg m fun j => sg n (fun i => f i j) + f n j
    rw [sg_swap n m, sg_add]
theorem sg_one : ∀ {n c : Nat}, c < n → ∀ g : Nat → Int, sg n (fun i => if i = c then g i else 0) = g c
  | n + 1, c, h, g => by
    show sg n (fun i => if i = c then g i else 0) + (if n = c then g n else 0) = g c
    by_cases e : n = c
    · subst e
      rw [if_pos rfl, sg_zero fun i hi => if_neg (by omega)]
      omega
    · rw [if_neg e, sg_one (by omega)]
      omega
theorem sg_ext {n m : Nat} (h : n ≤ m) {f : Nat → Int} (z : ∀ i, n ≤ i → i < m → f i = 0) : sg m f = sg n f := by
  induction m with
  | zero => rw [show n = 0 by omega]
  | succ m ih =>
    by_cases e : n = m + 1
    · rw [e]
    · show sg m f + f m = _
      rw [ih (by omega) fun i h1 h2 => z i h1 (by omega), z m (by omega) (by omega)]
      omega
theorem sg_head : ∀ (n : Nat) (f : Nat → Int), sg (n + 1) f = f 0 + sg n fun i => f (i + 1)
  | 0, f => by show 0 + f 0 = f 0 + 0; omega
  | n + 1, f => by
    show sg (n + 1) f + f (n + 1) = f 0 + (sg n (fun i => f (i + 1)) + f (n + 1))
    rw [sg_head n]; omega
theorem sg_split (m : Nat) : ∀ (n : Nat) (f : Nat → Int), sg (m + n) f = sg m f + sg n fun i => f (m + i)
  | 0, f => by show sg m f = sg m f + 0; omega
  | n + 1, f => by
    show sg (m + n) f + f (m + n) = sg m f + (sg n (fun i => f (m + i)) + f (m + n))
    rw [sg_split m n]; omega
theorem sg_nn : ∀ {n : Nat} {f : Nat → Int}, (∀ i, i < n → 0 ≤ f i) → 0 ≤ sg n f
  | 0, _, _ => Int.le_refl _
  | n + 1, f, h => by
    have := sg_nn (n := n) (f := f) fun i hi => h i (by omega)
    have := h n (by omega)
    show 0 ≤ sg n f + f n
    omega
theorem sg_le : ∀ {n : Nat} {f g : Nat → Int}, (∀ i, i < n → f i ≤ g i) → sg n f ≤ sg n g
  | 0, _, _, _ => Int.le_refl _
  | n + 1, f, g, h => by
    have := sg_le (n := n) (f := f) (g := g) fun i hi => h i (by omega)
    have := h n (by omega)
    show sg n f + f n ≤ sg n g + g n
    omega
/-- the sum of a row -/
theorem sum_foldl : ∀ (l : List Int) (a : Int), l.foldl (· + ·) a = a + l.foldl (· + ·) 0
  | [], a => by simp
  | x :: r, a => by
    rw [List.foldl_cons, List.foldl_cons, sum_foldl r, sum_foldl r (0 + x)]
    omega
/-- a loop over 0 .. n - 1 -/
theorem forR {σ : Type} {b : Bn} {f : VS.Env → M Out} {J : List Nat} (R : σ → VS.Env) (st : Nat → σ) {lo : Int} : ∀ (n m : Nat), (∀ i, m ≤ i → i < m + n → ∃ ρ1, b (.int (lo + i)) (R (st i)) = some ρ1 ∧ ∃ ρ2, f ρ1 = ret (.nx ρ2) ∧ fg ρ2 J = R (st (i + 1))) →
    VS.forF b f J (rng (lo + m) n) (R (st m)) = ret (.nx (R (st (m + n))))
  | 0, m, _ => rfl
  | n + 1, m, h => by
    obtain ⟨ρ1, e1, ρ2, e2, e3⟩ := h m (Nat.le_refl _) (by omega)
    rw [rng_succ]
    show bnd (ofO (b (.int (lo + m)) (R (st m)))) _ = _
    rw [e1, ofO_s, bnd_ret, e2, bnd_ret]
    show VS.forF b f J _ (fg ρ2 J) = _
    rw [e3]
    have := forR R st (lo := lo) (b := b) (f := f) (J := J) n (m + 1) fun i h1 h2 => h i (by omega) (by omega)
    rw [show lo + ((m + 1 : Nat) : Int) = lo + m + 1 by omega] at this
    rw [this, show m + 1 + n = m + (n + 1) by omega]
theorem forR0 {σ : Type} {b : Bn} {f : VS.Env → M Out} {J : List Nat} (R : σ → VS.Env) (st : Nat → σ) {lo : Int} (n : Nat) (h : ∀ i, i < n → ∃ ρ1, b (.int (lo + (i : Nat))) (R (st i)) = some ρ1 ∧ ∃ ρ2, f ρ1 = ret (.nx ρ2) ∧ fg ρ2 J = R (st (i + 1))) :
    VS.forF b f J (rng lo n) (R (st 0)) = ret (.nx (R (st n))) := by
  have := forR R st (lo := lo) (b := b) (f := f) (J := J) n 0 fun i _ h2 => h i (by omega)
  rw [show lo + ((0 : Nat) : Int) = lo by omega, Nat.zero_add] at this
  exact this
/-- a while without the bag -/
theorem whE {σ : Type} {c : VS.Env → M Bool} {f : VS.Env → M Out} {J : List Nat} (R : σ → VS.Env) (st : Nat → σ) : ∀ (k N m : Nat), k < N → (∀ i, m ≤ i → i < m + k → c (R (st i)) = ret true ∧ ∃ ρ2, f (R (st i)) = ret (.nx ρ2) ∧ fg ρ2 J = R (st (i + 1))) → c (R (st (m + k))) = ret false →
    VS.whF c f J N (R (st m)) = ret (.nx (R (st (m + k))))
  | k, 0, m, h, _, _ => absurd h (Nat.not_lt_zero _)
  | 0, N + 1, m, _, _, e => by
    show bnd (c (R (st m))) _ = _
    rw [show c (R (st m)) = ret false from e, bnd_ret]
    rfl
  | k + 1, N + 1, m, h, hs, e => by
    obtain ⟨e1, ρ2, e2, e3⟩ := hs m (Nat.le_refl _) (by omega)
    show bnd (c (R (st m))) _ = _
    rw [e1, bnd_ret, cond_true, e2, bnd_ret]
    show VS.whF c f J N (fg ρ2 J) = _
    rw [e3, whE R st k N (m + 1) (by omega) (fun i h1 h2 => hs i (by omega) (by omega)) (by rw [show m + 1 + k = m + (k + 1) by omega]; exact e)]
    rw [show m + 1 + k = m + (k + 1) by omega]
/-- a loop over a list, as a fold -/
theorem loopL {σ α : Type} {b : Bn} {f : VS.Env → M Out} {J : List Nat} (R : σ → VS.Env) (st : σ → α → σ) (en : α → D) : ∀ (l : List α) (s : σ), (∀ s, ∀ x ∈ l, ∃ ρ1, b (en x) (R s) = some ρ1 ∧ ∃ ρ2, f ρ1 = ret (.nx ρ2) ∧ fg ρ2 J = R (st s x)) → VS.forF b f J (l.map en) (R s) = ret (.nx (R (l.foldl st s)))
  | [], _, _ => rfl
  | x :: r, s, h => by
    obtain ⟨ρ1, e1, ρ2, e2, e3⟩ := h s x (List.mem_cons_self ..)
    show bnd (ofO (b (en x) (R s))) _ = _
    rw [e1, ofO_s, bnd_ret, e2, bnd_ret]
    show VS.forF b f J (r.map en) (fg ρ2 J) = _
    rw [e3, List.foldl_cons]
    exact loopL R st en r _ fun s x hx => h s x (List.mem_cons_of_mem _ hx)
/-- sums over lists -/
def ls {α : Type} (l : List α) (g : α → Int) : Int := (l.map g).sum
theorem ls_nil {α : Type} (g : α → Int) : ls [] g = 0 := rfl
theorem ls_cons {α : Type} (x : α) (l : List α) (g : α → Int) : ls (x :: l) g = g x + ls l g := by simp [ls]
theorem ls_append {α : Type} (l m : List α) (g : α → Int) : ls (l ++ m) g = ls l g + ls m g := by simp [ls]
theorem ls_map {α β : Type} (l : List α) (h : α → β) (g : β → Int) : ls (l.map h) g = ls l fun x => g (h x) := by simp [ls, Function.comp_def]
theorem ls_congr {α : Type} {l : List α} {g h : α → Int} (e : ∀ x ∈ l, g x = h x) : ls l g = ls l h := by
  unfold ls
  rw [List.map_congr_left e]
theorem ls_filter {α : Type} (p : α → Bool) (g : α → Int) : ∀ l : List α, ls (l.filter p) g = ls l fun x => if p x = true then g x else 0
  | [] => rfl
  | x :: r => by
    rw [ls_cons]
    cases e : p x with
    | true =>
      rw [List.filter_cons_of_pos e, ls_cons, ls_filter p g r]
      rfl
    | false =>
      rw [List.filter_cons_of_neg (by rw [e]; decide), ls_filter p g r]
      show _ = 0 + _
      omega
theorem ls_flat {α β : Type} (h : α → List β) (g : β → Int) : ∀ l : List α, ls (l.flatMap h) g = ls l fun x => ls (h x) g
  | [] => rfl
  | x :: r => by rw [List.flatMap_cons, ls_append, ls_flat h g r, ls_cons]
theorem ls_range (n : Nat) (g : Nat → Int) : ls (List.range n) g = sg n g := by
  induction n with
  | zero => rfl
  | succ n ih => rw [List.range_succ, ls_append, ih, ls_cons, ls_nil]; show _ = sg n g + g n; omega
theorem fold_ls {α κ : Type} (d : α → κ → Int) : ∀ (l : List α) (f : κ → Int), l.foldl (fun (f : κ → Int) x => fun k => f k + d x k) f = fun k => f k + ls l fun x => d x k
  | [], f => by
    funext k
    rw [ls_nil]
    show f k = f k + 0
    omega
  | x :: r, f => by
    rw [List.foldl_cons, fold_ls d r]
    funext k
    rw [ls_cons]
    omega
theorem ls_perm {α : Type} {l m : List α} (h : l.Perm m) (g : α → Int) : ls l g = ls m g := by
  induction h with
  | nil => rfl
  | cons x _ ih => rw [ls_cons, ls_cons, ih]
  | swap x y l => rw [ls_cons, ls_cons, ls_cons, ls_cons]; omega
  | trans _ _ i j => rw [i, j]
theorem rng_0 (n : Nat) : rng 0 n = (List.range n).map fun k => D.int (k : Nat) := by
  unfold rng
  exact List.map_congr_left fun k _ => by rw [Int.zero_add]
theorem rng1N {A : VS.Env → M D} {ρ : VS.Env} {n : Nat} (h : A ρ = ret (.int (n : Nat))) (hn : n < 2 ^ 62) : rng1F A ρ = ret ((List.range n).map fun k => D.int (k : Nat)) := by
  rw [rng1E h (by omega) (by omega), Int.toNat_natCast, rng_0]
/-- the first place at which a thing does not hold -/
theorem first_not (P : Nat → Prop) : ∀ N : Nat, ∃ n, n ≤ N ∧ (∀ i, i < n → P i) ∧ (n = N ∨ ¬ P n)
  | 0 => ⟨0, Nat.le_refl _, fun i h => absurd h (Nat.not_lt_zero _), .inl rfl⟩
  | N + 1 => by
    obtain ⟨n, h1, h2, h3⟩ := first_not P N
    by_cases e : n = N
    · subst e
      by_cases c : P n
      · exact ⟨n + 1, Nat.le_refl _, fun i hi => by
          by_cases q : i = n
          · subst q; exact c
          · exact h2 i (by omega), .inl rfl⟩
      · exact ⟨n, by omega, h2, .inr c⟩
    · exact ⟨n, by omega, h2, .inr (h3.resolve_left e)⟩
theorem asInts_vc (n : Nat) (f : Nat → Int) : vc n f = ((List.range n).map f).map D.int := by
  unfold vc
  rw [List.map_map]
  rfl
theorem repD_ok {xs : List D} {k : Int} (h0 : 0 ≤ k) (h1 : k < 2 ^ 62) (h : xs.length * k.toNat ≤ 16777216) : repD (.lst xs) (.int k) = some (.lst (List.replicate k.toNat xs).flatten) := if_pos ⟨h1, h, by omega⟩
theorem repD_vc {v k : Int} {n : Nat} (e : k = n) (h : n ≤ 16000000) : repD (.lst [.int v]) (.int k) = some (.lst (vc n fun _ => v)) := by
  subst e
  rw [repD_ok (by omega) (by omega) (by simp; omega), Int.toNat_natCast, vc_rep]
theorem seqFl {A : VS.Env → M D} {ρ : VS.Env} {ds : List D} (h : A ρ = ret (.lst ds)) : seqF A ρ = ret ds := by
  show bnd (A ρ) _ = _
  rw [h, bnd_ret]
  rfl
theorem seqFt {A : VS.Env → M D} {ρ : VS.Env} {ds : List D} (h : A ρ = ret (.tup ds)) : seqF A ρ = ret ds := by
  show bnd (A ρ) _ = _
  rw [h, bnd_ret]
  rfl
theorem whE1 {c : VS.Env → M Bool} {f : VS.Env → M Out} {J : List Nat} (R : Nat → VS.Env) (k N : Nat) (h : k < N) (hs : ∀ i, i < k → c (R i) = ret true ∧ ∃ ρ2, f (R i) = ret (.nx ρ2) ∧ fg ρ2 J = R (i + 1)) (e : c (R k) = ret false) : VS.whF c f J N (R 0) = ret (.nx (R k)) := by
  have := whE (σ := Nat) R (fun i => i) k N 0 h (fun i _ h2 => hs i (by omega)) (by rw [Nat.zero_add]; exact e)
  rwa [Nat.zero_add] at this
theorem forR1 {b : Bn} {f : VS.Env → M Out} {J : List Nat} (R : Nat → VS.Env) {lo : Int} (n : Nat) (h : ∀ i, i < n → ∃ ρ1, b (.int (lo + (i : Nat))) (R i) = some ρ1 ∧ ∃ ρ2, f ρ1 = ret (.nx ρ2) ∧ fg ρ2 J = R (i + 1)) :
    VS.forF b f J (rng lo n) (R 0) = ret (.nx (R n)) := forR0 (σ := Nat) R (fun i => i) n h
theorem cat_l (xs ys : List D) (h : xs.length + ys.length ≤ 16777216) : catD (.lst xs) (.lst ys) = some (.lst (xs ++ ys)) := if_pos h
theorem forR2 {b : Bn} {f : VS.Env → M Out} {J : List Nat} {ρ0 ρn : VS.Env} (R : Nat → VS.Env) {lo : Int} (n : Nat) (h0 : ρ0 = R 0) (h : ∀ i, i < n → ∃ ρ1, b (.int (lo + (i : Nat))) (R i) = some ρ1 ∧ ∃ ρ2, f ρ1 = ret (.nx ρ2) ∧ fg ρ2 J = R (i + 1)) (hn : R n = ρn) :
    VS.forF b f J (rng lo n) ρ0 = ret (.nx ρn) := by
  subst h0; subst hn
  exact forR1 R n h
theorem whE2 {c : VS.Env → M Bool} {f : VS.Env → M Out} {J : List Nat} {ρ0 ρn : VS.Env} (R : Nat → VS.Env) (k N : Nat) (h : k < N) (h0 : ρ0 = R 0) (hs : ∀ i, i < k → c (R i) = ret true ∧ ∃ ρ2, f (R i) = ret (.nx ρ2) ∧ fg ρ2 J = R (i + 1)) (e : c (R k) = ret false) (hn : R k = ρn) : VS.whF c f J N ρ0 = ret (.nx ρn) := by
  subst h0; subst hn
  exact whE1 R k N h hs e
theorem seqC {f h : VS.Env → M Out} {ρ ρ1 : VS.Env} {o : M Out} (e : f ρ = ret (.nx ρ1)) (k : h ρ1 = o) : VS.seqS f h ρ = o := (seqS_eq e).trans k
theorem seqT0 {A : VS.Env → M D} {h : VS.Env → M Out} {y : Option D} {r : VS.Env} {d : D} (e : A (y :: r) = ret d) : seqS (setS 0 A) h (y :: r) = h (some d :: r) := seqS_eq (setS_eq e)
theorem seqQ0 {A : VS.Env → M D} {h : VS.Env → M Out} {y : Option D} {r : VS.Env} {d : D} {o : M Out} (e : A (y :: r) = ret d) (k : h (some d :: r) = o) : seqS (setS 0 A) h (y :: r) = o := (seqT0 e).trans k
theorem Ev.sT0 {A : VS.Env → M D} {h : VS.Env → M Out} {y : Option D} {r : VS.Env} {d : D} {W : Wd} {Q : Out → Wd → Prop} (e : A (y :: r) = VS.ret d) (q : Ev (h (some d :: r)) W Q) : Ev (VS.seqS (VS.setS 0 A) h (y :: r)) W Q := .rw (seqT0 e) q
theorem seqT1 {A : VS.Env → M D} {h : VS.Env → M Out} {x0 : Option D} {y : Option D} {r : VS.Env} {d : D} (e : A (x0 :: y :: r) = ret d) : seqS (setS 1 A) h (x0 :: y :: r) = h (x0 :: some d :: r) := seqS_eq (setS_eq e)
theorem seqQ1 {A : VS.Env → M D} {h : VS.Env → M Out} {x0 : Option D} {y : Option D} {r : VS.Env} {d : D} {o : M Out} (e : A (x0 :: y :: r) = ret d) (k : h (x0 :: some d :: r) = o) : seqS (setS 1 A) h (x0 :: y :: r) = o := (seqT1 e).trans k
theorem Ev.sT1 {A : VS.Env → M D} {h : VS.Env → M Out} {x0 : Option D} {y : Option D} {r : VS.Env} {d : D} {W : Wd} {Q : Out → Wd → Prop} (e : A (x0 :: y :: r) = VS.ret d) (q : Ev (h (x0 :: some d :: r)) W Q) : Ev (VS.seqS (VS.setS 1 A) h (x0 :: y :: r)) W Q := .rw (seqT1 e) q
theorem seqT2 {A : VS.Env → M D} {h : VS.Env → M Out} {x0 x1 : Option D} {y : Option D} {r : VS.Env} {d : D} (e : A (x0 :: x1 :: y :: r) = ret d) : seqS (setS 2 A) h (x0 :: x1 :: y :: r) = h (x0 :: x1 :: some d :: r) := seqS_eq (setS_eq e)
theorem seqQ2 {A : VS.Env → M D} {h : VS.Env → M Out} {x0 x1 : Option D} {y : Option D} {r : VS.Env} {d : D} {o : M Out} (e : A (x0 :: x1 :: y :: r) = ret d) (k : h (x0 :: x1 :: some d :: r) = o) : seqS (setS 2 A) h (x0 :: x1 :: y :: r) = o := (seqT2 e).trans k
theorem Ev.sT2 {A : VS.Env → M D} {h : VS.Env → M Out} {x0 x1 : Option D} {y : Option D} {r : VS.Env} {d : D} {W : Wd} {Q : Out → Wd → Prop} (e : A (x0 :: x1 :: y :: r) = VS.ret d) (q : Ev (h (x0 :: x1 :: some d :: r)) W Q) : Ev (VS.seqS (VS.setS 2 A) h (x0 :: x1 :: y :: r)) W Q := .rw (seqT2 e) q
theorem seqT3 {A : VS.Env → M D} {h : VS.Env → M Out} {x0 x1 x2 : Option D} {y : Option D} {r : VS.Env} {d : D} (e : A (x0 :: x1 :: x2 :: y :: r) = ret d) : seqS (setS 3 A) h (x0 :: x1 :: x2 :: y :: r) = h (x0 :: x1 :: x2 :: some d :: r) := seqS_eq (setS_eq e)
theorem seqQ3 {A : VS.Env → M D} {h : VS.Env → M Out} {x0 x1 x2 : Option D} {y : Option D} {r : VS.Env} {d : D} {o : M Out} (e : A (x0 :: x1 :: x2 :: y :: r) = ret d) (k : h (x0 :: x1 :: x2 :: some d :: r) = o) : seqS (setS 3 A) h (x0 :: x1 :: x2 :: y :: r) = o := (seqT3 e).trans k
theorem Ev.sT3 {A : VS.Env → M D} {h : VS.Env → M Out} {x0 x1 x2 : Option D} {y : Option D} {r : VS.Env} {d : D} {W : Wd} {Q : Out → Wd → Prop} (e : A (x0 :: x1 :: x2 :: y :: r) = VS.ret d) (q : Ev (h (x0 :: x1 :: x2 :: some d :: r)) W Q) : Ev (VS.seqS (VS.setS 3 A) h (x0 :: x1 :: x2 :: y :: r)) W Q := .rw (seqT3 e) q
theorem seqT4 {A : VS.Env → M D} {h : VS.Env → M Out} {x0 x1 x2 x3 : Option D} {y : Option D} {r : VS.Env} {d : D} (e : A (x0 :: x1 :: x2 :: x3 :: y :: r) = ret d) : seqS (setS 4 A) h (x0 :: x1 :: x2 :: x3 :: y :: r) = h (x0 :: x1 :: x2 :: x3 :: some d :: r) := seqS_eq (setS_eq e)
theorem seqQ4 {A : VS.Env → M D} {h : VS.Env → M Out} {x0 x1 x2 x3 : Option D} {y : Option D} {r : VS.Env} {d : D} {o : M Out} (e : A (x0 :: x1 :: x2 :: x3 :: y :: r) = ret d) (k : h (x0 :: x1 :: x2 :: x3 :: some d :: r) = o) : seqS (setS 4 A) h (x0 :: x1 :: x2 :: x3 :: y :: r) = o := (seqT4 e).trans k
theorem Ev.sT4 {A : VS.Env → M D} {h : VS.Env → M Out} {x0 x1 x2 x3 : Option D} {y : Option D} {r : VS.Env} {d : D} {W : Wd} {Q : Out → Wd → Prop} (e : A (x0 :: x1 :: x2 :: x3 :: y :: r) = VS.ret d) (q : Ev (h (x0 :: x1 :: x2 :: x3 :: some d :: r)) W Q) : Ev (VS.seqS (VS.setS 4 A) h (x0 :: x1 :: x2 :: x3 :: y :: r)) W Q := .rw (seqT4 e) q
theorem seqT5 {A : VS.Env → M D} {h : VS.Env → M Out} {x0 x1 x2 x3 x4 : Option D} {y : Option D} {r : VS.Env} {d : D} (e : A (x0 :: x1 :: x2 :: x3 :: x4 :: y :: r) = ret d) : seqS (setS 5 A) h (x0 :: x1 :: x2 :: x3 :: x4 :: y :: r) = h (x0 :: x1 :: x2 :: x3 :: x4 :: some d :: r) := seqS_eq (setS_eq e)
theorem seqQ5 {A : VS.Env → M D} {h : VS.Env → M Out} {x0 x1 x2 x3 x4 : Option D} {y : Option D} {r : VS.Env} {d : D} {o : M Out} (e : A (x0 :: x1 :: x2 :: x3 :: x4 :: y :: r) = ret d) (k : h (x0 :: x1 :: x2 :: x3 :: x4 :: some d :: r) = o) : seqS (setS 5 A) h (x0 :: x1 :: x2 :: x3 :: x4 :: y :: r) = o := (seqT5 e).trans k
theorem Ev.sT5 {A : VS.Env → M D} {h : VS.Env → M Out} {x0 x1 x2 x3 x4 : Option D} {y : Option D} {r : VS.Env} {d : D} {W : Wd} {Q : Out → Wd → Prop} (e : A (x0 :: x1 :: x2 :: x3 :: x4 :: y :: r) = VS.ret d) (q : Ev (h (x0 :: x1 :: x2 :: x3 :: x4 :: some d :: r)) W Q) : Ev (VS.seqS (VS.setS 5 A) h (x0 :: x1 :: x2 :: x3 :: x4 :: y :: r)) W Q := .rw (seqT5 e) q
theorem seqT6 {A : VS.Env → M D} {h : VS.Env → M Out} {x0 x1 x2 x3 x4 x5 : Option D} {y : Option D} {r : VS.Env} {d : D} (e : A (x0 :: x1 :: x2 :: x3 :: x4 :: x5 :: y :: r) = ret d) : seqS (setS 6 A) h (x0 :: x1 :: x2 :: x3 :: x4 :: x5 :: y :: r) = h (x0 :: x1 :: x2 :: x3 :: x4 :: x5 :: some d :: r) := seqS_eq (setS_eq e)
theorem seqQ6 {A : VS.Env → M D} {h : VS.Env → M Out} {x0 x1 x2 x3 x4 x5 : Option D} {y : Option D} {r : VS.Env} {d : D} {o : M Out} (e : A (x0 :: x1 :: x2 :: x3 :: x4 :: x5 :: y :: r) = ret d) (k : h (x0 :: x1 :: x2 :: x3 :: x4 :: x5 :: some d :: r) = o) : seqS (setS 6 A) h (x0 :: x1 :: x2 :: x3 :: x4 :: x5 :: y :: r) = o := (seqT6 e).trans k
theorem Ev.sT6 {A : VS.Env → M D} {h : VS.Env → M Out} {x0 x1 x2 x3 x4 x5 : Option D} {y : Option D} {r : VS.Env} {d : D} {W : Wd} {Q : Out → Wd → Prop} (e : A (x0 :: x1 :: x2 :: x3 :: x4 :: x5 :: y :: r) = VS.ret d) (q : Ev (h (x0 :: x1 :: x2 :: x3 :: x4 :: x5 :: some d :: r)) W Q) : Ev (VS.seqS (VS.setS 6 A) h (x0 :: x1 :: x2 :: x3 :: x4 :: x5 :: y :: r)) W Q := .rw (seqT6 e) q
theorem seqT7 {A : VS.Env → M D} {h : VS.Env → M Out} {x0 x1 x2 x3 x4 x5 x6 : Option D} {y : Option D} {r : VS.Env} {d : D} (e : A (x0 :: x1 :: x2 :: x3 :: x4 :: x5 :: x6 :: y :: r) = ret d) : seqS (setS 7 A) h (x0 :: x1 :: x2 :: x3 :: x4 :: x5 :: x6 :: y :: r) = h (x0 :: x1 :: x2 :: x3 :: x4 :: x5 :: x6 :: some d :: r) := seqS_eq (setS_eq e)
theorem seqQ7 {A : VS.Env → M D} {h : VS.Env → M Out} {x0 x1 x2 x3 x4 x5 x6 : Option D} {y : Option D} {r : VS.Env} {d : D} {o : M Out} (e : A (x0 :: x1 :: x2 :: x3 :: x4 :: x5 :: x6 :: y :: r) = ret d) (k : h (x0 :: x1 :: x2 :: x3 :: x4 :: x5 :: x6 :: some d :: r) = o) : seqS (setS 7 A) h (x0 :: x1 :: x2 :: x3 :: x4 :: x5 :: x6 :: y :: r) = o := (seqT7 e).trans k
theorem Ev.sT7 {A : VS.Env → M D} {h : VS.Env → M Out} {x0 x1 x2 x3 x4 x5 x6 : Option D} {y : Option D} {r : VS.Env} {d : D} {W : Wd} {Q : Out → Wd → Prop} (e : A (x0 :: x1 :: x2 :: x3 :: x4 :: x5 :: x6 :: y :: r) = VS.ret d) (q : Ev (h (x0 :: x1 :: x2 :: x3 :: x4 :: x5 :: x6 :: some d :: r)) W Q) : Ev (VS.seqS (VS.setS 7 A) h (x0 :: x1 :: x2 :: x3 :: x4 :: x5 :: x6 :: y :: r)) W Q := .rw (seqT7 e) q
theorem seqT8 {A : VS.Env → M D} {h : VS.Env → M Out} {x0 x1 x2 x3 x4 x5 x6 x7 : Option D} {y : Option D} {r : VS.Env} {d : D} (e : A (x0 :: x1 :: x2 :: x3 :: x4 :: x5 :: x6 :: x7 :: y :: r) = ret d) : seqS (setS 8 A) h (x0 :: x1 :: x2 :: x3 :: x4 :: x5 :: x6 :: x7 :: y :: r) = h (x0 :: x1 :: x2 :: x3 :: x4 :: x5 :: x6 :: x7 :: some d :: r) := seqS_eq (setS_eq e)
theorem seqQ8 {A : VS.Env → M D} {h : VS.Env → M Out} {x0 x1 x2 x3 x4 x5 x6 x7 : Option D} {y : Option D} {r : VS.Env} {d : D} {o : M Out} (e : A (x0 :: x1 :: x2 :: x3 :: x4 :: x5 :: x6 :: x7 :: y :: r) = ret d) (k : h (x0 :: x1 :: x2 :: x3 :: x4 :: x5 :: x6 :: x7 :: some d :: r) = o) : seqS (setS 8 A) h (x0 :: x1 :: x2 :: x3 :: x4 :: x5 :: x6 :: x7 :: y :: r) = o := (seqT8 e).trans k
theorem Ev.sT8 {A : VS.Env → M D} {h : VS.Env → M Out} {x0 x1 x2 x3 x4 x5 x6 x7 : Option D} {y : Option D} {r : VS.Env} {d : D} {W : Wd} {Q : Out → Wd → Prop} (e : A (x0 :: x1 :: x2 :: x3 :: x4 :: x5 :: x6 :: x7 :: y :: r) = VS.ret d) (q : Ev (h (x0 :: x1 :: x2 :: x3 :: x4 :: x5 :: x6 :: x7 :: some d :: r)) W Q) : Ev (VS.seqS (VS.setS 8 A) h (x0 :: x1 :: x2 :: x3 :: x4 :: x5 :: x6 :: x7 :: y :: r)) W Q := .rw (seqT8 e) q
theorem seqT9 {A : VS.Env → M D} {h : VS.Env → M Out} {x0 x1 x2 x3 x4 x5 x6 x7 x8 : Option D} {y : Option D} {r : VS.Env} {d : D} (e : A (x0 :: x1 :: x2 :: x3 :: x4 :: x5 :: x6 :: x7 :: x8 :: y :: r) = ret d) : seqS (setS 9 A) h (x0 :: x1 :: x2 :: x3 :: x4 :: x5 :: x6 :: x7 :: x8 :: y :: r) = h (x0 :: x1 :: x2 :: x3 :: x4 :: x5 :: x6 :: x7 :: x8 :: some d :: r) := seqS_eq (setS_eq e)
theorem seqQ9 {A : VS.Env → M D} {h : VS.Env → M Out} {x0 x1 x2 x3 x4 x5 x6 x7 x8 : Option D} {y : Option D} {r : VS.Env} {d : D} {o : M Out} (e : A (x0 :: x1 :: x2 :: x3 :: x4 :: x5 :: x6 :: x7 :: x8 :: y :: r) = ret d) (k : h (x0 :: x1 :: x2 :: x3 :: x4 :: x5 :: x6 :: x7 :: x8 :: some d :: r) = o) : seqS (setS 9 A) h (x0 :: x1 :: x2 :: x3 :: x4 :: x5 :: x6 :: x7 :: x8 :: y :: r) = o := (seqT9 e).trans k
theorem Ev.sT9 {A : VS.Env → M D} {h : VS.Env → M Out} {x0 x1 x2 x3 x4 x5 x6 x7 x8 : Option D} {y : Option D} {r : VS.Env} {d : D} {W : Wd} {Q : Out → Wd → Prop} (e : A (x0 :: x1 :: x2 :: x3 :: x4 :: x5 :: x6 :: x7 :: x8 :: y :: r) = VS.ret d) (q : Ev (h (x0 :: x1 :: x2 :: x3 :: x4 :: x5 :: x6 :: x7 :: x8 :: some d :: r)) W Q) : Ev (VS.seqS (VS.setS 9 A) h (x0 :: x1 :: x2 :: x3 :: x4 :: x5 :: x6 :: x7 :: x8 :: y :: r)) W Q := .rw (seqT9 e) q
theorem seqT10 {A : VS.Env → M D} {h : VS.Env → M Out} {x0 x1 x2 x3 x4 x5 x6 x7 x8 x9 : Option D} {y : Option D} {r : VS.Env} {d : D} (e : A (x0 :: x1 :: x2 :: x3 :: x4 :: x5 :: x6 :: x7 :: x8 :: x9 :: y :: r) = ret d) : seqS (setS 10 A) h (x0 :: x1 :: x2 :: x3 :: x4 :: x5 :: x6 :: x7 :: x8 :: x9 :: y :: r) = h (x0 :: x1 :: x2 :: x3 :: x4 :: x5 :: x6 :: x7 :: x8 :: x9 :: some d :: r) := seqS_eq (setS_eq e)
theorem seqQ10 {A : VS.Env → M D} {h : VS.Env → M Out} {x0 x1 x2 x3 x4 x5 x6 x7 x8 x9 : Option D} {y : Option D} {r : VS.Env} {d : D} {o : M Out} (e : A (x0 :: x1 :: x2 :: x3 :: x4 :: x5 :: x6 :: x7 :: x8 :: x9 :: y :: r) = ret d) (k : h (x0 :: x1 :: x2 :: x3 :: x4 :: x5 :: x6 :: x7 :: x8 :: x9 :: some d :: r) = o) : seqS (setS 10 A) h (x0 :: x1 :: x2 :: x3 :: x4 :: x5 :: x6 :: x7 :: x8 :: x9 :: y :: r) = o := (seqT10 e).trans k
theorem Ev.sT10 {A : VS.Env → M D} {h : VS.Env → M Out} {x0 x1 x2 x3 x4 x5 x6 x7 x8 x9 : Option D} {y : Option D} {r : VS.Env} {d : D} {W : Wd} {Q : Out → Wd → Prop} (e : A (x0 :: x1 :: x2 :: x3 :: x4 :: x5 :: x6 :: x7 :: x8 :: x9 :: y :: r) = VS.ret d) (q : Ev (h (x0 :: x1 :: x2 :: x3 :: x4 :: x5 :: x6 :: x7 :: x8 :: x9 :: some d :: r)) W Q) : Ev (VS.seqS (VS.setS 10 A) h (x0 :: x1 :: x2 :: x3 :: x4 :: x5 :: x6 :: x7 :: x8 :: x9 :: y :: r)) W Q := .rw (seqT10 e) q
theorem seqT11 {A : VS.Env → M D} {h : VS.Env → M Out} {x0 x1 x2 x3 x4 x5 x6 x7 x8 x9 x10 : Option D} {y : Option D} {r : VS.Env} {d : D} (e : A (x0 :: x1 :: x2 :: x3 :: x4 :: x5 :: x6 :: x7 :: x8 :: x9 :: x10 :: y :: r) = ret d) : seqS (setS 11 A) h (x0 :: x1 :: x2 :: x3 :: x4 :: x5 :: x6 :: x7 :: x8 :: x9 :: x10 :: y :: r) = h (x0 :: x1 :: x2 :: x3 :: x4 :: x5 :: x6 :: x7 :: x8 :: x9 :: x10 :: some d :: r) := seqS_eq (setS_eq e)
theorem seqQ11 {A : VS.Env → M D} {h : VS.Env → M Out} {x0 x1 x2 x3 x4 x5 x6 x7 x8 x9 x10 : Option D} {y : Option D} {r : VS.Env} {d : D} {o : M Out} (e : A (x0 :: x1 :: x2 :: x3 :: x4 :: x5 :: x6 :: x7 :: x8 :: x9 :: x10 :: y :: r) = ret d) (k : h (x0 :: x1 :: x2 :: x3 :: x4 :: x5 :: x6 :: x7 :: x8 :: x9 :: x10 :: some d :: r) = o) : seqS (setS 11 A) h (x0 :: x1 :: x2 :: x3 :: x4 :: x5 :: x6 :: x7 :: x8 :: x9 :: x10 :: y :: r) = o := (seqT11 e).trans k
theorem Ev.sT11 {A : VS.Env → M D} {h : VS.Env → M Out} {x0 x1 x2 x3 x4 x5 x6 x7 x8 x9 x10 : Option D} {y : Option D} {r : VS.Env} {d : D} {W : Wd} {Q : Out → Wd → Prop} (e : A (x0 :: x1 :: x2 :: x3 :: x4 :: x5 :: x6 :: x7 :: x8 :: x9 :: x10 :: y :: r) = VS.ret d) (q : Ev (h (x0 :: x1 :: x2 :: x3 :: x4 :: x5 :: x6 :: x7 :: x8 :: x9 :: x10 :: some d :: r)) W Q) : Ev (VS.seqS (VS.setS 11 A) h (x0 :: x1 :: x2 :: x3 :: x4 :: x5 :: x6 :: x7 :: x8 :: x9 :: x10 :: y :: r)) W Q := .rw (seqT11 e) q
theorem seqT12 {A : VS.Env → M D} {h : VS.Env → M Out} {x0 x1 x2 x3 x4 x5 x6 x7 x8 x9 x10 x11 : Option D} {y : Option D} {r : VS.Env} {d : D} (e : A (x0 :: x1 :: x2 :: x3 :: x4 :: x5 :: x6 :: x7 :: x8 :: x9 :: x10 :: x11 :: y :: r) = ret d) : seqS (setS 12 A) h (x0 :: x1 :: x2 :: x3 :: x4 :: x5 :: x6 :: x7 :: x8 :: x9 :: x10 :: x11 :: y :: r) = h (x0 :: x1 :: x2 :: x3 :: x4 :: x5 :: x6 :: x7 :: x8 :: x9 :: x10 :: x11 :: some d :: r) := seqS_eq (setS_eq e)
theorem seqQ12 {A : VS.Env → M D} {h : VS.Env → M Out} {x0 x1 x2 x3 x4 x5 x6 x7 x8 x9 x10 x11 : Option D} {y : Option D} {r : VS.Env} {d : D} {o : M Out} (e : A (x0 :: x1 :: x2 :: x3 :: x4 :: x5 :: x6 :: x7 :: x8 :: x9 :: x10 :: x11 :: y :: r) = ret d) (k : h (x0 :: x1 :: x2 :: x3 :: x4 :: x5 :: x6 :: x7 :: x8 :: x9 :: x10 :: x11 :: some d :: r) = o) : seqS (setS 12 A) h (x0 :: x1 :: x2 :: x3 :: x4 :: x5 :: x6 :: x7 :: x8 :: x9 :: x10 :: x11 :: y :: r) = o := (seqT12 e).trans k
theorem Ev.sT12 {A : VS.Env → M D} {h : VS.Env → M Out} {x0 x1 x2 x3 x4 x5 x6 x7 x8 x9 x10 x11 : Option D} {y : Option D} {r : VS.Env} {d : D} {W : Wd} {Q : Out → Wd → Prop} (e : A (x0 :: x1 :: x2 :: x3 :: x4 :: x5 :: x6 :: x7 :: x8 :: x9 :: x10 :: x11 :: y :: r) = VS.ret d) (q : Ev (h (x0 :: x1 :: x2 :: x3 :: x4 :: x5 :: x6 :: x7 :: x8 :: x9 :: x10 :: x11 :: some d :: r)) W Q) : Ev (VS.seqS (VS.setS 12 A) h (x0 :: x1 :: x2 :: x3 :: x4 :: x5 :: x6 :: x7 :: x8 :: x9 :: x10 :: x11 :: y :: r)) W Q := .rw (seqT12 e) q
theorem seqT13 {A : VS.Env → M D} {h : VS.Env → M Out} {x0 x1 x2 x3 x4 x5 x6 x7 x8 x9 x10 x11 x12 : Option D} {y : Option D} {r : VS.Env} {d : D} (e : A (x0 :: x1 :: x2 :: x3 :: x4 :: x5 :: x6 :: x7 :: x8 :: x9 :: x10 :: x11 :: x12 :: y :: r) = ret d) : seqS (setS 13 A) h (x0 :: x1 :: x2 :: x3 :: x4 :: x5 :: x6 :: x7 :: x8 :: x9 :: x10 :: x11 :: x12 :: y :: r) = h (x0 :: x1 :: x2 :: x3 :: x4 :: x5 :: x6 :: x7 :: x8 :: x9 :: x10 :: x11 :: x12 :: some d :: r) := seqS_eq (setS_eq e)
theorem seqQ13 {A : VS.Env → M D} {h : VS.Env → M Out} {x0 x1 x2 x3 x4 x5 x6 x7 x8 x9 x10 x11 x12 : Option D} {y : Option D} {r : VS.Env} {d : D} {o : M Out} (e : A (x0 :: x1 :: x2 :: x3 :: x4 :: x5 :: x6 :: x7 :: x8 :: x9 :: x10 :: x11 :: x12 :: y :: r) = ret d) (k : h (x0 :: x1 :: x2 :: x3 :: x4 :: x5 :: x6 :: x7 :: x8 :: x9 :: x10 :: x11 :: x12 :: some d :: r) = o) : seqS (setS 13 A) h (x0 :: x1 :: x2 :: x3 :: x4 :: x5 :: x6 :: x7 :: x8 :: x9 :: x10 :: x11 :: x12 :: y :: r) = o := (seqT13 e).trans k
theorem Ev.sT13 {A : VS.Env → M D} {h : VS.Env → M Out} {x0 x1 x2 x3 x4 x5 x6 x7 x8 x9 x10 x11 x12 : Option D} {y : Option D} {r : VS.Env} {d : D} {W : Wd} {Q : Out → Wd → Prop} (e : A (x0 :: x1 :: x2 :: x3 :: x4 :: x5 :: x6 :: x7 :: x8 :: x9 :: x10 :: x11 :: x12 :: y :: r) = VS.ret d) (q : Ev (h (x0 :: x1 :: x2 :: x3 :: x4 :: x5 :: x6 :: x7 :: x8 :: x9 :: x10 :: x11 :: x12 :: some d :: r)) W Q) : Ev (VS.seqS (VS.setS 13 A) h (x0 :: x1 :: x2 :: x3 :: x4 :: x5 :: x6 :: x7 :: x8 :: x9 :: x10 :: x11 :: x12 :: y :: r)) W Q := .rw (seqT13 e) q
theorem seqT14 {A : VS.Env → M D} {h : VS.Env → M Out} {x0 x1 x2 x3 x4 x5 x6 x7 x8 x9 x10 x11 x12 x13 : Option D} {y : Option D} {r : VS.Env} {d : D} (e : A (x0 :: x1 :: x2 :: x3 :: x4 :: x5 :: x6 :: x7 :: x8 :: x9 :: x10 :: x11 :: x12 :: x13 :: y :: r) = ret d) : seqS (setS 14 A) h (x0 :: x1 :: x2 :: x3 :: x4 :: x5 :: x6 :: x7 :: x8 :: x9 :: x10 :: x11 :: x12 :: x13 :: y :: r) = h (x0 :: x1 :: x2 :: x3 :: x4 :: x5 :: x6 :: x7 :: x8 :: x9 :: x10 :: x11 :: x12 :: x13 :: some d :: r) := seqS_eq (setS_eq e)
theorem seqQ14 {A : VS.Env → M D} {h : VS.Env → M Out} {x0 x1 x2 x3 x4 x5 x6 x7 x8 x9 x10 x11 x12 x13 : Option D} {y : Option D} {r : VS.Env} {d : D} {o : M Out} (e : A (x0 :: x1 :: x2 :: x3 :: x4 :: x5 :: x6 :: x7 :: x8 :: x9 :: x10 :: x11 :: x12 :: x13 :: y :: r) = ret d) (k : h (x0 :: x1 :: x2 :: x3 :: x4 :: x5 :: x6 :: x7 :: x8 :: x9 :: x10 :: x11 :: x12 :: x13 :: some d :: r) = o) : seqS (setS 14 A) h (x0 :: x1 :: x2 :: x3 :: x4 :: x5 :: x6 :: x7 :: x8 :: x9 :: x10 :: x11 :: x12 :: x13 :: y :: r) = o := (seqT14 e).trans k
theorem Ev.sT14 {A : VS.Env → M D} {h : VS.Env → M Out} {x0 x1 x2 x3 x4 x5 x6 x7 x8 x9 x10 x11 x12 x13 : Option D} {y : Option D} {r : VS.Env} {d : D} {W : Wd} {Q : Out → Wd → Prop} (e : A (x0 :: x1 :: x2 :: x3 :: x4 :: x5 :: x6 :: x7 :: x8 :: x9 :: x10 :: x11 :: x12 :: x13 :: y :: r) = VS.ret d) (q : Ev (h (x0 :: x1 :: x2 :: x3 :: x4 :: x5 :: x6 :: x7 :: x8 :: x9 :: x10 :: x11 :: x12 :: x13 :: some d :: r)) W Q) : Ev (VS.seqS (VS.setS 14 A) h (x0 :: x1 :: x2 :: x3 :: x4 :: x5 :: x6 :: x7 :: x8 :: x9 :: x10 :: x11 :: x12 :: x13 :: y :: r)) W Q := .rw (seqT14 e) q
theorem seqT15 {A : VS.Env → M D} {h : VS.Env → M Out} {x0 x1 x2 x3 x4 x5 x6 x7 x8 x9 x10 x11 x12 x13 x14 : Option D} {y : Option D} {r : VS.Env} {d : D} (e : A (x0 :: x1 :: x2 :: x3 :: x4 :: x5 :: x6 :: x7 :: x8 :: x9 :: x10 :: x11 :: x12 :: x13 :: x14 :: y :: r) = ret d) : seqS (setS 15 A) h (x0 :: x1 :: x2 :: x3 :: x4 :: x5 :: x6 :: x7 :: x8 :: x9 :: x10 :: x11 :: x12 :: x13 :: x14 :: y :: r) = h (x0 :: x1 :: x2 :: x3 :: x4 :: x5 :: x6 :: x7 :: x8 :: x9 :: x10 :: x11 :: x12 :: x13 :: x14 :: some d :: r) := seqS_eq (setS_eq e)
theorem seqQ15 {A : VS.Env → M D} {h : VS.Env → M Out} {x0 x1 x2 x3 x4 x5 x6 x7 x8 x9 x10 x11 x12 x13 x14 : Option D} {y : Option D} {r : VS.Env} {d : D} {o : M Out} (e : A (x0 :: x1 :: x2 :: x3 :: x4 :: x5 :: x6 :: x7 :: x8 :: x9 :: x10 :: x11 :: x12 :: x13 :: x14 :: y :: r) = ret d) (k : h (x0 :: x1 :: x2 :: x3 :: x4 :: x5 :: x6 :: x7 :: x8 :: x9 :: x10 :: x11 :: x12 :: x13 :: x14 :: some d :: r) = o) : seqS (setS 15 A) h (x0 :: x1 :: x2 :: x3 :: x4 :: x5 :: x6 :: x7 :: x8 :: x9 :: x10 :: x11 :: x12 :: x13 :: x14 :: y :: r) = o := (seqT15 e).trans k
theorem Ev.sT15 {A : VS.Env → M D} {h : VS.Env → M Out} {x0 x1 x2 x3 x4 x5 x6 x7 x8 x9 x10 x11 x12 x13 x14 : Option D} {y : Option D} {r : VS.Env} {d : D} {W : Wd} {Q : Out → Wd → Prop} (e : A (x0 :: x1 :: x2 :: x3 :: x4 :: x5 :: x6 :: x7 :: x8 :: x9 :: x10 :: x11 :: x12 :: x13 :: x14 :: y :: r) = VS.ret d) (q : Ev (h (x0 :: x1 :: x2 :: x3 :: x4 :: x5 :: x6 :: x7 :: x8 :: x9 :: x10 :: x11 :: x12 :: x13 :: x14 :: some d :: r)) W Q) : Ev (VS.seqS (VS.setS 15 A) h (x0 :: x1 :: x2 :: x3 :: x4 :: x5 :: x6 :: x7 :: x8 :: x9 :: x10 :: x11 :: x12 :: x13 :: x14 :: y :: r)) W Q := .rw (seqT15 e) q
end VS
set_option Elab.async false
set_option linter.all false
set_option maxRecDepth 100000
/-! VST: reckoning with dicts of ints, sorted lists, each once. -/
namespace VS
open PySem L2
def ik (ms : List Int) : List Key := ms.map Sum.inl
theorem ik_mem {k : Int} {ms : List Int} : (Sum.inl k : Key) ∈ ik ms ↔ k ∈ ms := by
  unfold ik
  rw [List.mem_map]
  exact ⟨fun ⟨x, h, e⟩ => by cases e; exact h, fun h => ⟨k, h, rfl⟩⟩
def addK (ms : List Int) (k : Int) : List Int := if k ∈ ms then ms else ms ++ [k]
theorem addK_mem {ms : List Int} {k x : Int} : x ∈ addK ms k ↔ x ∈ ms ∨ x = k := by
  unfold addK
  by_cases c : k ∈ ms
  · rw [if_pos c]
    exact ⟨.inl, fun h => h.elim id fun e => by subst e; exact c⟩
  · rw [if_neg c, List.mem_append, List.mem_singleton]
theorem addK_nodup {ms : List Int} {k : Int} (h : ms.Nodup) : (addK ms k).Nodup := by
  unfold addK
  by_cases c : k ∈ ms
  · rw [if_pos c]; exact h
  · rw [if_neg c, List.nodup_append]
    refine ⟨h, by simp, fun a ha b hb => ?_⟩
    rw [List.mem_singleton] at hb
    subst hb
    exact fun e => c (e ▸ ha)
theorem addK_len {ms : List Int} {k : Int} : (addK ms k).length ≤ ms.length + 1 := by
  unfold addK
  split
  · omega
  · rw [List.length_append]; exact Nat.le_refl _
theorem ik_add (ms : List Int) (k : Int) : dPutK (ik ms) (.inl k) = ik (addK ms k) := by
  unfold dPutK addK
  by_cases c : k ∈ ms
  · rw [if_pos (ik_mem.mpr c), if_pos c]
  · rw [if_neg fun h => c (ik_mem.mp h), if_neg c]
    simp [ik]
/-- a dict of ints: its keys, and what each holds -/
def dki (ms : List Int) (f : Int → D) : D := .dk (ik ms) (ms.map f)
theorem repl_map (f : Int → D) (k : Int) (d : D) : ∀ ms : List Int, dRepl (ik ms) (ms.map f) (.inl k) d = ms.map fun m => if m = k then d else f m
  | [] => rfl
  | m :: r => by
    show (if (Sum.inl m : Key) = .inl k then d else f m) :: dRepl (ik r) (r.map f) (.inl k) d = _
    rw [repl_map f k d r, List.map_cons]
    congr 1
    by_cases c : m = k
    · subst c; rw [if_pos rfl, if_pos rfl]
    · rw [if_neg c, if_neg fun e => c (Sum.inl.inj e)]
theorem dki_set {ms : List Int} {f : Int → D} {k : Int} {d : D} (h : ms.length < 16777216) : dSet (dki ms f) (.int k) d = some (dki (addK ms k) fun m => if m = k then d else f m) := by
  show (if (ik ms).length < 16777216 then some (D.dk (dPutK (ik ms) (.inl k)) (dPutV (ik ms) (ms.map f) (.inl k) d)) else none) = _
  rw [if_pos (by simp [ik]; exact h), ik_add]
  unfold dki
  congr 2
  unfold dPutV addK
  by_cases c : k ∈ ms
  · rw [if_pos (ik_mem.mpr c), if_pos c, repl_map]
  · rw [if_neg fun e => c (ik_mem.mp e), if_neg c, List.map_append]
    congr 1
    · exact List.map_congr_left fun m hm => by rw [if_neg fun (e : m = k) => c (e ▸ hm)]
    · simp
theorem look_map (f : Int → D) (k : Int) : ∀ ms : List Int, dLook (ik ms) (ms.map f) (.inl k) = if k ∈ ms then some (f k) else none
  | [] => rfl
  | m :: r => by
    show (if (Sum.inl m : Key) = .inl k then some (f m) else dLook (ik r) (r.map f) (.inl k)) = _
    rw [look_map f k r]
    by_cases c : m = k
    · subst c; simp
    · rw [if_neg fun e => c (Sum.inl.inj e)]
      have : ¬ k = m := fun e => c e.symm
      simp [this]
theorem dki_get {ms : List Int} {f : Int → D} {k : Int} : dGet (dki ms f) (.int k) = some (if k ∈ ms then some (f k) else none) := by
  show some (dLook (ik ms) (ms.map f) (.inl k)) = _
  rw [look_map]
theorem dki_in {ms : List Int} {f : Int → D} {k : Int} : inG (.int k) (dki ms f) = some (.bl (decide (k ∈ ms))) := by
  have e : inG (.int k) (dki ms f) = (dGet (dki ms f) (.int k)).map fun o => .bl o.isSome := rfl
  rw [e, dki_get]
  by_cases c : k ∈ ms
  · simp [c]
  · simp [c]
theorem dki_len {ms : List Int} {f : Int → D} : lenH [dki ms f] = some (.int ms.length) := by
  show some (D.int ((ik ms).length : Nat)) = _
  unfold ik
  rw [List.length_map]
theorem list_dki {ms : List Int} {f : Int → D} : listH [dki ms f] = some (.lst (ms.map .int)) := by
  show some (D.lst ((ik ms).map kD)) = _
  unfold ik
  rw [List.map_map]
  rfl
theorem keys_dki {A : VS.Env → M D} {ρ : VS.Env} {ms : List Int} {f : Int → D} (h : A ρ = ret (dki ms f)) : keysI A ρ = ret (ms.map .int) := by
  show bnd (A ρ) _ = _
  rw [h, bnd_ret]
  show ofO (some ((ik ms).map kD)) = _
  unfold ik
  rw [List.map_map]
  rfl
theorem dki_congr {ms : List Int} {f g : Int → D} (h : ∀ m ∈ ms, f m = g m) : dki ms f = dki ms g := by
  unfold dki
  rw [List.map_congr_left h]
theorem dput_dki {i : Nat} {fk fv : VS.Env → M D} {ρ : VS.Env} {ms : List Int} {f : Int → D} {k : Int} {d : D} (h : ρ[i]? = some (some (dki ms f))) (ev : fv ρ = ret d) (ek : fk ρ = ret (.int k)) (l : ms.length < 16777216) :
    dputS i fk fv ρ = ret (.nx (ρ.set i (some (dki (addK ms k) fun m => if m = k then d else f m)))) := by
  unfold dputS
  rw [ev, bnd_ret, ek, bnd_ret, h]
  show bnd (ofO (dSet (dki ms f) (.int k) d)) _ = _
  rw [dki_set l, ofO_s, bnd_ret]
theorem listH_l (ds : List D) : listH [.lst ds] = some (.lst ds) := rfl
theorem listH_t (ds : List D) : listH [.tup ds] = some (.lst ds) := rfl
theorem sortedH_i (ns : List Int) : sortedH [.lst (ns.map .int)] = some (.lst ((sortI ns).map .int)) := sortedG_i ns
/-- a rising list is as it is -/
theorem sort_once {ms : List Int} (h : ms.Nodup) : sortI ms = once ms := rising_one (lt_of_le_nodup _ (sortI_sorted _) ((sortI_perm _).nodup_iff.mpr h)) (once_rising _) fun x => by rw [(sortI_perm _).mem_iff, mem_once]
theorem once_congr {xs ys : List Int} (h : ∀ x, x ∈ xs ↔ x ∈ ys) : once xs = once ys := rising_one (once_rising _) (once_rising _) fun x => by rw [mem_once, mem_once]; exact h x
theorem nodup_of_rising : ∀ {l : List Int}, l.Pairwise (· < ·) → l.Nodup := fun h => h.imp fun hlt => by omega
theorem once_self {l : List Int} (h : l.Pairwise (· < ·)) : once l = l := rising_one (once_rising _) h fun x => mem_once
theorem negE' {A : VS.Env → M D} {ρ : VS.Env} {i j : Int} (e : j = -i) (h : A ρ = VS.ret (.int i)) : negV A ρ = VS.ret (.int j) := by subst e; exact negE h
theorem powD_k {i j : Int} (h : 0 ≤ j ∧ (Builtin.Int.intBits i : Int) * j ≤ 100000000) : powD (.int i) (.int j) = some (.int (i ^ j.toNat)) := if_pos h
theorem tgtS_eq {b : Bn} {f : VS.Env → M D} {ρ ρ1 : VS.Env} {d : D} (e : f ρ = ret d) (h : b d ρ = some ρ1) : tgtS b f ρ = ret (.nx ρ1) := by
  show bnd (f ρ) _ = _
  rw [e, bnd_ret]
  show bnd (ofO (b d ρ)) _ = _
  rw [h, ofO_s, bnd_ret]
/-- dict of pairs (k, x), the x all one -/
theorem putAll_c (x : D) : ∀ (P : List Int) (ms : List Int), putAll (P.map fun p => ((Sum.inl p : Key), x)) (ik ms, ms.map fun _ => x) = (ik (P.foldl addK ms), (P.foldl addK ms).map fun _ => x)
  | [], ms => rfl
  | p :: r, ms => by
    show putAll (r.map fun p => ((Sum.inl p : Key), x)) (dPutK (ik ms) (.inl p), dPutV (ik ms) (ms.map fun _ => x) (.inl p) x) = _
    have e : dPutV (ik ms) (ms.map fun _ => x) (.inl p) x = (addK ms p).map fun _ => x := by
      unfold dPutV addK
      by_cases c : p ∈ ms
      · rw [if_pos (ik_mem.mpr c), if_pos c, repl_map]
        exact List.map_congr_left fun m _ => by split <;> rfl
      · rw [if_neg fun e => c (ik_mem.mp e), if_neg c, List.map_append]
        rfl
    rw [ik_add, e, putAll_c x r]
    rfl
theorem foldK_mem {k : Int} : ∀ (P ms : List Int), k ∈ P.foldl addK ms ↔ k ∈ ms ∨ k ∈ P
  | [], ms => by simp
  | p :: r, ms => by
    rw [List.foldl_cons, foldK_mem r, addK_mem, List.mem_cons, or_assoc]
theorem foldK_nodup : ∀ (P : List Int) {ms : List Int}, ms.Nodup → (P.foldl addK ms).Nodup
  | [], _, h => h
  | p :: r, _, h => foldK_nodup r (addK_nodup h)
theorem foldK_len : ∀ (P : List Int) {ms : List Int}, (P.foldl addK ms).length ≤ ms.length + P.length
  | [], _ => by simp
  | p :: r, ms => by
    have := foldK_len r (ms := addK ms p)
    have := addK_len (ms := ms) (k := p)
    rw [List.foldl_cons, List.length_cons]
    omega
theorem asPairs_c (x : D) : ∀ P : List Int, asPairs (P.map fun p => .tup [.int p, x]) = some (P.map fun p => ((Sum.inl p : Key), x))
  | [] => rfl
  | p :: r => by
    show (some (Sum.inl p : Key)).bind (fun k => (asPairs (r.map fun p => .tup [.int p, x])).map fun ps => (k, x) :: ps) = _
    rw [asPairs_c x r]
    rfl
theorem dict_c (x : D) (P : List Int) : dictD [.lst (P.map fun p => .tup [.int p, x])] = some (dki (P.foldl addK []) fun _ => x) := by
  show (asPairs (P.map fun p => .tup [.int p, x])).map _ = _
  rw [asPairs_c]
  have := putAll_c x P []
  show some (D.dk (putAll (P.map fun p => ((Sum.inl p : Key), x)) (ik [], ([] : List Int).map fun _ => x)).1 (putAll (P.map fun p => ((Sum.inl p : Key), x)) (ik [], ([] : List Int).map fun _ => x)).2) = _
  rw [this]
  rfl
/-- pairs and triples of ints -/
def prI (p : Int × Int) : D := .tup [.int p.1, .int p.2]
def trI (p : Int × Int × Int) : D := .tup [.int p.1, .int p.2.1, .int p.2.2]
def enumL {α : Type} : Nat → List α → List (Nat × α)
  | _, [] => []
  | k, x :: r => (k, x) :: enumL (k + 1) r
theorem enumL_len {α : Type} : ∀ (k : Nat) (l : List α), (enumL k l).length = l.length
  | _, [] => rfl
  | k, x :: r => congrArg Nat.succ (enumL_len (k + 1) r)
theorem enumL_filter {α : Type} (t : α → Bool) : ∀ (k : Nat) (l : List α), ((enumL k l).filter fun q => t q.2).length = (l.filter t).length
  | _, [] => rfl
  | k, x :: r => by
    show (((k, x) :: enumL (k + 1) r).filter fun q => t q.2).length = _
    cases e : t x with
    | true => rw [List.filter_cons_of_pos (by exact e), List.filter_cons_of_pos e, List.length_cons, List.length_cons, enumL_filter t (k + 1) r]
    | false => rw [List.filter_cons_of_neg (by rw [e]; decide), List.filter_cons_of_neg (by rw [e]; decide), enumL_filter t (k + 1) r]
theorem enumAt_L {α : Type} (en : α → D) : ∀ (k : Nat) (l : List α), enumAt k (l.map en) = (enumL k l).map fun q => .tup [.int (q.1 : Nat), en q.2]
  | _, [] => rfl
  | k, x :: r => by
    show _ :: enumAt (k + 1) (r.map en) = _
    rw [enumAt_L en (k + 1) r]
    rfl
/-- the last item -/
theorem atI_last {α : Type} (l : List α) (x : α) : atI (l ++ [x]) (-1) = some x := by
  unfold atI ixN
  have h1 : ¬ (0 : Int) ≤ -1 := by decide
  rw [if_neg h1]
  simp
  rw [if_pos (by omega), show (-1 + ((l.length : Int) + 1)).toNat = l.length by omega]
  simp
/-- the run over a list, with a bound that falls -/
theorem loopI {σ α : Type} {b : Bn} {f : VS.Env → M Out} {J : List Nat} (R : σ → VS.Env) (st : σ → α → σ) (I : σ → Nat → Prop) (en : α → D) : ∀ (l : List α) (s : σ), I s l.length → (∀ s, ∀ x ∈ l, ∀ n, I s (n + 1) → I (st s x) n ∧ ∃ ρ1, b (en x) (R s) = some ρ1 ∧ ∃ ρ2, f ρ1 = ret (.nx ρ2) ∧ fg ρ2 J = R (st s x)) → VS.forF b f J (l.map en) (R s) = ret (.nx (R (l.foldl st s)))
  | [], _, _, _ => rfl
  | x :: r, s, i, h => by
    obtain ⟨i2, ρ1, e1, ρ2, e2, e3⟩ := h s x (List.mem_cons_self ..) r.length i
    show bnd (ofO (b (en x) (R s))) _ = _
    rw [e1, ofO_s, bnd_ret, e2, bnd_ret]
    show VS.forF b f J (r.map en) (fg ρ2 J) = _
    rw [e3, List.foldl_cons]
    exact loopI R st I en r _ i2 fun s x hx => h s x (List.mem_cons_of_mem _ hx)
/-! ### data that equals itself -/
structure Pln (k : Nat) (d : D) : Prop where
  n : noBag d = true
  c : (pd d).canLay0 = true
  d : (pd d).depth ≤ k
theorem Pln.int (i : Int) {k : Nat} : Pln k (.int i) := ⟨by unfold noBag; rfl, by unfold pd; rfl, by unfold pd PyData.depth; omega⟩
theorem Pln.bl (i : Bool) {k : Nat} : Pln k (.bl i) := ⟨by unfold noBag; rfl, by unfold pd; rfl, by unfold pd PyData.depth; omega⟩
theorem plns {k : Nat} : ∀ {ds : List D}, (∀ d ∈ ds, Pln k d) → noBags ds = true ∧ PyData.canLayAll0 (pds ds) = true ∧ PyData.depthAll (pds ds) ≤ k
  | [], _ => ⟨by unfold noBags; rfl, by unfold pds; rfl, by unfold pds PyData.depthAll; omega⟩
  | d :: r, h => by
    have a := h d (List.mem_cons_self ..)
    have b := plns (ds := r) fun d hd => h d (List.mem_cons_of_mem _ hd)
    unfold noBags pds PyData.canLayAll0 PyData.depthAll
    rw [a.n, b.1, a.c, b.2.1]
    have h1 := a.d
    have h2 := b.2.2
    exact ⟨rfl, rfl, by omega⟩
theorem Pln.tup {k : Nat} {ds : List D} (h : ∀ d ∈ ds, Pln k d) : Pln (k + 1) (.tup ds) := by
  have a := plns h
  refine ⟨?_, ?_, ?_⟩
  · unfold noBag; exact a.1
  · unfold pd PyData.canLay0; exact a.2.1
  · unfold pd PyData.depth; have := a.2.2; omega
theorem Pln.lst {k : Nat} {ds : List D} (h : ∀ d ∈ ds, Pln k d) : Pln (k + 1) (.lst ds) := by
  have a := plns h
  refine ⟨?_, ?_, ?_⟩
  · unfold noBag; exact a.1
  · unfold pd PyData.canLay0; exact a.2.1
  · unfold pd PyData.depth; have := a.2.2; omega
theorem Pln.map {α : Type} {k : Nat} {en : α → D} (h : ∀ a, Pln k (en a)) {l : List α} : ∀ d ∈ l.map en, Pln k d := fun d hd => by
  obtain ⟨a, _, rfl⟩ := List.mem_map.mp hd
  exact h a
theorem Pln.ok {k : Nat} {d : D} (h : Pln k d) (hk : k ≤ 64) : okE d = true := by
  unfold okE SeqAt.shaped
  rw [h.n, h.c, decide_eq_true (Nat.le_trans h.d hk)]
  rfl
theorem Pln.self {k : Nat} {d : D} (h : Pln k d) (hk : k ≤ 64) : eqO d d = some (.bl true) := by
  unfold eqO
  rw [h.ok hk, SeqAt.eqv_refl _ h.c]
  rfl
theorem Pln.pr (p : Int × Int) : Pln 1 (prI p) := .tup fun d hd => by
  rcases List.mem_cons.mp hd with rfl | hd
  · exact .int _
  · rw [List.mem_singleton] at hd; subst hd; exact .int _
theorem Pln.tr (p : Int × Int × Int) : Pln 1 (trI p) := .tup fun d hd => by
  rcases List.mem_cons.mp hd with rfl | hd
  · exact .int _
  · rcases List.mem_cons.mp hd with rfl | hd
    · exact .int _
    · rw [List.mem_singleton] at hd; subst hd; exact .int _
/-- a list of drawn ints -/
theorem Ev.lcI {vs : List Nat} {s : VS.Env → M (List D)} {b : Bn} {f : VS.Env → M D} {ρ : VS.Env} {W : Wd} {J : Wd → Prop} {P : Int → Prop} {ds : List D} (hs : s ρ = VS.ret ds) (hl : ds.length ≤ 16777216) (hw : J W)
    (h : ∀ d ∈ ds, ∀ W, J W → ∃ ρ1, b d (fg ρ vs) = some ρ1 ∧ Ev (f ρ1) W fun x W' => J W' ∧ ∃ i, x = .int i ∧ P i) :
    Ev (lcS vs s b yesB f ρ) W fun d W' => J W' ∧ ∃ xs : List Int, d = .lst (xs.map .int) ∧ xs.length = ds.length ∧ ∀ x ∈ xs, P x := by
  refine .bnd (.eq hs (.rw (if_pos hl) (.bnd ((Ev.lcF (J := J) (P := fun x => ∃ i, x = .int i ∧ P i) ds (fun d hd W hW => ?_) W hw).mono ?_))))
  · obtain ⟨ρ1, e, q⟩ := h d hd W hW
    exact ⟨ρ1, e, rfl, q⟩
  · rintro xs W ⟨hw, l, hp⟩
    have : ∀ l : List D, (∀ x ∈ l, ∃ i, x = .int i ∧ P i) → ∃ is : List Int, l = is.map .int ∧ ∀ i ∈ is, P i := fun l => by
      induction l with
      | nil => intro _; exact ⟨[], rfl, fun i hi => by cases hi⟩
      | cons x r ih =>
        intro h
        obtain ⟨i, rfl, hi⟩ := h x (List.mem_cons_self ..)
        obtain ⟨is, rfl, his⟩ := ih fun y hy => h y (List.mem_cons_of_mem _ hy)
        refine ⟨i :: is, rfl, fun j hj => ?_⟩
        rcases List.mem_cons.mp hj with rfl | hj
        · exact hi
        · exact his j hj
    obtain ⟨is, rfl, his⟩ := this xs hp
    exact .ret ⟨hw, is, rfl, by rwa [List.length_map] at l, his⟩
end VS
set_option Elab.async false
set_option linter.all false
set_option maxRecDepth 100000
/-! VSV: counting in dicts, pairs sorted, slices, sums of lists. -/
namespace VS
open PySem L2
/-! ### small -/
theorem iteBothV {S : VS.Env → M Bool} {A B : VS.Env → M D} {ρ : VS.Env} {k : Bool} {d : D} (h : S ρ = ret k) (ha : A ρ = ret d) (hb : B ρ = ret d) : VS.iteF S A B ρ = ret d := by
  refine (iteFE h).trans ?_
  cases k
  · exact hb
  · exact ha
theorem cut_fromV {α : Type} (xs : List α) (k : Nat) : cut xs (some (k : Int)) none = xs.drop k := by
  unfold cut
  rw [HT.sIx_nat]
  have h2 : HT.sIx xs.length xs.length none = xs.length := rfl
  rw [h2]
  by_cases c : k ≤ xs.length
  · rw [show min k xs.length = k by omega, List.take_of_length_le (by rw [List.length_drop]; omega)]
  · rw [show min k xs.length = xs.length by omega, List.drop_length, List.drop_eq_nil_of_le (by omega)]
    simp
theorem cut_toV {α : Type} (xs : List α) (k : Nat) : cut xs none (some (k : Int)) = xs.take k := by
  unfold cut
  rw [HT.sIx_nat]
  have h2 : HT.sIx xs.length 0 none = 0 := rfl
  rw [h2, List.drop_zero, Nat.sub_zero]
  by_cases c : k ≤ xs.length
  · rw [show min k xs.length = k by omega]
  · rw [show min k xs.length = xs.length by omega, List.take_length, List.take_of_length_le (by omega)]
theorem ixAV {α : Type} {en : α → D} {xs : List α} {i : Nat} (hi : i < xs.length) : ixM (.lst (xs.map en)) (.int (i : Nat)) = ret (en xs[i]) := by
  rw [ixM_l]
  unfold atI ixN
  rw [if_pos (Int.natCast_nonneg _), if_pos (by rw [List.length_map]; omega)]
  show ofO ((xs.map en)[((i : Nat) : Int).toNat]?) = _
  rw [Int.toNat_natCast, List.getElem?_map, List.getElem?_eq_getElem hi]
  rfl
theorem ixTV {α : Type} {en : α → D} {xs : List α} {i : Nat} (hi : i < xs.length) : ixM (.tup (xs.map en)) (.int (i : Nat)) = ret (en xs[i]) := by
  rw [ixM_t]
  unfold atI ixN
  rw [if_pos (Int.natCast_nonneg _), if_pos (by rw [List.length_map]; omega)]
  show ofO ((xs.map en)[((i : Nat) : Int).toNat]?) = _
  rw [Int.toNat_natCast, List.getElem?_map, List.getElem?_eq_getElem hi]
  rfl
/-! ### sums over lists -/
theorem ls_addV {α : Type} (f g : α → Int) : ∀ l : List α, ls l (fun x => f x + g x) = ls l f + ls l g
  | [] => rfl
  | x :: r => by rw [ls_cons, ls_cons, ls_cons, ls_addV f g r]; omega
theorem flenV {α : Type} (p : α → Bool) : ∀ l : List α, ((l.filter p).length : Int) = ls l fun x => if p x = true then 1 else 0
  | [] => rfl
  | x :: r => by
    rw [ls_cons, ← flenV p r, List.filter_cons]
    split
    · rw [List.length_cons]; omega
    · omega
theorem ls_foldV {α : Type} (g : α → Int) : ∀ (l : List α) (s : Int), l.foldl (fun s x => s + g x) s = s + ls l g
  | [], s => by rw [ls_nil]; show s = s + 0; omega
  | x :: r, s => by rw [List.foldl_cons, ls_foldV g r, ls_cons]; omega
/-! ### counting -/
def ctV (ks : List Int) (m : Int) : Int := ((ks.filter fun k => decide (k = m)).length : Nat)
def dkV (ks : List Int) : D := dki (ks.foldl addK []) fun m => .int (ctV ks m)
theorem ctV_not {ks : List Int} {m : Int} (h : m ∉ ks) : ctV ks m = 0 := by
  unfold ctV
  rw [List.filter_eq_nil_iff.mpr fun k hk => by
    rw [decide_eq_true_eq]
    rintro rfl
    exact h hk]
  rfl
theorem dkV_mem {ks : List Int} {k : Int} : k ∈ ks.foldl addK [] ↔ k ∈ ks := (foldK_mem _ _).trans (by simp)
theorem dkV_get {F A B : VS.Env → M D} {ρ : VS.Env} {ks : List Int} {k : Int} (hF : F ρ = ret (dkV ks)) (hA : A ρ = ret (.int k)) (hB : B ρ = ret (.int 0)) : dgtF F A B ρ = ret (.int (ctV ks k)) := by
  unfold dgtF
  rw [hF, bnd_ret, hA, bnd_ret, hB, bnd_ret]
  unfold dkV
  rw [dki_get]
  by_cases c : k ∈ ks.foldl addK []
  · rw [if_pos c]; rfl
  · rw [if_neg c, ctV_not fun h => c (dkV_mem.mpr h)]
    rfl
theorem dkV_ix {F A : VS.Env → M D} {ρ : VS.Env} {ks : List Int} {k : Int} (hF : F ρ = ret (dkV ks)) (hA : A ρ = ret (.int k)) (h : k ∈ ks) : dixF F A ρ = ret (.int (ctV ks k)) := by
  unfold dixF
  rw [hF, bnd_ret, hA, bnd_ret]
  unfold dkV
  rw [dki_get, if_pos (dkV_mem.mpr h)]
  rfl
theorem dkV_put {i : Nat} {fk fv : VS.Env → M D} {ρ : VS.Env} {ks : List Int} {k : Int} (h : ρ[i]? = some (some (dkV ks))) (ev : fv ρ = ret (.int (ctV ks k + 1))) (ek : fk ρ = ret (.int k)) (l : ks.length < 16777216) : dputS i fk fv ρ = ret (.nx (ρ.set i (some (dkV (ks ++ [k]))))) := by
  refine (dput_dki (ms := ks.foldl addK []) (f := fun m => .int (ctV ks m)) h ev ek ?_).trans ?_
  · have := foldK_len ks (ms := [])
    simp only [List.length_nil] at this
    omega
  · unfold dkV
    rw [List.foldl_append, List.foldl_cons, List.foldl_nil]
    refine congrArg (fun d => ret (Out.nx (ρ.set i (some d)))) (dki_congr fun m _ => ?_)
    by_cases c : m = k
    · subst c
      rw [if_pos rfl]
      unfold ctV
      rw [List.filter_append, List.length_append]
      simp
    · rw [if_neg c]
      unfold ctV
      rw [List.filter_append]
      simp [Ne.symm c]
theorem foldPush {α β : Type} (f : α → β) : ∀ (l : List α) (ks : List β), l.foldl (fun ks a => ks ++ [f a]) ks = ks ++ l.map f
  | [], ks => by simp
  | x :: r, ks => by rw [List.foldl_cons, foldPush f r, List.map_cons, List.append_assoc]; rfl
theorem foldMore {α β : Type} (f : α → List β) : ∀ (l : List α) (ks : List β), l.foldl (fun ks a => ks ++ f a) ks = ks ++ l.flatMap f
  | [], ks => by simp
  | x :: r, ks => by rw [List.foldl_cons, foldMore f r, List.flatMap_cons, List.append_assoc]
/-- the numbers, each with how often -/
def ctd (ns : List Int) : List (Int × Int) := (once ns).map fun m => (m, ctV ns m)
theorem ctV_perm {ns ms : List Int} (h : ns.Perm ms) (m : Int) : ctV ns m = ctV ms m := by
  unfold ctV
  rw [(h.filter _).length_eq]
theorem ctd_perm {ns ms : List Int} (h : ns.Perm ms) : ctd ns = ctd ms := by
  unfold ctd
  rw [once_congr (xs := ns) (ys := ms) fun x => h.mem_iff]
  exact List.map_congr_left fun m _ => by rw [ctV_perm h]
theorem ctd_times {c : Int} (hc : 0 < c) (ns : List Int) : ctd (ns.map fun n => c * n) = (ctd ns).map fun p => (c * p.1, p.2) := by
  have inj : ∀ a b : Int, c * a = c * b → a = b := fun a b h => Int.eq_of_mul_eq_mul_left (by omega) h
  have e1 : once (ns.map fun n => c * n) = (once ns).map fun n => c * n := by
    refine rising_one (once_rising _) ?_ fun x => ?_
    · rw [List.pairwise_map]
      exact (once_rising ns).imp fun h => Int.mul_lt_mul_of_pos_left h hc
    · rw [mem_once, List.mem_map, List.mem_map]
      exact ⟨fun ⟨a, h, e⟩ => ⟨a, mem_once.mpr h, e⟩, fun ⟨a, h, e⟩ => ⟨a, mem_once.mp h, e⟩⟩
  unfold ctd
  rw [e1, List.map_map, List.map_map]
  refine List.map_congr_left fun m _ => ?_
  show (c * m, ctV (ns.map fun n => c * n) (c * m)) = (c * m, ctV ns m)
  congr 1
  unfold ctV
  rw [List.filter_map, List.length_map]
  congr 2
  refine List.filter_congr fun n _ => ?_
  show decide (c * n = c * m) = decide (n = m)
  exact decide_eq_decide.mpr ⟨inj n m, fun h => by rw [h]⟩
theorem ctd_len (ns : List Int) : (ctd ns).length = (once ns).length := by unfold ctd; rw [List.length_map]
theorem len_onceV (ns : List Int) : (once ns).length ≤ ns.length := by
  have : ∀ l : List Int, (dd l).length ≤ l.length := fun l => by
    induction l with
    | nil => exact Nat.le_refl _
    | cons x r ih => unfold dd; split <;> simp <;> omega
  unfold once
  rw [sortI_len]
  exact this ns
/-! ### pairs sorted -/
def leP (p q : Int × Int) : Bool := decide (p.1 < q.1 ∨ (p.1 = q.1 ∧ p.2 ≤ q.2))
def srP (ps : List (Int × Int)) : List (Int × Int) := ps.mergeSort leP
theorem srP_perm (ps : List (Int × Int)) : (srP ps).Perm ps := List.mergeSort_perm _ _
theorem srP_len (ps : List (Int × Int)) : (srP ps).length = ps.length := (srP_perm ps).length_eq
theorem srP_sorted (ps : List (Int × Int)) : (srP ps).Pairwise fun a b => leP a b = true := List.pairwise_mergeSort (fun a b c h1 h2 => by
    unfold leP at *
    rw [decide_eq_true_eq] at *
    omega) (fun a b => by
    unfold leP
    rw [Bool.or_eq_true, decide_eq_true_eq, decide_eq_true_eq]
    omega) ps
def r2 (p : Int × Int) : List Int := [p.1, p.2]
theorem map_row (ps : List (Int × Int)) : (ps.map r2).map row = ps.map prI := by rw [List.map_map]; rfl
theorem srt_pr (ps : List (Int × Int)) : okS (ps.map prI) = true ∧ srt (ps.map prI) = (srP ps).map prI := by
  refine ⟨?_, ?_⟩
  · rw [← map_row]
    exact okS_rows fun r hr => by
      obtain ⟨p, _, rfl⟩ := List.mem_map.mp hr
      simp [r2]
  · unfold srt srP
    symm
    refine List.map_mergeSort (r := leP) (s := PySem.W.dataLe false pd) (f := prI) fun a _ b _ => ?_
    have := congrFun (congrFun (PySem.W.dataLe_ii (fun p : Int × Int => p.1) fun p => p.2) a) b
    have e : ∀ p : Int × Int, pd (prI p) = .tuple [.int p.1, .int p.2] := fun p => by
      unfold prI
      simp [pd, pds]
    show leP a b = PySem.W.dataLe false pd (prI a) (prI b)
    have f : PySem.W.dataLe false pd (prI a) (prI b) = PySem.W.dataLe false (fun p : Int × Int => PyData.tuple [.int p.1, .int p.2]) a b := by
      show PySem.W.dataLe false (fun p => pd (prI p)) a b = _
      simp only [e]
    rw [f, this]
    rfl
theorem sorted_prL (ps : List (Int × Int)) : sortedH [.lst (ps.map prI)] = some (.lst ((srP ps).map prI)) := by
  show (if okS (ps.map prI) then some (D.lst (srt (ps.map prI))) else none) = _
  rw [if_pos (srt_pr ps).1, (srt_pr ps).2]
theorem sorted_prT (ps : List (Int × Int)) : sortedH [.tup (ps.map prI)] = some (.lst ((srP ps).map prI)) := by
  show (if okS (ps.map prI) then some (D.lst (srt (ps.map prI))) else none) = _
  rw [if_pos (srt_pr ps).1, (srt_pr ps).2]
theorem srP_one : ∀ {xs ys : List (Int × Int)}, xs.Perm ys → (xs.Pairwise fun a b => leP a b = true) → (ys.Pairwise fun a b => leP a b = true) → xs = ys := fun h h1 h2 => by
  refine h.eq_of_pairwise (fun a b _ _ h1 h2 => ?_) h1 h2
  unfold leP at h1 h2
  rw [decide_eq_true_eq] at h1 h2
  have e1 : a.1 = b.1 := by omega
  have e2 : a.2 = b.2 := by omega
  exact Prod.ext e1 e2
/-- the pairs of a counting dict, sorted -/
theorem items_dkV (ns : List Int) : sortItems1 (dkV ns) = some (.lst ((ctd ns).map prI)) := by
  let ms := ns.foldl addK []
  have hn : ms.Nodup := foldK_nodup _ List.nodup_nil
  have e0 : itemsD (dkV ns) = some ((ms.map fun m => (m, ctV ns m)).map prI) := by
    show some (List.zipWith pairD (ik ms) (ms.map fun m => D.int (ctV ns m))) = _
    refine congrArg some ?_
    generalize ms = l
    induction l with
    | nil => rfl
    | cons x r ih =>
      show pairD (.inl x) (.int (ctV ns x)) :: List.zipWith pairD (ik r) (r.map fun m => D.int (ctV ns m)) = _
      rw [ih]
      rfl
  unfold sortItems1
  rw [e0]
  show (if okS _ then some (D.lst (srt _)) else none) = _
  rw [if_pos (srt_pr _).1, (srt_pr _).2]
  refine congrArg (fun l : List (Int × Int) => some (D.lst (l.map prI))) ?_
  refine srP_one ((srP_perm _).trans (List.Perm.map _ ?_)) (srP_sorted _) ?_
  · refine (sortI_perm ms).symm.trans ?_
    rw [sort_once hn, once_congr (xs := ms) (ys := ns) fun x => dkV_mem]
  · unfold ctd
    rw [List.pairwise_map]
    refine (once_rising ns).imp fun h => ?_
    unfold leP
    exact decide_eq_true (.inl h)
end VS
set_option Elab.async false
set_option linter.all false
set_option maxRecDepth 100000
set_option maxHeartbeats 4000000
namespace Lw
open PySem PySem.Spec PyProof.Rows L2 VS
def topS (i : Nat) : Stmt := PySem.Challenge.pw_howoftenmet_k77_whole_sums_as_meetings.main.body.getD i (.Pass ⟨0, 0, 0, 0⟩)
structure Ad where
  a : Nat → Addr
  d : Nat → FuncData
structure Tx (K : PySem.W.Frag) (mg : Str → Option Value) (A : Ad) : Prop where
  f_does_meet : Fun K "does_meet" "does_meet" (topS 4) (A.a 4) (A.d 4)
  m_does_meet : mg "does_meet" = some (.ref (A.a 4))
  f_met_by : Fun K "met_by" "met_by" (topS 6) (A.a 6) (A.d 6)
  m_met_by : mg "met_by" = some (.ref (A.a 6))
  f_meetings : Fun K "meetings" "meetings" (topS 7) (A.a 7) (A.d 7)
  m_meetings : mg "meetings" = some (.ref (A.a 7))
  f_each_once : Fun K "each_once" "each_once" (topS 9) (A.a 9) (A.d 9)
  m_each_once : mg "each_once" = some (.ref (A.a 9))
  f_least_terms : Fun K "least_terms" "least_terms" (topS 11) (A.a 11) (A.d 11)
  m_least_terms : mg "least_terms" = some (.ref (A.a 11))
  f_whole_numbers : Fun K "whole_numbers" "whole_numbers" (topS 12) (A.a 12) (A.d 12)
  m_whole_numbers : mg "whole_numbers" = some (.ref (A.a 12))
  f_whole_sums : Fun K "whole_sums" "whole_sums" (topS 13) (A.a 13) (A.d 13)
  m_whole_sums : mg "whole_sums" = some (.ref (A.a 13))
  f_whole_products : Fun K "whole_products" "whole_products" (topS 14) (A.a 14) (A.d 14)
  m_whole_products : mg "whole_products" = some (.ref (A.a 14))
  f_sums_of : Fun K "sums_of" "sums_of" (topS 15) (A.a 15) (A.d 15)
  m_sums_of : mg "sums_of" = some (.ref (A.a 15))
  f_products_of : Fun K "products_of" "products_of" (topS 16) (A.a 16) (A.d 16)
  m_products_of : mg "products_of" = some (.ref (A.a 16))
  f_sums_meetings : Fun K "sums_meetings" "sums_meetings" (topS 17) (A.a 17) (A.d 17)
  m_sums_meetings : mg "sums_meetings" = some (.ref (A.a 17))
  f__law_own_bag : Fun K "_law_own_bag" "_law_own_bag" (topS 19) (A.a 19) (A.d 19)
  m__law_own_bag : mg "_law_own_bag" = some (.ref (A.a 19))
  f__law_draw : Fun K "_law_draw" "_law_draw" (topS 20) (A.a 20) (A.d 20)
  m__law_draw : mg "_law_draw" = some (.ref (A.a 20))
  f__law_pick : Fun K "_law_pick" "_law_pick" (topS 21) (A.a 21) (A.d 21)
  m__law_pick : mg "_law_pick" = some (.ref (A.a 21))
  f__law_over : Fun K "_law_over" "_law_over" (topS 22) (A.a 22) (A.d 22)
  m__law_over : mg "_law_over" = some (.ref (A.a 22))
  f__law_is_number : Fun K "_law_is_number" "_law_is_number" (topS 23) (A.a 23) (A.d 23)
  m__law_is_number : mg "_law_is_number" = some (.ref (A.a 23))
  f__law_is_row : Fun K "_law_is_row" "_law_is_row" (topS 24) (A.a 24) (A.d 24)
  m__law_is_row : mg "_law_is_row" = some (.ref (A.a 24))
  f__law_some : Fun K "_law_some" "_law_some" (topS 25) (A.a 25) (A.d 25)
  m__law_some : mg "_law_some" = some (.ref (A.a 25))
  f__law_steps : Fun K "_law_steps" "_law_steps" (topS 26) (A.a 26) (A.d 26)
  m__law_steps : mg "_law_steps" = some (.ref (A.a 26))
  f__law_about : Fun K "_law_about" "_law_about" (topS 27) (A.a 27) (A.d 27)
  m__law_about : mg "_law_about" = some (.ref (A.a 27))
  f__law_ratio : Fun K "_law_ratio" "_law_ratio" (topS 28) (A.a 28) (A.d 28)
  m__law_ratio : mg "_law_ratio" = some (.ref (A.a 28))
  f__law_own_numbers : Fun K "_law_own_numbers" "_law_own_numbers" (topS 29) (A.a 29) (A.d 29)
  m__law_own_numbers : mg "_law_own_numbers" = some (.ref (A.a 29))
  f__law_great_numbers : Fun K "_law_great_numbers" "_law_great_numbers" (topS 30) (A.a 30) (A.d 30)
  m__law_great_numbers : mg "_law_great_numbers" = some (.ref (A.a 30))
  f__law_sums : Fun K "_law_sums" "_law_sums" (topS 31) (A.a 31) (A.d 31)
  m__law_sums : mg "_law_sums" = some (.ref (A.a 31))
  f__law_products : Fun K "_law_products" "_law_products" (topS 32) (A.a 32) (A.d 32)
  m__law_products : mg "_law_products" = some (.ref (A.a 32))
  f__law_count : Fun K "_law_count" "_law_count" (topS 33) (A.a 33) (A.d 33)
  m__law_count : mg "_law_count" = some (.ref (A.a 33))
  f__law_are_counts_right : Fun K "_law_are_counts_right" "_law_are_counts_right" (topS 34) (A.a 34) (A.d 34)
  m__law_are_counts_right : mg "_law_are_counts_right" = some (.ref (A.a 34))
  f__law_lines : Fun K "_law_lines" "_law_lines" (topS 35) (A.a 35) (A.d 35)
  m__law_lines : mg "_law_lines" = some (.ref (A.a 35))
  f__law_lots : Fun K "_law_lots" "_law_lots" (topS 36) (A.a 36) (A.d 36)
  m__law_lots : mg "_law_lots" = some (.ref (A.a 36))
  f__law_own_meet : Fun K "_law_own_meet" "_law_own_meet" (topS 37) (A.a 37) (A.d 37)
  m__law_own_meet : mg "_law_own_meet" = some (.ref (A.a 37))
  f__law_are_meetings_right : Fun K "_law_are_meetings_right" "_law_are_meetings_right" (topS 38) (A.a 38) (A.d 38)
  m__law_are_meetings_right : mg "_law_are_meetings_right" = some (.ref (A.a 38))
  f__law_all : Fun K "_law_all" "_law_all" (topS 39) (A.a 39) (A.d 39)
  m__law_all : mg "_law_all" = some (.ref (A.a 39))
  f_law : Fun K "law" "law" (topS 40) (A.a 40) (A.d 40)
  m_law : mg "law" = some (.ref (A.a 40))
  m_gcd : mg "gcd" = some (.builtin "math.gcd")
  m_lcm : mg "lcm" = some (.builtin "math.lcm")
  b_abs : mg "abs" = none
  b_bool : mg "bool" = none
  b_dict : mg "dict" = none
  b_enumerate : mg "enumerate" = none
  b_int : mg "int" = none
  b_isinstance : mg "isinstance" = none
  b_len : mg "len" = none
  b_list : mg "list" = none
  b_max : mg "max" = none
  b_range : mg "range" = none
  b_reversed : mg "reversed" = none
  b_sorted : mg "sorted" = none
  b_sum : mg "sum" = none
  b_tuple : mg "tuple" = none
  b_zip : mg "zip" = none
section
variable {P : Program} {w : World} {K : PySem.W.Frag} {mg : Str → Option Value} {base : Heap} {A : Ad}
theorem kb_meetings_0_lines_points (T : Tx K mg A) : KB (A.d 7) ["points", "lines"] ["lines", "points"] 0 [1, 0] := kb_of T.f_meetings fun _ _ _ _ _ _ us ws h1 h2 => match us, ws, h1, h2 with | [], [_, _], _, _ => rfl
theorem kb_meetings_0_points_lines (T : Tx K mg A) : KB (A.d 7) ["points", "lines"] ["points", "lines"] 0 [0, 1] := kb_of T.f_meetings fun _ _ _ _ _ _ us ws h1 h2 => match us, ws, h1, h2 with | [], [_, _], _, _ => rfl
theorem kb_products_of_0_numbers (T : Tx K mg A) : KB (A.d 16) ["numbers"] ["numbers"] 0 [0] := kb_of T.f_products_of fun _ _ _ _ _ _ us ws h1 h2 => match us, ws, h1, h2 with | [], [_], _, _ => rfl
theorem kb_sums_meetings_0_numbers (T : Tx K mg A) : KB (A.d 17) ["numbers"] ["numbers"] 0 [0] := kb_of T.f_sums_meetings fun _ _ _ _ _ _ us ws h1 h2 => match us, ws, h1, h2 with | [], [_], _, _ => rfl
theorem kb_sums_of_0_numbers (T : Tx K mg A) : KB (A.d 15) ["numbers"] ["numbers"] 0 [0] := kb_of T.f_sums_of fun _ _ _ _ _ _ us ws h1 h2 => match us, ws, h1, h2 with | [], [_], _, _ => rfl
theorem sc_does_meet : FnScope ["line", "point"] ["line", "point"] (defScope (topS 4)) := ⟨rfl, rfl, rfl, by decide +kernel, rfl, by decide +kernel, by decide +kernel⟩
theorem sc_met_by : FnScope ["points", "line", "i", "point"] ["points", "line"] (defScope (topS 6)) := ⟨rfl, rfl, rfl, by decide +kernel, rfl, by decide +kernel, by decide +kernel⟩
theorem sc_meetings : FnScope ["points", "lines", "line"] ["points", "lines"] (defScope (topS 7)) := ⟨rfl, rfl, rfl, by decide +kernel, rfl, by decide +kernel, by decide +kernel⟩
theorem sc_each_once : FnScope ["items", "found", "item"] ["items"] (defScope (topS 9)) := ⟨rfl, rfl, rfl, by decide +kernel, rfl, by decide +kernel, by decide +kernel⟩
theorem sc_least_terms : FnScope ["above", "below", "common"] ["above", "below"] (defScope (topS 11)) := ⟨rfl, rfl, rfl, by decide +kernel, rfl, by decide +kernel, by decide +kernel⟩
theorem sc_whole_numbers : FnScope ["numbers", "scale", "item"] ["numbers"] (defScope (topS 12)) := ⟨rfl, rfl, rfl, by decide +kernel, rfl, by decide +kernel, by decide +kernel⟩
theorem sc_whole_sums : FnScope ["wholes", "found", "a", "b"] ["wholes"] (defScope (topS 13)) := ⟨rfl, rfl, rfl, by decide +kernel, rfl, by decide +kernel, by decide +kernel⟩
theorem sc_whole_products : FnScope ["wholes", "found", "a", "b"] ["wholes"] (defScope (topS 14)) := ⟨rfl, rfl, rfl, by decide +kernel, rfl, by decide +kernel, by decide +kernel⟩
theorem sc_sums_of : FnScope ["numbers", "scale", "wholes", "total"] ["numbers"] (defScope (topS 15)) := ⟨rfl, rfl, rfl, by decide +kernel, rfl, by decide +kernel, by decide +kernel⟩
theorem sc_products_of : FnScope ["numbers", "scale", "wholes", "product"] ["numbers"] (defScope (topS 16)) := ⟨rfl, rfl, rfl, by decide +kernel, rfl, by decide +kernel, by decide +kernel⟩
theorem sc_sums_meetings : FnScope ["numbers", "scale", "wholes", "sums", "known", "many", "a", "b", "product", "total"] ["numbers"] (defScope (topS 17)) := ⟨rfl, rfl, rfl, by decide +kernel, rfl, by decide +kernel, by decide +kernel⟩
theorem sc__law_own_bag : FnScope ["script", "cells", "cell", "mixed"] ["script"] (defScope (topS 19)) := ⟨rfl, rfl, rfl, by decide +kernel, rfl, by decide +kernel, by decide +kernel⟩
theorem sc__law_draw : FnScope ["bag", "below", "turn", "cell", "found"] ["bag", "below"] (defScope (topS 20)) := ⟨rfl, rfl, rfl, by decide +kernel, rfl, by decide +kernel, by decide +kernel⟩
theorem sc__law_pick : FnScope ["bag", "some"] ["bag", "some"] (defScope (topS 21)) := ⟨rfl, rfl, rfl, by decide +kernel, rfl, by decide +kernel, by decide +kernel⟩
theorem sc__law_over : FnScope ["top", "low", "one", "other", "turn"] ["top", "low"] (defScope (topS 22)) := ⟨rfl, rfl, rfl, by decide +kernel, rfl, by decide +kernel, by decide +kernel⟩
theorem sc__law_is_number : FnScope ["told", "due"] ["told", "due"] (defScope (topS 23)) := ⟨rfl, rfl, rfl, by decide +kernel, rfl, by decide +kernel, by decide +kernel⟩
theorem sc__law_is_row : FnScope ["told", "due", "one", "other"] ["told", "due"] (defScope (topS 24)) := ⟨rfl, rfl, rfl, by decide +kernel, rfl, by decide +kernel, by decide +kernel⟩
theorem sc__law_some : FnScope ["bag", "many", "far", "found", "turn", "number"] ["bag", "many", "far"] (defScope (topS 25)) := ⟨rfl, rfl, rfl, by decide +kernel, rfl, by decide +kernel, by decide +kernel⟩
theorem sc__law_steps : FnScope ["bag", "many", "step", "sign", "first", "k"] ["bag", "many"] (defScope (topS 26)) := ⟨rfl, rfl, rfl, by decide +kernel, rfl, by decide +kernel, by decide +kernel⟩
theorem sc__law_about : FnScope ["bag", "many", "half", "wide", "k"] ["bag", "many"] (defScope (topS 27)) := ⟨rfl, rfl, rfl, by decide +kernel, rfl, by decide +kernel, by decide +kernel⟩
theorem sc__law_ratio : FnScope ["bag", "many", "number", "ratio", "found", "k"] ["bag", "many"] (defScope (topS 28)) := ⟨rfl, rfl, rfl, by decide +kernel, rfl, by decide +kernel, by decide +kernel⟩
theorem sc__law_own_numbers : FnScope ["bag", "way", "many"] ["bag"] (defScope (topS 29)) := ⟨rfl, rfl, rfl, by decide +kernel, rfl, by decide +kernel, by decide +kernel⟩
theorem sc__law_great_numbers : FnScope ["bag", "way"] ["bag"] (defScope (topS 30)) := ⟨rfl, rfl, rfl, by decide +kernel, rfl, by decide +kernel, by decide +kernel⟩
theorem sc__law_sums : FnScope ["numbers", "found", "k", "one", "other", "number"] ["numbers"] (defScope (topS 31)) := ⟨rfl, rfl, rfl, by decide +kernel, rfl, by decide +kernel, by decide +kernel⟩
theorem sc__law_products : FnScope ["numbers", "found", "k", "one", "other", "number"] ["numbers"] (defScope (topS 32)) := ⟨rfl, rfl, rfl, by decide +kernel, rfl, by decide +kernel, by decide +kernel⟩
theorem sc__law_count : FnScope ["numbers", "sums", "products", "held", "total", "number", "a", "b", "s"] ["numbers", "sums", "products"] (defScope (topS 33)) := ⟨rfl, rfl, rfl, by decide +kernel, rfl, by decide +kernel, by decide +kernel⟩
theorem sc__law_are_counts_right : FnScope ["bag", "numbers", "sums", "products", "many", "count", "is_great", "most", "u", "v", "own", "far", "far_sums", "far_products", "due_sums", "due_products", "told", "number", "s", "p"] ["bag", "numbers"] (defScope (topS 34)) := ⟨rfl, rfl, rfl, by decide +kernel, rfl, by decide +kernel, by decide +kernel⟩
theorem sc__law_lines : FnScope ["numbers", "table", "a", "b", "line", "code"] ["numbers"] (defScope (topS 35)) := ⟨rfl, rfl, rfl, by decide +kernel, rfl, by decide +kernel, by decide +kernel⟩
theorem sc__law_lots : FnScope ["bag", "sums", "products", "many", "points", "s", "cut", "step", "start", "p"] ["bag", "sums", "products", "many"] (defScope (topS 36)) := ⟨rfl, rfl, rfl, by decide +kernel, rfl, by decide +kernel, by decide +kernel⟩
theorem sc__law_own_meet : FnScope ["lot", "sums", "line", "s"] ["lot", "sums", "line"] (defScope (topS 37)) := ⟨rfl, rfl, rfl, by decide +kernel, rfl, by decide +kernel, by decide +kernel⟩
theorem sc__law_are_meetings_right : FnScope ["bag", "numbers", "sums", "products", "many", "lines", "lots", "count", "total", "is_all", "place", "spot", "lot", "held", "point", "rich", "due", "one", "points", "few", "told", "line", "number"] ["bag", "numbers"] (defScope (topS 38)) := ⟨rfl, rfl, rfl, by decide +kernel, rfl, by decide +kernel, by decide +kernel⟩
theorem sc__law_all : FnScope ["bag", "numbers"] ["bag"] (defScope (topS 39)) := ⟨rfl, rfl, rfl, by decide +kernel, rfl, by decide +kernel, by decide +kernel⟩
theorem sc_law : FnScope ["script"] ["script"] (defScope (topS 40)) := ⟨rfl, rfl, rfl, by decide +kernel, rfl, by decide +kernel, by decide +kernel⟩
def phi_does_meet : List D → M D := bodyF false 2
  (retS (op2 eqO (op2 addD (op2 mulD (ixF (rd 0) (kst (.int 0))) (ixF (rd 1) (kst (.int 0)))) (op2 mulD (ixF (rd 0) (kst (.int 1))) (ixF (rd 1) (kst (.int 1))))) (ixF (rd 0) (kst (.int 2)))))
theorem ok_does_meet (T : Tx K mg A) : Fk P w K mg base 1 (A.a 4) (A.d 4) ["line", "point"] false phi_does_meet :=
  fk_of (τ' := []) T.f_does_meet sc_does_meet (T.f_does_meet.binds fun _ _ _ _ _ _ us hl => match us, hl with | [_, _], _ => rfl) fun cdv AA outer s H E hr =>
  (b_one (s_ret (v_cmp (o_eq hr.units) (r_v (v_op o_add (r_v (v_op o_mul (r_v (v_ix (r_var (i := 0)) (r_v v_int))) (r_v (v_ix (r_var (i := 1)) (r_v v_int))))) (r_v (v_op o_mul (r_v (v_ix (r_var (i := 0)) (r_v v_int))) (r_v (v_ix (r_var (i := 1)) (r_v v_int))))))) (r_v (v_ix (r_var (i := 0)) (r_v v_int))) (nomark _))))
def phi_met_by : List D → M D := bodyF false 4
  (retS (lcS [2, 3] (enumI (rd 0)) (gTup 2 (gCons (gN 2) (gCons (gN 3) gNil))) (truF (callF (phi_does_meet) 2 (consF (rd 1) (consF (rd 3) nilF)))) (rd 2)))
theorem ok_met_by (T : Tx K mg A) : Fk P w K mg base 2 (A.a 6) (A.d 6) ["points", "line"] false phi_met_by :=
  fk_of (τ' := []) T.f_met_by sc_met_by (T.f_met_by.binds fun _ _ _ _ _ _ us hl => match us, hl with | [_, _], _ => rfl) fun cdv AA outer s H E hr =>
  (b_one (s_ret (v_frz (v_lc [("i", 2), ("point", 3)] rfl sc_met_by.nd (blkOk_by (N := ["points", "line", "i", "point"]) (sc := defScope (topS 6)) (by decide +kernel)) (ir_i (i_enum T.b_enumerate (v_var 0))) (fun _ _ _ _ _ => g_same (g_tup rfl (gs_cons (g_name 2 sc_met_by.nd) (gs_cons (g_name 3 sc_met_by.nd) gs_nil)))) (fun _ _ _ _ _ => (ts_one (t_truth (r_v (v_call (ok_does_meet (P := P) (w := w) (base := base) T) (hr.mono (by decide)) T.m_does_meet (a_cons (v_var 1) (a_cons (v_var 3) a_nil))))))) (fun _ _ _ _ _ => (v_var 2))))))
def phi_meetings : List D → M D := bodyF false 3
  (retS (biF sumG (consF (lcS [2] (seqF (rd 1)) (gN 2) yesB (biF lenD (consF (callF (phi_met_by) 2 (consF (rd 0) (consF (rd 2) nilF))) nilF))) nilF)))
theorem ok_meetings (T : Tx K mg A) : Fk P w K mg base 3 (A.a 7) (A.d 7) ["points", "lines"] false phi_meetings :=
  fk_of (τ' := []) T.f_meetings sc_meetings (T.f_meetings.binds fun _ _ _ _ _ _ us hl => match us, hl with | [_, _], _ => rfl) fun cdv AA outer s H E hr =>
  (b_one (s_ret (v_bi (c_sumG rfl) (by decide +kernel) T.b_sum (ar_cons (r_v (v_lc [("line", 2)] rfl sc_meetings.nd (blkOk_by (N := ["points", "lines", "line"]) (sc := defScope (topS 7)) (by decide +kernel)) (ir_seq (r_var (i := 1))) (fun _ _ _ _ _ => g_same (g_name 2 sc_meetings.nd)) (fun _ _ _ _ _ => ts_nil) (fun _ _ _ _ _ => (v_bi c_len PySem.boot_len T.b_len (ar_cons (r_v (v_call (ok_met_by (P := P) (w := w) (base := base) T) (hr.mono (by decide)) T.m_met_by (a_cons (v_var 0) (a_cons (v_var 2) a_nil)))) ar_nil))))) ar_nil))))
def phi_each_once : List D → M D := bodyF false 3
  (seqS (setS 1 (lstF nilF))
  (seqS (forS [2] (seqF (biF sortedH (consF (rd 0) nilF))) (gN 2)
    (iteS (orB (fun ρ => asB ((op2 eqO (rd 1) (lstF nilF)) ρ)) (fun ρ => asB ((op2 neO (rd 2) (ixF (rd 1) (negV (kst (.int 1))))) ρ)))
      (appS 1 (rd 2))
      nxS))
  (retS (biF tupleD (consF (rd 1) nilF)))))
theorem ok_each_once (T : Tx K mg A) : Fk P w K mg base 1 (A.a 9) (A.d 9) ["items"] false phi_each_once :=
  fk_of (τ' := []) T.f_each_once sc_each_once (T.f_each_once.binds fun _ _ _ _ _ _ us hl => match us, hl with | [_], _ => rfl) fun cdv AA outer s H E hr =>
  (b_cons (s_set 1 sc_each_once.nd (v_lst a_nil))
  (b_cons (s_for [2] PassesOwn.never rfl (i_seq (v_frz (v_bi (c_sortedH rfl hr.units) (by decide +kernel) T.b_sorted (ar_cons (r_var (i := 0)) ar_nil)))) (g_same (g_name 2 sc_each_once.nd))
    (b_tg (b_one (s_if (t_w (w_or (t_cmp (o_eq hr.units) (r_var (i := 1)) (r_v (v_lst a_nil)) (nomark _)) (w_or1 (t_cmp (o_ne hr.units) (r_var (i := 2)) (r_v (v_ix (r_var (i := 1)) (r_v (v_neg v_int)))) (nomark _)))))
      (b_one (s_append 1 (v_var 2) (h := pe_bm PySem.F.plainAttrs_list PySem.F.slot_list_append PySem.F.type_list_append mt_append (pv 1) (pa_cons (v_var 2) pa_nil))))
      b_nil))))
  (b_one (s_ret (v_ty c_tuple (by decide +kernel) T.b_tuple (ar_cons (r_var (i := 1)) ar_nil))))))
def phi_least_terms : List D → M D := bodyF false 3
  (seqS (setS 2 (biF gcdD (consF (rd 0) (consF (rd 1) nilF))))
  (retS (tupF (consF (op2 fdivD (rd 0) (rd 2)) (consF (op2 fdivD (rd 1) (rd 2)) nilF)))))
theorem ok_least_terms (T : Tx K mg A) : Fk P w K mg base 1 (A.a 11) (A.d 11) ["above", "below"] false phi_least_terms :=
  fk_of (τ' := []) T.f_least_terms sc_least_terms (T.f_least_terms.binds fun _ _ _ _ _ _ us hl => match us, hl with | [_, _], _ => rfl) fun cdv AA outer s H E hr =>
  (b_cons (s_set 2 sc_least_terms.nd (v_fn c_gcd T.m_gcd (ar_cons (r_var (i := 0)) (ar_cons (r_var (i := 1)) ar_nil))))
  (b_one (s_ret (v_tup (a_cons (v_op o_fdiv (r_var (i := 0)) (r_var (i := 2))) (a_cons (v_op o_fdiv (r_var (i := 1)) (r_var (i := 2))) a_nil))))))
def phi_whole_numbers : List D → M D := bodyF false 3
  (seqS (setS 1 (kst (.int 1)))
  (seqS (forS [] (seqF (rd 0)) (gN 2)
    (setS 1 (biF lcmD (consF (rd 1) (consF (ixF (rd 2) (kst (.int 1))) nilF)))))
  (retS (tupF (consF (rd 1) (consF (lcS [2] (seqF (rd 0)) (gN 2) yesB (op2 mulD (ixF (rd 2) (kst (.int 0))) (op2 fdivD (rd 1) (ixF (rd 2) (kst (.int 1)))))) nilF))))))
theorem ok_whole_numbers (T : Tx K mg A) : Fk P w K mg base 1 (A.a 12) (A.d 12) ["numbers"] false phi_whole_numbers :=
  fk_of (τ' := []) T.f_whole_numbers sc_whole_numbers (T.f_whole_numbers.binds fun _ _ _ _ _ _ us hl => match us, hl with | [_], _ => rfl) fun cdv AA outer s H E hr =>
  (b_cons (s_set 1 sc_whole_numbers.nd v_int)
  (b_cons (s_for [] PassesOwn.never rfl (i_seq (v_var 0)) (g_same (g_name 2 sc_whole_numbers.nd))
    (b_tg (b_one (s_set 1 sc_whole_numbers.nd (v_fn c_lcm T.m_lcm (ar_cons (r_var (i := 1)) (ar_cons (r_v (v_ix (r_var (i := 2)) (r_v v_int))) ar_nil)))))))
  (b_one (s_ret (v_tup (a_cons (v_var 1) (a_cons (v_frz (v_lc [("item", 2)] rfl sc_whole_numbers.nd (blkOk_by (N := ["numbers", "scale", "item"]) (sc := defScope (topS 12)) (by decide +kernel)) (ir_seq (r_var (i := 0))) (fun _ _ _ _ _ => g_same (g_name 2 sc_whole_numbers.nd)) (fun _ _ _ _ _ => ts_nil) (fun _ _ _ _ _ => (v_op o_mul (r_v (v_ix (r_var (i := 2)) (r_v v_int))) (r_v (v_op o_fdiv (r_var (i := 1)) (r_v (v_ix (r_var (i := 2)) (r_v v_int))))))))) a_nil)))))))
def phi_whole_sums : List D → M D := bodyF false 4
  (seqS (setS 1 (lstF nilF))
  (seqS (forS [2] (seqF (rd 0)) (gN 2)
    (extS 1 (lcS [3] (seqF (rd 0)) (gN 3) yesB (op2 addD (rd 2) (rd 3)))))
  (retS (callF (phi_each_once) 1 (consF (rd 1) nilF)))))
theorem ok_whole_sums (T : Tx K mg A) : Fk P w K mg base 2 (A.a 13) (A.d 13) ["wholes"] false phi_whole_sums :=
  fk_of (τ' := []) T.f_whole_sums sc_whole_sums (T.f_whole_sums.binds fun _ _ _ _ _ _ us hl => match us, hl with | [_], _ => rfl) fun cdv AA outer s H E hr =>
  (b_cons (s_set 1 sc_whole_sums.nd (v_lst a_nil))
  (b_cons (s_for [2] PassesOwn.never rfl (i_seq (v_var 0)) (g_same (g_name 2 sc_whole_sums.nd))
    (b_tg (b_one (s_extend 1 (pe_bm PySem.F.plainAttrs_list PySem.F.slot_list_extend PySem.F.type_list_extend mt_extend (pv 1) (pa_cons (r_v (v_lc [("b", 3)] rfl sc_whole_sums.nd (blkOk_by (N := ["wholes", "found", "a", "b"]) (sc := defScope (topS 13)) (by decide +kernel)) (ir_seq (r_var (i := 0))) (fun _ _ _ _ _ => g_same (g_name 3 sc_whole_sums.nd)) (fun _ _ _ _ _ => ts_nil) (fun _ _ _ _ _ => (v_op o_add (r_var (i := 2)) (r_var (i := 3)))))) pa_nil))))))
  (b_frz 1 (b_one (s_ret (v_call (ok_each_once (P := P) (w := w) (base := base) T) (hr.mono (by decide)) T.m_each_once (a_cons (v_var 1) a_nil)))))))
def phi_whole_products : List D → M D := bodyF false 4
  (seqS (setS 1 (lstF nilF))
  (seqS (forS [2] (seqF (rd 0)) (gN 2)
    (extS 1 (lcS [3] (seqF (rd 0)) (gN 3) yesB (op2 mulD (rd 2) (rd 3)))))
  (retS (callF (phi_each_once) 1 (consF (rd 1) nilF)))))
theorem ok_whole_products (T : Tx K mg A) : Fk P w K mg base 2 (A.a 14) (A.d 14) ["wholes"] false phi_whole_products :=
  fk_of (τ' := []) T.f_whole_products sc_whole_products (T.f_whole_products.binds fun _ _ _ _ _ _ us hl => match us, hl with | [_], _ => rfl) fun cdv AA outer s H E hr =>
  (b_cons (s_set 1 sc_whole_products.nd (v_lst a_nil))
  (b_cons (s_for [2] PassesOwn.never rfl (i_seq (v_var 0)) (g_same (g_name 2 sc_whole_products.nd))
    (b_tg (b_one (s_extend 1 (pe_bm PySem.F.plainAttrs_list PySem.F.slot_list_extend PySem.F.type_list_extend mt_extend (pv 1) (pa_cons (r_v (v_lc [("b", 3)] rfl sc_whole_products.nd (blkOk_by (N := ["wholes", "found", "a", "b"]) (sc := defScope (topS 14)) (by decide +kernel)) (ir_seq (r_var (i := 0))) (fun _ _ _ _ _ => g_same (g_name 3 sc_whole_products.nd)) (fun _ _ _ _ _ => ts_nil) (fun _ _ _ _ _ => (v_op o_mul (r_var (i := 2)) (r_var (i := 3)))))) pa_nil))))))
  (b_frz 1 (b_one (s_ret (v_call (ok_each_once (P := P) (w := w) (base := base) T) (hr.mono (by decide)) T.m_each_once (a_cons (v_var 1) a_nil)))))))
def phi_sums_of : List D → M D := bodyF false 4
  (seqS (tgtS (gTup 2 (gCons (gN 1) (gCons (gN 2) gNil))) (callF (phi_whole_numbers) 1 (consF (rd 0) nilF)))
  (retS (biF tupleD (consF (lcS [3] (seqF (callF (phi_whole_sums) 1 (consF (rd 2) nilF))) (gN 3) yesB (callF (phi_least_terms) 2 (consF (rd 3) (consF (rd 1) nilF)))) nilF))))
theorem ok_sums_of (T : Tx K mg A) : Fk P w K mg base 3 (A.a 15) (A.d 15) ["numbers"] false phi_sums_of :=
  fk_of (τ' := []) T.f_sums_of sc_sums_of (T.f_sums_of.binds fun _ _ _ _ _ _ us hl => match us, hl with | [_], _ => rfl) fun cdv AA outer s H E hr =>
  (b_cons (s_tgt (v_call (ok_whole_numbers (P := P) (w := w) (base := base) T) (hr.mono (by decide)) T.m_whole_numbers (a_cons (v_var 0) a_nil)) (g_tup rfl (gs_cons (g_name 1 sc_sums_of.nd) (gs_cons (g_name 2 sc_sums_of.nd) gs_nil))))
  (b_one (s_ret (v_ty c_tuple (by decide +kernel) T.b_tuple (ar_cons (r_v (v_lc [("total", 3)] rfl sc_sums_of.nd (blkOk_by (N := ["numbers", "scale", "wholes", "total"]) (sc := defScope (topS 15)) (by decide +kernel)) (ir_seq (r_v (v_call (ok_whole_sums (P := P) (w := w) (base := base) T) (hr.mono (by decide)) T.m_whole_sums (a_cons (v_var 2) a_nil)))) (fun _ _ _ _ _ => g_same (g_name 3 sc_sums_of.nd)) (fun _ _ _ _ _ => ts_nil) (fun _ _ _ _ _ => (v_call (ok_least_terms (P := P) (w := w) (base := base) T) (hr.mono (by decide)) T.m_least_terms (a_cons (v_var 3) (a_cons (v_var 1) a_nil)))))) ar_nil)))))
def phi_products_of : List D → M D := bodyF false 4
  (seqS (tgtS (gTup 2 (gCons (gN 1) (gCons (gN 2) gNil))) (callF (phi_whole_numbers) 1 (consF (rd 0) nilF)))
  (retS (biF tupleD (consF (lcS [3] (seqF (callF (phi_whole_products) 1 (consF (rd 2) nilF))) (gN 3) yesB (callF (phi_least_terms) 2 (consF (rd 3) (consF (op2 mulD (rd 1) (rd 1)) nilF)))) nilF))))
theorem ok_products_of (T : Tx K mg A) : Fk P w K mg base 3 (A.a 16) (A.d 16) ["numbers"] false phi_products_of :=
  fk_of (τ' := []) T.f_products_of sc_products_of (T.f_products_of.binds fun _ _ _ _ _ _ us hl => match us, hl with | [_], _ => rfl) fun cdv AA outer s H E hr =>
  (b_cons (s_tgt (v_call (ok_whole_numbers (P := P) (w := w) (base := base) T) (hr.mono (by decide)) T.m_whole_numbers (a_cons (v_var 0) a_nil)) (g_tup rfl (gs_cons (g_name 1 sc_products_of.nd) (gs_cons (g_name 2 sc_products_of.nd) gs_nil))))
  (b_one (s_ret (v_ty c_tuple (by decide +kernel) T.b_tuple (ar_cons (r_v (v_lc [("product", 3)] rfl sc_products_of.nd (blkOk_by (N := ["numbers", "scale", "wholes", "product"]) (sc := defScope (topS 16)) (by decide +kernel)) (ir_seq (r_v (v_call (ok_whole_products (P := P) (w := w) (base := base) T) (hr.mono (by decide)) T.m_whole_products (a_cons (v_var 2) a_nil)))) (fun _ _ _ _ _ => g_same (g_name 3 sc_products_of.nd)) (fun _ _ _ _ _ => ts_nil) (fun _ _ _ _ _ => (v_call (ok_least_terms (P := P) (w := w) (base := base) T) (hr.mono (by decide)) T.m_least_terms (a_cons (v_var 3) (a_cons (v_op o_mul (r_var (i := 1)) (r_var (i := 1))) a_nil)))))) ar_nil)))))
def phi_sums_meetings : List D → M D := bodyF false 10
  (seqS (tgtS (gTup 2 (gCons (gN 1) (gCons (gN 2) gNil))) (callF (phi_whole_numbers) 1 (consF (rd 0) nilF)))
  (seqS (par2S 3 4 (callF (phi_whole_sums) 1 (consF (rd 2) nilF)) (biF dictD (consF (lcS [8] (seqF (callF (phi_whole_products) 1 (consF (rd 2) nilF))) (gN 8) yesB (tupF (consF (rd 8) (consF (kst (.bl true)) nilF)))) nilF)))
  (seqS (setS 5 (kst (.int 0)))
  (seqS (forS [6, 7] (seqF (rd 2)) (gN 6)
    (forS [7] (seqF (rd 2)) (gN 7)
      (setS 5 (op2 addD (rd 5) (biF lenD (consF (lcS [9] (seqF (rd 3)) (gN 9) (fun ρ => asB ((op2 inG (op2 mulD (rd 6) (op2 subD (rd 9) (rd 7))) (rd 4)) ρ)) (rd 9)) nilF))))))
  (retS (rd 5))))))
theorem ok_sums_meetings (T : Tx K mg A) : Fk P w K mg base 3 (A.a 17) (A.d 17) ["numbers"] false phi_sums_meetings :=
  fk_of (τ' := []) T.f_sums_meetings sc_sums_meetings (T.f_sums_meetings.binds fun _ _ _ _ _ _ us hl => match us, hl with | [_], _ => rfl) fun cdv AA outer s H E hr =>
  (b_cons (s_tgt (v_call (ok_whole_numbers (P := P) (w := w) (base := base) T) (hr.mono (by decide)) T.m_whole_numbers (a_cons (v_var 0) a_nil)) (g_tup rfl (gs_cons (g_name 1 sc_sums_meetings.nd) (gs_cons (g_name 2 sc_sums_meetings.nd) gs_nil))))
  (b_cons (s_parT2 3 4 rfl sc_sums_meetings.nd (v_call (ok_whole_sums (P := P) (w := w) (base := base) T) (hr.mono (by decide)) T.m_whole_sums (a_cons (v_var 2) a_nil)) (v_frz (v_ty (c_dict rfl) (by decide +kernel) T.b_dict (ar_cons (r_v (v_lc [("product", 8)] rfl sc_sums_meetings.nd (blkOk_by (N := ["numbers", "scale", "wholes", "sums", "known", "many", "a", "b", "product", "total"]) (sc := defScope (topS 17)) (by decide +kernel)) (ir_seq (r_v (v_call (ok_whole_products (P := P) (w := w) (base := base) T) (hr.mono (by decide)) T.m_whole_products (a_cons (v_var 2) a_nil)))) (fun _ _ _ _ _ => g_same (g_name 8 sc_sums_meetings.nd)) (fun _ _ _ _ _ => ts_nil) (fun _ _ _ _ _ => (v_tup (a_cons (v_var 8) (a_cons v_bl a_nil)))))) ar_nil))))
  (b_cons (s_set 5 sc_sums_meetings.nd v_int)
  (b_cons (s_for [6, 7] PassesOwn.never rfl (i_seq (v_var 2)) (g_same (g_name 6 sc_sums_meetings.nd))
    (b_tg (b_one (s_for [7] PassesOwn.never rfl (i_seq (v_var 2)) (g_same (g_name 7 sc_sums_meetings.nd))
      (b_tg (b_one (s_set 5 sc_sums_meetings.nd (v_op o_add (r_var (i := 5)) (r_v (v_bi c_len PySem.boot_len T.b_len (ar_cons (r_v (v_lc [("total", 9)] rfl sc_sums_meetings.nd (blkOk_by (N := ["numbers", "scale", "wholes", "sums", "known", "many", "a", "b", "product", "total"]) (sc := defScope (topS 17)) (by decide +kernel)) (ir_seq (r_var (i := 3))) (fun _ _ _ _ _ => g_same (g_name 9 sc_sums_meetings.nd)) (fun _ _ _ _ _ => (ts_one (t_cmp (o_inG (units65 hr)) (r_v (v_op o_mul (r_var (i := 6)) (r_v (v_op o_sub (r_var (i := 9)) (r_var (i := 7)))))) (r_var (i := 4)) rfl))) (fun _ _ _ _ _ => (v_var 9)))) ar_nil)))))))))))
  (b_one (s_ret (v_var 5)))))))
def phi__law_own_bag : List D → M D := bodyF false 4
  (seqS (setS 1 (lcS [2] (seqF (slL (rd 0) partN (partF (kst (.int 63))))) (gN 2) yesB (op2 modD (biF absD (consF (biF intD (consF (rd 2) nilF)) nilF)) (op2 powD (op2 powD (kst (.int 10)) (kst (.int 60))) (kst (.int 5))))))
  (seqS (setS 3 (op2 addD (kst (.int 7701)) (biF lenD (consF (rd 1) nilF))))
  (seqS (forS [2] (seqF (rd 1)) (gN 2)
    (setS 3 (op2 modD (biF intD (consF (op2 addD (op2 addD (op2 mulD (rd 3) (kst (.int 48271))) (op2 modD (biF intD (consF (rd 2) nilF)) (kst (.int 2147483629)))) (kst (.int 7))) nilF)) (kst (.int 2147483647)))))
  (retBagS (revF (biF listH (consF (rd 1) nilF))) (kst (.int 0)) (rd 3)))))
theorem ok__law_own_bag (T : Tx K mg A) : Fk P w K mg base 1 (A.a 19) (A.d 19) ["script"] false phi__law_own_bag :=
  fk_of (τ' := []) T.f__law_own_bag sc__law_own_bag (T.f__law_own_bag.binds fun _ _ _ _ _ _ us hl => match us, hl with | [_], _ => rfl) fun cdv AA outer s H E hr =>
  (b_cons (s_setF (s_setLc 1 [("cell", 2)] rfl sc__law_own_bag.nd rfl rfl (sw_true rfl rfl rfl (by decide +kernel)) (blkOk_by (N := ["script", "cells", "cell", "mixed"]) (sc := defScope (topS 19)) (by decide +kernel)) (ir_seq (r_v (v_slL (r_var (i := 0)) o_none (o_some v_int)))) (fun _ _ _ _ _ => g_same (g_name 2 sc__law_own_bag.nd)) (fun _ _ _ _ _ => ts_nil) (fun _ _ _ _ _ => (v_op o_mod (r_v (v_bi c_abs (by decide +kernel) T.b_abs (ar_cons (r_v (v_ty c_int (by decide +kernel) T.b_int (ar_cons (r_var (i := 2)) ar_nil))) ar_nil))) (r_v (v_op o_pow (r_v (v_op o_pow (r_v v_int) (r_v v_int))) (r_v v_int)))))))
  (b_cons (s_set 3 sc__law_own_bag.nd (v_op o_add (r_v v_int) (r_v (v_bi c_len PySem.boot_len T.b_len (ar_cons (r_var (i := 1)) ar_nil)))))
  (b_cons (s_for [2] PassesOwn.never rfl (i_seq (v_var 1)) (g_same (g_name 2 sc__law_own_bag.nd))
    (b_tg (b_one (s_set 3 sc__law_own_bag.nd (v_op o_mod (r_v (v_ty c_int (by decide +kernel) T.b_int (ar_cons (r_v (v_op o_add (r_v (v_op o_add (r_v (v_op o_mul (r_var (i := 3)) (r_v v_int))) (r_v (v_op o_mod (r_v (v_ty c_int (by decide +kernel) T.b_int (ar_cons (r_var (i := 2)) ar_nil))) (r_v v_int))))) (r_v v_int))) ar_nil))) (r_v v_int))))))
  (b_one (s_retBag (v_listRev rfl T.b_list T.b_reversed (r_v (v_ty (c_listH rfl) (by decide +kernel) T.b_list (ar_cons (r_var (i := 1)) ar_nil)))) v_int (v_var 3))))))
def phi__law_draw : List D → M D := bodyF false 5
  (seqS (forS [2, 3] (rng1F (kst (.int 64))) (gN 2)
    (seqS (iteS (orB (fun ρ => asB ((op2 (ordD fun i j => decide (j < i)) (ixF (rd 0) (kst (.int 1))) (kst (.int 0))) ρ)) (onBag 0 bagE))
      bkS
      nxS)
    (seqS (setS 3 (onBag 0 bagP))
    (bagPutS 0 1 (iteF (fun ρ => asB ((op2 (ordD fun i j => decide (j < i)) (rd 3) (op2 powD (kst (.int 10)) (kst (.int 9)))) ρ)) (rd 3) (kst (.int 0)))))))
  (seqS (iteS (fun ρ => asB ((op2 (ordD fun i j => decide (j < i)) (ixF (rd 0) (kst (.int 1))) (kst (.int 0))) ρ))
    (seqS (setS 4 (op2 modD (biF intD (consF (ixF (rd 0) (kst (.int 1))) nilF)) (rd 1)))
    (seqS (bagPutS 0 1 (op2 fdivD (ixF (rd 0) (kst (.int 1))) (rd 1)))
    (retS (rd 4))))
    nxS)
  (seqS (bagPutS 0 2 (op2 modD (biF intD (consF (op2 addD (op2 mulD (ixF (rd 0) (kst (.int 2))) (kst (.int 48271))) (kst (.int 11))) nilF)) (kst (.int 2147483647))))
  (retS (op2 modD (biF intD (consF (op2 fdivD (op2 modD (biF intD (consF (op2 mulD (ixF (rd 0) (kst (.int 2))) (ixF (rd 0) (kst (.int 2)))) nilF)) (kst (.int 2147483629))) (kst (.int 7))) nilF)) (rd 1))))))
theorem ok__law_draw (T : Tx K mg A) : Fk P w K mg base 1 (A.a 20) (A.d 20) ["bag", "below"] false phi__law_draw :=
  fk_of (τ' := []) T.f__law_draw sc__law_draw (T.f__law_draw.binds fun _ _ _ _ _ _ us hl => match us, hl with | [_, _], _ => rfl) fun cdv AA outer s H E hr =>
  (b_cons (s_for [2, 3] PassesOwn.never rfl (i_range1 T.b_range v_int) (g_same (g_name 2 sc__law_draw.nd))
    (b_tg (b_cons (s_if (t_w (w_or (t_cmp o_gt (r_v (v_ix (r_var (i := 0)) (r_v v_int))) (r_v v_int) (nomark _)) (w_or1 (t_bagEq 0 hr.units))))
      (b_one s_break)
      b_nil)
    (b_cons (s_set 3 sc__law_draw.nd (v_bagPop 0 (pe_bm0 PySem.F.plainAttrs_list PySem.F.slot_list_pop PySem.F.type_list_pop mt_pop (pe_ix ix_list (pv 0) pe_int fun _ _ => rfl))))
    (b_one (s_bagPut 0 (v_ite (t_cmp o_gt (r_var (i := 3)) (r_v (v_op o_pow (r_v v_int) (r_v v_int))) (nomark _)) (v_var 3) v_int)))))))
  (b_cons (s_if (t_cmp o_gt (r_v (v_ix (r_var (i := 0)) (r_v v_int))) (r_v v_int) (nomark _))
    (b_cons (s_set 4 sc__law_draw.nd (v_op o_mod (r_v (v_ty c_int (by decide +kernel) T.b_int (ar_cons (r_v (v_ix (r_var (i := 0)) (r_v v_int))) ar_nil))) (r_var (i := 1))))
    (b_cons (s_bagPut 0 (v_op o_fdiv (r_v (v_ix (r_var (i := 0)) (r_v v_int))) (r_var (i := 1))))
    (b_one (s_ret (v_var 4)))))
    b_nil)
  (b_cons (s_bagPut 0 (v_op o_mod (r_v (v_ty c_int (by decide +kernel) T.b_int (ar_cons (r_v (v_op o_add (r_v (v_op o_mul (r_v (v_ix (r_var (i := 0)) (r_v v_int))) (r_v v_int))) (r_v v_int))) ar_nil))) (r_v v_int)))
  (b_one (s_ret (v_op o_mod (r_v (v_ty c_int (by decide +kernel) T.b_int (ar_cons (r_v (v_op o_fdiv (r_v (v_op o_mod (r_v (v_ty c_int (by decide +kernel) T.b_int (ar_cons (r_v (v_op o_mul (r_v (v_ix (r_var (i := 0)) (r_v v_int))) (r_v (v_ix (r_var (i := 0)) (r_v v_int))))) ar_nil))) (r_v v_int))) (r_v v_int))) ar_nil))) (r_var (i := 1))))))))
def phi__law_pick : List D → M D := bodyF false 2
  (retS (ixF (rd 1) (callF (phi__law_draw) 2 (consF (rd 0) (consF (biF lenD (consF (rd 1) nilF)) nilF)))))
theorem ok__law_pick (T : Tx K mg A) : Fk P w K mg base 2 (A.a 21) (A.d 21) ["bag", "some"] false phi__law_pick :=
  fk_of (τ' := []) T.f__law_pick sc__law_pick (T.f__law_pick.binds fun _ _ _ _ _ _ us hl => match us, hl with | [_, _], _ => rfl) fun cdv AA outer s H E hr =>
  (b_one (s_ret (v_ix (r_var (i := 1)) (r_v (v_call (ok__law_draw (P := P) (w := w) (base := base) T) (hr.mono (by decide)) T.m__law_draw (a_cons (v_var 0) (a_cons (v_bi c_len PySem.boot_len T.b_len (ar_cons (r_var (i := 1)) ar_nil)) a_nil)))))))
def phi__law_over : List D → M D := bodyF false 5
  (seqS (par2S 2 3 (biF absD (consF (rd 0) nilF)) (rd 1))
  (seqS (forS [4] (rng1F (kst (.int 400))) (gN 4)
    (seqS (iteS (fun ρ => asB ((op2 eqO (rd 3) (kst (.int 0))) ρ))
      bkS
      nxS)
    (par2S 2 3 (rd 3) (op2 modD (biF intD (consF (rd 2) nilF)) (rd 3)))))
  (retS (tupF (consF (op2 fdivD (rd 0) (rd 2)) (consF (op2 fdivD (rd 1) (rd 2)) nilF))))))
theorem ok__law_over (T : Tx K mg A) : Fk P w K mg base 1 (A.a 22) (A.d 22) ["top", "low"] false phi__law_over :=
  fk_of (τ' := []) T.f__law_over sc__law_over (T.f__law_over.binds fun _ _ _ _ _ _ us hl => match us, hl with | [_, _], _ => rfl) fun cdv AA outer s H E hr =>
  (b_cons (s_par2 2 3 rfl sc__law_over.nd (v_bi c_abs (by decide +kernel) T.b_abs (ar_cons (r_var (i := 0)) ar_nil)) (v_var 1))
  (b_cons (s_for [4] PassesOwn.never rfl (i_range1 T.b_range v_int) (g_same (g_name 4 sc__law_over.nd))
    (b_tg (b_cons (s_if (t_cmp (o_eq hr.units) (r_var (i := 3)) (r_v v_int) (nomark _))
      (b_one s_break)
      b_nil)
    (b_one (s_par2 2 3 rfl sc__law_over.nd (v_var 3) (v_op o_mod (r_v (v_ty c_int (by decide +kernel) T.b_int (ar_cons (r_var (i := 2)) ar_nil))) (r_var (i := 3))))))))
  (b_one (s_ret (v_tup (a_cons (v_op o_fdiv (r_var (i := 0)) (r_var (i := 2))) (a_cons (v_op o_fdiv (r_var (i := 1)) (r_var (i := 2))) a_nil)))))))
def phi__law_is_number : List D → M D := bodyF false 2
  (retS (andV (isiF "int" (rd 0)) (andV (notV (isiF "bool" (rd 0))) (op2 eqO (rd 0) (rd 1)))))
theorem ok__law_is_number (T : Tx K mg A) : Fk P w K mg base 1 (A.a 23) (A.d 23) ["told", "due"] false phi__law_is_number :=
  fk_of (τ' := []) T.f__law_is_number sc__law_is_number (T.f__law_is_number.binds fun _ _ _ _ _ _ us hl => match us, hl with | [_, _], _ => rfl) fun cdv AA outer s H E hr =>
  (b_one (s_ret (v_and (v_isi (T := "int") (by decide) T.b_isinstance T.b_int (by decide +kernel) (r_var (i := 0))) (v_and (v_not (v_isi (T := "bool") (by decide) T.b_isinstance T.b_bool (by decide +kernel) (r_var (i := 0)))) (v_one (v_cmp (o_eq hr.units) (r_var (i := 0)) (r_var (i := 1)) (nomark _)))))))
def phi__law_is_row : List D → M D := bodyF false 4
  (seqS (iteS (orB (notB (truF (isiF "tuple" (rd 0)))) (fun ρ => asB ((op2 neO (biF lenD (consF (rd 0) nilF)) (biF lenD (consF (rd 1) nilF))) ρ)))
    (retS (kst (.bl false)))
    nxS)
  (seqS (forS [2, 3] (zipI2 (consF (rd 0) (consF (rd 1) nilF))) (gTup 2 (gCons (gN 2) (gCons (gN 3) gNil)))
    (seqS (iteS (orB (notB (truF (isiF "tuple" (rd 2)))) (fun ρ => asB ((op2 neO (biF lenD (consF (rd 2) nilF)) (kst (.int 2))) ρ)))
      (retS (kst (.bl false)))
      nxS)
    (iteS (orB (truF (isiF "bool" (ixF (rd 2) (kst (.int 0))))) (orB (truF (isiF "bool" (ixF (rd 2) (kst (.int 1))))) (orB (fun ρ => asB ((op2 neO (ixF (rd 2) (kst (.int 0))) (ixF (rd 3) (kst (.int 0)))) ρ)) (fun ρ => asB ((op2 neO (ixF (rd 2) (kst (.int 1))) (ixF (rd 3) (kst (.int 1)))) ρ)))))
      (retS (kst (.bl false)))
      nxS)))
  (retS (kst (.bl true)))))
theorem ok__law_is_row (T : Tx K mg A) : Fk P w K mg base 1 (A.a 24) (A.d 24) ["told", "due"] false phi__law_is_row :=
  fk_of (τ' := []) T.f__law_is_row sc__law_is_row (T.f__law_is_row.binds fun _ _ _ _ _ _ us hl => match us, hl with | [_, _], _ => rfl) fun cdv AA outer s H E hr =>
  (b_cons (s_if (t_w (w_or (t_not (t_truth (r_v (v_isi (T := "tuple") (by decide) T.b_isinstance T.b_tuple (by decide +kernel) (r_var (i := 0)))))) (w_or1 (t_cmp (o_ne hr.units) (r_v (v_bi c_len PySem.boot_len T.b_len (ar_cons (r_var (i := 0)) ar_nil))) (r_v (v_bi c_len PySem.boot_len T.b_len (ar_cons (r_var (i := 1)) ar_nil))) (nomark _)))))
    (b_one (s_ret v_bl))
    b_nil)
  (b_cons (s_for [2, 3] PassesOwn.never rfl (i_zip2 T.b_zip (a_cons (v_var 0) (a_cons (v_var 1) a_nil))) (g_same (g_tup rfl (gs_cons (g_name 2 sc__law_is_row.nd) (gs_cons (g_name 3 sc__law_is_row.nd) gs_nil))))
    (b_tg (b_cons (s_if (t_w (w_or (t_not (t_truth (r_v (v_isi (T := "tuple") (by decide) T.b_isinstance T.b_tuple (by decide +kernel) (r_var (i := 2)))))) (w_or1 (t_cmp (o_ne hr.units) (r_v (v_bi c_len PySem.boot_len T.b_len (ar_cons (r_var (i := 2)) ar_nil))) (r_v v_int) (nomark _)))))
      (b_one (s_ret v_bl))
      b_nil)
    (b_one (s_if (t_w (w_or (t_truth (r_v (v_isi (T := "bool") (by decide) T.b_isinstance T.b_bool (by decide +kernel) (r_v (v_ix (r_var (i := 2)) (r_v v_int)))))) (w_or (t_truth (r_v (v_isi (T := "bool") (by decide) T.b_isinstance T.b_bool (by decide +kernel) (r_v (v_ix (r_var (i := 2)) (r_v v_int)))))) (w_or (t_cmp (o_ne hr.units) (r_v (v_ix (r_var (i := 2)) (r_v v_int))) (r_v (v_ix (r_var (i := 3)) (r_v v_int))) (nomark _)) (w_or1 (t_cmp (o_ne hr.units) (r_v (v_ix (r_var (i := 2)) (r_v v_int))) (r_v (v_ix (r_var (i := 3)) (r_v v_int))) (nomark _)))))))
      (b_one (s_ret v_bl))
      b_nil)))))
  (b_one (s_ret v_bl))))
def phi__law_some : List D → M D := bodyF false 6
  (seqS (setS 3 (kst (.dk [] [])))
  (seqS (forS [4] (rng1F (op2 mulD (kst (.int 3)) (rd 1))) (gN 4)
    (seqS (setS 5 (op2 mulD (op2 addD (kst (.int 1)) (callF (phi__law_draw) 2 (consF (rd 0) (consF (rd 2) nilF)))) (callF (phi__law_pick) 2 (consF (rd 0) (consF (lstF (consF (kst (.int 1)) (consF (negV (kst (.int 1))) nilF))) nilF)))))
    (iteS (fun ρ => asB ((op2 (ordD fun i j => decide (i < j)) (biF lenH (consF (rd 3) nilF)) (rd 1)) ρ))
      (dputS 3 (rd 5) (kst (.bl true)))
      nxS)))
  (retS (biF sortedH (consF (lcS [5] (keysI (rd 3)) (gN 5) yesB (biF intD (consF (rd 5) nilF))) nilF)))))
theorem ok__law_some (T : Tx K mg A) : Fk P w K mg base 3 (A.a 25) (A.d 25) ["bag", "many", "far"] false phi__law_some :=
  fk_of (τ' := []) T.f__law_some sc__law_some (T.f__law_some.binds fun _ _ _ _ _ _ us hl => match us, hl with | [_, _, _], _ => rfl) fun cdv AA outer s H E hr =>
  (b_cons (s_set 3 sc__law_some.nd v_dk0)
  (b_cons (s_for [4] PassesOwn.never rfl (i_range1 T.b_range (v_op o_mul (r_v v_int) (r_var (i := 1)))) (g_same (g_name 4 sc__law_some.nd))
    (b_tg (b_cons (s_set 5 sc__law_some.nd (v_op o_mul (r_v (v_op o_add (r_v v_int) (r_v (v_call (ok__law_draw (P := P) (w := w) (base := base) T) (hr.mono (by decide)) T.m__law_draw (a_cons (v_var 0) (a_cons (v_var 2) a_nil)))))) (r_v (v_call (ok__law_pick (P := P) (w := w) (base := base) T) (hr.mono (by decide)) T.m__law_pick (a_cons (v_var 0) (a_cons (v_frz (v_lst (a_cons v_int (a_cons (v_neg v_int) a_nil)))) a_nil))))))
    (b_one (s_if (t_cmp o_lt (r_v (v_bi c_lenH PySem.boot_len T.b_len (ar_cons (r_var (i := 3)) ar_nil))) (r_var (i := 1)) (nomark _))
      (b_one (s_dput 3 (units65 hr) v_bl (r_var (i := 5))))
      b_nil)))))
  (b_frz 3 (b_one (s_ret (v_frz (v_bi (c_sortedH rfl hr.units) (by decide +kernel) T.b_sorted (ar_cons (r_v (v_lc [("number", 5)] rfl sc__law_some.nd (blkOk_by (N := ["bag", "many", "far", "found", "turn", "number"]) (sc := defScope (topS 25)) (by decide +kernel)) (ir_i (i_keys (v_var 3))) (fun _ _ _ _ _ => g_same (g_name 5 sc__law_some.nd)) (fun _ _ _ _ _ => ts_nil) (fun _ _ _ _ _ => (v_ty c_int (by decide +kernel) T.b_int (ar_cons (r_var (i := 5)) ar_nil))))) ar_nil))))))))
def phi__law_steps : List D → M D := bodyF false 6
  (seqS (par2S 2 3 (op2 addD (kst (.int 1)) (callF (phi__law_draw) 2 (consF (rd 0) (consF (kst (.int 60)) nilF)))) (callF (phi__law_pick) 2 (consF (rd 0) (consF (lstF (consF (kst (.int 1)) (consF (negV (kst (.int 1))) nilF))) nilF))))
  (seqS (setS 4 (callF (phi__law_pick) 2 (consF (rd 0) (consF (lstF (consF (rd 2) (consF (op2 addD (kst (.int 1)) (callF (phi__law_draw) 2 (consF (rd 0) (consF (kst (.int 90)) nilF)))) nilF))) nilF))))
  (retS (biF sortedH (consF (lcS [5] (rng1F (rd 1)) (gN 5) yesB (biF intD (consF (op2 mulD (rd 3) (op2 addD (rd 4) (op2 mulD (rd 2) (rd 5)))) nilF))) nilF)))))
theorem ok__law_steps (T : Tx K mg A) : Fk P w K mg base 3 (A.a 26) (A.d 26) ["bag", "many"] false phi__law_steps :=
  fk_of (τ' := []) T.f__law_steps sc__law_steps (T.f__law_steps.binds fun _ _ _ _ _ _ us hl => match us, hl with | [_, _], _ => rfl) fun cdv AA outer s H E hr =>
  (b_cons (s_parT2 2 3 rfl sc__law_steps.nd (v_op o_add (r_v v_int) (r_v (v_call (ok__law_draw (P := P) (w := w) (base := base) T) (hr.mono (by decide)) T.m__law_draw (a_cons (v_var 0) (a_cons v_int a_nil))))) (v_call (ok__law_pick (P := P) (w := w) (base := base) T) (hr.mono (by decide)) T.m__law_pick (a_cons (v_var 0) (a_cons (v_frz (v_lst (a_cons v_int (a_cons (v_neg v_int) a_nil)))) a_nil))))
  (b_cons (s_set 4 sc__law_steps.nd (v_call (ok__law_pick (P := P) (w := w) (base := base) T) (hr.mono (by decide)) T.m__law_pick (a_cons (v_var 0) (a_cons (v_frz (v_lst (a_cons (v_var 2) (a_cons (v_op o_add (r_v v_int) (r_v (v_call (ok__law_draw (P := P) (w := w) (base := base) T) (hr.mono (by decide)) T.m__law_draw (a_cons (v_var 0) (a_cons v_int a_nil))))) a_nil)))) a_nil))))
  (b_one (s_ret (v_frz (v_bi (c_sortedH rfl hr.units) (by decide +kernel) T.b_sorted (ar_cons (r_v (v_lc [("k", 5)] rfl sc__law_steps.nd (blkOk_by (N := ["bag", "many", "step", "sign", "first", "k"]) (sc := defScope (topS 26)) (by decide +kernel)) (ir_i (i_range1 T.b_range (v_var 1))) (fun _ _ _ _ _ => g_same (g_name 5 sc__law_steps.nd)) (fun _ _ _ _ _ => ts_nil) (fun _ _ _ _ _ => (v_ty c_int (by decide +kernel) T.b_int (ar_cons (r_v (v_op o_mul (r_var (i := 3)) (r_v (v_op o_add (r_var (i := 4)) (r_v (v_op o_mul (r_var (i := 2)) (r_var (i := 5)))))))) ar_nil))))) ar_nil)))))))
def phi__law_about : List D → M D := bodyF false 5
  (seqS (par2S 2 3 (callF (phi__law_draw) 2 (consF (rd 0) (consF (rd 1) nilF))) (op2 addD (kst (.int 1)) (callF (phi__law_draw) 2 (consF (rd 0) (consF (kst (.int 30)) nilF)))))
  (retS (biF sortedH (consF (lcS [4] (rng1F (rd 1)) (gN 4) yesB (biF intD (consF (op2 mulD (op2 addD (op2 subD (op2 mulD (kst (.int 2)) (rd 4)) (op2 mulD (kst (.int 2)) (rd 2))) (kst (.int 1))) (rd 3)) nilF))) nilF))))
theorem ok__law_about (T : Tx K mg A) : Fk P w K mg base 2 (A.a 27) (A.d 27) ["bag", "many"] false phi__law_about :=
  fk_of (τ' := []) T.f__law_about sc__law_about (T.f__law_about.binds fun _ _ _ _ _ _ us hl => match us, hl with | [_, _], _ => rfl) fun cdv AA outer s H E hr =>
  (b_cons (s_parT2 2 3 rfl sc__law_about.nd (v_call (ok__law_draw (P := P) (w := w) (base := base) T) (hr.mono (by decide)) T.m__law_draw (a_cons (v_var 0) (a_cons (v_var 1) a_nil))) (v_op o_add (r_v v_int) (r_v (v_call (ok__law_draw (P := P) (w := w) (base := base) T) (hr.mono (by decide)) T.m__law_draw (a_cons (v_var 0) (a_cons v_int a_nil))))))
  (b_one (s_ret (v_frz (v_bi (c_sortedH rfl hr.units) (by decide +kernel) T.b_sorted (ar_cons (r_v (v_lc [("k", 4)] rfl sc__law_about.nd (blkOk_by (N := ["bag", "many", "half", "wide", "k"]) (sc := defScope (topS 27)) (by decide +kernel)) (ir_i (i_range1 T.b_range (v_var 1))) (fun _ _ _ _ _ => g_same (g_name 4 sc__law_about.nd)) (fun _ _ _ _ _ => ts_nil) (fun _ _ _ _ _ => (v_ty c_int (by decide +kernel) T.b_int (ar_cons (r_v (v_op o_mul (r_v (v_op o_add (r_v (v_op o_sub (r_v (v_op o_mul (r_v v_int) (r_var (i := 4)))) (r_v (v_op o_mul (r_v v_int) (r_var (i := 2)))))) (r_v v_int))) (r_var (i := 3)))) ar_nil))))) ar_nil))))))
def phi__law_ratio : List D → M D := bodyF false 6
  (seqS (par3S 2 3 4 (op2 addD (kst (.int 1)) (callF (phi__law_draw) 2 (consF (rd 0) (consF (kst (.int 8)) nilF)))) (callF (phi__law_pick) 2 (consF (rd 0) (consF (lstF (consF (kst (.int 2)) (consF (kst (.int 3)) (consF (kst (.int 4)) (consF (kst (.int 5)) (consF (negV (kst (.int 2))) (consF (negV (kst (.int 3))) (consF (negV (kst (.int 4))) (consF (negV (kst (.int 5))) nilF))))))))) nilF))) (lstF nilF))
  (seqS (forS [5] (rng1F (rd 1)) (gN 5)
    (seqS (appS 4 (rd 2))
    (setS 2 (op2 mulD (rd 2) (rd 3)))))
  (retS (biF sortedH (consF (lcS [2] (seqF (rd 4)) (gN 2) yesB (biF intD (consF (rd 2) nilF))) nilF)))))
theorem ok__law_ratio (T : Tx K mg A) : Fk P w K mg base 3 (A.a 28) (A.d 28) ["bag", "many"] false phi__law_ratio :=
  fk_of (τ' := []) T.f__law_ratio sc__law_ratio (T.f__law_ratio.binds fun _ _ _ _ _ _ us hl => match us, hl with | [_, _], _ => rfl) fun cdv AA outer s H E hr =>
  (b_cons (s_par3 2 3 4 rfl sc__law_ratio.nd (v_op o_add (r_v v_int) (r_v (v_call (ok__law_draw (P := P) (w := w) (base := base) T) (hr.mono (by decide)) T.m__law_draw (a_cons (v_var 0) (a_cons v_int a_nil))))) (v_call (ok__law_pick (P := P) (w := w) (base := base) T) (hr.mono (by decide)) T.m__law_pick (a_cons (v_var 0) (a_cons (v_frz (v_lst (a_cons v_int (a_cons v_int (a_cons v_int (a_cons v_int (a_cons (v_neg v_int) (a_cons (v_neg v_int) (a_cons (v_neg v_int) (a_cons (v_neg v_int) a_nil)))))))))) a_nil))) (v_lst a_nil))
  (b_cons (s_for [5] PassesOwn.never rfl (i_range1 T.b_range (v_var 1)) (g_same (g_name 5 sc__law_ratio.nd))
    (b_tg (b_cons (s_append 4 (v_var 2) (h := pe_bm PySem.F.plainAttrs_list PySem.F.slot_list_append PySem.F.type_list_append mt_append (pv 4) (pa_cons (v_var 2) pa_nil)))
    (b_one (s_set 2 sc__law_ratio.nd (v_op o_mul (r_var (i := 2)) (r_var (i := 3))))))))
  (b_one (s_ret (v_frz (v_bi (c_sortedH rfl hr.units) (by decide +kernel) T.b_sorted (ar_cons (r_v (v_lc [("number", 2)] rfl sc__law_ratio.nd (blkOk_by (N := ["bag", "many", "number", "ratio", "found", "k"]) (sc := defScope (topS 28)) (by decide +kernel)) (ir_seq (r_var (i := 4))) (fun _ _ _ _ _ => g_same (g_name 2 sc__law_ratio.nd)) (fun _ _ _ _ _ => ts_nil) (fun _ _ _ _ _ => (v_ty c_int (by decide +kernel) T.b_int (ar_cons (r_var (i := 2)) ar_nil))))) ar_nil)))))))
def phi__law_own_numbers : List D → M D := bodyF false 3
  (seqS (par2S 1 2 (callF (phi__law_draw) 2 (consF (rd 0) (consF (kst (.int 9)) nilF))) (callF (phi__law_pick) 2 (consF (rd 0) (consF (lstF (consF (kst (.int 2)) (consF (kst (.int 3)) (consF (kst (.int 4)) (consF (kst (.int 4)) nilF))))) nilF))))
  (seqS (iteS (fun ρ => asB ((op2 (ordD fun i j => decide (i < j)) (rd 1) (kst (.int 2))) ρ))
    (retS (callF (phi__law_some) 3 (consF (rd 0) (consF (rd 2) (consF (callF (phi__law_pick) 2 (consF (rd 0) (consF (lstF (consF (kst (.int 3)) (consF (kst (.int 4)) (consF (kst (.int 6)) nilF)))) nilF))) nilF)))))
    nxS)
  (seqS (iteS (fun ρ => asB ((op2 (ordD fun i j => decide (i < j)) (rd 1) (kst (.int 4))) ρ))
    (retS (callF (phi__law_some) 3 (consF (rd 0) (consF (rd 2) (consF (kst (.int 1000)) nilF)))))
    nxS)
  (seqS (iteS (fun ρ => asB ((op2 eqO (rd 1) (kst (.int 4))) ρ))
    (retS (callF (phi__law_steps) 2 (consF (rd 0) (consF (rd 2) nilF))))
    nxS)
  (seqS (iteS (fun ρ => asB ((op2 eqO (rd 1) (kst (.int 5))) ρ))
    (retS (callF (phi__law_about) 2 (consF (rd 0) (consF (rd 2) nilF))))
    nxS)
  (seqS (iteS (fun ρ => asB ((op2 eqO (rd 1) (kst (.int 6))) ρ))
    (retS (callF (phi__law_ratio) 2 (consF (rd 0) (consF (rd 2) nilF))))
    nxS)
  (seqS (iteS (fun ρ => asB ((op2 eqO (rd 1) (kst (.int 7))) ρ))
    (retS (callF (phi__law_some) 3 (consF (rd 0) (consF (op2 addD (kst (.int 5)) (callF (phi__law_draw) 2 (consF (rd 0) (consF (kst (.int 4)) nilF)))) (consF (callF (phi__law_pick) 2 (consF (rd 0) (consF (lstF (consF (kst (.int 9)) (consF (kst (.int 1000)) nilF))) nilF))) nilF)))))
    nxS)
  (retS (callF (phi__law_some) 3 (consF (rd 0) (consF (kst (.int 1)) (consF (callF (phi__law_pick) 2 (consF (rd 0) (consF (lstF (consF (kst (.int 3)) (consF (kst (.int 1000)) nilF))) nilF))) nilF))))))))))))
theorem ok__law_own_numbers (T : Tx K mg A) : Fk P w K mg base 4 (A.a 29) (A.d 29) ["bag"] false phi__law_own_numbers :=
  fk_of (τ' := []) T.f__law_own_numbers sc__law_own_numbers (T.f__law_own_numbers.binds fun _ _ _ _ _ _ us hl => match us, hl with | [_], _ => rfl) fun cdv AA outer s H E hr =>
  (b_cons (s_par2 1 2 rfl sc__law_own_numbers.nd (v_call (ok__law_draw (P := P) (w := w) (base := base) T) (hr.mono (by decide)) T.m__law_draw (a_cons (v_var 0) (a_cons v_int a_nil))) (v_call (ok__law_pick (P := P) (w := w) (base := base) T) (hr.mono (by decide)) T.m__law_pick (a_cons (v_var 0) (a_cons (v_frz (v_lst (a_cons v_int (a_cons v_int (a_cons v_int (a_cons v_int a_nil)))))) a_nil))))
  (b_cons (s_if (t_cmp o_lt (r_var (i := 1)) (r_v v_int) (nomark _))
    (b_one (s_ret (v_call (ok__law_some (P := P) (w := w) (base := base) T) (hr.mono (by decide)) T.m__law_some (a_cons (v_var 0) (a_cons (v_var 2) (a_cons (v_call (ok__law_pick (P := P) (w := w) (base := base) T) (hr.mono (by decide)) T.m__law_pick (a_cons (v_var 0) (a_cons (v_frz (v_lst (a_cons v_int (a_cons v_int (a_cons v_int a_nil))))) a_nil))) a_nil))))))
    b_nil)
  (b_cons (s_if (t_cmp o_lt (r_var (i := 1)) (r_v v_int) (nomark _))
    (b_one (s_ret (v_call (ok__law_some (P := P) (w := w) (base := base) T) (hr.mono (by decide)) T.m__law_some (a_cons (v_var 0) (a_cons (v_var 2) (a_cons v_int a_nil))))))
    b_nil)
  (b_cons (s_if (t_cmp (o_eq hr.units) (r_var (i := 1)) (r_v v_int) (nomark _))
    (b_one (s_ret (v_call (ok__law_steps (P := P) (w := w) (base := base) T) (hr.mono (by decide)) T.m__law_steps (a_cons (v_var 0) (a_cons (v_var 2) a_nil)))))
    b_nil)
  (b_cons (s_if (t_cmp (o_eq hr.units) (r_var (i := 1)) (r_v v_int) (nomark _))
    (b_one (s_ret (v_call (ok__law_about (P := P) (w := w) (base := base) T) (hr.mono (by decide)) T.m__law_about (a_cons (v_var 0) (a_cons (v_var 2) a_nil)))))
    b_nil)
  (b_cons (s_if (t_cmp (o_eq hr.units) (r_var (i := 1)) (r_v v_int) (nomark _))
    (b_one (s_ret (v_call (ok__law_ratio (P := P) (w := w) (base := base) T) (hr.mono (by decide)) T.m__law_ratio (a_cons (v_var 0) (a_cons (v_var 2) a_nil)))))
    b_nil)
  (b_cons (s_if (t_cmp (o_eq hr.units) (r_var (i := 1)) (r_v v_int) (nomark _))
    (b_one (s_ret (v_call (ok__law_some (P := P) (w := w) (base := base) T) (hr.mono (by decide)) T.m__law_some (a_cons (v_var 0) (a_cons (v_op o_add (r_v v_int) (r_v (v_call (ok__law_draw (P := P) (w := w) (base := base) T) (hr.mono (by decide)) T.m__law_draw (a_cons (v_var 0) (a_cons v_int a_nil))))) (a_cons (v_call (ok__law_pick (P := P) (w := w) (base := base) T) (hr.mono (by decide)) T.m__law_pick (a_cons (v_var 0) (a_cons (v_frz (v_lst (a_cons v_int (a_cons v_int a_nil)))) a_nil))) a_nil))))))
    b_nil)
  (b_one (s_ret (v_call (ok__law_some (P := P) (w := w) (base := base) T) (hr.mono (by decide)) T.m__law_some (a_cons (v_var 0) (a_cons v_int (a_cons (v_call (ok__law_pick (P := P) (w := w) (base := base) T) (hr.mono (by decide)) T.m__law_pick (a_cons (v_var 0) (a_cons (v_frz (v_lst (a_cons v_int (a_cons v_int a_nil)))) a_nil))) a_nil)))))))))))))
def phi__law_great_numbers : List D → M D := bodyF false 2
  (seqS (setS 1 (callF (phi__law_draw) 2 (consF (rd 0) (consF (kst (.int 4)) nilF))))
  (seqS (iteS (fun ρ => asB ((op2 eqO (rd 1) (kst (.int 0))) ρ))
    (retS (callF (phi__law_steps) 2 (consF (rd 0) (consF (op2 subD (kst (.int 16)) (callF (phi__law_draw) 2 (consF (rd 0) (consF (kst (.int 2)) nilF)))) nilF))))
    nxS)
  (seqS (iteS (fun ρ => asB ((op2 eqO (rd 1) (kst (.int 1))) ρ))
    (retS (callF (phi__law_about) 2 (consF (rd 0) (consF (op2 subD (kst (.int 16)) (callF (phi__law_draw) 2 (consF (rd 0) (consF (kst (.int 2)) nilF)))) nilF))))
    nxS)
  (retS (callF (phi__law_some) 3 (consF (rd 0) (consF (op2 addD (kst (.int 9)) (callF (phi__law_draw) 2 (consF (rd 0) (consF (kst (.int 3)) nilF)))) (consF (callF (phi__law_pick) 2 (consF (rd 0) (consF (lstF (consF (kst (.int 16)) (consF (kst (.int 1000)) nilF))) nilF))) nilF))))))))
theorem ok__law_great_numbers (T : Tx K mg A) : Fk P w K mg base 4 (A.a 30) (A.d 30) ["bag"] false phi__law_great_numbers :=
  fk_of (τ' := []) T.f__law_great_numbers sc__law_great_numbers (T.f__law_great_numbers.binds fun _ _ _ _ _ _ us hl => match us, hl with | [_], _ => rfl) fun cdv AA outer s H E hr =>
  (b_cons (s_set 1 sc__law_great_numbers.nd (v_call (ok__law_draw (P := P) (w := w) (base := base) T) (hr.mono (by decide)) T.m__law_draw (a_cons (v_var 0) (a_cons v_int a_nil))))
  (b_cons (s_if (t_cmp (o_eq hr.units) (r_var (i := 1)) (r_v v_int) (nomark _))
    (b_one (s_ret (v_call (ok__law_steps (P := P) (w := w) (base := base) T) (hr.mono (by decide)) T.m__law_steps (a_cons (v_var 0) (a_cons (v_op o_sub (r_v v_int) (r_v (v_call (ok__law_draw (P := P) (w := w) (base := base) T) (hr.mono (by decide)) T.m__law_draw (a_cons (v_var 0) (a_cons v_int a_nil))))) a_nil)))))
    b_nil)
  (b_cons (s_if (t_cmp (o_eq hr.units) (r_var (i := 1)) (r_v v_int) (nomark _))
    (b_one (s_ret (v_call (ok__law_about (P := P) (w := w) (base := base) T) (hr.mono (by decide)) T.m__law_about (a_cons (v_var 0) (a_cons (v_op o_sub (r_v v_int) (r_v (v_call (ok__law_draw (P := P) (w := w) (base := base) T) (hr.mono (by decide)) T.m__law_draw (a_cons (v_var 0) (a_cons v_int a_nil))))) a_nil)))))
    b_nil)
  (b_one (s_ret (v_call (ok__law_some (P := P) (w := w) (base := base) T) (hr.mono (by decide)) T.m__law_some (a_cons (v_var 0) (a_cons (v_op o_add (r_v v_int) (r_v (v_call (ok__law_draw (P := P) (w := w) (base := base) T) (hr.mono (by decide)) T.m__law_draw (a_cons (v_var 0) (a_cons v_int a_nil))))) (a_cons (v_call (ok__law_pick (P := P) (w := w) (base := base) T) (hr.mono (by decide)) T.m__law_pick (a_cons (v_var 0) (a_cons (v_frz (v_lst (a_cons v_int (a_cons v_int a_nil)))) a_nil))) a_nil)))))))))
def phi__law_sums : List D → M D := bodyF false 6
  (seqS (setS 1 (kst (.dk [] [])))
  (seqS (forS [2, 3, 4] (enumI (rd 0)) (gTup 2 (gCons (gN 2) (gCons (gN 3) gNil)))
    (forS [4] (seqF (slL (rd 0) (partF (rd 2)) partN)) (gN 4)
      (dputS 1 (op2 addD (rd 3) (rd 4)) (kst (.bl true)))))
  (retS (biF sortedH (consF (lcS [5] (keysI (rd 1)) (gN 5) yesB (biF intD (consF (rd 5) nilF))) nilF)))))
theorem ok__law_sums (T : Tx K mg A) : Fk P w K mg base 1 (A.a 31) (A.d 31) ["numbers"] false phi__law_sums :=
  fk_of (τ' := []) T.f__law_sums sc__law_sums (T.f__law_sums.binds fun _ _ _ _ _ _ us hl => match us, hl with | [_], _ => rfl) fun cdv AA outer s H E hr =>
  (b_cons (s_set 1 sc__law_sums.nd v_dk0)
  (b_cons (s_for [2, 3, 4] PassesOwn.never rfl (i_enum T.b_enumerate (v_var 0)) (g_same (g_tup rfl (gs_cons (g_name 2 sc__law_sums.nd) (gs_cons (g_name 3 sc__law_sums.nd) gs_nil))))
    (b_tg (b_one (s_for [4] PassesOwn.never rfl (i_seq (v_frz (v_slL (r_var (i := 0)) (o_some (v_var 2)) o_none))) (g_same (g_name 4 sc__law_sums.nd))
      (b_tg (b_one (s_dput 1 (units65 hr) v_bl (r_v (v_op o_add (r_var (i := 3)) (r_var (i := 4)))))))))))
  (b_frz 1 (b_one (s_ret (v_frz (v_bi (c_sortedH rfl hr.units) (by decide +kernel) T.b_sorted (ar_cons (r_v (v_lc [("number", 5)] rfl sc__law_sums.nd (blkOk_by (N := ["numbers", "found", "k", "one", "other", "number"]) (sc := defScope (topS 31)) (by decide +kernel)) (ir_i (i_keys (v_var 1))) (fun _ _ _ _ _ => g_same (g_name 5 sc__law_sums.nd)) (fun _ _ _ _ _ => ts_nil) (fun _ _ _ _ _ => (v_ty c_int (by decide +kernel) T.b_int (ar_cons (r_var (i := 5)) ar_nil))))) ar_nil))))))))
def phi__law_products : List D → M D := bodyF false 6
  (seqS (setS 1 (kst (.dk [] [])))
  (seqS (forS [2, 3, 4] (enumI (rd 0)) (gTup 2 (gCons (gN 2) (gCons (gN 3) gNil)))
    (forS [4] (seqF (slL (rd 0) (partF (rd 2)) partN)) (gN 4)
      (dputS 1 (op2 mulD (rd 3) (rd 4)) (kst (.bl true)))))
  (retS (biF sortedH (consF (lcS [5] (keysI (rd 1)) (gN 5) yesB (biF intD (consF (rd 5) nilF))) nilF)))))
theorem ok__law_products (T : Tx K mg A) : Fk P w K mg base 1 (A.a 32) (A.d 32) ["numbers"] false phi__law_products :=
  fk_of (τ' := []) T.f__law_products sc__law_products (T.f__law_products.binds fun _ _ _ _ _ _ us hl => match us, hl with | [_], _ => rfl) fun cdv AA outer s H E hr =>
  (b_cons (s_set 1 sc__law_products.nd v_dk0)
  (b_cons (s_for [2, 3, 4] PassesOwn.never rfl (i_enum T.b_enumerate (v_var 0)) (g_same (g_tup rfl (gs_cons (g_name 2 sc__law_products.nd) (gs_cons (g_name 3 sc__law_products.nd) gs_nil))))
    (b_tg (b_one (s_for [4] PassesOwn.never rfl (i_seq (v_frz (v_slL (r_var (i := 0)) (o_some (v_var 2)) o_none))) (g_same (g_name 4 sc__law_products.nd))
      (b_tg (b_one (s_dput 1 (units65 hr) v_bl (r_v (v_op o_mul (r_var (i := 3)) (r_var (i := 4)))))))))))
  (b_frz 1 (b_one (s_ret (v_frz (v_bi (c_sortedH rfl hr.units) (by decide +kernel) T.b_sorted (ar_cons (r_v (v_lc [("number", 5)] rfl sc__law_products.nd (blkOk_by (N := ["numbers", "found", "k", "one", "other", "number"]) (sc := defScope (topS 32)) (by decide +kernel)) (ir_i (i_keys (v_var 1))) (fun _ _ _ _ _ => g_same (g_name 5 sc__law_products.nd)) (fun _ _ _ _ _ => ts_nil) (fun _ _ _ _ _ => (v_ty c_int (by decide +kernel) T.b_int (ar_cons (r_var (i := 5)) ar_nil))))) ar_nil))))))))
def phi__law_count : List D → M D := bodyF false 9
  (seqS (par2S 3 4 (kst (.dk [] [])) (kst (.int 0)))
  (seqS (forS [5] (seqF (rd 2)) (gN 5)
    (dputS 3 (rd 5) (kst (.bl true))))
  (seqS (forS [6, 7] (seqF (rd 0)) (gN 6)
    (forS [7] (seqF (rd 0)) (gN 7)
      (setS 4 (op2 addD (rd 4) (biF lenD (consF (lcS [8] (seqF (rd 1)) (gN 8) (fun ρ => asB ((op2 inG (op2 mulD (rd 6) (op2 subD (rd 8) (rd 7))) (rd 3)) ρ)) (rd 8)) nilF))))))
  (retS (rd 4)))))
theorem ok__law_count (T : Tx K mg A) : Fk P w K mg base 1 (A.a 33) (A.d 33) ["numbers", "sums", "products"] false phi__law_count :=
  fk_of (τ' := []) T.f__law_count sc__law_count (T.f__law_count.binds fun _ _ _ _ _ _ us hl => match us, hl with | [_, _, _], _ => rfl) fun cdv AA outer s H E hr =>
  (b_cons (s_parT2 3 4 rfl sc__law_count.nd v_dk0 v_int)
  (b_cons (s_for [5] PassesOwn.never rfl (i_seq (v_var 2)) (g_same (g_name 5 sc__law_count.nd))
    (b_tg (b_one (s_dput 3 (units65 hr) v_bl (r_var (i := 5))))))
  (b_cons (s_for [6, 7] PassesOwn.never rfl (i_seq (v_var 0)) (g_same (g_name 6 sc__law_count.nd))
    (b_tg (b_one (s_for [7] PassesOwn.never rfl (i_seq (v_var 0)) (g_same (g_name 7 sc__law_count.nd))
      (b_tg (b_one (s_set 4 sc__law_count.nd (v_op o_add (r_var (i := 4)) (r_v (v_bi c_len PySem.boot_len T.b_len (ar_cons (r_v (v_lc [("s", 8)] rfl sc__law_count.nd (blkOk_by (N := ["numbers", "sums", "products", "held", "total", "number", "a", "b", "s"]) (sc := defScope (topS 33)) (by decide +kernel)) (ir_seq (r_var (i := 1))) (fun _ _ _ _ _ => g_same (g_name 8 sc__law_count.nd)) (fun _ _ _ _ _ => (ts_one (t_cmp (o_inG (units65 hr)) (r_v (v_op o_mul (r_var (i := 6)) (r_v (v_op o_sub (r_var (i := 8)) (r_var (i := 7)))))) (r_var (i := 3)) rfl))) (fun _ _ _ _ _ => (v_var 8)))) ar_nil)))))))))))
  (b_one (s_ret (v_var 4))))))
def phi__law_are_counts_right : List D → M D := bodyF false 20
  (seqS (par3S 2 3 4 (callF (phi__law_sums) 1 (consF (rd 1) nilF)) (callF (phi__law_products) 1 (consF (rd 1) nilF)) (biF lenD (consF (rd 1) nilF)))
  (seqS (par2S 5 6 (callF (phi__law_count) 3 (consF (rd 1) (consF (rd 2) (consF (rd 3) nilF)))) (op2 (ordD fun i j => decide (j < i)) (biF lenD (consF (rd 1) nilF)) (kst (.int 8))))
  (seqS (setS 7 (biF maxLD (consF (lcS [17] (seqF (rd 1)) (gN 17) yesB (biF intD (consF (biF absD (consF (rd 17) nilF)) nilF))) nilF)))
  (seqS (setS 8 (op2 mulD (op2 addD (kst (.int 1)) (callF (phi__law_draw) 2 (consF (rd 0) (consF (op2 fdivD (kst (.int 1000)) (rd 7)) nilF)))) (callF (phi__law_pick) 2 (consF (rd 0) (consF (lstF (consF (kst (.int 1)) (consF (negV (kst (.int 1))) nilF))) nilF)))))
  (seqS (setS 9 (op2 addD (kst (.int 1)) (callF (phi__law_draw) 2 (consF (rd 0) (consF (callF (phi__law_pick) 2 (consF (rd 0) (consF (lstF (consF (kst (.int 6)) (consF (kst (.int 1000)) nilF))) nilF))) nilF)))))
  (seqS (par2S 10 11 (biF tupleD (consF (lcS [17] (seqF (rd 1)) (gN 17) yesB (tupF (consF (rd 17) (consF (kst (.int 1)) nilF)))) nilF)) (lcS [17] (seqF (rd 1)) (gN 17) yesB (callF (phi__law_over) 2 (consF (op2 mulD (rd 17) (rd 8)) (consF (rd 9) nilF)))))
  (seqS (setS 12 (lcS [17] (seqF (rd 2)) (gN 17) yesB (callF (phi__law_over) 2 (consF (op2 mulD (rd 17) (rd 8)) (consF (rd 9) nilF)))))
  (seqS (setS 13 (lcS [17] (seqF (rd 3)) (gN 17) yesB (callF (phi__law_over) 2 (consF (op2 mulD (op2 mulD (rd 17) (rd 8)) (rd 8)) (consF (op2 mulD (rd 9) (rd 9)) nilF)))))
  (seqS (iteS (fun ρ => asB ((op2 (ordD fun i j => decide (i < j)) (rd 8) (kst (.int 0))) ρ))
    (par2S 11 12 (revF (biF listH (consF (rd 11) nilF))) (revF (biF listH (consF (rd 12) nilF))))
    nxS)
  (seqS (par3S 11 14 15 (biF tupleD (consF (rd 11) nilF)) (lcS [18] (seqF (rd 2)) (gN 18) yesB (tupF (consF (rd 18) (consF (kst (.int 1)) nilF)))) (lcS [19] (seqF (rd 3)) (gN 19) yesB (tupF (consF (rd 19) (consF (kst (.int 1)) nilF)))))
  (seqS (iteS (orB (notB (truF (callF (phi__law_is_row) 2 (consF (callF (phi_sums_of) 1 (consF (rd 10) nilF)) (consF (rd 14) nilF))))) (notB (truF (callF (phi__law_is_row) 2 (consF (callK (phi_products_of) 1 0 1 [0] nilF (consF (rd 10) nilF)) (consF (rd 15) nilF))))))
    (retS (kst (.bl false)))
    nxS)
  (seqS (iteS (orB (notB (truF (callF (phi__law_is_row) 2 (consF (callK (phi_sums_of) 1 0 1 [0] nilF (consF (rd 11) nilF)) (consF (rd 12) nilF))))) (notB (truF (callF (phi__law_is_row) 2 (consF (callF (phi_products_of) 1 (consF (rd 11) nilF)) (consF (rd 13) nilF))))))
    (retS (kst (.bl false)))
    nxS)
  (seqS (iteS (orB (notB (truF (callF (phi__law_is_row) 2 (consF (callK (phi_sums_of) 1 0 1 [0] nilF (consF (rd 10) nilF)) (consF (rd 14) nilF))))) (notB (truF (callF (phi__law_is_row) 2 (consF (callF (phi_products_of) 1 (consF (rd 10) nilF)) (consF (rd 15) nilF))))))
    (retS (kst (.bl false)))
    nxS)
  (seqS (setS 16 (callF (phi_sums_meetings) 1 (consF (rd 10) nilF)))
  (seqS (iteS (orB (notB (truF (callF (phi__law_is_number) 2 (consF (rd 16) (consF (rd 5) nilF))))) (fun ρ => asB ((op2 (ordD fun i j => decide (i < j)) (rd 16) (op2 mulD (op2 mulD (rd 4) (rd 4)) (rd 4))) ρ)))
    (retS (kst (.bl false)))
    nxS)
  (seqS (iteS (notB (truF (callF (phi__law_is_number) 2 (consF (callK (phi_sums_meetings) 1 0 1 [0] nilF (consF (rd 11) nilF)) (consF (rd 5) nilF)))))
    (retS (kst (.bl false)))
    nxS)
  (retS (orV (rd 6) (callF (phi__law_is_number) 2 (consF (callK (phi_sums_meetings) 1 0 1 [0] nilF (consF (rd 10) nilF)) (consF (rd 5) nilF)))))))))))))))))))))
theorem ok__law_are_counts_right (T : Tx K mg A) : Fk P w K mg base 4 (A.a 34) (A.d 34) ["bag", "numbers"] false phi__law_are_counts_right :=
  fk_of (τ' := []) T.f__law_are_counts_right sc__law_are_counts_right (T.f__law_are_counts_right.binds fun _ _ _ _ _ _ us hl => match us, hl with | [_, _], _ => rfl) fun cdv AA outer s H E hr =>
  (b_cons (s_par3 2 3 4 rfl sc__law_are_counts_right.nd (v_call (ok__law_sums (P := P) (w := w) (base := base) T) (hr.mono (by decide)) T.m__law_sums (a_cons (v_var 1) a_nil)) (v_call (ok__law_products (P := P) (w := w) (base := base) T) (hr.mono (by decide)) T.m__law_products (a_cons (v_var 1) a_nil)) (v_bi c_len PySem.boot_len T.b_len (ar_cons (r_var (i := 1)) ar_nil)))
  (b_cons (s_par2 5 6 rfl sc__law_are_counts_right.nd (v_call (ok__law_count (P := P) (w := w) (base := base) T) (hr.mono (by decide)) T.m__law_count (a_cons (v_var 1) (a_cons (v_var 2) (a_cons (v_var 3) a_nil)))) (v_cmp o_gt (r_v (v_bi c_len PySem.boot_len T.b_len (ar_cons (r_var (i := 1)) ar_nil))) (r_v v_int) (nomark _)))
  (b_cons (s_set 7 sc__law_are_counts_right.nd (v_bi (c_maxL rfl) (by decide +kernel) T.b_max (ar_cons (r_v (v_lc [("number", 17)] rfl sc__law_are_counts_right.nd (blkOk_by (N := ["bag", "numbers", "sums", "products", "many", "count", "is_great", "most", "u", "v", "own", "far", "far_sums", "far_products", "due_sums", "due_products", "told", "number", "s", "p"]) (sc := defScope (topS 34)) (by decide +kernel)) (ir_seq (r_var (i := 1))) (fun _ _ _ _ _ => g_same (g_name 17 sc__law_are_counts_right.nd)) (fun _ _ _ _ _ => ts_nil) (fun _ _ _ _ _ => (v_ty c_int (by decide +kernel) T.b_int (ar_cons (r_v (v_bi c_abs (by decide +kernel) T.b_abs (ar_cons (r_var (i := 17)) ar_nil))) ar_nil))))) ar_nil)))
  (b_cons (s_set 8 sc__law_are_counts_right.nd (v_op o_mul (r_v (v_op o_add (r_v v_int) (r_v (v_call (ok__law_draw (P := P) (w := w) (base := base) T) (hr.mono (by decide)) T.m__law_draw (a_cons (v_var 0) (a_cons (v_op o_fdiv (r_v v_int) (r_var (i := 7))) a_nil)))))) (r_v (v_call (ok__law_pick (P := P) (w := w) (base := base) T) (hr.mono (by decide)) T.m__law_pick (a_cons (v_var 0) (a_cons (v_frz (v_lst (a_cons v_int (a_cons (v_neg v_int) a_nil)))) a_nil))))))
  (b_cons (s_set 9 sc__law_are_counts_right.nd (v_op o_add (r_v v_int) (r_v (v_call (ok__law_draw (P := P) (w := w) (base := base) T) (hr.mono (by decide)) T.m__law_draw (a_cons (v_var 0) (a_cons (v_call (ok__law_pick (P := P) (w := w) (base := base) T) (hr.mono (by decide)) T.m__law_pick (a_cons (v_var 0) (a_cons (v_frz (v_lst (a_cons v_int (a_cons v_int a_nil)))) a_nil))) a_nil))))))
  (b_cons (s_par2 10 11 rfl sc__law_are_counts_right.nd (v_ty c_tuple (by decide +kernel) T.b_tuple (ar_cons (r_v (v_lc [("number", 17)] rfl sc__law_are_counts_right.nd (blkOk_by (N := ["bag", "numbers", "sums", "products", "many", "count", "is_great", "most", "u", "v", "own", "far", "far_sums", "far_products", "due_sums", "due_products", "told", "number", "s", "p"]) (sc := defScope (topS 34)) (by decide +kernel)) (ir_seq (r_var (i := 1))) (fun _ _ _ _ _ => g_same (g_name 17 sc__law_are_counts_right.nd)) (fun _ _ _ _ _ => ts_nil) (fun _ _ _ _ _ => (v_tup (a_cons (v_var 17) (a_cons v_int a_nil)))))) ar_nil)) (v_frz (v_lc [("number", 17)] rfl sc__law_are_counts_right.nd (blkOk_by (N := ["bag", "numbers", "sums", "products", "many", "count", "is_great", "most", "u", "v", "own", "far", "far_sums", "far_products", "due_sums", "due_products", "told", "number", "s", "p"]) (sc := defScope (topS 34)) (by decide +kernel)) (ir_seq (r_var (i := 1))) (fun _ _ _ _ _ => g_same (g_name 17 sc__law_are_counts_right.nd)) (fun _ _ _ _ _ => ts_nil) (fun _ _ _ _ _ => (v_call (ok__law_over (P := P) (w := w) (base := base) T) (hr.mono (by decide)) T.m__law_over (a_cons (v_op o_mul (r_var (i := 17)) (r_var (i := 8))) (a_cons (v_var 9) a_nil)))))))
  (b_cons (s_setF (s_setLc 12 [("number", 17)] rfl sc__law_are_counts_right.nd rfl rfl (sw_true rfl rfl rfl (by decide +kernel)) (blkOk_by (N := ["bag", "numbers", "sums", "products", "many", "count", "is_great", "most", "u", "v", "own", "far", "far_sums", "far_products", "due_sums", "due_products", "told", "number", "s", "p"]) (sc := defScope (topS 34)) (by decide +kernel)) (ir_seq (r_var (i := 2))) (fun _ _ _ _ _ => g_same (g_name 17 sc__law_are_counts_right.nd)) (fun _ _ _ _ _ => ts_nil) (fun _ _ _ _ _ => (v_call (ok__law_over (P := P) (w := w) (base := base) T) (hr.mono (by decide)) T.m__law_over (a_cons (v_op o_mul (r_var (i := 17)) (r_var (i := 8))) (a_cons (v_var 9) a_nil))))))
  (b_cons (s_setF (s_setLc 13 [("number", 17)] rfl sc__law_are_counts_right.nd rfl rfl (sw_true rfl rfl rfl (by decide +kernel)) (blkOk_by (N := ["bag", "numbers", "sums", "products", "many", "count", "is_great", "most", "u", "v", "own", "far", "far_sums", "far_products", "due_sums", "due_products", "told", "number", "s", "p"]) (sc := defScope (topS 34)) (by decide +kernel)) (ir_seq (r_var (i := 3))) (fun _ _ _ _ _ => g_same (g_name 17 sc__law_are_counts_right.nd)) (fun _ _ _ _ _ => ts_nil) (fun _ _ _ _ _ => (v_call (ok__law_over (P := P) (w := w) (base := base) T) (hr.mono (by decide)) T.m__law_over (a_cons (v_op o_mul (r_v (v_op o_mul (r_var (i := 17)) (r_var (i := 8)))) (r_var (i := 8))) (a_cons (v_op o_mul (r_var (i := 9)) (r_var (i := 9))) a_nil))))))
  (b_cons (s_if (t_cmp o_lt (r_var (i := 8)) (r_v v_int) (nomark _))
    (b_one (s_par2 11 12 rfl sc__law_are_counts_right.nd (v_frz (v_listRev rfl T.b_list T.b_reversed (r_v (v_ty (c_listH rfl) (by decide +kernel) T.b_list (ar_cons (r_var (i := 11)) ar_nil))))) (v_frz (v_listRev rfl T.b_list T.b_reversed (r_v (v_ty (c_listH rfl) (by decide +kernel) T.b_list (ar_cons (r_var (i := 12)) ar_nil)))))))
    b_nil)
  (b_cons (s_par3 11 14 15 rfl sc__law_are_counts_right.nd (v_ty c_tuple (by decide +kernel) T.b_tuple (ar_cons (r_var (i := 11)) ar_nil)) (v_frz (v_lc [("s", 18)] rfl sc__law_are_counts_right.nd (blkOk_by (N := ["bag", "numbers", "sums", "products", "many", "count", "is_great", "most", "u", "v", "own", "far", "far_sums", "far_products", "due_sums", "due_products", "told", "number", "s", "p"]) (sc := defScope (topS 34)) (by decide +kernel)) (ir_seq (r_var (i := 2))) (fun _ _ _ _ _ => g_same (g_name 18 sc__law_are_counts_right.nd)) (fun _ _ _ _ _ => ts_nil) (fun _ _ _ _ _ => (v_tup (a_cons (v_var 18) (a_cons v_int a_nil)))))) (v_frz (v_lc [("p", 19)] rfl sc__law_are_counts_right.nd (blkOk_by (N := ["bag", "numbers", "sums", "products", "many", "count", "is_great", "most", "u", "v", "own", "far", "far_sums", "far_products", "due_sums", "due_products", "told", "number", "s", "p"]) (sc := defScope (topS 34)) (by decide +kernel)) (ir_seq (r_var (i := 3))) (fun _ _ _ _ _ => g_same (g_name 19 sc__law_are_counts_right.nd)) (fun _ _ _ _ _ => ts_nil) (fun _ _ _ _ _ => (v_tup (a_cons (v_var 19) (a_cons v_int a_nil)))))))
  (b_cons (s_if (t_w (w_or (t_not (t_truth (r_v (v_call (ok__law_is_row (P := P) (w := w) (base := base) T) (hr.mono (by decide)) T.m__law_is_row (a_cons (v_call (ok_sums_of (P := P) (w := w) (base := base) T) (hr.mono (by decide)) T.m_sums_of (a_cons (v_var 10) a_nil)) (a_cons (v_var 14) a_nil)))))) (w_or1 (t_not (t_truth (r_v (v_call (ok__law_is_row (P := P) (w := w) (base := base) T) (hr.mono (by decide)) T.m__law_is_row (a_cons (v_callK0 (ok_products_of (P := P) (w := w) (base := base) T) (hr.mono (by decide)) T.m_products_of (kb_products_of_0_numbers T) (k_cons (v_var 10) k_nil)) (a_cons (v_var 15) a_nil)))))))))
    (b_one (s_ret v_bl))
    b_nil)
  (b_cons (s_if (t_w (w_or (t_not (t_truth (r_v (v_call (ok__law_is_row (P := P) (w := w) (base := base) T) (hr.mono (by decide)) T.m__law_is_row (a_cons (v_callK0 (ok_sums_of (P := P) (w := w) (base := base) T) (hr.mono (by decide)) T.m_sums_of (kb_sums_of_0_numbers T) (k_cons (v_var 11) k_nil)) (a_cons (v_var 12) a_nil)))))) (w_or1 (t_not (t_truth (r_v (v_call (ok__law_is_row (P := P) (w := w) (base := base) T) (hr.mono (by decide)) T.m__law_is_row (a_cons (v_call (ok_products_of (P := P) (w := w) (base := base) T) (hr.mono (by decide)) T.m_products_of (a_cons (v_var 11) a_nil)) (a_cons (v_var 13) a_nil)))))))))
    (b_one (s_ret v_bl))
    b_nil)
  (b_cons (s_if (t_w (w_or (t_not (t_truth (r_v (v_call (ok__law_is_row (P := P) (w := w) (base := base) T) (hr.mono (by decide)) T.m__law_is_row (a_cons (v_callK0 (ok_sums_of (P := P) (w := w) (base := base) T) (hr.mono (by decide)) T.m_sums_of (kb_sums_of_0_numbers T) (k_cons (v_var 10) k_nil)) (a_cons (v_var 14) a_nil)))))) (w_or1 (t_not (t_truth (r_v (v_call (ok__law_is_row (P := P) (w := w) (base := base) T) (hr.mono (by decide)) T.m__law_is_row (a_cons (v_call (ok_products_of (P := P) (w := w) (base := base) T) (hr.mono (by decide)) T.m_products_of (a_cons (v_var 10) a_nil)) (a_cons (v_var 15) a_nil)))))))))
    (b_one (s_ret v_bl))
    b_nil)
  (b_cons (s_set 16 sc__law_are_counts_right.nd (v_call (ok_sums_meetings (P := P) (w := w) (base := base) T) (hr.mono (by decide)) T.m_sums_meetings (a_cons (v_var 10) a_nil)))
  (b_cons (s_if (t_w (w_or (t_not (t_truth (r_v (v_call (ok__law_is_number (P := P) (w := w) (base := base) T) (hr.mono (by decide)) T.m__law_is_number (a_cons (v_var 16) (a_cons (v_var 5) a_nil)))))) (w_or1 (t_cmp o_lt (r_var (i := 16)) (r_v (v_op o_mul (r_v (v_op o_mul (r_var (i := 4)) (r_var (i := 4)))) (r_var (i := 4)))) (nomark _)))))
    (b_one (s_ret v_bl))
    b_nil)
  (b_cons (s_if (t_not (t_truth (r_v (v_call (ok__law_is_number (P := P) (w := w) (base := base) T) (hr.mono (by decide)) T.m__law_is_number (a_cons (v_callK0 (ok_sums_meetings (P := P) (w := w) (base := base) T) (hr.mono (by decide)) T.m_sums_meetings (kb_sums_meetings_0_numbers T) (k_cons (v_var 11) k_nil)) (a_cons (v_var 5) a_nil))))))
    (b_one (s_ret v_bl))
    b_nil)
  (b_one (s_ret (v_or (v_var 6) (v_one (v_call (ok__law_is_number (P := P) (w := w) (base := base) T) (hr.mono (by decide)) T.m__law_is_number (a_cons (v_callK0 (ok_sums_meetings (P := P) (w := w) (base := base) T) (hr.mono (by decide)) T.m_sums_meetings (kb_sums_meetings_0_numbers T) (k_cons (v_var 10) k_nil)) (a_cons (v_var 5) a_nil)))))))))))))))))))))))
def phi__law_lines : List D → M D := bodyF false 6
  (seqS (setS 1 (kst (.dk [] [])))
  (seqS (forS [2, 3, 4] (seqF (rd 0)) (gN 2)
    (forS [3, 4] (seqF (rd 0)) (gN 3)
      (seqS (setS 4 (iteF (fun ρ => asB ((op2 (ordD fun i j => decide (j < i)) (rd 2) (kst (.int 0))) ρ)) (tupF (consF (rd 2) (consF (negV (kst (.int 1))) (consF (op2 mulD (rd 2) (rd 3)) nilF)))) (tupF (consF (negV (rd 2)) (consF (kst (.int 1)) (consF (op2 mulD (negV (rd 2)) (rd 3)) nilF))))))
      (dputS 1 (op2 addD (op2 addD (op2 mulD (op2 addD (op2 addD (op2 mulD (ixF (rd 4) (kst (.int 0))) (kst (.int 10))) (ixF (rd 4) (kst (.int 1)))) (kst (.int 1))) (op2 powD (kst (.int 10)) (kst (.int 8)))) (ixF (rd 4) (kst (.int 2)))) (op2 powD (kst (.int 10)) (kst (.int 7)))) (rd 4)))))
  (retS (biF tupleD (consF (lcS [5] (seqF (biF sortedH (consF (lcS [5] (keysI (rd 1)) (gN 5) yesB (biF intD (consF (rd 5) nilF))) nilF))) (gN 5) yesB (dixF (rd 1) (rd 5))) nilF)))))
theorem ok__law_lines (T : Tx K mg A) : Fk P w K mg base 1 (A.a 35) (A.d 35) ["numbers"] false phi__law_lines :=
  fk_of (τ' := []) T.f__law_lines sc__law_lines (T.f__law_lines.binds fun _ _ _ _ _ _ us hl => match us, hl with | [_], _ => rfl) fun cdv AA outer s H E hr =>
  (b_cons (s_set 1 sc__law_lines.nd v_dk0)
  (b_cons (s_for [2, 3, 4] PassesOwn.never rfl (i_seq (v_var 0)) (g_same (g_name 2 sc__law_lines.nd))
    (b_tg (b_one (s_for [3, 4] PassesOwn.never rfl (i_seq (v_var 0)) (g_same (g_name 3 sc__law_lines.nd))
      (b_tg (b_cons (s_set 4 sc__law_lines.nd (v_ite (t_cmp o_gt (r_var (i := 2)) (r_v v_int) (nomark _)) (v_tup (a_cons (v_var 2) (a_cons (v_neg v_int) (a_cons (v_op o_mul (r_var (i := 2)) (r_var (i := 3))) a_nil)))) (v_tup (a_cons (v_neg (v_var 2)) (a_cons v_int (a_cons (v_op o_mul (r_v (v_neg (v_var 2))) (r_var (i := 3))) a_nil))))))
      (b_one (s_dput 1 (units65 hr) (v_var 4) (r_v (v_op o_add (r_v (v_op o_add (r_v (v_op o_mul (r_v (v_op o_add (r_v (v_op o_add (r_v (v_op o_mul (r_v (v_ix (r_var (i := 4)) (r_v v_int))) (r_v v_int))) (r_v (v_ix (r_var (i := 4)) (r_v v_int))))) (r_v v_int))) (r_v (v_op o_pow (r_v v_int) (r_v v_int))))) (r_v (v_ix (r_var (i := 4)) (r_v v_int))))) (r_v (v_op o_pow (r_v v_int) (r_v v_int)))))))))))))
  (b_frz 1 (b_one (s_ret (v_ty c_tuple (by decide +kernel) T.b_tuple (ar_cons (r_v (v_lc [("code", 5)] rfl sc__law_lines.nd (blkOk_by (N := ["numbers", "table", "a", "b", "line", "code"]) (sc := defScope (topS 35)) (by decide +kernel)) (ir_seq (r_v (v_bi (c_sortedH rfl hr.units) (by decide +kernel) T.b_sorted (ar_cons (r_v (v_lc [("code", 5)] rfl sc__law_lines.nd (blkOk_by (N := ["numbers", "table", "a", "b", "line", "code"]) (sc := defScope (topS 35)) (by decide +kernel)) (ir_i (i_keys (v_var 1))) (fun _ _ _ _ _ => g_same (g_name 5 sc__law_lines.nd)) (fun _ _ _ _ _ => ts_nil) (fun _ _ _ _ _ => (v_ty c_int (by decide +kernel) T.b_int (ar_cons (r_var (i := 5)) ar_nil))))) ar_nil)))) (fun _ _ _ _ _ => g_same (g_name 5 sc__law_lines.nd)) (fun _ _ _ _ _ => ts_nil) (fun _ _ _ _ _ => (v_dix (units65 hr) (r_var (i := 1)) (r_var (i := 5)) (fun _ _ => rfl))))) ar_nil)))))))
def phi__law_lots : List D → M D := bodyF false 10
  (seqS (setS 4 (lstF nilF))
  (seqS (forS [5] (seqF (rd 1)) (gN 5)
    (extS 4 (lcS [9] (seqF (rd 2)) (gN 9) yesB (tupF (consF (rd 5) (consF (rd 9) nilF))))))
  (seqS (iteS (fun ρ => asB ((op2 (ordD fun i j => decide (i ≤ j)) (biF lenD (consF (rd 4) nilF)) (kst (.int 64))) ρ))
    (retS (lstF (consF (rd 4) nilF)))
    nxS)
  (seqS (iteS (fun ρ => asB ((op2 (ordD fun i j => decide (i < j)) (rd 3) (kst (.int 5))) ρ))
    (seqS (setS 6 (op2 addD (op2 subD (biF lenD (consF (rd 4) nilF)) (kst (.int 64))) (callF (phi__law_draw) 2 (consF (rd 0) (consF (op2 subD (kst (.int 129)) (biF lenD (consF (rd 4) nilF))) nilF)))))
    (retS (lstF (consF (slL (rd 4) partN (partF (rd 6))) (consF (slL (rd 4) (partF (rd 6)) partN) nilF)))))
    nxS)
  (seqS (setS 7 (op2 addD (kst (.int 1)) (callF (phi__law_draw) 2 (consF (rd 0) (consF (biF maxD (consF (kst (.int 1)) (consF (op2 fdivD (biF lenD (consF (rd 4) nilF)) (kst (.int 64))) nilF))) nilF)))))
  (seqS (setS 8 (callF (phi__law_draw) 2 (consF (rd 0) (consF (biF maxD (consF (kst (.int 1)) (consF (op2 addD (op2 subD (biF lenD (consF (rd 4) nilF)) (op2 mulD (kst (.int 64)) (rd 7))) (kst (.int 1))) nilF))) nilF))))
  (retS (lstF (consF (slL (slS (rd 4) (partF (rd 8)) partN (partF (rd 7))) partN (partF (kst (.int 64)))) nilF)))))))))
theorem ok__law_lots (T : Tx K mg A) : Fk P w K mg base 2 (A.a 36) (A.d 36) ["bag", "sums", "products", "many"] false phi__law_lots :=
  fk_of (τ' := []) T.f__law_lots sc__law_lots (T.f__law_lots.binds fun _ _ _ _ _ _ us hl => match us, hl with | [_, _, _, _], _ => rfl) fun cdv AA outer s H E hr =>
  (b_cons (s_set 4 sc__law_lots.nd (v_lst a_nil))
  (b_cons (s_for [5] PassesOwn.never rfl (i_seq (v_var 1)) (g_same (g_name 5 sc__law_lots.nd))
    (b_tg (b_one (s_extend 4 (pe_bm PySem.F.plainAttrs_list PySem.F.slot_list_extend PySem.F.type_list_extend mt_extend (pv 4) (pa_cons (r_v (v_lc [("p", 9)] rfl sc__law_lots.nd (blkOk_by (N := ["bag", "sums", "products", "many", "points", "s", "cut", "step", "start", "p"]) (sc := defScope (topS 36)) (by decide +kernel)) (ir_seq (r_var (i := 2))) (fun _ _ _ _ _ => g_same (g_name 9 sc__law_lots.nd)) (fun _ _ _ _ _ => ts_nil) (fun _ _ _ _ _ => (v_tup (a_cons (v_var 5) (a_cons (v_var 9) a_nil)))))) pa_nil))))))
  (b_cons (s_if (t_cmp o_le (r_v (v_bi c_len PySem.boot_len T.b_len (ar_cons (r_var (i := 4)) ar_nil))) (r_v v_int) (nomark _))
    (b_frz 4 (b_one (s_ret (v_frz (v_lst (a_cons (v_var 4) a_nil))))))
    b_nil)
  (b_cons (s_if (t_cmp o_lt (r_var (i := 3)) (r_v v_int) (nomark _))
    (b_cons (s_set 6 sc__law_lots.nd (v_op o_add (r_v (v_op o_sub (r_v (v_bi c_len PySem.boot_len T.b_len (ar_cons (r_var (i := 4)) ar_nil))) (r_v v_int))) (r_v (v_call (ok__law_draw (P := P) (w := w) (base := base) T) (hr.mono (by decide)) T.m__law_draw (a_cons (v_var 0) (a_cons (v_op o_sub (r_v v_int) (r_v (v_bi c_len PySem.boot_len T.b_len (ar_cons (r_var (i := 4)) ar_nil)))) a_nil))))))
    (b_one (s_ret (v_frz (v_lst (a_cons (v_frz (v_slL (r_var (i := 4)) o_none (o_some (v_var 6)))) (a_cons (v_frz (v_slL (r_var (i := 4)) (o_some (v_var 6)) o_none)) a_nil)))))))
    b_nil)
  (b_cons (s_set 7 sc__law_lots.nd (v_op o_add (r_v v_int) (r_v (v_call (ok__law_draw (P := P) (w := w) (base := base) T) (hr.mono (by decide)) T.m__law_draw (a_cons (v_var 0) (a_cons (v_bi (c_max rfl) (by decide +kernel) T.b_max (ar_cons (r_v v_int) (ar_cons (r_v (v_op o_fdiv (r_v (v_bi c_len PySem.boot_len T.b_len (ar_cons (r_var (i := 4)) ar_nil))) (r_v v_int))) ar_nil))) a_nil))))))
  (b_cons (s_set 8 sc__law_lots.nd (v_call (ok__law_draw (P := P) (w := w) (base := base) T) (hr.mono (by decide)) T.m__law_draw (a_cons (v_var 0) (a_cons (v_bi (c_max rfl) (by decide +kernel) T.b_max (ar_cons (r_v v_int) (ar_cons (r_v (v_op o_add (r_v (v_op o_sub (r_v (v_bi c_len PySem.boot_len T.b_len (ar_cons (r_var (i := 4)) ar_nil))) (r_v (v_op o_mul (r_v v_int) (r_var (i := 7)))))) (r_v v_int))) ar_nil))) a_nil))))
  (b_one (s_ret (v_frz (v_lst (a_cons (v_frz (v_slL (r_v (v_slS (r_var (i := 4)) (o_some (v_var 8)) o_none (o_some (v_var 7)))) o_none (o_some v_int))) a_nil)))))))))))
def phi__law_own_meet : List D → M D := bodyF false 4
  (retS (biF lenD (consF (lcS [3] (seqF (rd 1)) (gN 3) (fun ρ => asB ((op2 inG (tupF (consF (rd 3) (consF (op2 mulD (ixF (rd 2) (kst (.int 1))) (op2 subD (ixF (rd 2) (kst (.int 2))) (op2 mulD (ixF (rd 2) (kst (.int 0))) (rd 3)))) nilF))) (rd 0)) ρ)) (rd 3)) nilF)))
theorem ok__law_own_meet (T : Tx K mg A) : Fk P w K mg base 1 (A.a 37) (A.d 37) ["lot", "sums", "line"] false phi__law_own_meet :=
  fk_of (τ' := []) T.f__law_own_meet sc__law_own_meet (T.f__law_own_meet.binds fun _ _ _ _ _ _ us hl => match us, hl with | [_, _, _], _ => rfl) fun cdv AA outer s H E hr =>
  (b_one (s_ret (v_bi c_len PySem.boot_len T.b_len (ar_cons (r_v (v_lc [("s", 3)] rfl sc__law_own_meet.nd (blkOk_by (N := ["lot", "sums", "line", "s"]) (sc := defScope (topS 37)) (by decide +kernel)) (ir_seq (r_var (i := 1))) (fun _ _ _ _ _ => g_same (g_name 3 sc__law_own_meet.nd)) (fun _ _ _ _ _ => (ts_one (t_cmp (o_inG (units65 hr)) (r_v (v_tup (a_cons (v_var 3) (a_cons (v_op o_mul (r_v (v_ix (r_var (i := 2)) (r_v v_int))) (r_v (v_op o_sub (r_v (v_ix (r_var (i := 2)) (r_v v_int))) (r_v (v_op o_mul (r_v (v_ix (r_var (i := 2)) (r_v v_int))) (r_var (i := 3))))))) a_nil)))) (r_var (i := 0)) rfl))) (fun _ _ _ _ _ => (v_var 3)))) ar_nil))))
def phi__law_are_meetings_right : List D → M D := bodyF false 23
  (seqS (par3S 2 3 4 (callF (phi__law_sums) 1 (consF (rd 1) nilF)) (callF (phi__law_products) 1 (consF (rd 1) nilF)) (biF lenD (consF (rd 1) nilF)))
  (seqS (par2S 5 6 (callF (phi__law_lines) 1 (consF (rd 1) nilF)) (callF (phi__law_lots) 4 (consF (rd 0) (consF (rd 2) (consF (rd 3) (consF (biF lenD (consF (rd 1) nilF)) nilF))))))
  (seqS (par3S 7 8 9 (callF (phi__law_count) 3 (consF (rd 1) (consF (rd 2) (consF (rd 3) nilF)))) (kst (.int 0)) (kst (.bl false)))
  (seqS (par2S 10 11 (callF (phi__law_draw) 2 (consF (rd 0) (consF (biF lenD (consF (rd 5) nilF)) nilF))) (callF (phi__law_draw) 2 (consF (rd 0) (consF (kst (.int 64)) nilF))))
  (seqS (forS [13, 14, 15, 16, 17, 18, 19, 20] (seqF (rd 6)) (gN 12)
    (seqS (setS 13 (kst (.dt [] [])))
    (seqS (forS [14] (seqF (rd 12)) (gN 14)
      (dputS 13 (rd 14) (kst (.bl true))))
    (seqS (setS 15 (lcS [21] (seqF (rd 5)) (gN 21) yesB (callF (phi__law_own_meet) 3 (consF (rd 13) (consF (rd 2) (consF (rd 21) nilF))))))
    (seqS (par3S 16 17 18 (biF sumG (consF (lcS [22] (seqF (rd 15)) (gN 22) yesB (biF intD (consF (rd 22) nilF))) nilF)) (ixF (rd 15) (rd 10)) (biF tupleD (consF (rd 12) nilF)))
    (seqS (setS 14 (ixF (rd 12) (op2 modD (biF intD (consF (rd 11) nilF)) (biF lenD (consF (rd 12) nilF)))))
    (seqS (setS 19 (biF lenD (consF (lcS [21] (seqF (rd 5)) (gN 21) (fun ρ => asB ((op2 eqO (op2 addD (op2 mulD (ixF (rd 21) (kst (.int 0))) (ixF (rd 14) (kst (.int 0)))) (op2 mulD (ixF (rd 21) (kst (.int 1))) (ixF (rd 14) (kst (.int 1))))) (ixF (rd 21) (kst (.int 2)))) ρ)) (rd 21)) nilF)))
    (seqS (setS 20 (callF (phi_meetings) 2 (consF (rd 18) (consF (rd 5) nilF))))
    (seqS (iteS (orB (notB (truF (callF (phi__law_is_number) 2 (consF (rd 20) (consF (rd 16) nilF))))) (notB (truF (callF (phi__law_is_number) 2 (consF (callF (phi_meetings) 2 (consF (rd 18) (consF (tupF (consF (ixF (rd 5) (rd 10)) nilF)) nilF))) (consF (rd 17) nilF))))))
      (retS (kst (.bl false)))
      nxS)
    (seqS (iteS (notB (truF (callF (phi__law_is_number) 2 (consF (callK (phi_meetings) 2 0 2 [1, 0] nilF (consF (rd 5) (consF (tupF (consF (rd 14) nilF)) nilF))) (consF (rd 19) nilF)))))
      (retS (kst (.bl false)))
      nxS)
    (seqS (iteS (notB (truF (callF (phi__law_is_number) 2 (consF (callK (phi_meetings) 2 0 2 [0, 1] nilF (consF (rd 18) (consF (rd 5) nilF))) (consF (rd 16) nilF)))))
      (retS (kst (.bl false)))
      nxS)
    (setS 8 (op2 addD (rd 8) (rd 20))))))))))))))
  (seqS (setS 9 (op2 eqO (biF sumG (consF (lcS [12] (seqF (rd 6)) (gN 12) yesB (biF lenD (consF (rd 12) nilF))) nilF)) (op2 mulD (biF lenD (consF (rd 2) nilF)) (biF lenD (consF (rd 3) nilF)))))
  (retS (orV (notV (rd 9)) (andV (op2 eqO (rd 8) (rd 7)) (op2 (ordD fun i j => decide (j ≤ i)) (rd 8) (op2 mulD (op2 mulD (rd 4) (rd 4)) (rd 4))))))))))))
theorem ok__law_are_meetings_right (T : Tx K mg A) : Fk P w K mg base 4 (A.a 38) (A.d 38) ["bag", "numbers"] false phi__law_are_meetings_right :=
  fk_of (τ' := []) T.f__law_are_meetings_right sc__law_are_meetings_right (T.f__law_are_meetings_right.binds fun _ _ _ _ _ _ us hl => match us, hl with | [_, _], _ => rfl) fun cdv AA outer s H E hr =>
  (b_cons (s_parT3 2 3 4 rfl sc__law_are_meetings_right.nd (v_call (ok__law_sums (P := P) (w := w) (base := base) T) (hr.mono (by decide)) T.m__law_sums (a_cons (v_var 1) a_nil)) (v_call (ok__law_products (P := P) (w := w) (base := base) T) (hr.mono (by decide)) T.m__law_products (a_cons (v_var 1) a_nil)) (v_bi c_len PySem.boot_len T.b_len (ar_cons (r_var (i := 1)) ar_nil)))
  (b_cons (s_par2 5 6 rfl sc__law_are_meetings_right.nd (v_call (ok__law_lines (P := P) (w := w) (base := base) T) (hr.mono (by decide)) T.m__law_lines (a_cons (v_var 1) a_nil)) (v_call (ok__law_lots (P := P) (w := w) (base := base) T) (hr.mono (by decide)) T.m__law_lots (a_cons (v_var 0) (a_cons (v_var 2) (a_cons (v_var 3) (a_cons (v_bi c_len PySem.boot_len T.b_len (ar_cons (r_var (i := 1)) ar_nil)) a_nil))))))
  (b_cons (s_par3 7 8 9 rfl sc__law_are_meetings_right.nd (v_call (ok__law_count (P := P) (w := w) (base := base) T) (hr.mono (by decide)) T.m__law_count (a_cons (v_var 1) (a_cons (v_var 2) (a_cons (v_var 3) a_nil)))) v_int v_bl)
  (b_cons (s_par2 10 11 rfl sc__law_are_meetings_right.nd (v_call (ok__law_draw (P := P) (w := w) (base := base) T) (hr.mono (by decide)) T.m__law_draw (a_cons (v_var 0) (a_cons (v_bi c_len PySem.boot_len T.b_len (ar_cons (r_var (i := 5)) ar_nil)) a_nil))) (v_call (ok__law_draw (P := P) (w := w) (base := base) T) (hr.mono (by decide)) T.m__law_draw (a_cons (v_var 0) (a_cons v_int a_nil))))
  (b_cons (s_for [13, 14, 15, 16, 17, 18, 19, 20] PassesOwn.never rfl (i_seq (v_var 6)) (g_same (g_name 12 sc__law_are_meetings_right.nd))
    (b_tg (b_cons (s_set 13 sc__law_are_meetings_right.nd v_dt0)
    (b_cons (s_for [14] PassesOwn.never rfl (i_seq (v_var 12)) (g_same (g_name 14 sc__law_are_meetings_right.nd))
      (b_tg (b_one (s_dput 13 (units65 hr) v_bl (r_var (i := 14))))))
    (b_frz 13 (b_cons (s_setF (s_setLc 15 [("line", 21)] rfl sc__law_are_meetings_right.nd rfl rfl (sw_true rfl rfl rfl (by decide +kernel)) (blkOk_by (N := ["bag", "numbers", "sums", "products", "many", "lines", "lots", "count", "total", "is_all", "place", "spot", "lot", "held", "point", "rich", "due", "one", "points", "few", "told", "line", "number"]) (sc := defScope (topS 38)) (by decide +kernel)) (ir_seq (r_var (i := 5))) (fun _ _ _ _ _ => g_same (g_name 21 sc__law_are_meetings_right.nd)) (fun _ _ _ _ _ => ts_nil) (fun _ _ _ _ _ => (v_call (ok__law_own_meet (P := P) (w := w) (base := base) T) (hr.mono (by decide)) T.m__law_own_meet (a_cons (v_var 13) (a_cons (v_var 2) (a_cons (v_var 21) a_nil)))))))
    (b_cons (s_par3 16 17 18 rfl sc__law_are_meetings_right.nd (v_bi (c_sumG rfl) (by decide +kernel) T.b_sum (ar_cons (r_v (v_lc [("number", 22)] rfl sc__law_are_meetings_right.nd (blkOk_by (N := ["bag", "numbers", "sums", "products", "many", "lines", "lots", "count", "total", "is_all", "place", "spot", "lot", "held", "point", "rich", "due", "one", "points", "few", "told", "line", "number"]) (sc := defScope (topS 38)) (by decide +kernel)) (ir_seq (r_var (i := 15))) (fun _ _ _ _ _ => g_same (g_name 22 sc__law_are_meetings_right.nd)) (fun _ _ _ _ _ => ts_nil) (fun _ _ _ _ _ => (v_ty c_int (by decide +kernel) T.b_int (ar_cons (r_var (i := 22)) ar_nil))))) ar_nil)) (v_ix (r_var (i := 15)) (r_var (i := 10))) (v_ty c_tuple (by decide +kernel) T.b_tuple (ar_cons (r_var (i := 12)) ar_nil)))
    (b_cons (s_set 14 sc__law_are_meetings_right.nd (v_ix (r_var (i := 12)) (r_v (v_op o_mod (r_v (v_ty c_int (by decide +kernel) T.b_int (ar_cons (r_var (i := 11)) ar_nil))) (r_v (v_bi c_len PySem.boot_len T.b_len (ar_cons (r_var (i := 12)) ar_nil)))))))
    (b_cons (s_set 19 sc__law_are_meetings_right.nd (v_bi c_len PySem.boot_len T.b_len (ar_cons (r_v (v_lc [("line", 21)] rfl sc__law_are_meetings_right.nd (blkOk_by (N := ["bag", "numbers", "sums", "products", "many", "lines", "lots", "count", "total", "is_all", "place", "spot", "lot", "held", "point", "rich", "due", "one", "points", "few", "told", "line", "number"]) (sc := defScope (topS 38)) (by decide +kernel)) (ir_seq (r_var (i := 5))) (fun _ _ _ _ _ => g_same (g_name 21 sc__law_are_meetings_right.nd)) (fun _ _ _ _ _ => (ts_one (t_cmp (o_eq hr.units) (r_v (v_op o_add (r_v (v_op o_mul (r_v (v_ix (r_var (i := 21)) (r_v v_int))) (r_v (v_ix (r_var (i := 14)) (r_v v_int))))) (r_v (v_op o_mul (r_v (v_ix (r_var (i := 21)) (r_v v_int))) (r_v (v_ix (r_var (i := 14)) (r_v v_int))))))) (r_v (v_ix (r_var (i := 21)) (r_v v_int))) (nomark _)))) (fun _ _ _ _ _ => (v_var 21)))) ar_nil)))
    (b_cons (s_set 20 sc__law_are_meetings_right.nd (v_call (ok_meetings (P := P) (w := w) (base := base) T) (hr.mono (by decide)) T.m_meetings (a_cons (v_var 18) (a_cons (v_var 5) a_nil))))
    (b_cons (s_if (t_w (w_or (t_not (t_truth (r_v (v_call (ok__law_is_number (P := P) (w := w) (base := base) T) (hr.mono (by decide)) T.m__law_is_number (a_cons (v_var 20) (a_cons (v_var 16) a_nil)))))) (w_or1 (t_not (t_truth (r_v (v_call (ok__law_is_number (P := P) (w := w) (base := base) T) (hr.mono (by decide)) T.m__law_is_number (a_cons (v_call (ok_meetings (P := P) (w := w) (base := base) T) (hr.mono (by decide)) T.m_meetings (a_cons (v_var 18) (a_cons (v_tup (a_cons (v_ix (r_var (i := 5)) (r_var (i := 10))) a_nil)) a_nil))) (a_cons (v_var 17) a_nil)))))))))
      (b_one (s_ret v_bl))
      b_nil)
    (b_cons (s_if (t_not (t_truth (r_v (v_call (ok__law_is_number (P := P) (w := w) (base := base) T) (hr.mono (by decide)) T.m__law_is_number (a_cons (v_callK0 (ok_meetings (P := P) (w := w) (base := base) T) (hr.mono (by decide)) T.m_meetings (kb_meetings_0_lines_points T) (k_cons (v_var 5) (k_cons (v_tup (a_cons (v_var 14) a_nil)) k_nil))) (a_cons (v_var 19) a_nil))))))
      (b_one (s_ret v_bl))
      b_nil)
    (b_cons (s_if (t_not (t_truth (r_v (v_call (ok__law_is_number (P := P) (w := w) (base := base) T) (hr.mono (by decide)) T.m__law_is_number (a_cons (v_callK0 (ok_meetings (P := P) (w := w) (base := base) T) (hr.mono (by decide)) T.m_meetings (kb_meetings_0_points_lines T) (k_cons (v_var 18) (k_cons (v_var 5) k_nil))) (a_cons (v_var 16) a_nil))))))
      (b_one (s_ret v_bl))
      b_nil)
    (b_one (s_set 8 sc__law_are_meetings_right.nd (v_op o_add (r_var (i := 8)) (r_var (i := 20))))))))))))))))))
  (b_cons (s_set 9 sc__law_are_meetings_right.nd (v_cmp (o_eq hr.units) (r_v (v_bi (c_sumG rfl) (by decide +kernel) T.b_sum (ar_cons (r_v (v_lc [("lot", 12)] rfl sc__law_are_meetings_right.nd (blkOk_by (N := ["bag", "numbers", "sums", "products", "many", "lines", "lots", "count", "total", "is_all", "place", "spot", "lot", "held", "point", "rich", "due", "one", "points", "few", "told", "line", "number"]) (sc := defScope (topS 38)) (by decide +kernel)) (ir_seq (r_var (i := 6))) (fun _ _ _ _ _ => g_same (g_name 12 sc__law_are_meetings_right.nd)) (fun _ _ _ _ _ => ts_nil) (fun _ _ _ _ _ => (v_bi c_len PySem.boot_len T.b_len (ar_cons (r_var (i := 12)) ar_nil))))) ar_nil))) (r_v (v_op o_mul (r_v (v_bi c_len PySem.boot_len T.b_len (ar_cons (r_var (i := 2)) ar_nil))) (r_v (v_bi c_len PySem.boot_len T.b_len (ar_cons (r_var (i := 3)) ar_nil))))) (nomark _)))
  (b_one (s_ret (v_or (v_not (v_var 9)) (v_one (v_and (v_cmp (o_eq hr.units) (r_var (i := 8)) (r_var (i := 7)) (nomark _)) (v_one (v_cmp o_ge (r_var (i := 8)) (r_v (v_op o_mul (r_v (v_op o_mul (r_var (i := 4)) (r_var (i := 4)))) (r_var (i := 4)))) (nomark _))))))))))))))
def phi__law_all : List D → M D := bodyF false 2
  (seqS (setS 1 (callF (phi__law_own_numbers) 1 (consF (rd 0) nilF)))
  (seqS (iteS (orB (notB (truF (callF (phi__law_are_counts_right) 2 (consF (rd 0) (consF (rd 1) nilF))))) (notB (truF (callF (phi__law_are_meetings_right) 2 (consF (rd 0) (consF (rd 1) nilF))))))
    (retS (kst (.bl false)))
    nxS)
  (retS (orV (op2 (ordD fun i j => decide (j < i)) (callF (phi__law_draw) 2 (consF (rd 0) (consF (kst (.int 5)) nilF))) (kst (.int 0))) (callF (phi__law_are_counts_right) 2 (consF (rd 0) (consF (callF (phi__law_great_numbers) 1 (consF (rd 0) nilF)) nilF)))))))
theorem ok__law_all (T : Tx K mg A) : Fk P w K mg base 5 (A.a 39) (A.d 39) ["bag"] false phi__law_all :=
  fk_of (τ' := []) T.f__law_all sc__law_all (T.f__law_all.binds fun _ _ _ _ _ _ us hl => match us, hl with | [_], _ => rfl) fun cdv AA outer s H E hr =>
  (b_cons (s_set 1 sc__law_all.nd (v_call (ok__law_own_numbers (P := P) (w := w) (base := base) T) (hr.mono (by decide)) T.m__law_own_numbers (a_cons (v_var 0) a_nil)))
  (b_cons (s_if (t_w (w_or (t_not (t_truth (r_v (v_call (ok__law_are_counts_right (P := P) (w := w) (base := base) T) (hr.mono (by decide)) T.m__law_are_counts_right (a_cons (v_var 0) (a_cons (v_var 1) a_nil)))))) (w_or1 (t_not (t_truth (r_v (v_call (ok__law_are_meetings_right (P := P) (w := w) (base := base) T) (hr.mono (by decide)) T.m__law_are_meetings_right (a_cons (v_var 0) (a_cons (v_var 1) a_nil)))))))))
    (b_one (s_ret v_bl))
    b_nil)
  (b_one (s_ret (v_or (v_cmp o_gt (r_v (v_call (ok__law_draw (P := P) (w := w) (base := base) T) (hr.mono (by decide)) T.m__law_draw (a_cons (v_var 0) (a_cons v_int a_nil)))) (r_v v_int) (nomark _)) (v_one (v_call (ok__law_are_counts_right (P := P) (w := w) (base := base) T) (hr.mono (by decide)) T.m__law_are_counts_right (a_cons (v_var 0) (a_cons (v_call (ok__law_great_numbers (P := P) (w := w) (base := base) T) (hr.mono (by decide)) T.m__law_great_numbers (a_cons (v_var 0) a_nil)) a_nil)))))))))
def phi_law : List D → M D := bodyF false 1
  (retS (callF (phi__law_all) 1 (consF (callF (phi__law_own_bag) 1 (consF (rd 0) nilF)) nilF)))
theorem ok_law (T : Tx K mg A) : Fk P w K mg base 6 (A.a 40) (A.d 40) ["script"] false phi_law :=
  fk_of (τ' := []) T.f_law sc_law (T.f_law.binds fun _ _ _ _ _ _ us hl => match us, hl with | [_], _ => rfl) fun cdv AA outer s H E hr =>
  (b_one (s_try
    (b_one (s_ret (v_call (ok__law_all (P := P) (w := w) (base := base) T) (hr.mono (by decide)) T.m__law_all (a_cons (v_call (ok__law_own_bag (P := P) (w := w) (base := base) T) (hr.mono (by decide)) T.m__law_own_bag (a_cons (v_var 0) a_nil)) a_nil))))))
end
end Lw
set_option Elab.async false
set_option linter.all false
set_option maxRecDepth 100000
namespace Lw
open PySem VS L2
theorem powD_ok {i j : Int} (h : 0 ≤ j ∧ (Builtin.Int.intBits i : Int) * j ≤ 100000000) : powD (.int i) (.int j) = some (.int (i ^ j.toNat)) := if_pos h
structure OkL (W : Wd) : Prop where
  o : ∃ w : Bg, W = some w ∧ 0 ≤ w.dig ∧ 0 ≤ w.mix ∧ w.mix < 2147483647 ∧ (∀ c ∈ w.cells, 0 ≤ c) ∧ w.cells.length ≤ 63
theorem draw_ev {W : Wd} (hw : OkL W) {k : Int} (k0 : 0 < k) (k1 : k < 2 ^ 64) : Ev (phi__law_draw [.bag, .int k]) W fun d W' => OkL W' ∧ ∃ z, d = .int z ∧ 0 ≤ z ∧ z < k := by
  have e1 : (0 : Int) < 2147483647 := by decide
  have e2 : (0 : Int) < 2147483629 := by decide
  have e3 : (0 : Int) < 7 := by decide
  have e4 : (7 : Int) < 2 ^ 64 := by decide
  have pow9 : powD (.int 10) (.int 9) = some (.int 1000000000) := powD_ok (by decide)
  have pow18 : powD (.int 10) (.int 18) = some (.int 1000000000000000000) := powD_ok (by decide)
  have km : ∀ z : Int, 0 ≤ z % k ∧ z % k < k := fun z => ⟨Int.emod_nonneg _ (by omega), Int.emod_lt_of_pos _ k0⟩
  have kd : ∀ z : Int, 0 ≤ z → 0 ≤ z / k := fun z h => Int.ediv_nonneg h (by omega)
  have he : ∀ {x : Int} {c : List Int}, (c ++ [x]).isEmpty = false := fun {x c} => by simp
  obtain ⟨w0, rfl, g1, g2, g3, g4, g5⟩ := hw.o
  refine Ev.body (.seqS (.forS (.eq (a := rng 0 64) (by simp (disch := first | decide | simp) only [rng1F, rng1_eq (show (0 : Int) ≤ 64 by decide) (show (64 : Int) < 2 ^ 62 by decide), bodyF, seqS, iteS, retS, setS, tgtS, dropS, par2S, par3S, nxS, bkS, ctS, op2, consF, nilF, tupF, lstF, callF, callK, kst, biF, orB, andB, notB, truF, orV, andV, notV, negV, VS.iteF, asB, yesB, partF, partN, isNonF, notNonF, outD, rd_0, rd_s, bnd_ret, bnd_bnd, bnd_stuck, ofO_s, ofO_n, addD_i, subD_i, ordD_i, eqO_i, neO_i, truth_bl, truth_i, List.map_cons, List.map_nil, List.length_cons, List.length_nil, List.cons_append, List.nil_append, List.append_nil, List.replicate_succ, List.replicate_zero, List.set_cons_zero, List.set_cons_succ, cond_true, cond_false, Bool.cond_decide, if_true, if_false, Nat.reduceAdd, Nat.reduceSub, Nat.reduceLeDiff, Nat.zero_add, Nat.sub_self, Nat.sub_zero, decide_eq_true_eq, Bool.not_true, Bool.not_false, VS.gN, VS.gTup, VS.gCons, VS.gNil, Option.bind, fg, isiF, tyN_i, tyN_b, tyN_n, tyN_t, tyN_l, tyN_s, isTy_1, isTy_2, isTy_3, isTy_4, isTy_5, isTy_6, isTy_7, isTy_8, isTy_9, isTy_10, isTy_11, isTy_12, isBD_i, decide_true, decide_false, ne_eq, not_true_eq_false, not_false_eq_true, items_l, items_s, items_t, reduceCtorEq, Int.reduceEq, Int.reduceNe, Int.reduceLT, Int.reduceLE]; rfl) ?_)))
  refine (Ev.forF (Q := fun o W' => OkL W' ∧ o = .nx [some .bag, some (.int k), none, none, none]) (fun ds ρ W' => OkL W' ∧ ρ = [some .bag, some (.int k), none, none, none]) ?_ ?_ _ _ _ ⟨⟨w0, rfl, g1, g2, g3, g4, g5⟩, rfl⟩).mono ?_
  · rintro ρ W ⟨hw, rfl⟩
    exact ⟨hw, rfl⟩
  · rintro dd r ρ W ⟨hw, rfl⟩
    refine ⟨[some .bag, some (.int k), some dd, none, none], rfl, ?_⟩
    obtain ⟨⟨c, d, m⟩, rfl, hd, hm, hm2, hc, hl⟩ := hw.o
    have hd : 0 ≤ d := hd
    by_cases hz : 0 < d
    · simp (disch := first | decide | simp) only [onBag, bagPutS, ixF, ixM_b, Ev.at1, Ev.at2, Ev.bagE, Ev.bagL, Ev.set1, Ev.set2, Ev.pop, Ev.rt, hz, bodyF, seqS, iteS, retS, setS, tgtS, dropS, par2S, par3S, nxS, bkS, ctS, op2, consF, nilF, tupF, lstF, callF, callK, kst, biF, orB, andB, notB, truF, orV, andV, notV, negV, VS.iteF, asB, yesB, partF, partN, isNonF, notNonF, outD, rd_0, rd_s, bnd_ret, bnd_bnd, bnd_stuck, ofO_s, ofO_n, addD_i, subD_i, ordD_i, eqO_i, neO_i, truth_bl, truth_i, List.map_cons, List.map_nil, List.length_cons, List.length_nil, List.cons_append, List.nil_append, List.append_nil, List.replicate_succ, List.replicate_zero, List.set_cons_zero, List.set_cons_succ, cond_true, cond_false, Bool.cond_decide, if_true, if_false, Nat.reduceAdd, Nat.reduceSub, Nat.reduceLeDiff, Nat.zero_add, Nat.sub_self, Nat.sub_zero, decide_eq_true_eq, Bool.not_true, Bool.not_false, VS.gN, VS.gTup, VS.gCons, VS.gNil, Option.bind, fg, isiF, tyN_i, tyN_b, tyN_n, tyN_t, tyN_l, tyN_s, isTy_1, isTy_2, isTy_3, isTy_4, isTy_5, isTy_6, isTy_7, isTy_8, isTy_9, isTy_10, isTy_11, isTy_12, isBD_i, decide_true, decide_false, ne_eq, not_true_eq_false, not_false_eq_true, items_l, items_s, items_t, reduceCtorEq, Int.reduceEq, Int.reduceNe, Int.reduceLT, Int.reduceLE]
      exact ⟨⟨_, rfl, hd, hm, hm2, hc, hl⟩, trivial⟩
    · rcases cells_cases c with rfl | ⟨c, x, rfl⟩
      · simp (disch := first | decide | simp) only [onBag, bagPutS, ixF, ixM_b, Ev.at1, Ev.at2, Ev.bagE, Ev.bagL, Ev.set1, Ev.set2, Ev.pop, Ev.rt, hz, List.isEmpty_nil, bodyF, seqS, iteS, retS, setS, tgtS, dropS, par2S, par3S, nxS, bkS, ctS, op2, consF, nilF, tupF, lstF, callF, callK, kst, biF, orB, andB, notB, truF, orV, andV, notV, negV, VS.iteF, asB, yesB, partF, partN, isNonF, notNonF, outD, rd_0, rd_s, bnd_ret, bnd_bnd, bnd_stuck, ofO_s, ofO_n, addD_i, subD_i, ordD_i, eqO_i, neO_i, truth_bl, truth_i, List.map_cons, List.map_nil, List.length_cons, List.length_nil, List.cons_append, List.nil_append, List.append_nil, List.replicate_succ, List.replicate_zero, List.set_cons_zero, List.set_cons_succ, cond_true, cond_false, Bool.cond_decide, if_true, if_false, Nat.reduceAdd, Nat.reduceSub, Nat.reduceLeDiff, Nat.zero_add, Nat.sub_self, Nat.sub_zero, decide_eq_true_eq, Bool.not_true, Bool.not_false, VS.gN, VS.gTup, VS.gCons, VS.gNil, Option.bind, fg, isiF, tyN_i, tyN_b, tyN_n, tyN_t, tyN_l, tyN_s, isTy_1, isTy_2, isTy_3, isTy_4, isTy_5, isTy_6, isTy_7, isTy_8, isTy_9, isTy_10, isTy_11, isTy_12, isBD_i, decide_true, decide_false, ne_eq, not_true_eq_false, not_false_eq_true, items_l, items_s, items_t, reduceCtorEq, Int.reduceEq, Int.reduceNe, Int.reduceLT, Int.reduceLE]
        exact ⟨⟨_, rfl, hd, hm, hm2, hc, hl⟩, trivial⟩
      · have hx : 0 ≤ x := hc x (by simp)
        have hc2 : ∀ y ∈ c, 0 ≤ y := fun y hy => hc y (by simp [hy])
        have hl2 : (c ++ [x]).length = c.length + 1 := by simp
        have hl : (c ++ [x]).length ≤ 63 := hl
        by_cases hb : 1000000000 < x
        · simp (disch := first | decide | simp) only [onBag, bagPutS, ixF, ixM_b, Ev.at1, Ev.at2, Ev.bagE, Ev.bagL, Ev.set1, Ev.set2, Ev.pop, Ev.rt, hz, he, pow9, hb, bodyF, seqS, iteS, retS, setS, tgtS, dropS, par2S, par3S, nxS, bkS, ctS, op2, consF, nilF, tupF, lstF, callF, callK, kst, biF, orB, andB, notB, truF, orV, andV, notV, negV, VS.iteF, asB, yesB, partF, partN, isNonF, notNonF, outD, rd_0, rd_s, bnd_ret, bnd_bnd, bnd_stuck, ofO_s, ofO_n, addD_i, subD_i, ordD_i, eqO_i, neO_i, truth_bl, truth_i, List.map_cons, List.map_nil, List.length_cons, List.length_nil, List.cons_append, List.nil_append, List.append_nil, List.replicate_succ, List.replicate_zero, List.set_cons_zero, List.set_cons_succ, cond_true, cond_false, Bool.cond_decide, if_true, if_false, Nat.reduceAdd, Nat.reduceSub, Nat.reduceLeDiff, Nat.zero_add, Nat.sub_self, Nat.sub_zero, decide_eq_true_eq, Bool.not_true, Bool.not_false, VS.gN, VS.gTup, VS.gCons, VS.gNil, Option.bind, fg, isiF, tyN_i, tyN_b, tyN_n, tyN_t, tyN_l, tyN_s, isTy_1, isTy_2, isTy_3, isTy_4, isTy_5, isTy_6, isTy_7, isTy_8, isTy_9, isTy_10, isTy_11, isTy_12, isBD_i, decide_true, decide_false, ne_eq, not_true_eq_false, not_false_eq_true, items_l, items_s, items_t, reduceCtorEq, Int.reduceEq, Int.reduceNe, Int.reduceLT, Int.reduceLE]
          exact ⟨⟨_, rfl, hx, hm, hm2, hc2, by show c.length ≤ 63; omega⟩, trivial⟩
        · simp (disch := first | decide | simp) only [onBag, bagPutS, ixF, ixM_b, Ev.at1, Ev.at2, Ev.bagE, Ev.bagL, Ev.set1, Ev.set2, Ev.pop, Ev.rt, hz, he, pow9, hb, bodyF, seqS, iteS, retS, setS, tgtS, dropS, par2S, par3S, nxS, bkS, ctS, op2, consF, nilF, tupF, lstF, callF, callK, kst, biF, orB, andB, notB, truF, orV, andV, notV, negV, VS.iteF, asB, yesB, partF, partN, isNonF, notNonF, outD, rd_0, rd_s, bnd_ret, bnd_bnd, bnd_stuck, ofO_s, ofO_n, addD_i, subD_i, ordD_i, eqO_i, neO_i, truth_bl, truth_i, List.map_cons, List.map_nil, List.length_cons, List.length_nil, List.cons_append, List.nil_append, List.append_nil, List.replicate_succ, List.replicate_zero, List.set_cons_zero, List.set_cons_succ, cond_true, cond_false, Bool.cond_decide, if_true, if_false, Nat.reduceAdd, Nat.reduceSub, Nat.reduceLeDiff, Nat.zero_add, Nat.sub_self, Nat.sub_zero, decide_eq_true_eq, Bool.not_true, Bool.not_false, VS.gN, VS.gTup, VS.gCons, VS.gNil, Option.bind, fg, isiF, tyN_i, tyN_b, tyN_n, tyN_t, tyN_l, tyN_s, isTy_1, isTy_2, isTy_3, isTy_4, isTy_5, isTy_6, isTy_7, isTy_8, isTy_9, isTy_10, isTy_11, isTy_12, isBD_i, decide_true, decide_false, ne_eq, not_true_eq_false, not_false_eq_true, items_l, items_s, items_t, reduceCtorEq, Int.reduceEq, Int.reduceNe, Int.reduceLT, Int.reduceLE]
          exact ⟨⟨_, rfl, Int.le_refl _, hm, hm2, hc2, by show c.length ≤ 63; omega⟩, trivial⟩
  rintro _ W ⟨hw, rfl⟩
  obtain ⟨⟨c, d, m⟩, rfl, hd, hm, hm2, hc, hl⟩ := hw.o
  have hd : 0 ≤ d := hd
  have hm : 0 ≤ m := hm
  have hm2 : m < 2147483647 := hm2
  have m1 : 0 ≤ (m * 48271 + 11) % 2147483647 ∧ (m * 48271 + 11) % 2147483647 < 2147483647 := ⟨Int.emod_nonneg _ (by decide), Int.emod_lt_of_pos _ (by decide)⟩
  haveI : Sz 31 m := ⟨by omega⟩
  haveI : Sz 31 ((m * 48271 + 11) % 2147483647) := ⟨by omega⟩
  by_cases hz : 0 < d
  · simp (disch := first | decide | simp) only [onBag, bagPutS, ixF, ixM_b, Ev.at1, Ev.at2, Ev.bagE, Ev.bagL, Ev.set1, Ev.set2, Ev.pop, Ev.rt, mulD_ok, int_i, modD_ok k0, modD_ok e1, modD_ok e2, fdivD_ok k0 k1, fdivD_ok e3 e4, hz, bodyF, seqS, iteS, retS, setS, tgtS, dropS, par2S, par3S, nxS, bkS, ctS, op2, consF, nilF, tupF, lstF, callF, callK, kst, biF, orB, andB, notB, truF, orV, andV, notV, negV, VS.iteF, asB, yesB, partF, partN, isNonF, notNonF, outD, rd_0, rd_s, bnd_ret, bnd_bnd, bnd_stuck, ofO_s, ofO_n, addD_i, subD_i, ordD_i, eqO_i, neO_i, truth_bl, truth_i, List.map_cons, List.map_nil, List.length_cons, List.length_nil, List.cons_append, List.nil_append, List.append_nil, List.replicate_succ, List.replicate_zero, List.set_cons_zero, List.set_cons_succ, cond_true, cond_false, Bool.cond_decide, if_true, if_false, Nat.reduceAdd, Nat.reduceSub, Nat.reduceLeDiff, Nat.zero_add, Nat.sub_self, Nat.sub_zero, decide_eq_true_eq, Bool.not_true, Bool.not_false, VS.gN, VS.gTup, VS.gCons, VS.gNil, Option.bind, fg, isiF, tyN_i, tyN_b, tyN_n, tyN_t, tyN_l, tyN_s, isTy_1, isTy_2, isTy_3, isTy_4, isTy_5, isTy_6, isTy_7, isTy_8, isTy_9, isTy_10, isTy_11, isTy_12, isBD_i, decide_true, decide_false, ne_eq, not_true_eq_false, not_false_eq_true, items_l, items_s, items_t, reduceCtorEq, Int.reduceEq, Int.reduceNe, Int.reduceLT, Int.reduceLE]
    exact ⟨⟨_, rfl, kd _ (by omega), hm, hm2, hc, hl⟩, _, rfl, km _⟩
  · simp (disch := first | decide | simp) only [onBag, bagPutS, ixF, ixM_b, Ev.at1, Ev.at2, Ev.bagE, Ev.bagL, Ev.set1, Ev.set2, Ev.pop, Ev.rt, mulD_ok, int_i, modD_ok k0, modD_ok e1, modD_ok e2, fdivD_ok k0 k1, fdivD_ok e3 e4, hz, bodyF, seqS, iteS, retS, setS, tgtS, dropS, par2S, par3S, nxS, bkS, ctS, op2, consF, nilF, tupF, lstF, callF, callK, kst, biF, orB, andB, notB, truF, orV, andV, notV, negV, VS.iteF, asB, yesB, partF, partN, isNonF, notNonF, outD, rd_0, rd_s, bnd_ret, bnd_bnd, bnd_stuck, ofO_s, ofO_n, addD_i, subD_i, ordD_i, eqO_i, neO_i, truth_bl, truth_i, List.map_cons, List.map_nil, List.length_cons, List.length_nil, List.cons_append, List.nil_append, List.append_nil, List.replicate_succ, List.replicate_zero, List.set_cons_zero, List.set_cons_succ, cond_true, cond_false, Bool.cond_decide, if_true, if_false, Nat.reduceAdd, Nat.reduceSub, Nat.reduceLeDiff, Nat.zero_add, Nat.sub_self, Nat.sub_zero, decide_eq_true_eq, Bool.not_true, Bool.not_false, VS.gN, VS.gTup, VS.gCons, VS.gNil, Option.bind, fg, isiF, tyN_i, tyN_b, tyN_n, tyN_t, tyN_l, tyN_s, isTy_1, isTy_2, isTy_3, isTy_4, isTy_5, isTy_6, isTy_7, isTy_8, isTy_9, isTy_10, isTy_11, isTy_12, isBD_i, decide_true, decide_false, ne_eq, not_true_eq_false, not_false_eq_true, items_l, items_s, items_t, reduceCtorEq, Int.reduceEq, Int.reduceNe, Int.reduceLT, Int.reduceLE]
    exact ⟨⟨_, rfl, hd, m1.1, m1.2, hc, hl⟩, _, rfl, km _⟩
theorem pick_i {W : Wd} (hw : OkL W) {ns : List Int} (h0 : 0 < ns.length) (h1 : ns.length < 2 ^ 62) : Ev (phi__law_pick [.bag, .lst (ns.map .int)]) W fun d W' => OkL W' ∧ ∃ x ∈ ns, d = .int x := by
  simp (disch := first | decide | simp) only [phi__law_pick, ixF, len_l, List.length_map, bodyF, seqS, iteS, retS, setS, tgtS, dropS, par2S, par3S, nxS, bkS, ctS, op2, consF, nilF, tupF, lstF, callF, callK, kst, biF, orB, andB, notB, truF, orV, andV, notV, negV, VS.iteF, asB, yesB, partF, partN, isNonF, notNonF, outD, rd_0, rd_s, bnd_ret, bnd_bnd, bnd_stuck, ofO_s, ofO_n, addD_i, subD_i, ordD_i, eqO_i, neO_i, truth_bl, truth_i, List.map_cons, List.map_nil, List.length_cons, List.length_nil, List.cons_append, List.nil_append, List.append_nil, List.replicate_succ, List.replicate_zero, List.set_cons_zero, List.set_cons_succ, cond_true, cond_false, Bool.cond_decide, if_true, if_false, Nat.reduceAdd, Nat.reduceSub, Nat.reduceLeDiff, Nat.zero_add, Nat.sub_self, Nat.sub_zero, decide_eq_true_eq, Bool.not_true, Bool.not_false, VS.gN, VS.gTup, VS.gCons, VS.gNil, Option.bind, fg, isiF, tyN_i, tyN_b, tyN_n, tyN_t, tyN_l, tyN_s, isTy_1, isTy_2, isTy_3, isTy_4, isTy_5, isTy_6, isTy_7, isTy_8, isTy_9, isTy_10, isTy_11, isTy_12, isBD_i, decide_true, decide_false, ne_eq, not_true_eq_false, not_false_eq_true, items_l, items_s, items_t, reduceCtorEq, Int.reduceEq, Int.reduceNe, Int.reduceLT, Int.reduceLE]
  refine .bnd ((draw_ev hw (by omega) (by omega)).mono ?_)
  rintro _ W' ⟨hw, z, rfl, z0, z1⟩
  obtain ⟨x, hx, e⟩ := atI_lt (l := ns.map D.int) z0 (by rw [List.length_map]; exact z1)
  obtain ⟨y, hy, rfl⟩ := List.mem_map.mp hx
  simp (disch := first | decide | simp) only [ixM_l, e, Ev.rt, bodyF, seqS, iteS, retS, setS, tgtS, dropS, par2S, par3S, nxS, bkS, ctS, op2, consF, nilF, tupF, lstF, callF, callK, kst, biF, orB, andB, notB, truF, orV, andV, notV, negV, VS.iteF, asB, yesB, partF, partN, isNonF, notNonF, outD, rd_0, rd_s, bnd_ret, bnd_bnd, bnd_stuck, ofO_s, ofO_n, addD_i, subD_i, ordD_i, eqO_i, neO_i, truth_bl, truth_i, List.map_cons, List.map_nil, List.length_cons, List.length_nil, List.cons_append, List.nil_append, List.append_nil, List.replicate_succ, List.replicate_zero, List.set_cons_zero, List.set_cons_succ, cond_true, cond_false, Bool.cond_decide, if_true, if_false, Nat.reduceAdd, Nat.reduceSub, Nat.reduceLeDiff, Nat.zero_add, Nat.sub_self, Nat.sub_zero, decide_eq_true_eq, Bool.not_true, Bool.not_false, VS.gN, VS.gTup, VS.gCons, VS.gNil, Option.bind, fg, isiF, tyN_i, tyN_b, tyN_n, tyN_t, tyN_l, tyN_s, isTy_1, isTy_2, isTy_3, isTy_4, isTy_5, isTy_6, isTy_7, isTy_8, isTy_9, isTy_10, isTy_11, isTy_12, isBD_i, decide_true, decide_false, ne_eq, not_true_eq_false, not_false_eq_true, items_l, items_s, items_t, reduceCtorEq, Int.reduceEq, Int.reduceNe, Int.reduceLT, Int.reduceLE]
  exact ⟨hw, y, hy, rfl⟩
theorem pick_d {W : Wd} (hw : OkL W) {ds : List D} (h0 : 0 < ds.length) (h1 : ds.length < 2 ^ 62) : Ev (phi__law_pick [.bag, .lst ds]) W fun d W' => OkL W' ∧ d ∈ ds := by
  simp (disch := first | decide | simp) only [phi__law_pick, ixF, len_l, bodyF, seqS, iteS, retS, setS, tgtS, dropS, par2S, par3S, nxS, bkS, ctS, op2, consF, nilF, tupF, lstF, callF, callK, kst, biF, orB, andB, notB, truF, orV, andV, notV, negV, VS.iteF, asB, yesB, partF, partN, isNonF, notNonF, outD, rd_0, rd_s, bnd_ret, bnd_bnd, bnd_stuck, ofO_s, ofO_n, addD_i, subD_i, ordD_i, eqO_i, neO_i, truth_bl, truth_i, List.map_cons, List.map_nil, List.length_cons, List.length_nil, List.cons_append, List.nil_append, List.append_nil, List.replicate_succ, List.replicate_zero, List.set_cons_zero, List.set_cons_succ, cond_true, cond_false, Bool.cond_decide, if_true, if_false, Nat.reduceAdd, Nat.reduceSub, Nat.reduceLeDiff, Nat.zero_add, Nat.sub_self, Nat.sub_zero, decide_eq_true_eq, Bool.not_true, Bool.not_false, VS.gN, VS.gTup, VS.gCons, VS.gNil, Option.bind, fg, isiF, tyN_i, tyN_b, tyN_n, tyN_t, tyN_l, tyN_s, isTy_1, isTy_2, isTy_3, isTy_4, isTy_5, isTy_6, isTy_7, isTy_8, isTy_9, isTy_10, isTy_11, isTy_12, isBD_i, decide_true, decide_false, ne_eq, not_true_eq_false, not_false_eq_true, items_l, items_s, items_t, reduceCtorEq, Int.reduceEq, Int.reduceNe, Int.reduceLT, Int.reduceLE]
  refine .bnd ((draw_ev hw (by omega) (by omega)).mono ?_)
  rintro _ W' ⟨hw, z, rfl, z0, z1⟩
  obtain ⟨x, hx, e⟩ := atI_lt (l := ds) z0 z1
  simp (disch := first | decide | simp) only [ixM_l, e, Ev.rt, bodyF, seqS, iteS, retS, setS, tgtS, dropS, par2S, par3S, nxS, bkS, ctS, op2, consF, nilF, tupF, lstF, callF, callK, kst, biF, orB, andB, notB, truF, orV, andV, notV, negV, VS.iteF, asB, yesB, partF, partN, isNonF, notNonF, outD, rd_0, rd_s, bnd_ret, bnd_bnd, bnd_stuck, ofO_s, ofO_n, addD_i, subD_i, ordD_i, eqO_i, neO_i, truth_bl, truth_i, List.map_cons, List.map_nil, List.length_cons, List.length_nil, List.cons_append, List.nil_append, List.append_nil, List.replicate_succ, List.replicate_zero, List.set_cons_zero, List.set_cons_succ, cond_true, cond_false, Bool.cond_decide, if_true, if_false, Nat.reduceAdd, Nat.reduceSub, Nat.reduceLeDiff, Nat.zero_add, Nat.sub_self, Nat.sub_zero, decide_eq_true_eq, Bool.not_true, Bool.not_false, VS.gN, VS.gTup, VS.gCons, VS.gNil, Option.bind, fg, isiF, tyN_i, tyN_b, tyN_n, tyN_t, tyN_l, tyN_s, isTy_1, isTy_2, isTy_3, isTy_4, isTy_5, isTy_6, isTy_7, isTy_8, isTy_9, isTy_10, isTy_11, isTy_12, isBD_i, decide_true, decide_false, ne_eq, not_true_eq_false, not_false_eq_true, items_l, items_s, items_t, reduceCtorEq, Int.reduceEq, Int.reduceNe, Int.reduceLT, Int.reduceLE]
  exact ⟨hw, hx⟩
theorem bag_ev {ns : List Int} (hns : ns.length ≤ 63) : Ev (phi__law_own_bag [.scr ns]) none fun d W' => d = .bag ∧ OkL W' := by
  have e1 : (0 : Int) < 2147483647 := by decide
  have e2 : (0 : Int) < 2147483629 := by decide
  have e6 : (0 : Int) < (10 ^ 60) ^ 5 := by decide
  have p1 : powD (.int 10) (.int 60) = some (.int (10 ^ 60)) := powD_ok (by decide)
  have p2 : powD (.int (10 ^ 60)) (.int 5) = some (.int ((10 ^ 60) ^ 5)) := powD_ok (by decide)
  have pm : modD (.int 0) (.int 1) = some (.int 0) := modD_ok (by decide)
  have hl : ((cut ns none (some 63)).map D.int).length ≤ 16777216 := by
    have := cut_len ns none (some 63)
    rw [List.length_map]
    omega
  refine Ev.body (.seqS (.setS (.eq (lcS_eq (ds := (cut ns none (some 63)).map .int) (by simp (disch := first | decide | simp) only [seqF, slL, bodyF, seqS, iteS, retS, setS, tgtS, dropS, par2S, par3S, nxS, bkS, ctS, op2, consF, nilF, tupF, lstF, callF, callK, kst, biF, orB, andB, notB, truF, orV, andV, notV, negV, VS.iteF, asB, yesB, partF, partN, isNonF, notNonF, outD, rd_0, rd_s, bnd_ret, bnd_bnd, bnd_stuck, ofO_s, ofO_n, addD_i, subD_i, ordD_i, eqO_i, neO_i, truth_bl, truth_i, List.map_cons, List.map_nil, List.length_cons, List.length_nil, List.cons_append, List.nil_append, List.append_nil, List.replicate_succ, List.replicate_zero, List.set_cons_zero, List.set_cons_succ, cond_true, cond_false, Bool.cond_decide, if_true, if_false, Nat.reduceAdd, Nat.reduceSub, Nat.reduceLeDiff, Nat.zero_add, Nat.sub_self, Nat.sub_zero, decide_eq_true_eq, Bool.not_true, Bool.not_false, VS.gN, VS.gTup, VS.gCons, VS.gNil, Option.bind, fg, isiF, tyN_i, tyN_b, tyN_n, tyN_t, tyN_l, tyN_s, isTy_1, isTy_2, isTy_3, isTy_4, isTy_5, isTy_6, isTy_7, isTy_8, isTy_9, isTy_10, isTy_11, isTy_12, isBD_i, decide_true, decide_false, ne_eq, not_true_eq_false, not_false_eq_true, items_l, items_s, items_t, reduceCtorEq, Int.reduceEq, Int.reduceNe, Int.reduceLT, Int.reduceLE]) hl (lcF_i (t := fun _ => true) (g := fun i => (if i < 0 then -i else i) % ((10 ^ 60) ^ 5)) _ fun x hx => ⟨_, rfl, rfl, fun _ => ?_⟩)) ?_)))
  · exact op2E (bi_eq (cons_eq (bi_eq (cons_eq rfl nil_eq) (int_i _)) nil_eq) (absD_i _)) (op2E (op2E rfl rfl p1) rfl p2) (modD_ok e6)
  generalize hcs : (((cut ns none (some 63)).filter fun _ => true).map fun i => (if i < 0 then -i else i) % ((10 ^ 60) ^ 5)) = cs
  have hc : ∀ c ∈ cs, 0 ≤ c := by
    subst hcs
    intro c h
    obtain ⟨i, _, rfl⟩ := List.mem_map.mp h
    exact Int.emod_nonneg _ (Int.ne_of_gt e6)
  have hlc : cs.length ≤ 63 := by
    subst hcs
    rw [List.length_map]
    exact Nat.le_trans (List.length_filter_le _ _) (Nat.le_trans (cut_len _ _ _) hns)
  refine .seqS (.setS (.eq (a := .int (7701 + cs.length)) (by simp (disch := first | decide | simp) only [len_l, List.length_map, bodyF, seqS, iteS, retS, setS, tgtS, dropS, par2S, par3S, nxS, bkS, ctS, op2, consF, nilF, tupF, lstF, callF, callK, kst, biF, orB, andB, notB, truF, orV, andV, notV, negV, VS.iteF, asB, yesB, partF, partN, isNonF, notNonF, outD, rd_0, rd_s, bnd_ret, bnd_bnd, bnd_stuck, ofO_s, ofO_n, addD_i, subD_i, ordD_i, eqO_i, neO_i, truth_bl, truth_i, List.map_cons, List.map_nil, List.length_cons, List.length_nil, List.cons_append, List.nil_append, List.append_nil, List.replicate_succ, List.replicate_zero, List.set_cons_zero, List.set_cons_succ, cond_true, cond_false, Bool.cond_decide, if_true, if_false, Nat.reduceAdd, Nat.reduceSub, Nat.reduceLeDiff, Nat.zero_add, Nat.sub_self, Nat.sub_zero, decide_eq_true_eq, Bool.not_true, Bool.not_false, VS.gN, VS.gTup, VS.gCons, VS.gNil, Option.bind, fg, isiF, tyN_i, tyN_b, tyN_n, tyN_t, tyN_l, tyN_s, isTy_1, isTy_2, isTy_3, isTy_4, isTy_5, isTy_6, isTy_7, isTy_8, isTy_9, isTy_10, isTy_11, isTy_12, isBD_i, decide_true, decide_false, ne_eq, not_true_eq_false, not_false_eq_true, items_l, items_s, items_t, reduceCtorEq, Int.reduceEq, Int.reduceNe, Int.reduceLT, Int.reduceLE]) ?_))
  refine .seqS (.forS (.eq (a := cs.map .int) (by simp (disch := first | decide | simp) only [seqF, bodyF, seqS, iteS, retS, setS, tgtS, dropS, par2S, par3S, nxS, bkS, ctS, op2, consF, nilF, tupF, lstF, callF, callK, kst, biF, orB, andB, notB, truF, orV, andV, notV, negV, VS.iteF, asB, yesB, partF, partN, isNonF, notNonF, outD, rd_0, rd_s, bnd_ret, bnd_bnd, bnd_stuck, ofO_s, ofO_n, addD_i, subD_i, ordD_i, eqO_i, neO_i, truth_bl, truth_i, List.map_cons, List.map_nil, List.length_cons, List.length_nil, List.cons_append, List.nil_append, List.append_nil, List.replicate_succ, List.replicate_zero, List.set_cons_zero, List.set_cons_succ, cond_true, cond_false, Bool.cond_decide, if_true, if_false, Nat.reduceAdd, Nat.reduceSub, Nat.reduceLeDiff, Nat.zero_add, Nat.sub_self, Nat.sub_zero, decide_eq_true_eq, Bool.not_true, Bool.not_false, VS.gN, VS.gTup, VS.gCons, VS.gNil, Option.bind, fg, isiF, tyN_i, tyN_b, tyN_n, tyN_t, tyN_l, tyN_s, isTy_1, isTy_2, isTy_3, isTy_4, isTy_5, isTy_6, isTy_7, isTy_8, isTy_9, isTy_10, isTy_11, isTy_12, isBD_i, decide_true, decide_false, ne_eq, not_true_eq_false, not_false_eq_true, items_l, items_s, items_t, reduceCtorEq, Int.reduceEq, Int.reduceNe, Int.reduceLT, Int.reduceLE]) ?_))
  refine (Ev.forF (Q := fun o W => W = none ∧ ∃ x z, o = .nx [some (.scr ns), some (.lst (cs.map .int)), x, some (.int z)] ∧ 0 ≤ z ∧ z < 2147483647)
    (fun ds ρ W => (∀ d ∈ ds, ∃ i, d = .int i) ∧ W = none ∧ ∃ x z, ρ = [some (.scr ns), some (.lst (cs.map .int)), x, some (.int z)] ∧ 0 ≤ z ∧ z < 2147483647) ?_ ?_ _ _ _ ⟨fun d hd => ?_, rfl, none, 7701 + cs.length, rfl, by omega, by omega⟩).mono ?_
  · rintro ρ W ⟨_, rfl, x, z, rfl, h0, h1⟩
    exact ⟨rfl, x, z, rfl, h0, h1⟩
  · rintro d r ρ W ⟨hd, rfl, x, z, rfl, h0, h1⟩
    obtain ⟨i, rfl⟩ := hd d (List.mem_cons_self ..)
    haveI : Sz 31 z := ⟨by omega⟩
    refine ⟨_, rfl, ?_⟩
    simp (disch := first | decide | simp) only [mulD_ok, modD_ok e1, modD_ok e2, int_i, Ev.rt, bodyF, seqS, iteS, retS, setS, tgtS, dropS, par2S, par3S, nxS, bkS, ctS, op2, consF, nilF, tupF, lstF, callF, callK, kst, biF, orB, andB, notB, truF, orV, andV, notV, negV, VS.iteF, asB, yesB, partF, partN, isNonF, notNonF, outD, rd_0, rd_s, bnd_ret, bnd_bnd, bnd_stuck, ofO_s, ofO_n, addD_i, subD_i, ordD_i, eqO_i, neO_i, truth_bl, truth_i, List.map_cons, List.map_nil, List.length_cons, List.length_nil, List.cons_append, List.nil_append, List.append_nil, List.replicate_succ, List.replicate_zero, List.set_cons_zero, List.set_cons_succ, cond_true, cond_false, Bool.cond_decide, if_true, if_false, Nat.reduceAdd, Nat.reduceSub, Nat.reduceLeDiff, Nat.zero_add, Nat.sub_self, Nat.sub_zero, decide_eq_true_eq, Bool.not_true, Bool.not_false, VS.gN, VS.gTup, VS.gCons, VS.gNil, Option.bind, fg, isiF, tyN_i, tyN_b, tyN_n, tyN_t, tyN_l, tyN_s, isTy_1, isTy_2, isTy_3, isTy_4, isTy_5, isTy_6, isTy_7, isTy_8, isTy_9, isTy_10, isTy_11, isTy_12, isBD_i, decide_true, decide_false, ne_eq, not_true_eq_false, not_false_eq_true, items_l, items_s, items_t, reduceCtorEq, Int.reduceEq, Int.reduceNe, Int.reduceLT, Int.reduceLE]
    exact ⟨fun d h => hd d (List.mem_cons_of_mem _ h), trivial, _, _, rfl, Int.emod_nonneg _ (by decide), Int.emod_lt_of_pos _ (by decide)⟩
  · obtain ⟨i, _, rfl⟩ := List.mem_map.mp hd
    exact ⟨i, rfl⟩
  rintro _ _ ⟨rfl, x, z, rfl, z0, z1⟩
  refine Ev.retBag (cs := cs.reverse) (i := 0) (j := z) ?_ ?_ ?_ ⟨rfl, ⟨_, rfl, Int.le_refl _, z0, z1, ?_, ?_⟩⟩
  · simp (disch := first | decide | simp) only [revF, listD_l, listH_l, List.map_reverse, bodyF, seqS, iteS, retS, setS, tgtS, dropS, par2S, par3S, nxS, bkS, ctS, op2, consF, nilF, tupF, lstF, callF, callK, kst, biF, orB, andB, notB, truF, orV, andV, notV, negV, VS.iteF, asB, yesB, partF, partN, isNonF, notNonF, outD, rd_0, rd_s, bnd_ret, bnd_bnd, bnd_stuck, ofO_s, ofO_n, addD_i, subD_i, ordD_i, eqO_i, neO_i, truth_bl, truth_i, List.map_cons, List.map_nil, List.length_cons, List.length_nil, List.cons_append, List.nil_append, List.append_nil, List.replicate_succ, List.replicate_zero, List.set_cons_zero, List.set_cons_succ, cond_true, cond_false, Bool.cond_decide, if_true, if_false, Nat.reduceAdd, Nat.reduceSub, Nat.reduceLeDiff, Nat.zero_add, Nat.sub_self, Nat.sub_zero, decide_eq_true_eq, Bool.not_true, Bool.not_false, VS.gN, VS.gTup, VS.gCons, VS.gNil, Option.bind, fg, isiF, tyN_i, tyN_b, tyN_n, tyN_t, tyN_l, tyN_s, isTy_1, isTy_2, isTy_3, isTy_4, isTy_5, isTy_6, isTy_7, isTy_8, isTy_9, isTy_10, isTy_11, isTy_12, isBD_i, decide_true, decide_false, ne_eq, not_true_eq_false, not_false_eq_true, items_l, items_s, items_t, reduceCtorEq, Int.reduceEq, Int.reduceNe, Int.reduceLT, Int.reduceLE]
  · rfl
  · rfl
  · intro c h
    exact hc c (List.mem_reverse.mp h)
  · show cs.reverse.length ≤ 63
    rw [List.length_reverse]; exact hlc
theorem dr {W : Wd} (hw : OkL W) {A K : VS.Env → M D} {ρ : VS.Env} {k : Int} (ha : A ρ = ret .bag) (hk : K ρ = ret (.int k)) (k0 : 0 < k) (k1 : k < 2 ^ 64) : Ev (callF (phi__law_draw) 2 (consF A (consF K nilF)) ρ) W fun d W' => OkL W' ∧ ∃ z, d = .int z ∧ 0 ≤ z ∧ z < k := .rw (callE (ds := [.bag, .int k]) (cons_eq ha (cons_eq hk nil_eq)) rfl) (draw_ev hw k0 k1)
theorem drP {W : Wd} (hw : OkL W) {A K : VS.Env → M D} {ρ : VS.Env} {lo k : Int} (l0 : 0 ≤ lo) (ha : A ρ = ret .bag) (hk : K ρ = ret (.int k)) (k0 : 0 < k) (k1 : k < 2 ^ 64) : Ev (op2 addD (kst (.int lo)) (callF (phi__law_draw) 2 (consF A (consF K nilF))) ρ) W fun d W' => OkL W' ∧ ∃ n : Nat, d = .int (n : Nat) ∧ lo ≤ n ∧ n < lo + k := by
  refine .op2F (.eq (a := .int lo) rfl ((dr hw ha hk k0 k1).mono ?_))
  rintro _ W ⟨hw, z, rfl, z0, z1⟩
  obtain ⟨n, hn⟩ := Int.eq_ofNat_of_zero_le (show 0 ≤ lo + z by omega)
  exact ⟨.int (n : Nat), by rw [addD_i, hn], hw, n, rfl, by omega, by omega⟩
end Lw
set_option Elab.async false
set_option linter.all false
set_option maxRecDepth 100000
namespace Lw
open PySem VS L2
local macro_rules | `(tactic| walk_at "ve") => `(tactic| repeat' first
  | ((with_reducible apply rdE); exact rfl) | with_reducible exact kstE | with_reducible exact nil_eq
  | with_reducible assumption
  | with_reducible apply op2E | with_reducible apply cons_eq | with_reducible apply bi_eq
  | with_reducible exact addD_i _ _ | with_reducible exact subD_i _ _ | with_reducible exact mulD_ok (by decide) | with_reducible exact ordD_i _ _ _ | with_reducible exact eqO_i _ _ | with_reducible exact neO_i _ _
  | ((with_reducible apply modD_ok); first | decide | omega) | ((with_reducible apply fdivD_ok) <;> first | decide | omega)
  | with_reducible exact max_i _ _ | with_reducible exact min_i _ _ | with_reducible exact max3_i _ _ _ | with_reducible exact min3_i _ _ _ | with_reducible exact int_i _ | with_reducible exact absD_i _ | with_reducible exact len_l _ | with_reducible exact len_t _ | with_reducible exact tupleD_l _ | with_reducible exact tupleD_t _ | with_reducible exact listD_l _ | with_reducible exact listH_l _ | with_reducible exact listH_t _
  | with_reducible apply negE | with_reducible apply testE | with_reducible apply notE | with_reducible apply truE | with_reducible apply tup_eq | with_reducible apply lstE | with_reducible apply ixE
  | with_reducible apply call_eq | exact (rfl : List.length _ = _) | exact le_rfl_n rfl)
local macro_rules | `(tactic| walk_at "st") => `(tactic| first
  | ((with_reducible apply seqQ0); focus (walk_at "ve"; done)) | ((with_reducible apply seqQ1); focus (walk_at "ve"; done)) | ((with_reducible apply seqQ2); focus (walk_at "ve"; done)) | ((with_reducible apply seqQ3); focus (walk_at "ve"; done)) | ((with_reducible apply seqQ4); focus (walk_at "ve"; done)) | ((with_reducible apply seqQ5); focus (walk_at "ve"; done)) | ((with_reducible apply seqQ6); focus (walk_at "ve"; done)) | ((with_reducible apply seqQ7); focus (walk_at "ve"; done)) | ((with_reducible apply seqQ8); focus (walk_at "ve"; done)) | ((with_reducible apply seqQ9); focus (walk_at "ve"; done)) | ((with_reducible apply seqQ10); focus (walk_at "ve"; done)) | ((with_reducible apply seqQ11); focus (walk_at "ve"; done)) | ((with_reducible apply seqQ12); focus (walk_at "ve"; done)) | ((with_reducible apply seqQ13); focus (walk_at "ve"; done)) | ((with_reducible apply seqQ14); focus (walk_at "ve"; done)) | ((with_reducible apply seqQ15); focus (walk_at "ve"; done)))
local macro_rules | `(tactic| walk_at "es") => `(tactic| first
  | ((with_reducible apply Ev.sT0); focus (walk_at "ve"; done)) | ((with_reducible apply Ev.sT1); focus (walk_at "ve"; done)) | ((with_reducible apply Ev.sT2); focus (walk_at "ve"; done)) | ((with_reducible apply Ev.sT3); focus (walk_at "ve"; done)) | ((with_reducible apply Ev.sT4); focus (walk_at "ve"; done)) | ((with_reducible apply Ev.sT5); focus (walk_at "ve"; done)) | ((with_reducible apply Ev.sT6); focus (walk_at "ve"; done)) | ((with_reducible apply Ev.sT7); focus (walk_at "ve"; done)) | ((with_reducible apply Ev.sT8); focus (walk_at "ve"; done)) | ((with_reducible apply Ev.sT9); focus (walk_at "ve"; done)) | ((with_reducible apply Ev.sT10); focus (walk_at "ve"; done)) | ((with_reducible apply Ev.sT11); focus (walk_at "ve"; done)) | ((with_reducible apply Ev.sT12); focus (walk_at "ve"; done)) | ((with_reducible apply Ev.sT13); focus (walk_at "ve"; done)) | ((with_reducible apply Ev.sT14); focus (walk_at "ve"; done)) | ((with_reducible apply Ev.sT15); focus (walk_at "ve"; done)))
/-! ### each once -/
theorem gl_snoc (d : List Int) (z : Int) : (d ++ [z]).getLast? = some z := by simp
def dstep (acc : List Int) (x : Int) : List Int := if acc.getLast? = some x then acc else acc ++ [x]
structure Dq (l acc : List Int) : Prop where
  r : acc.Pairwise (· < ·)
  m : ∀ x, x ∈ acc ↔ x ∈ l
theorem dq_fold : ∀ (r l acc : List Int), (l ++ r).Pairwise (· ≤ ·) → Dq l acc → Dq (l ++ r) (r.foldl dstep acc)
  | [], l, acc, _, h => by rw [List.append_nil]; exact h
  | x :: r, l, acc, hs, h => by
    have e : l ++ x :: r = (l ++ [x]) ++ r := by simp
    rw [e] at hs ⊢
    rw [List.foldl_cons]
    refine dq_fold r (l ++ [x]) _ hs ?_
    have hle : ∀ y ∈ l, y ≤ x := fun y hy => by
      rw [List.append_assoc, List.pairwise_append] at hs
      exact hs.2.2 y hy x (by simp)
    unfold dstep
    by_cases c : acc.getLast? = some x
    · rw [if_pos c]
      have hx : x ∈ acc := List.mem_of_getLast? c
      refine ⟨h.r, fun y => ?_⟩
      rw [List.mem_append, List.mem_singleton, ← h.m y]
      exact ⟨.inl, fun d => d.elim id fun z => by subst z; exact hx⟩
    · rw [if_neg c]
      have hlt : ∀ y ∈ acc, y < x := fun y hy => by
        have h1 := hle y ((h.m y).mp hy)
        refine Int.not_le.mp fun w => ?_
        obtain rfl : y = x := by omega
        rcases List.eq_nil_or_concat acc with rfl | ⟨d, z, rfl⟩
        · cases hy
        · rw [List.concat_eq_append] at *
          rw [gl_snoc] at c
          have hp := h.r
          rw [List.pairwise_append] at hp
          rcases List.mem_append.mp hy with hy | hy
          · have := hp.2.2 y hy z (by simp)
            have h2 := hle z ((h.m z).mp (by simp))
            omega
          · rw [List.mem_singleton] at hy
            subst hy
            exact c rfl
      refine ⟨?_, fun y => ?_⟩
      · rw [List.pairwise_append]
        exact ⟨h.r, List.pairwise_singleton .., fun y hy z hz => by rw [List.mem_singleton] at hz; subst hz; exact hlt y hy⟩
      · rw [List.mem_append, List.mem_append, h.m y]
theorem dq_once (ns : List Int) : (sortI ns).foldl dstep [] = once ns := by
  have h := dq_fold (sortI ns) [] [] (by rw [List.nil_append]; exact sortI_sorted ns) ⟨List.Pairwise.nil, fun x => Iff.rfl⟩
  rw [List.nil_append] at h
  exact rising_one h.r (once_rising _) fun x => by rw [h.m x, (sortI_perm _).mem_iff, mem_once]
theorem dstep_len (acc : List Int) (x : Int) : (dstep acc x).length ≤ acc.length + 1 := by
  unfold dstep
  split
  · omega
  · rw [List.length_append]; exact Nat.le_refl _
theorem once_eq {ns : List Int} (hl : ns.length ≤ 1000000) : phi_each_once [.lst (ns.map .int)] = VS.ret (.tup ((once ns).map .int)) := by
  refine body_eq ?_
  refine seqQ1 (d := .lst (([] : List Int).map .int)) rfl ?_
  have step : ∀ (r : List Int) (acc : List Int), acc.length + r.length ≤ 1000000 → VS.forF (VS.gN 2) (iteS (orB (fun ρ => asB ((op2 eqO (rd 1) (lstF nilF)) ρ)) (fun ρ => asB ((op2 neO (rd 2) (ixF (rd 1) (negV (kst (.int 1))))) ρ))) (appS 1 (rd 2)) nxS) [2] (r.map .int) [some (.lst (ns.map .int)), some (.lst (acc.map .int)), none] = VS.ret (.nx [some (.lst (ns.map .int)), some (.lst ((r.foldl dstep acc).map .int)), none]) := by
    intro r
    induction r with
    | nil => intro acc _; rfl
    | cons x r ih =>
      intro acc ha
      rw [List.length_cons] at ha
      have body : (iteS (orB (fun ρ => asB ((op2 eqO (rd 1) (lstF nilF)) ρ)) (fun ρ => asB ((op2 neO (rd 2) (ixF (rd 1) (negV (kst (.int 1))))) ρ))) (appS 1 (rd 2)) nxS) [some (.lst (ns.map .int)), some (.lst (acc.map .int)), some (.int x)] = VS.ret (.nx [some (.lst (ns.map .int)), some (.lst ((dstep acc x).map .int)), some (.int x)]) := by
        have app : appS 1 (rd 2) [some (.lst (ns.map .int)), some (.lst (acc.map .int)), some (.int x)] = VS.ret (.nx [some (.lst (ns.map .int)), some (.lst ((acc ++ [x]).map .int)), some (.int x)]) := by
          refine (appS_eq (ds := acc.map .int) (d := .int x) rfl rfl (by rw [List.length_map]; omega)).trans ?_
          rw [List.map_append]
          rfl
        rcases List.eq_nil_or_concat acc with rfl | ⟨d, z, rfl⟩
        · refine (VS.iteT (orT (testE (a := .lst (([] : List Int).map .int)) (b := .lst []) rfl rfl (eqO_nil [])))).trans (app.trans ?_)
          unfold dstep
          rw [if_neg (by simp)]
        · rw [List.concat_eq_append] at *
          have h1 := testE (op := eqO) (A := rd 1) (B := lstF nilF) (ρ := [some (.lst (ns.map .int)), some (.lst ((d ++ [z]).map .int)), some (.int x)]) (a := .lst ((d ++ [z]).map .int)) (b := .lst []) rfl rfl (eqO_nil (d ++ [z]))
          have h2 := testE (op := neO) (A := rd 2) (B := ixF (rd 1) (negV (kst (.int 1)))) (ρ := [some (.lst (ns.map .int)), some (.lst ((d ++ [z]).map .int)), some (.int x)]) rfl (ixE (b := .int (-1)) (d := .int z) rfl rfl (by rw [ixM_l, List.map_append]; show ofO (atI (d.map D.int ++ [D.int z]) (-1)) = _; rw [VS.atI_last]; rfl)) (neO_i _ _)
          rw [show (d ++ [z]).isEmpty = false by simp] at h1
          unfold dstep
          rw [gl_snoc]
          by_cases c : x = z
          · subst c
            rw [decide_eq_false (by simp)] at h2
            rw [if_pos rfl]
            exact (VS.iteN (orE h1 h2)).trans rfl
          · rw [decide_eq_true c] at h2
            rw [if_neg fun e => c (Option.some.inj e).symm]
            exact (VS.iteT (orE h1 h2)).trans app
      show bnd (ofO (some ([some (.lst (ns.map .int)), some (.lst (acc.map .int)), some (.int x)] : VS.Env))) _ = _
      rw [ofO_s, bnd_ret, body, bnd_ret]
      have := dstep_len acc x
      exact ih (dstep acc x) (by omega)
  refine seqC ((forS_eq (seqFl (bi_eq (cons_eq rfl nil_eq) (sortedH_i ns)))).trans (step (sortI ns) [] (by rw [sortI_len]; simp; exact hl))) ?_
  refine retS_eq (bi_eq (cons_eq rfl nil_eq) ?_)
  rw [dq_once]
  exact tupleD_l _
/-! ### all sums, all products -/
def sumsOf (ws : List Int) : List Int := once (ws.flatMap fun a => ws.map fun b => a + b)
def prodsOf (ws : List Int) : List Int := once (ws.flatMap fun a => ws.map fun b => a * b)
theorem mem_sumsOf {ws : List Int} {x : Int} : x ∈ sumsOf ws ↔ ∃ a ∈ ws, ∃ b ∈ ws, x = a + b := by
  unfold sumsOf
  rw [mem_once, List.mem_flatMap]
  exact ⟨fun ⟨a, ha, h⟩ => by obtain ⟨b, hb, e⟩ := List.mem_map.mp h; exact ⟨a, ha, b, hb, e.symm⟩, fun ⟨a, ha, b, hb, e⟩ => ⟨a, ha, List.mem_map.mpr ⟨b, hb, e.symm⟩⟩⟩
theorem mem_prodsOf {ws : List Int} {x : Int} : x ∈ prodsOf ws ↔ ∃ a ∈ ws, ∃ b ∈ ws, x = a * b := by
  unfold prodsOf
  rw [mem_once, List.mem_flatMap]
  exact ⟨fun ⟨a, ha, h⟩ => by obtain ⟨b, hb, e⟩ := List.mem_map.mp h; exact ⟨a, ha, b, hb, e.symm⟩, fun ⟨a, ha, b, hb, e⟩ => ⟨a, ha, List.mem_map.mpr ⟨b, hb, e.symm⟩⟩⟩
theorem flat_len2 (ws : List Int) (op : Int → Int → Int) : ∀ l : List Int, (l.flatMap fun a => ws.map fun b => op a b).length = l.length * ws.length
  | [] => by simp
  | x :: r => by rw [List.flatMap_cons, List.length_append, flat_len2 ws op r, List.length_map, List.length_cons, Nat.succ_mul, Nat.add_comm]
theorem fold_flat (ws : List Int) (op : Int → Int → Int) : ∀ (l acc : List Int), l.foldl (fun acc a => acc ++ ws.map fun b => op a b) acc = acc ++ l.flatMap fun a => ws.map fun b => op a b
  | [], acc => by simp
  | x :: r, acc => by rw [List.foldl_cons, fold_flat ws op r, List.flatMap_cons, List.append_assoc]
theorem all_eq (φ : D → D → Option D) (op : Int → Int → Int) {ws : List Int} (hl : ws.length ≤ 100) (hop : ∀ a ∈ ws, ∀ b ∈ ws, φ (.int a) (.int b) = some (.int (op a b))) :
    VS.forF (VS.gN 2) (extS 1 (lcS [3] (seqF (rd 0)) (VS.gN 3) yesB (op2 φ (rd 2) (rd 3)))) [2] (ws.map .int) [some (.lst (ws.map .int)), some (.lst []), none, none] = VS.ret (.nx [some (.lst (ws.map .int)), some (.lst ((ws.flatMap fun a => ws.map fun b => op a b).map .int)), none, none]) := by
  have main : ∀ (r : List Int) (acc : List Int), (∀ a ∈ r, a ∈ ws) → acc.length + r.length * 100 ≤ 100000 → VS.forF (VS.gN 2) (extS 1 (lcS [3] (seqF (rd 0)) (VS.gN 3) yesB (op2 φ (rd 2) (rd 3)))) [2] (r.map .int) [some (.lst (ws.map .int)), some (.lst (acc.map .int)), none, none] = VS.ret (.nx [some (.lst (ws.map .int)), some (.lst ((r.foldl (fun acc a => acc ++ ws.map fun b => op a b) acc).map .int)), none, none]) := by
    intro r
    induction r with
    | nil => intro acc _ _; rfl
    | cons x r ih =>
      intro acc hr ha
      rw [List.length_cons, Nat.succ_mul] at ha
      have hx := hr x (List.mem_cons_self ..)
      show bnd (ofO (some ([some (.lst (ws.map .int)), some (.lst (acc.map .int)), some (.int x), none] : VS.Env))) _ = _
      rw [ofO_s, bnd_ret, extS_eq (ds := acc.map .int) (es := ws.map fun b => D.int (op x b)) rfl (lcS_m (α := Int) (en := D.int) (ge := fun b => D.int (op x b)) ws (seqFl rfl) (by omega) fun b hb => ⟨_, rfl, op2E rfl rfl (hop x hx b hb)⟩) (by rw [List.length_map, List.length_map]; omega), bnd_ret]
      have e : acc.map D.int ++ ws.map (fun b => D.int (op x b)) = (acc ++ ws.map fun b => op x b).map D.int := by
        rw [List.map_append, List.map_map]
        rfl
      rw [e]
      exact ih (acc ++ ws.map fun b => op x b) (fun a h => hr a (List.mem_cons_of_mem _ h)) (by rw [List.length_append, List.length_map]; omega)
  have h := main ws [] (fun a h => h) (by simp; omega)
  rw [fold_flat, List.nil_append] at h
  exact h
theorem sums_eq {ws : List Int} (hl : ws.length ≤ 100) : phi_whole_sums [.lst (ws.map .int)] = VS.ret (.tup ((sumsOf ws).map .int)) := by
  refine body_eq (seqQ1 (d := .lst []) rfl (seqC ((forS_eq (seqFl rfl)).trans (all_eq addD (fun a b => a + b) hl fun _ _ _ _ => addD_i _ _)) ?_))
  exact retS_eq (call_eq (ds := [.lst ((ws.flatMap fun a => ws.map fun b => a + b).map .int)]) rfl rfl (once_eq (by
    rw [flat_len2]
    have := Nat.mul_le_mul hl hl
    omega)))
theorem prods_eq {ws : List Int} (hl : ws.length ≤ 100) (hz : ∀ a ∈ ws, a.natAbs < 2 ^ 40) : phi_whole_products [.lst (ws.map .int)] = VS.ret (.tup ((prodsOf ws).map .int)) := by
  refine body_eq (seqQ1 (d := .lst []) rfl (seqC ((forS_eq (seqFl rfl)).trans (all_eq mulD (fun a b => a * b) hl fun a ha b hb => ?_)) ?_))
  · haveI : Sz 40 a := ⟨hz a ha⟩
    haveI : Sz 40 b := ⟨hz b hb⟩
    exact mulD_ok (by decide)
  exact retS_eq (call_eq (ds := [.lst ((ws.flatMap fun a => ws.map fun b => a * b).map .int)]) rfl rfl (once_eq (by
    rw [flat_len2]
    have := Nat.mul_le_mul hl hl
    omega)))
/-! ### whole numbers -/
def lcmN (l : List (Int × Int)) : Nat := l.foldl (fun s p => s.lcm p.2.natAbs) 1
theorem lcm_dvd_fold {B : Nat} : ∀ (l : List (Int × Int)) (s : Nat), s ∣ B → (∀ p ∈ l, p.2.natAbs ∣ B) → l.foldl (fun s p => s.lcm p.2.natAbs) s ∣ B
  | [], s, h, _ => h
  | p :: r, s, h, hd => lcm_dvd_fold r _ (Nat.lcm_dvd h (hd p (List.mem_cons_self ..))) fun q hq => hd q (List.mem_cons_of_mem _ hq)
theorem log_small {n : Nat} (h : n < 2 ^ 64) : n.log2 < 13000 := Nat.lt_trans (log2_lt_of (by decide) h) (by decide)
theorem whole_eq {l : List (Int × Int)} {B : Nat} (B0 : 0 < B) (Bl : B < 2 ^ 64) (hd : ∀ p ∈ l, 1 ≤ p.2 ∧ p.2.natAbs ∣ B) (hz : ∀ p ∈ l, p.1.natAbs < 2 ^ 40) (hl : l.length ≤ 1000000) :
    phi_whole_numbers [.tup (l.map prI)] = VS.ret (.tup [.int (lcmN l : Nat), .lst ((l.map fun p : Int × Int => p.1 * (((lcmN l : Nat) : Int) / p.2)).map .int)]) := by
  refine body_eq (seqQ1 (d := .int ((1 : Nat) : Int)) rfl ?_)
  have main : ∀ (r : List (Int × Int)) (s : Nat) (x0 : Option D), s ∣ B → (∀ p ∈ r, 1 ≤ p.2 ∧ p.2.natAbs ∣ B) → ∃ x, VS.forF (VS.gN 2) (setS 1 (biF lcmD (consF (rd 1) (consF (ixF (rd 2) (kst (.int 1))) nilF)))) [] (r.map prI) [some (.tup (l.map prI)), some (.int (s : Nat)), x0] = VS.ret (.nx [some (.tup (l.map prI)), some (.int (r.foldl (fun s p => s.lcm p.2.natAbs) s : Nat)), x]) := by
    intro r
    induction r with
    | nil => intro s x0 _ _; exact ⟨x0, rfl⟩
    | cons p r ih =>
      intro s x0 hs hr
      have hp := hr p (List.mem_cons_self ..)
      have hsB := Nat.le_of_dvd B0 hs
      have hpB := Nat.le_of_dvd B0 hp.2
      obtain ⟨x, e⟩ := ih (s.lcm p.2.natAbs) (some (prI p)) (Nat.lcm_dvd hs hp.2) fun q hq => hr q (List.mem_cons_of_mem _ hq)
      refine ⟨x, ?_⟩
      have hl : lcmD [.int (s : Nat), .int p.2] = some (.int (s.lcm p.2.natAbs : Nat)) := by
        have e1 : (((s : Nat) : Int)).natAbs = s := Int.natAbs_natCast s
        exact (if_pos ⟨by rw [e1]; exact log_small (by omega), log_small (by omega)⟩).trans (by rw [e1])
      show bnd (ofO (some ([some (.tup (l.map prI)), some (.int (s : Nat)), some (prI p)] : VS.Env))) _ = _
      rw [ofO_s, bnd_ret, setS_eq (d := .int (s.lcm p.2.natAbs : Nat)) (bi_eq (cons_eq rfl (cons_eq (ixE (b := .int 1) (d := .int p.2) rfl rfl rfl) nil_eq)) hl), bnd_ret]
      exact e
  obtain ⟨x, e⟩ := main l 1 none (Nat.one_dvd B) hd
  have hL : lcmN l ∣ B := lcm_dvd_fold l 1 (Nat.one_dvd B) fun p hp => (hd p hp).2
  have hLB := Nat.le_of_dvd B0 hL
  change VS.forF _ _ _ _ _ = VS.ret (.nx [_, some (.int (lcmN l : Nat)), _]) at e
  generalize lcmN l = L at *
  refine seqC ((forS_eq (seqFt rfl)).trans e) ?_
  refine retS_eq (tup_eq (cons_eq rfl (cons_eq (lcS_m (α := Int × Int) (en := prI) (ge := fun p => D.int (p.1 * ((L : Int) / p.2))) l (seqFt rfl) (by omega) fun p hp => ⟨_, rfl, ?_⟩) nil_eq)) ?_ |>.trans ?_)
  · have := (hd p hp).1
    have hpB := Nat.le_of_dvd B0 (hd p hp).2
    haveI : Sz 40 p.1 := ⟨hz p hp⟩
    have h0 : 0 ≤ ((L : Nat) : Int) / p.2 := Int.ediv_nonneg (by omega) (by omega)
    have h1 : ((L : Nat) : Int) / p.2 ≤ (L : Nat) := Int.ediv_le_self _ (by omega)
    haveI : Sz 64 (((L : Nat) : Int) / p.2) := ⟨by omega⟩
    exact op2E (ixE (b := .int 0) (d := .int p.1) rfl rfl rfl) (op2E rfl (ixE (b := .int 1) (d := .int p.2) rfl rfl rfl) (fdivD_ok (by omega) (by omega))) (mulD_ok (by decide))
  · exact le_rfl_n rfl
  · rw [List.map_map]
    rfl
/-! ### sums and products told, meetings -/
def ltD (a b : Int) : D := .tup [.int (a / (Nat.gcd a.natAbs b.natAbs : Nat)), .int (b / (Nat.gcd a.natAbs b.natAbs : Nat))]
theorem terms_eq {a b : Int} (b1 : 1 ≤ b) (bl : b < 2 ^ 64) : phi_least_terms [.int a, .int b] = VS.ret (ltD a b) := by
  have g0 : 0 < Nat.gcd a.natAbs b.natAbs := Nat.gcd_pos_of_pos_right _ (by omega)
  have g1 : Nat.gcd a.natAbs b.natAbs ≤ b.natAbs := Nat.gcd_le_right _ (by omega)
  refine body_eq (seqQ2 (d := .int (Nat.gcd a.natAbs b.natAbs : Nat)) (bi_eq (cons_eq rfl (cons_eq rfl nil_eq)) rfl) ?_)
  unfold ltD
  generalize Nat.gcd a.natAbs b.natAbs = g at *
  exact retS_eq (tup_eq (cons_eq (op2E rfl rfl (fdivD_ok (by omega) (by omega))) (cons_eq (op2E rfl rfl (fdivD_ok (by omega) (by omega))) nil_eq)) (le_rfl_n rfl))
/-- what the numbers are, as whole ones -/
structure Nums (l : List (Int × Int)) (ws : List Int) (L : Int) : Prop where
  e : phi_whole_numbers [.tup (l.map prI)] = VS.ret (.tup [.int L, .lst (ws.map .int)])
  n : ws.length ≤ 100
  z : ∀ a ∈ ws, a.natAbs < 2 ^ 40
  l1 : 1 ≤ L
  l2 : L < 2 ^ 30
theorem len_once (ns : List Int) : (once ns).length ≤ ns.length := by
  have : ∀ l : List Int, (dd l).length ≤ l.length := fun l => by
    induction l with
    | nil => exact Nat.le_refl _
    | cons x r ih => unfold dd; split <;> simp <;> omega
  unfold once
  rw [sortI_len]
  exact this ns
theorem sumsOf_len {ws : List Int} (h : ws.length ≤ 100) : (sumsOf ws).length ≤ 10000 := by
  refine Nat.le_trans (len_once _) ?_
  rw [flat_len2]
  have := Nat.mul_le_mul h h
  omega
theorem prodsOf_len {ws : List Int} (h : ws.length ≤ 100) : (prodsOf ws).length ≤ 10000 := by
  refine Nat.le_trans (len_once _) ?_
  rw [flat_len2]
  have := Nat.mul_le_mul h h
  omega
theorem sums_of_eq {l : List (Int × Int)} {ws : List Int} {L : Int} (h : Nums l ws L) : phi_sums_of [.tup (l.map prI)] = VS.ret (.tup ((sumsOf ws).map fun s => ltD s L)) := by
  have l1 := h.l1
  have l2 := h.l2
  refine body_eq (seqC (tgtS_eq (ρ1 := [some (.tup (l.map prI)), some (.int L), some (.lst (ws.map .int)), none]) (call_eq (ds := [.tup (l.map prI)]) rfl rfl h.e) rfl) ?_)
  refine retS_eq (bi_eq (cons_eq (lcS_m (α := Int) (en := D.int) (ge := fun s => ltD s L) (sumsOf ws) (seqFt (call_eq (ds := [.lst (ws.map .int)]) rfl rfl (sums_eq h.n))) (by have := sumsOf_len h.n; omega) fun s _ => ⟨_, rfl, call_eq (ds := [.int s, .int L]) rfl rfl (terms_eq l1 (by omega))⟩) nil_eq) (tupleD_l _))
theorem prods_of_eq {l : List (Int × Int)} {ws : List Int} {L : Int} (h : Nums l ws L) : phi_products_of [.tup (l.map prI)] = VS.ret (.tup ((prodsOf ws).map fun s => ltD s (L * L))) := by
  have l1 := h.l1
  have l2 := h.l2
  have ll : L * L < 2 ^ 30 * 2 ^ 30 := Int.mul_lt_mul l2 (by omega) (by omega) (by omega)
  have l0 : 0 < L * L := Int.mul_pos (by omega) (by omega)
  haveI : Sz 30 L := ⟨by omega⟩
  refine body_eq (seqC (tgtS_eq (ρ1 := [some (.tup (l.map prI)), some (.int L), some (.lst (ws.map .int)), none]) (call_eq (ds := [.tup (l.map prI)]) rfl rfl h.e) rfl) ?_)
  refine retS_eq (bi_eq (cons_eq (lcS_m (α := Int) (en := D.int) (ge := fun s => ltD s (L * L)) (prodsOf ws) (seqFt (call_eq (ds := [.lst (ws.map .int)]) rfl rfl (prods_eq h.n h.z))) (by have := prodsOf_len h.n; omega) fun s _ => ⟨_, rfl, call_eq (ds := [.int s, .int (L * L)]) (cons_eq rfl (cons_eq (op2E rfl rfl (mulD_ok (by decide))) nil_eq)) rfl (terms_eq (by omega) (by omega))⟩) nil_eq) (tupleD_l _))
/-- how many of S lead to P -/
def hit (P S : List Int) (a b : Int) : Int := ((S.filter fun s => decide (a * (s - b) ∈ P)).length : Nat)
def SM (ws : List Int) : Int := ls ws fun a => ls ws fun b => hit (prodsOf ws) (sumsOf ws) a b
theorem ls_fold {α : Type} (g : α → Int) : ∀ (l : List α) (s : Int), l.foldl (fun s x => s + g x) s = s + ls l g
  | [], s => by rw [ls_nil]; show s = s + 0; omega
  | x :: r, s => by rw [List.foldl_cons, ls_fold g r, ls_cons]; omega
theorem once_sz {ws : List Int} (hz : ∀ a ∈ ws, a.natAbs < 2 ^ 40) : ∀ s ∈ sumsOf ws, s.natAbs < 2 ^ 41 := fun s hs => by
  obtain ⟨a, ha, b, hb, rfl⟩ := mem_sumsOf.mp hs
  have := hz a ha
  have := hz b hb
  omega
theorem sums_meet_eq {l : List (Int × Int)} {ws : List Int} {L : Int} (h : Nums l ws L) : phi_sums_meetings [.tup (l.map prI)] = VS.ret (.int (SM ws)) := by
  have hn := h.n
  have lS := sumsOf_len hn
  have lP := prodsOf_len hn
  refine body_eq (seqC (tgtS_eq (ρ1 := [some (.tup (l.map prI)), some (.int L), some (.lst (ws.map .int)), none, none, none, none, none, none, none]) (call_eq (ds := [.tup (l.map prI)]) rfl rfl h.e) rfl) ?_)
  let Kn := dki ((prodsOf ws).foldl addK []) fun _ => D.bl true
  refine seqC (par2E (a := .tup ((sumsOf ws).map .int)) (b := Kn) (call_eq (ds := [.lst (ws.map .int)]) rfl rfl (sums_eq hn)) (bi_eq (cons_eq (lcS_m (α := Int) (en := D.int) (ge := fun p => D.tup [.int p, .bl true]) (prodsOf ws) (seqFt (call_eq (ds := [.lst (ws.map .int)]) rfl rfl (prods_eq hn h.z))) (by omega) fun s _ => ⟨_, rfl, tup_eq rfl (le_rfl_n rfl)⟩) nil_eq) (dict_c _ _))) ?_
  refine seqQ5 (d := .int 0) rfl ?_
  let R : Int → VS.Env := fun m => [some (.tup (l.map prI)), some (.int L), some (.lst (ws.map .int)), some (.tup ((sumsOf ws).map .int)), some Kn, some (.int m), none, none, none, none]
  refine seqC (ρ1 := R (SM ws)) ((forS_eq (ds := ws.map .int) (seqFl rfl)).trans ((loopL (σ := Int) R (fun m a => m + ls ws fun b => hit (prodsOf ws) (sumsOf ws) a b) D.int ws 0 fun m a ha => ?_).trans (by rw [ls_fold, Int.zero_add]; rfl))) (retS_eq rfl)
  refine ⟨_, rfl, [some (.tup (l.map prI)), some (.int L), some (.lst (ws.map .int)), some (.tup ((sumsOf ws).map .int)), some Kn, some (.int (m + ls ws fun b => hit (prodsOf ws) (sumsOf ws) a b)), some (.int a), none, none, none], ?_, rfl⟩
  refine (forS_eq (ds := ws.map .int) (seqFl rfl)).trans ((loopL (σ := Int) (fun m => [some (.tup (l.map prI)), some (.int L), some (.lst (ws.map .int)), some (.tup ((sumsOf ws).map .int)), some Kn, some (.int m), some (.int a), none, none, none]) (fun m b => m + hit (prodsOf ws) (sumsOf ws) a b) D.int ws m fun m b hb => ?_).trans (by rw [ls_fold]))
  refine ⟨_, rfl, [some (.tup (l.map prI)), some (.int L), some (.lst (ws.map .int)), some (.tup ((sumsOf ws).map .int)), some Kn, some (.int (m + hit (prodsOf ws) (sumsOf ws) a b)), some (.int a), some (.int b), none, none], ?_, rfl⟩
  have za := h.z a ha
  have zb := h.z b hb
  refine setS_eq (op2E rfl (bi_eq (cons_eq (lcS_f (α := Int) (en := D.int) (ge := D.int) (t := fun s => decide (a * (s - b) ∈ prodsOf ws)) (sumsOf ws) (seqFt rfl) (by omega) fun s hs => ⟨_, rfl, ?_, rfl⟩) nil_eq) ((len_l _).trans (by rw [List.length_map]; rfl))) (addD_i _ _))
  have zs := once_sz h.z s hs
  haveI : Sz 40 a := ⟨za⟩
  haveI : Sz 43 (s - b) := ⟨by omega⟩
  refine testE (op2E rfl (op2E rfl rfl (subD_i _ _)) (mulD_ok (by decide))) rfl (dki_in.trans ?_)
  congr 2
  exact decide_eq_decide.mpr ((foldK_mem _ _).trans (by simp))
/-! ### meetings -/
def meets (t : Int × Int × Int) (p : Int × Int) : Bool := decide (t.1 * p.1 + t.2.1 * p.2 = t.2.2)
def metN (ps : List (Int × Int)) (t : Int × Int × Int) : Int := ((ps.filter (meets t)).length : Nat)
theorem meet_eq {t : Int × Int × Int} {p : Int × Int} (h1 : t.1.natAbs < 2 ^ 64) (h2 : t.2.1.natAbs < 2 ^ 64) (h3 : p.1.natAbs < 2 ^ 64) (h4 : p.2.natAbs < 2 ^ 64) : phi_does_meet [trI t, prI p] = VS.ret (.bl (meets t p)) := by
  haveI : Sz 64 t.1 := ⟨h1⟩
  haveI : Sz 64 t.2.1 := ⟨h2⟩
  haveI : Sz 64 p.1 := ⟨h3⟩
  haveI : Sz 64 p.2 := ⟨h4⟩
  exact body_eq (retS_eq (op2E (op2E (op2E (ixE (b := .int 0) (d := .int t.1) rfl rfl rfl) (ixE (b := .int 0) (d := .int p.1) rfl rfl rfl) (mulD_ok (by decide))) (op2E (ixE (b := .int 1) (d := .int t.2.1) rfl rfl rfl) (ixE (b := .int 1) (d := .int p.2) rfl rfl rfl) (mulD_ok (by decide))) (addD_i _ _)) (ixE (b := .int 2) (d := .int t.2.2) rfl rfl rfl) (eqO_i _ _)))
structure Sml (ps : List (Int × Int)) (ts : List (Int × Int × Int)) : Prop where
  p : ∀ p ∈ ps, p.1.natAbs < 2 ^ 64 ∧ p.2.natAbs < 2 ^ 64
  t : ∀ t ∈ ts, t.1.natAbs < 2 ^ 64 ∧ t.2.1.natAbs < 2 ^ 64
  pl : ps.length ≤ 10000000
  tl : ts.length ≤ 10000000
theorem meetings_eq {ps : List (Int × Int)} {ts : List (Int × Int × Int)} (h : Sml ps ts) : phi_meetings [.tup (ps.map prI), .tup (ts.map trI)] = VS.ret (.int (ls ts (metN ps))) := by
  have hp := h.pl
  have ht := h.tl
  have mb : ∀ t ∈ ts, phi_met_by [.tup (ps.map prI), trI t] = VS.ret (.lst (((enumL 0 ps).filter fun q => meets t q.2).map fun q => D.int (q.1 : Nat))) := fun t ht => by
    refine body_eq (retS_eq (lcS_f (α := Nat × (Int × Int)) (en := fun q => .tup [.int (q.1 : Nat), prI q.2]) (ge := fun q => D.int (q.1 : Nat)) (t := fun q => meets t q.2) (enumL 0 ps) ?_ (by rw [enumL_len]; omega) fun q hq => ⟨_, rfl, truE (call_eq (ds := [trI t, prI q.2]) rfl rfl ?_), rfl⟩))
    · show bnd (rd 0 _) _ = _
      show ofO (some (enumAt 0 (ps.map prI))) = _
      rw [enumAt_L]
      rfl
    · have hq2 : q.2 ∈ ps := by
        have : ∀ (k : Nat) (l : List (Int × Int)) (q : Nat × (Int × Int)), q ∈ enumL k l → q.2 ∈ l := fun k l => by
          induction l generalizing k with
          | nil => intro q hq; cases hq
          | cons x r ih =>
            intro q hq
            rcases List.mem_cons.mp hq with e | e
            · subst e; exact List.mem_cons_self ..
            · exact List.mem_cons_of_mem _ (ih (k + 1) q e)
        exact this 0 ps q hq
      have a := h.t t ht
      have b := h.p q.2 hq2
      exact meet_eq a.1 a.2 b.1 b.2
  refine body_eq (retS_eq (bi_eq (cons_eq (lcS_m (α := Int × Int × Int) (en := trI) (ge := fun t => D.int (metN ps t)) ts (seqFt rfl) (by omega) fun t hx => ⟨_, rfl, bi_eq (cons_eq (call_eq (ds := [.tup (ps.map prI), trI t]) rfl rfl (mb t hx)) nil_eq) ((len_l _).trans (by rw [List.length_map, enumL_filter]; rfl))⟩) nil_eq) ?_))
  have e : ts.map (fun t => D.int (metN ps t)) = (ts.map (metN ps)).map .int := by rw [List.map_map]; rfl
  rw [e]
  show (asInts ((ts.map (metN ps)).map .int)).bind _ = _
  rw [asInts_map]
  rfl
end Lw
set_option Elab.async false
set_option linter.all false
set_option maxRecDepth 100000
namespace Lw
open PySem VS L2
/-! ### plain facts -/
theorem sub_len : ∀ {xs ys : List Int}, xs.Nodup → (∀ x ∈ xs, x ∈ ys) → xs.length ≤ ys.length
  | [], _, _, _ => Nat.zero_le _
  | x :: r, ys, hn, h => by
    rw [List.nodup_cons] at hn
    have hx := h x (List.mem_cons_self ..)
    have i := sub_len (xs := r) (ys := ys.erase x) hn.2 fun y hy => by
      have hne : y ≠ x := fun e => hn.1 (e ▸ hy)
      exact (List.mem_erase_of_ne hne).mpr (h y (List.mem_cons_of_mem _ hy))
    rw [List.length_erase_of_mem hx] at i
    have : 0 < ys.length := List.length_pos_of_mem hx
    rw [List.length_cons]
    omega
theorem nd_map {f : Int → Int} : ∀ {l : List Int}, l.Nodup → (∀ x ∈ l, ∀ y ∈ l, f x = f y → x = y) → (l.map f).Nodup
  | [], _, _ => List.nodup_nil
  | x :: r, hn, h => by
    rw [List.nodup_cons] at hn
    rw [List.map_cons, List.nodup_cons]
    refine ⟨fun hm => ?_, nd_map hn.2 fun a ha b hb => h a (List.mem_cons_of_mem _ ha) b (List.mem_cons_of_mem _ hb)⟩
    obtain ⟨y, hy, e⟩ := List.mem_map.mp hm
    exact hn.1 (h y (List.mem_cons_of_mem _ hy) x (List.mem_cons_self ..) e ▸ hy)
theorem sums_many {ws : List Int} (hn : ws.Nodup) (h : ws ≠ []) : ws.length ≤ (sumsOf ws).length := by
  obtain ⟨a, r, rfl⟩ := List.exists_cons_of_ne_nil h
  have := sub_len (xs := (a :: r).map fun b => a + b) (ys := sumsOf (a :: r)) (nd_map hn fun x _ y _ e => by omega) fun x hx => by
    obtain ⟨b, hb, rfl⟩ := List.mem_map.mp hx
    exact mem_sumsOf.mpr ⟨a, List.mem_cons_self .., b, hb, rfl⟩
  rwa [List.length_map] at this
theorem prods_many {ws : List Int} (hn : ws.Nodup) (h : ws ≠ []) (hz : ∀ a ∈ ws, a ≠ 0) : ws.length ≤ (prodsOf ws).length := by
  obtain ⟨a, r, rfl⟩ := List.exists_cons_of_ne_nil h
  have ha := hz a (List.mem_cons_self ..)
  have := sub_len (xs := (a :: r).map fun b => a * b) (ys := prodsOf (a :: r)) (nd_map hn fun x _ y _ e => Int.eq_of_mul_eq_mul_left ha e) fun x hx => by
    obtain ⟨b, hb, rfl⟩ := List.mem_map.mp hx
    exact mem_prodsOf.mpr ⟨a, List.mem_cons_self .., b, hb, rfl⟩
  rwa [List.length_map] at this
theorem hit_many {ws : List Int} (hn : ws.Nodup) {a b : Int} (ha : a ∈ ws) (hb : b ∈ ws) : (ws.length : Int) ≤ hit (prodsOf ws) (sumsOf ws) a b := by
  have := sub_len (xs := ws.map fun c => c + b) (ys := (sumsOf ws).filter fun s => decide (a * (s - b) ∈ prodsOf ws)) (nd_map hn fun x _ y _ e => by omega) fun x hx => by
    obtain ⟨c, hc, rfl⟩ := List.mem_map.mp hx
    refine List.mem_filter.mpr ⟨mem_sumsOf.mpr ⟨c, hc, b, hb, rfl⟩, decide_eq_true (mem_prodsOf.mpr ⟨a, ha, c, hc, ?_⟩)⟩
    rw [show c + b - b = c by omega]
  rw [List.length_map] at this
  unfold hit
  omega
theorem ls_ge {α : Type} {g : α → Int} {c : Int} : ∀ {l : List α}, (∀ x ∈ l, c ≤ g x) → c * l.length ≤ ls l g
  | [], _ => by rw [ls_nil]; simp
  | x :: r, h => by
    rw [ls_cons, List.length_cons]
    have := ls_ge (g := g) (c := c) (l := r) fun y hy => h y (List.mem_cons_of_mem _ hy)
    have := h x (List.mem_cons_self ..)
    rw [show ((r.length + 1 : Nat) : Int) = (r.length : Int) + 1 by omega, Int.mul_add, Int.mul_one]
    omega
theorem SM_many {ws : List Int} (hn : ws.Nodup) : (ws.length : Int) * ws.length * ws.length ≤ SM ws := by
  unfold SM
  exact ls_ge (l := ws) fun a ha => ls_ge (l := ws) fun b hb => hit_many hn ha hb
/-! ### sums of lists -/
theorem ls_add {α : Type} (f g : α → Int) : ∀ l : List α, ls l (fun x => f x + g x) = ls l f + ls l g
  | [] => rfl
  | x :: r => by rw [ls_cons, ls_cons, ls_cons, ls_add f g r]; omega
theorem ls_zero {α : Type} : ∀ l : List α, ls l (fun _ => 0) = 0
  | [] => rfl
  | x :: r => by rw [ls_cons, ls_zero r]; rfl
theorem ls_swap {α β : Type} (f : α → β → Int) (m : List β) : ∀ l : List α, ls l (fun x => ls m fun y => f x y) = ls m fun y => ls l fun x => f x y
  | [] => by rw [ls_nil]; exact (ls_zero m).symm
  | x :: r => by
    rw [ls_cons, ls_swap f m r, ← ls_add]
    exact ls_congr fun y _ => (ls_cons x r fun x => f x y).symm
theorem flen {α : Type} (p : α → Bool) : ∀ l : List α, ((l.filter p).length : Int) = ls l fun x => if p x = true then 1 else 0
  | [] => rfl
  | x :: r => by
    rw [ls_cons, ← flen p r, List.filter_cons]
    split
    · rw [List.length_cons]; omega
    · omega
theorem ls_one {P : List Int} (hn : P.Nodup) (z : Int) : (ls P fun p => if z = p then 1 else 0) = if z ∈ P then 1 else 0 := by
  induction P with
  | nil => rfl
  | cons x r ih =>
    rw [List.nodup_cons] at hn
    rw [ls_cons, ih hn.2]
    by_cases c : z = x
    · subst c
      rw [if_pos rfl, if_neg hn.1, if_pos (List.mem_cons_self ..)]
      rfl
    · rw [if_neg c]
      by_cases c2 : z ∈ r
      · rw [if_pos c2, if_pos (List.mem_cons_of_mem _ c2)]; rfl
      · rw [if_neg c2, if_neg (fun h => (List.mem_cons.mp h).elim c c2)]; rfl
/-! ### lines, points -/
def ln (a b : Int) : Int × Int × Int := if 0 < a then (a, -1, a * b) else (-a, 1, -a * b)
def lnD (a b : Int) : D := trI (ln a b)
def lnsOf (ws : List Int) : List (Int × Int × Int) := ws.flatMap fun a => ws.map fun b => ln a b
def toL (t : Int × Int × Int) : List Int := [t.1, t.2.1, t.2.2]
def frL : List Int → Int × Int × Int
  | [a, b, c] => (a, b, c)
  | _ => (0, 0, 0)
theorem sorted_tr (ts : List (Int × Int × Int)) : ∃ us : List (Int × Int × Int), sortedH [.lst (ts.map trI)] = some (.lst (us.map trI)) ∧ us.Perm ts := by
  obtain ⟨qs, e, p⟩ := sortedG_rows (rs := ts.map toL) fun r hr => by
    obtain ⟨t, _, rfl⟩ := List.mem_map.mp hr
    simp [toL]
  refine ⟨qs.map frL, ?_, ?_⟩
  · have e1 : (ts.map toL).map row = ts.map trI := by rw [List.map_map]; rfl
    have e2 : (qs.map frL).map trI = qs.map row := by
      rw [List.map_map]
      refine List.map_congr_left fun q hq => ?_
      obtain ⟨t, _, rfl⟩ := List.mem_map.mp (p.mem_iff.mp hq)
      rfl
    rw [e1] at e
    rw [e2]
    exact e
  · have := p.map frL
    rw [List.map_map] at this
    have e3 : ts.map (frL ∘ toL) = ts := (List.map_congr_left fun t _ => rfl).trans (List.map_id ts)
    rwa [e3] at this
theorem lns_len (ws : List Int) : (lnsOf ws).length = ws.length * ws.length := by
  unfold lnsOf
  have : ∀ l : List Int, (l.flatMap fun a => ws.map fun b => ln a b).length = l.length * ws.length := fun l => by
    induction l with
    | nil => simp
    | cons x r ih => rw [List.flatMap_cons, List.length_append, ih, List.length_map, List.length_cons, Nat.succ_mul, Nat.add_comm]
  exact this ws
def ptsOf (S P : List Int) : List (Int × Int) := S.flatMap fun s => P.map fun p => (s, p)
theorem pts_len (S P : List Int) : (ptsOf S P).length = S.length * P.length := by
  unfold ptsOf
  induction S with
  | nil => simp
  | cons x r ih => rw [List.flatMap_cons, List.length_append, ih, List.length_map, List.length_cons, Nat.succ_mul, Nat.add_comm]
theorem met_hit {ws : List Int} (S P : List Int) (hP : P.Nodup) (a b : Int) : metN (ptsOf S P) (ln a b) = hit P S a b := by
  unfold metN ptsOf hit
  rw [flen, ls_flat, flen]
  refine ls_congr fun s _ => ?_
  rw [ls_map]
  have := ls_one hP (a * (s - b))
  simp only [decide_eq_true_eq]
  refine Eq.trans (ls_congr fun p _ => ?_) this
  have e : meets (ln a b) (s, p) = true ↔ a * (s - b) = p := by
    unfold meets ln
    rw [decide_eq_true_eq, Int.mul_sub]
    split
    · show a * s + -1 * p = a * b ↔ _
      generalize a * s = x
      generalize a * b = y
      omega
    · show -a * s + 1 * p = -a * b ↔ _
      rw [Int.neg_mul, Int.neg_mul]
      generalize a * s = x
      generalize a * b = y
      omega
  by_cases c : a * (s - b) = p
  · rw [if_pos (e.mpr c), if_pos c]
  · rw [if_neg fun h => c (e.mp h), if_neg c]
theorem metN_app (xs ys : List (Int × Int)) (t : Int × Int × Int) : metN (xs ++ ys) t = metN xs t + metN ys t := by
  unfold metN
  rw [List.filter_append, List.length_append]
  omega
end Lw
set_option Elab.async false
set_option linter.all false
set_option maxRecDepth 100000
namespace Lw
open PySem VS L2
/-! ### Euclid -/
def eu : Nat → Nat → Nat → Nat
  | 0, a, _ => a
  | n + 1, a, b => if b = 0 then a else eu n b (a % b)
theorem eu_gcd : ∀ (k n a b : Nat), b < 2 ^ k → 2 * k + 1 ≤ n → eu n a b = Nat.gcd a b
  | 0, n, a, b, hb, hn => by
    obtain rfl : b = 0 := by omega
    obtain ⟨m, rfl⟩ : ∃ m, n = m + 1 := ⟨n - 1, by omega⟩
    rw [Nat.gcd_zero_right]
    show (if 0 = 0 then a else _) = a
    rw [if_pos rfl]
  | k + 1, n, a, b, hb, hn => by
    obtain ⟨m, rfl⟩ : ∃ m, n = m + 2 := ⟨n - 2, by omega⟩
    show (if b = 0 then a else eu (m + 1) b (a % b)) = _
    by_cases c : b = 0
    · rw [if_pos c, c, Nat.gcd_zero_right]
    · rw [if_neg c]
      show (if a % b = 0 then b else eu m (a % b) (b % (a % b))) = _
      have e1 : Nat.gcd a b = Nat.gcd b (a % b) := by rw [Nat.gcd_comm a b, Nat.gcd_rec b a, Nat.gcd_comm]
      by_cases c2 : a % b = 0
      · rw [if_pos c2, e1, c2, Nat.gcd_zero_right]
      · rw [if_neg c2, e1]
        have lt1 : a % b < b := Nat.mod_lt _ (by omega)
        have lt2 : b % (a % b) < a % b := Nat.mod_lt _ (by omega)
        have hh : b % (a % b) < 2 ^ k := by
          have h1 := Nat.div_add_mod b (a % b)
          have h2 : 1 ≤ b / (a % b) := (Nat.one_le_div_iff (by omega)).mpr (by omega)
          have h3 : a % b * 1 ≤ a % b * (b / (a % b)) := Nat.mul_le_mul_left _ h2
          rw [Nat.pow_succ] at hb
          omega
        rw [eu_gcd k m (a % b) (b % (a % b)) hh (by omega)]
        rw [Nat.gcd_comm b, Nat.gcd_rec (a % b) b, Nat.gcd_comm]
theorem natDivI (a b : Nat) : ((a : Int) % (b : Int)) = ((a % b : Nat) : Int) := (Int.natCast_emod a b).symm
theorem eu_loop (T L : D) : ∀ (n : Nat) (lo : Int) (a b : Nat), ∃ w x, VS.forF (VS.gN 4) (seqS (iteS (fun ρ => asB ((op2 eqO (rd 3) (kst (.int 0))) ρ)) bkS nxS) (par2S 2 3 (rd 3) (op2 modD (biF intD (consF (rd 2) nilF)) (rd 3)))) [4] (rng lo n) [some T, some L, some (.int (a : Nat)), some (.int (b : Nat)), none] = VS.ret (.nx [some T, some L, some (.int (eu n a b : Nat)), some (.int (w : Int)), x])
  | 0, lo, a, b => ⟨b, none, rfl⟩
  | n + 1, lo, a, b => by
    rw [rng_succ]
    have t := testE (ρ := [some T, some L, some (.int (a : Nat)), some (.int (b : Nat)), some (.int lo)]) (A := rd 3) (B := kst (.int 0)) (op := eqO) rfl rfl (eqO_i _ _)
    by_cases c : b = 0
    · subst c
      rw [decide_eq_true (by omega)] at t
      refine ⟨0, none, ?_⟩
      show bnd (ofO (some ([some T, some L, some (.int (a : Nat)), some (.int ((0 : Nat) : Int)), some (.int lo)] : VS.Env))) _ = _
      rw [ofO_s, bnd_ret]
      show bnd (bnd (iteS _ bkS nxS _) _) _ = _
      rw [VS.iteT t]
      rfl
    · rw [decide_eq_false (by omega)] at t
      obtain ⟨w, x, ih⟩ := eu_loop T L n (lo + 1) b (a % b)
      refine ⟨w, x, ?_⟩
      show bnd (ofO (some ([some T, some L, some (.int (a : Nat)), some (.int (b : Nat)), some (.int lo)] : VS.Env))) _ = _
      rw [ofO_s, bnd_ret, seqS_eq ((VS.iteN t).trans rfl), par2E (a := .int (b : Nat)) (b := .int ((a % b : Nat) : Int)) rfl (op2E (bi_eq (cons_eq rfl nil_eq) (int_i _)) rfl ((modD_ok (by omega)).trans (by rw [natDivI]))), bnd_ret]
      show VS.forF _ _ _ _ [some T, some L, some (.int (b : Nat)), some (.int ((a % b : Nat) : Int)), none] = _
      rw [show eu (n + 1) a b = eu n b (a % b) from if_neg c, ih]
theorem abs_natV (x : Int) : (if x < 0 then -x else x) = ((x.natAbs : Nat) : Int) := by split <;> omega
theorem over_eq {a b : Int} (b1 : 1 ≤ b) (bl : b < 2 ^ 60) : phi__law_over [.int a, .int b] = VS.ret (ltD a b) := by
  obtain ⟨n, rfl⟩ := Int.eq_ofNat_of_zero_le (show 0 ≤ b by omega)
  obtain ⟨w, x, e⟩ := eu_loop (.int a) (.int (n : Nat)) 400 0 a.natAbs n
  have hg : eu 400 a.natAbs n = Nat.gcd a.natAbs n := eu_gcd 60 400 a.natAbs n (by omega) (by decide)
  have g0 : 0 < Nat.gcd a.natAbs n := Nat.gcd_pos_of_pos_right _ (by omega)
  have g1 : Nat.gcd a.natAbs n ≤ n := Nat.gcd_le_right _ (by omega)
  rw [hg] at e
  refine body_eq (seqC (par2E (a := .int (a.natAbs : Nat)) (b := .int (n : Nat)) (bi_eq (cons_eq rfl nil_eq) ((absD_i _).trans (by rw [abs_natV]))) rfl) (seqC ((forS_eq (rng1E (j := 400) rfl (by decide) (by decide))).trans e) ?_))
  unfold ltD
  rw [Int.natAbs_natCast]
  generalize Nat.gcd a.natAbs n = g at *
  exact retS_eq (tup_eq (cons_eq (op2E rfl rfl (fdivD_ok (by omega) (by omega))) (cons_eq (op2E rfl rfl (fdivD_ok (by omega) (by omega))) nil_eq)) (le_rfl_n rfl))
/-! ### scaled numbers -/
structure Sc (ns ws : List Int) (u d : Int) : Prop where
  u0 : u ≠ 0
  d0 : 0 < d
  dv : ∀ n ∈ ns, d ∣ n * u
  e : ws = (if 0 < u then ns else ns.reverse).map fun n => n * u / d
def fi (u d x : Int) : Int := x * u / d
def si (u d x : Int) : Int := x * u * u / (d * d)
theorem fi_mul {u d x : Int} (h : d ∣ x * u) : fi u d x * d = x * u := Int.ediv_mul_cancel h
theorem Sc.sum_dv {ns ws : List Int} {u d : Int} (h : Sc ns ws u d) {s : Int} (hs : s ∈ sumsOf ns) : d ∣ s * u := by
  obtain ⟨a, ha, b, hb, rfl⟩ := mem_sumsOf.mp hs
  rw [Int.add_mul]
  exact Int.dvd_add (h.dv a ha) (h.dv b hb)
theorem Sc.prod_dv {ns ws : List Int} {u d : Int} (h : Sc ns ws u d) {p : Int} (hp : p ∈ prodsOf ns) : d * d ∣ p * u * u := by
  obtain ⟨a, ha, b, hb, rfl⟩ := mem_prodsOf.mp hp
  obtain ⟨x, hx⟩ := h.dv a ha
  obtain ⟨y, hy⟩ := h.dv b hb
  exact ⟨x * y, by grind⟩
theorem Sc.mem {ns ws : List Int} {u d : Int} (h : Sc ns ws u d) {x : Int} : x ∈ ws ↔ ∃ n ∈ ns, x = fi u d n := by
  rw [h.e, List.mem_map]
  have : ∀ n, n ∈ (if 0 < u then ns else ns.reverse) ↔ n ∈ ns := fun n => by split <;> simp
  exact ⟨fun ⟨n, hn, e⟩ => ⟨n, (this n).mp hn, e.symm⟩, fun ⟨n, hn, e⟩ => ⟨n, (this n).mpr hn, e.symm⟩⟩
theorem Sc.perm {ns ws : List Int} {u d : Int} (h : Sc ns ws u d) : ws.Perm (ns.map (fi u d)) := by
  rw [h.e]
  split
  · exact .refl _
  · exact (List.reverse_perm _).map _
theorem fi_lt {u d x y : Int} (d0 : 0 < d) (hx : d ∣ x * u) (hy : d ∣ y * u) : fi u d x < fi u d y ↔ x * u < y * u := by
  have e1 := fi_mul hx
  have e2 := fi_mul hy
  constructor
  · intro h
    have := Int.mul_lt_mul_of_pos_right h d0
    omega
  · intro h
    refine Int.not_le.mp fun c => ?_
    have := Int.mul_le_mul_of_nonneg_right c (Int.le_of_lt d0)
    omega
theorem Sc.sums {ns ws : List Int} {u d : Int} (h : Sc ns ws u d) : sumsOf ws = (if 0 < u then sumsOf ns else (sumsOf ns).reverse).map (fi u d) := by
  refine rising_one (once_rising _) ?_ fun x => ?_
  · rw [List.pairwise_map]
    have hr : (sumsOf ns).Pairwise (· < ·) := once_rising _
    by_cases c : 0 < u
    · rw [if_pos c]
      refine hr.imp_of_mem fun ha hb hlt => (fi_lt h.d0 (h.sum_dv ha) (h.sum_dv hb)).mpr (Int.mul_lt_mul_of_pos_right hlt c)
    · rw [if_neg c, List.pairwise_reverse]
      refine hr.imp_of_mem fun ha hb hlt => (fi_lt h.d0 (h.sum_dv hb) (h.sum_dv ha)).mpr ?_
      exact Int.mul_lt_mul_of_neg_right hlt (by have := h.u0; omega)
  · have m1 : x ∈ (if 0 < u then sumsOf ns else (sumsOf ns).reverse).map (fi u d) ↔ ∃ s ∈ sumsOf ns, x = fi u d s := by
      rw [List.mem_map]
      have : ∀ n, n ∈ (if 0 < u then sumsOf ns else (sumsOf ns).reverse) ↔ n ∈ sumsOf ns := fun n => by split <;> simp
      exact ⟨fun ⟨n, hn, e⟩ => ⟨n, (this n).mp hn, e.symm⟩, fun ⟨n, hn, e⟩ => ⟨n, (this n).mpr hn, e.symm⟩⟩
    rw [m1, mem_sumsOf]
    have add : ∀ a ∈ ns, ∀ b ∈ ns, fi u d a + fi u d b = fi u d (a + b) := fun a ha b hb => by
      unfold fi
      rw [Int.add_mul, Int.add_ediv_of_dvd_left (h.dv a ha)]
    constructor
    · rintro ⟨a', ha', b', hb', rfl⟩
      obtain ⟨a, ha, rfl⟩ := h.mem.mp ha'
      obtain ⟨b, hb, rfl⟩ := h.mem.mp hb'
      exact ⟨a + b, mem_sumsOf.mpr ⟨a, ha, b, hb, rfl⟩, add a ha b hb⟩
    · rintro ⟨s, hs, rfl⟩
      obtain ⟨a, ha, b, hb, rfl⟩ := mem_sumsOf.mp hs
      exact ⟨fi u d a, h.mem.mpr ⟨a, ha, rfl⟩, fi u d b, h.mem.mpr ⟨b, hb, rfl⟩, (add a ha b hb).symm⟩
theorem si_mul {u d x : Int} (h : d * d ∣ x * u * u) : si u d x * (d * d) = x * u * u := Int.ediv_mul_cancel h
theorem sq_pos {u : Int} (h : u ≠ 0) : 0 < u * u := by
  rcases Int.lt_trichotomy u 0 with c | c | c
  · exact Int.mul_pos_of_neg_of_neg c c
  · exact (h c).elim
  · exact Int.mul_pos c c
theorem Sc.prods {ns ws : List Int} {u d : Int} (h : Sc ns ws u d) : prodsOf ws = (prodsOf ns).map (si u d) := by
  have uu := sq_pos h.u0
  have dd : 0 < d * d := Int.mul_pos h.d0 h.d0
  refine rising_one (once_rising _) ?_ fun x => ?_
  · rw [List.pairwise_map]
    have hr : (prodsOf ns).Pairwise (· < ·) := once_rising _
    refine hr.imp_of_mem fun {a b} ha hb hlt => ?_
    have e1 := si_mul (h.prod_dv ha)
    have e2 := si_mul (h.prod_dv hb)
    have e3 := Int.mul_lt_mul_of_pos_right hlt uu
    rw [← Int.mul_assoc, ← Int.mul_assoc] at e3
    refine Int.not_le.mp fun c => ?_
    have := Int.mul_le_mul_of_nonneg_right c (Int.le_of_lt dd)
    omega
  · rw [List.mem_map, mem_prodsOf]
    have mul : ∀ a ∈ ns, ∀ b ∈ ns, fi u d a * fi u d b = si u d (a * b) := fun a ha b hb => by
      have e1 := fi_mul (h.dv a ha)
      have e2 := fi_mul (h.dv b hb)
      have e3 := si_mul (h.prod_dv (mem_prodsOf.mpr ⟨a, ha, b, hb, rfl⟩))
      refine Int.eq_of_mul_eq_mul_right (show d * d ≠ 0 by omega) ?_
      grind
    constructor
    · rintro ⟨a', ha', b', hb', rfl⟩
      obtain ⟨a, ha, rfl⟩ := h.mem.mp ha'
      obtain ⟨b, hb, rfl⟩ := h.mem.mp hb'
      exact ⟨a * b, mem_prodsOf.mpr ⟨a, ha, b, hb, rfl⟩, (mul a ha b hb).symm⟩
    · rintro ⟨p, hp, rfl⟩
      obtain ⟨a, ha, b, hb, rfl⟩ := mem_prodsOf.mp hp
      exact ⟨fi u d a, h.mem.mpr ⟨a, ha, rfl⟩, fi u d b, h.mem.mpr ⟨b, hb, rfl⟩, (mul a ha b hb).symm⟩
theorem lt_scale {t L s v d : Int} (d0 : 0 < d) (L0 : 0 < L) (h1 : t * d = s) (h2 : L * d = v) : ltD t L = ltD s v := by
  unfold ltD
  subst h1 h2
  have g : Nat.gcd (t * d).natAbs (L * d).natAbs = Nat.gcd t.natAbs L.natAbs * d.natAbs := by rw [Int.natAbs_mul, Int.natAbs_mul, Nat.gcd_mul_right]
  have g0 : 0 < Nat.gcd t.natAbs L.natAbs := Nat.gcd_pos_of_pos_right _ (by omega)
  rw [g]
  have dc : ((Nat.gcd t.natAbs L.natAbs * d.natAbs : Nat) : Int) = d * ((Nat.gcd t.natAbs L.natAbs : Nat) : Int) := by
    rw [Int.natCast_mul, Int.mul_comm, Int.natAbs_of_nonneg (Int.le_of_lt d0)]
  rw [dc, Int.mul_comm t d, Int.mul_comm L d, Int.mul_ediv_mul_of_pos _ _ d0, Int.mul_ediv_mul_of_pos _ _ d0]
theorem Sc.hit {ns ws : List Int} {u d : Int} (h : Sc ns ws u d) {a b : Int} (ha : a ∈ ns) (hb : b ∈ ns) : Lw.hit (prodsOf ws) (sumsOf ws) (fi u d a) (fi u d b) = Lw.hit (prodsOf ns) (sumsOf ns) a b := by
  have uu := sq_pos h.u0
  have dd : 0 < d * d := Int.mul_pos h.d0 h.d0
  have p1 : (sumsOf ws).Perm ((sumsOf ns).map (fi u d)) := by
    rw [h.sums]
    split
    · exact .refl _
    · exact (List.reverse_perm _).map _
  unfold Lw.hit
  rw [(p1.filter _).length_eq, List.filter_map, List.length_map]
  congr 2
  refine List.filter_congr fun s hs => ?_
  show decide (fi u d a * (fi u d s - fi u d b) ∈ prodsOf ws) = decide (a * (s - b) ∈ prodsOf ns)
  refine decide_eq_decide.mpr ?_
  rw [h.prods, List.mem_map]
  have e1 := fi_mul (h.dv a ha)
  have e2 := fi_mul (h.dv b hb)
  have e3 := fi_mul (h.sum_dv hs)
  have key : fi u d a * (fi u d s - fi u d b) * (d * d) = a * (s - b) * (u * u) := by grind
  constructor
  · rintro ⟨p, hp, e⟩
    have e4 := si_mul (h.prod_dv hp)
    rw [e] at e4
    have : a * (s - b) * (u * u) = p * (u * u) := by rw [← key, e4, Int.mul_assoc]
    rw [Int.eq_of_mul_eq_mul_right (show u * u ≠ 0 by omega) this]
    exact hp
  · intro hp
    refine ⟨_, hp, ?_⟩
    have e4 := si_mul (h.prod_dv hp)
    exact Int.eq_of_mul_eq_mul_right (show d * d ≠ 0 by omega) (by rw [e4, key, Int.mul_assoc])
theorem Sc.sm {ns ws : List Int} {u d : Int} (h : Sc ns ws u d) : SM ws = SM ns := by
  unfold SM
  rw [ls_perm h.perm, ls_map]
  refine ls_congr fun a ha => ?_
  rw [ls_perm h.perm, ls_map]
  exact ls_congr fun b hb => h.hit ha hb
end Lw
set_option Elab.async false
set_option linter.all false
set_option maxRecDepth 100000
namespace Lw
open PySem VS L2
local macro_rules | `(tactic| walk_at "ve") => `(tactic| repeat' first
  | ((with_reducible apply rdE); exact rfl) | with_reducible exact kstE | with_reducible exact nil_eq
  | with_reducible assumption
  | with_reducible apply op2E | with_reducible apply cons_eq | with_reducible apply bi_eq
  | with_reducible exact addD_i _ _ | with_reducible exact subD_i _ _ | with_reducible exact mulD_ok (by decide) | with_reducible exact ordD_i _ _ _ | with_reducible exact eqO_i _ _ | with_reducible exact neO_i _ _
  | ((with_reducible apply modD_ok); first | decide | omega) | ((with_reducible apply fdivD_ok) <;> first | decide | omega)
  | with_reducible exact max_i _ _ | with_reducible exact min_i _ _ | with_reducible exact max3_i _ _ _ | with_reducible exact min3_i _ _ _ | with_reducible exact int_i _ | with_reducible exact absD_i _ | with_reducible exact len_l _ | with_reducible exact len_t _ | with_reducible exact tupleD_l _ | with_reducible exact tupleD_t _ | with_reducible exact listD_l _ | with_reducible exact listH_l _ | with_reducible exact listH_t _
  | with_reducible apply negE | with_reducible apply testE | with_reducible apply notE | with_reducible apply truE | with_reducible apply tup_eq | with_reducible apply lstE | with_reducible apply ixE
  | with_reducible apply call_eq | exact (rfl : List.length _ = _) | exact le_rfl_n rfl)
local macro_rules | `(tactic| walk_at "st") => `(tactic| first
  | ((with_reducible apply seqQ0); focus (walk_at "ve"; done)) | ((with_reducible apply seqQ1); focus (walk_at "ve"; done)) | ((with_reducible apply seqQ2); focus (walk_at "ve"; done)) | ((with_reducible apply seqQ3); focus (walk_at "ve"; done)) | ((with_reducible apply seqQ4); focus (walk_at "ve"; done)) | ((with_reducible apply seqQ5); focus (walk_at "ve"; done)) | ((with_reducible apply seqQ6); focus (walk_at "ve"; done)) | ((with_reducible apply seqQ7); focus (walk_at "ve"; done)) | ((with_reducible apply seqQ8); focus (walk_at "ve"; done)) | ((with_reducible apply seqQ9); focus (walk_at "ve"; done)) | ((with_reducible apply seqQ10); focus (walk_at "ve"; done)) | ((with_reducible apply seqQ11); focus (walk_at "ve"; done)) | ((with_reducible apply seqQ12); focus (walk_at "ve"; done)) | ((with_reducible apply seqQ13); focus (walk_at "ve"; done)) | ((with_reducible apply seqQ14); focus (walk_at "ve"; done)) | ((with_reducible apply seqQ15); focus (walk_at "ve"; done)))
local macro_rules | `(tactic| walk_at "es") => `(tactic| first
  | ((with_reducible apply Ev.sT0); focus (walk_at "ve"; done)) | ((with_reducible apply Ev.sT1); focus (walk_at "ve"; done)) | ((with_reducible apply Ev.sT2); focus (walk_at "ve"; done)) | ((with_reducible apply Ev.sT3); focus (walk_at "ve"; done)) | ((with_reducible apply Ev.sT4); focus (walk_at "ve"; done)) | ((with_reducible apply Ev.sT5); focus (walk_at "ve"; done)) | ((with_reducible apply Ev.sT6); focus (walk_at "ve"; done)) | ((with_reducible apply Ev.sT7); focus (walk_at "ve"; done)) | ((with_reducible apply Ev.sT8); focus (walk_at "ve"; done)) | ((with_reducible apply Ev.sT9); focus (walk_at "ve"; done)) | ((with_reducible apply Ev.sT10); focus (walk_at "ve"; done)) | ((with_reducible apply Ev.sT11); focus (walk_at "ve"; done)) | ((with_reducible apply Ev.sT12); focus (walk_at "ve"; done)) | ((with_reducible apply Ev.sT13); focus (walk_at "ve"; done)) | ((with_reducible apply Ev.sT14); focus (walk_at "ve"; done)) | ((with_reducible apply Ev.sT15); focus (walk_at "ve"; done)))
def pr (rows : List Int) (op : Int → Int → Int) (i : Nat) : List Int := (List.range i).flatMap fun j => (rows.drop j).map fun x => op (rows[j]?.getD 0) x
theorem pr_mem {rows : List Int} {op : Int → Int → Int} (hc : ∀ a b, op a b = op b a) {z : Int} : z ∈ pr rows op rows.length ↔ ∃ a ∈ rows, ∃ b ∈ rows, z = op a b := by
  unfold pr
  rw [List.mem_flatMap]
  constructor
  · rintro ⟨j, hj, h⟩
    rw [List.mem_range] at hj
    obtain ⟨x, hx, rfl⟩ := List.mem_map.mp h
    exact ⟨_, by rw [List.getElem?_eq_getElem hj]; exact List.getElem_mem hj, x, List.mem_of_mem_drop hx, rfl⟩
  · have one : ∀ i j, i ≤ j → ∀ (hi : i < rows.length) (hj : j < rows.length), ∃ k ∈ List.range rows.length, op rows[i] rows[j] ∈ (rows.drop k).map fun x => op (rows[k]?.getD 0) x := fun i j h hi hj => by
      refine ⟨i, List.mem_range.mpr hi, List.mem_map.mpr ⟨rows[j], ?_, by rw [List.getElem?_eq_getElem hi]; rfl⟩⟩
      rw [List.mem_iff_getElem?]
      exact ⟨j - i, by rw [List.getElem?_drop, show i + (j - i) = j by omega, List.getElem?_eq_getElem hj]⟩
    rintro ⟨a, ha, b, hb, rfl⟩
    obtain ⟨i, hi, rfl⟩ := List.mem_iff_getElem.mp ha
    obtain ⟨j, hj, rfl⟩ := List.mem_iff_getElem.mp hb
    rcases Nat.le_total i j with c | c
    · exact one i j c hi hj
    · rw [hc]; exact one j i c hj hi
theorem pr_len (rows : List Int) (op : Int → Int → Int) : ∀ i, (pr rows op i).length ≤ i * rows.length
  | 0 => by simp [pr]
  | i + 1 => by
    have := pr_len rows op i
    unfold pr at *
    rw [List.range_succ, List.flatMap_append, List.length_append, List.flatMap_cons, List.flatMap_nil, List.append_nil, List.length_map, List.length_drop, Nat.succ_mul]
    omega
theorem pr_succ (rows : List Int) (op : Int → Int → Int) (i : Nat) : pr rows op (i + 1) = pr rows op i ++ (rows.drop i).map fun x => op (rows[i]?.getD 0) x := by
  unfold pr
  rw [List.range_succ, List.flatMap_append, List.flatMap_cons, List.flatMap_nil, List.append_nil]
theorem addK_map (f : Int → Int) : ∀ (l ms : List Int), l.foldl (fun ms x => addK ms (f x)) ms = (l.map f).foldl addK ms
  | [], _ => rfl
  | x :: r, ms => by rw [List.foldl_cons, List.map_cons, List.foldl_cons, addK_map f r]
theorem cut_fr {α : Type} (xs : List α) (k : Nat) (hk : k ≤ xs.length) : cut xs (some (k : Int)) none = xs.drop k := by
  unfold cut
  have h1 : HT.sIx xs.length 0 (some (k : Int)) = k := by
    rw [HT.sIx_nat]
    omega
  have h2 : HT.sIx xs.length xs.length none = xs.length := rfl
  rw [h1, h2, List.take_of_length_le (by rw [List.length_drop]; omega)]
theorem enum_i : ∀ (j : Nat) (xs : List Int), enumAt j (xs.map .int) = (List.range xs.length).map fun k => .tup [.int ((j + k : Nat) : Int), .int (xs[k]?.getD 0)]
  | _, [] => rfl
  | j, x :: r => by
    rw [List.length_cons, List.range_succ_eq_map]
    show D.tup [.int (j : Nat), .int x] :: enumAt (j + 1) (r.map .int) = D.tup [.int ((j + 0 : Nat) : Int), .int x] :: ((List.range r.length).map Nat.succ).map _
    rw [List.map_map, enum_i (j + 1) r, Nat.add_zero]
    congr 1
    refine List.map_congr_left fun k _ => ?_
    show D.tup [.int ((j + 1 + k : Nat) : Int), _] = D.tup [.int ((j + (k + 1) : Nat) : Int), _]
    rw [show j + 1 + k = j + (k + 1) by omega]
    rfl
theorem keys_ints {ρ : VS.Env} {A : VS.Env → M D} {ms : List Int} {f : Int → D} {vs : List Nat} {i : Nat} (h : A ρ = VS.ret (dki ms f)) (hl : ms.length ≤ 16777216) (hb : ∀ x : Int, ∃ ρ1, VS.gN i (.int x) (fg ρ vs) = some ρ1 ∧ rd i ρ1 = VS.ret (.int x)) : lcS vs (keysI A) (VS.gN i) yesB (biF intD (consF (rd i) nilF)) ρ = VS.ret (.lst (ms.map .int)) :=
  lcS_m (α := Int) (en := D.int) (ge := D.int) ms (keys_dki h) hl fun x _ => by
    obtain ⟨ρ1, e1, e2⟩ := hb x
    exact ⟨ρ1, e1, bi_eq (cons_eq e2 nil_eq) (int_i _)⟩
theorem pairG (φ : D → D → Option D) (op : Int → Int → Int) (hc : ∀ a b, op a b = op b a) {rows : List Int} (hl : rows.length ≤ 100) (hop : ∀ a ∈ rows, ∀ b ∈ rows, φ (.int a) (.int b) = some (.int (op a b))) :
    bodyF false 6 (seqS (setS 1 (kst (.dk [] []))) (seqS (forS [2, 3, 4] (enumI (rd 0)) (VS.gTup 2 (VS.gCons (VS.gN 2) (VS.gCons (VS.gN 3) VS.gNil))) (forS [4] (seqF (slL (rd 0) (partF (rd 2)) partN)) (VS.gN 4) (dputS 1 (op2 φ (rd 3) (rd 4)) (kst (.bl true))))) (retS (biF sortedH (consF (lcS [5] (keysI (rd 1)) (VS.gN 5) yesB (biF intD (consF (rd 5) nilF))) nilF))))) [.lst (rows.map .int)] = VS.ret (.lst ((once (rows.flatMap fun a => rows.map fun b => op a b)).map .int)) := by
  let tt : Int → D := fun _ => .bl true
  let K : Nat → List Int := fun i => (pr rows op i).foldl addK []
  have kl : ∀ i, i ≤ rows.length → (K i).length ≤ 10000 := fun i hi => by
    have h1 := foldK_len (pr rows op i) (ms := [])
    have h2 := pr_len rows op i
    have h3 := Nat.mul_le_mul hi (Nat.le_refl rows.length)
    have h4 := Nat.mul_le_mul hl hl
    simp only [List.length_nil] at h1
    show ((pr rows op i).foldl addK []).length ≤ _
    omega
  let R : List Int → VS.Env := fun ms => [some (.lst (rows.map .int)), some (dki ms tt), none, none, none, none]
  have src : enumI (rd 0) (R []) = VS.ret ((List.range rows.length).map fun k => D.tup [.int (k : Nat), .int (rows[k]?.getD 0)]) := by
    show ofO (some (enumAt 0 (rows.map .int))) = _
    rw [enum_i, ofO_s]
    refine congrArg VS.ret (List.map_congr_left fun k _ => ?_)
    rw [Nat.zero_add]
  have ff : ∀ n : Nat, (List.range n).foldl (fun ms k => ((rows.drop k).map fun x => op (rows[k]?.getD 0) x).foldl addK ms) [] = K n := fun n => by
    induction n with
    | zero => rfl
    | succ n ih =>
      rw [List.range_succ, List.foldl_append, ih]
      show List.foldl addK (List.foldl addK [] (pr rows op n)) _ = List.foldl addK [] (pr rows op (n + 1))
      rw [← List.foldl_append, pr_succ]
  refine body_eq (seqQ1 (d := dki [] tt) rfl (seqC (ρ1 := R (K rows.length)) ((forS_eq src).trans ((loopI R (fun ms k => ((rows.drop k).map fun x => op (rows[k]?.getD 0) x).foldl addK ms) (fun ms n => ms.length + n * 100 ≤ 20000) (fun k => D.tup [.int (k : Nat), .int (rows[k]?.getD 0)]) (List.range rows.length) [] (by rw [List.length_range]; simp; omega) fun ms k hk n hn => ?_).trans (by rw [ff]))) ?_))
  · rw [List.mem_range] at hk
    have hr : rows[k]?.getD 0 ∈ rows := by rw [List.getElem?_eq_getElem hk]; exact List.getElem_mem hk
    generalize rows[k]?.getD 0 = a at *
    refine ⟨by have := foldK_len ((rows.drop k).map fun x => op a x) (ms := ms); rw [List.length_map, List.length_drop] at this; omega, [some (.lst (rows.map .int)), some (dki ms tt), some (.int (k : Nat)), some (.int a), none, none], rfl, [some (.lst (rows.map .int)), some (dki (((rows.drop k).map fun x => op a x).foldl addK ms) tt), some (.int (k : Nat)), some (.int a), none, none], ?_, rfl⟩
    refine (forS_eq (ds := (rows.drop k).map .int) (seqFl ?_)).trans ((loopI (fun ms : List Int => [some (.lst (rows.map .int)), some (dki ms tt), some (.int (k : Nat)), some (.int a), none, none]) (fun ms x => addK ms (op a x)) (fun ms n => ms.length + n ≤ 40000) D.int (rows.drop k) ms (by rw [List.length_drop]; omega) fun ms x hx n hn => ?_).trans (by rw [addK_map]))
    · show VS.ret (D.lst (cut (rows.map D.int) (some ((k : Nat) : Int)) none)) = _
      rw [cut_fr _ _ (by rw [List.length_map]; omega), List.map_drop]
    · refine ⟨by have := @addK_len ms (op a x); omega, _, rfl, _, dput_dki (ms := ms) (f := tt) (k := op a x) (d := .bl true) rfl rfl (op2E rfl rfl (hop a hr x (List.mem_of_mem_drop hx))) (by omega), ?_⟩
      show [_, some (dki _ _), _, _, _, _] = _
      rw [dki_congr (f := fun m => if m = op a x then D.bl true else tt m) (g := tt) fun m _ => by show (if _ then D.bl true else D.bl true) = D.bl true; split <;> rfl]
  have kk := kl rows.length (Nat.le_refl _)
  refine retS_eq (bi_eq (cons_eq (keys_ints (ms := K rows.length) (f := tt) rfl (by omega) fun x => ⟨_, rfl, rfl⟩) nil_eq) ((sortedH_i _).trans ?_))
  rw [sort_once (foldK_nodup _ List.nodup_nil)]
  congr 3
  refine once_congr fun z => ?_
  rw [foldK_mem, pr_mem hc, List.mem_flatMap]
  constructor
  · rintro (h | ⟨a, ha, b, hb, rfl⟩)
    · cases h
    · exact ⟨a, ha, List.mem_map.mpr ⟨b, hb, rfl⟩⟩
  · rintro ⟨a, ha, h⟩
    obtain ⟨b, hb, rfl⟩ := List.mem_map.mp h
    exact .inr ⟨a, ha, b, hb, rfl⟩
theorem osums_eq {rows : List Int} (hl : rows.length ≤ 100) : phi__law_sums [.lst (rows.map .int)] = VS.ret (.lst ((sumsOf rows).map .int)) := pairG addD (fun a b => a + b) Int.add_comm hl fun _ _ _ _ => addD_i _ _
theorem oprods_eq {rows : List Int} (hl : rows.length ≤ 100) (hz : ∀ a ∈ rows, a.natAbs < 2 ^ 40) : phi__law_products [.lst (rows.map .int)] = VS.ret (.lst ((prodsOf rows).map .int)) := pairG mulD (fun a b => a * b) Int.mul_comm hl fun a ha b hb => by
  haveI : Sz 40 a := ⟨hz a ha⟩
  haveI : Sz 40 b := ⟨hz b hb⟩
  exact mulD_ok (by decide)
theorem count_eq {ws : List Int} (hn : ws.length ≤ 100) (hz : ∀ a ∈ ws, a.natAbs < 2 ^ 40) : phi__law_count [.lst (ws.map .int), .lst ((sumsOf ws).map .int), .lst ((prodsOf ws).map .int)] = VS.ret (.int (SM ws)) := by
  have lS := sumsOf_len hn
  have lP := prodsOf_len hn
  let tt : Int → D := fun _ => .bl true
  let Kn := dki ((prodsOf ws).foldl addK []) tt
  let A : D := .lst (ws.map .int)
  let B : D := .lst ((sumsOf ws).map .int)
  let C : D := .lst ((prodsOf ws).map .int)
  refine body_eq (seqC (par2E (a := dki [] tt) (b := .int 0) rfl rfl) (seqC (ρ1 := [some A, some B, some C, some Kn, some (.int 0), none, none, none, none]) ((forS_eq (ds := (prodsOf ws).map .int) (seqFl rfl)).trans (loopI (fun ms : List Int => [some A, some B, some C, some (dki ms tt), some (.int 0), none, none, none, none]) addK (fun ms n => ms.length + n ≤ 20000) D.int (prodsOf ws) [] (by simp; omega) fun ms x hx n hn => ?_)) ?_))
  · refine ⟨by have := @addK_len ms x; omega, _, rfl, _, dput_dki (ms := ms) (f := tt) (k := x) (d := .bl true) rfl rfl rfl (by omega), ?_⟩
    show [_, _, _, some (dki _ _), _, _, _, _, _] = _
    rw [dki_congr (f := fun m => if m = x then D.bl true else tt m) (g := tt) fun m _ => by show (if _ then D.bl true else D.bl true) = D.bl true; split <;> rfl]
  let R : Int → VS.Env := fun m => [some A, some B, some C, some Kn, some (.int m), none, none, none, none]
  refine seqC (ρ1 := R (SM ws)) ((forS_eq (ds := ws.map .int) (seqFl rfl)).trans ((loopL (σ := Int) R (fun m a => m + ls ws fun b => hit (prodsOf ws) (sumsOf ws) a b) D.int ws 0 fun m a ha => ?_).trans (by rw [ls_fold, Int.zero_add]; rfl))) (retS_eq rfl)
  refine ⟨_, rfl, [some A, some B, some C, some Kn, some (.int (m + ls ws fun b => hit (prodsOf ws) (sumsOf ws) a b)), none, some (.int a), none, none], ?_, rfl⟩
  refine (forS_eq (ds := ws.map .int) (seqFl rfl)).trans ((loopL (σ := Int) (fun m => [some A, some B, some C, some Kn, some (.int m), none, some (.int a), none, none]) (fun m b => m + hit (prodsOf ws) (sumsOf ws) a b) D.int ws m fun m b hb => ?_).trans (by rw [ls_fold]))
  refine ⟨_, rfl, [some A, some B, some C, some Kn, some (.int (m + hit (prodsOf ws) (sumsOf ws) a b)), none, some (.int a), some (.int b), none], ?_, rfl⟩
  have za := hz a ha
  have zb := hz b hb
  refine setS_eq (op2E rfl (bi_eq (cons_eq (lcS_f (α := Int) (en := D.int) (ge := D.int) (t := fun s => decide (a * (s - b) ∈ prodsOf ws)) (sumsOf ws) (seqFl rfl) (by omega) fun s hs => ⟨_, rfl, ?_, rfl⟩) nil_eq) ((len_l _).trans (by rw [List.length_map]; rfl))) (addD_i _ _))
  have zs := once_sz hz s hs
  haveI : Sz 40 a := ⟨za⟩
  haveI : Sz 43 (s - b) := ⟨by omega⟩
  refine testE (op2E rfl (op2E rfl rfl (subD_i _ _)) (mulD_ok (by decide))) rfl (dki_in.trans ?_)
  congr 2
  exact decide_eq_decide.mpr ((foldK_mem _ _).trans (by simp))
end Lw
set_option Elab.async false
set_option linter.all false
set_option maxRecDepth 100000
namespace Lw
open PySem VS L2
local macro_rules | `(tactic| walk_at "ve") => `(tactic| repeat' first
  | ((with_reducible apply rdE); exact rfl) | with_reducible exact kstE | with_reducible exact nil_eq
  | with_reducible assumption
  | with_reducible apply op2E | with_reducible apply cons_eq | with_reducible apply bi_eq
  | with_reducible exact addD_i _ _ | with_reducible exact subD_i _ _ | with_reducible exact mulD_ok (by decide) | with_reducible exact ordD_i _ _ _ | with_reducible exact eqO_i _ _ | with_reducible exact neO_i _ _
  | ((with_reducible apply modD_ok); first | decide | omega) | ((with_reducible apply fdivD_ok) <;> first | decide | omega)
  | with_reducible exact max_i _ _ | with_reducible exact min_i _ _ | with_reducible exact max3_i _ _ _ | with_reducible exact min3_i _ _ _ | with_reducible exact int_i _ | with_reducible exact absD_i _ | with_reducible exact len_l _ | with_reducible exact len_t _ | with_reducible exact tupleD_l _ | with_reducible exact tupleD_t _ | with_reducible exact listD_l _ | with_reducible exact listH_l _ | with_reducible exact listH_t _
  | with_reducible apply negE | with_reducible apply testE | with_reducible apply notE | with_reducible apply truE | with_reducible apply tup_eq | with_reducible apply lstE | with_reducible apply ixE
  | with_reducible apply call_eq | exact (rfl : List.length _ = _) | exact le_rfl_n rfl)
local macro_rules | `(tactic| walk_at "st") => `(tactic| first
  | ((with_reducible apply seqQ0); focus (walk_at "ve"; done)) | ((with_reducible apply seqQ1); focus (walk_at "ve"; done)) | ((with_reducible apply seqQ2); focus (walk_at "ve"; done)) | ((with_reducible apply seqQ3); focus (walk_at "ve"; done)) | ((with_reducible apply seqQ4); focus (walk_at "ve"; done)) | ((with_reducible apply seqQ5); focus (walk_at "ve"; done)) | ((with_reducible apply seqQ6); focus (walk_at "ve"; done)) | ((with_reducible apply seqQ7); focus (walk_at "ve"; done)) | ((with_reducible apply seqQ8); focus (walk_at "ve"; done)) | ((with_reducible apply seqQ9); focus (walk_at "ve"; done)) | ((with_reducible apply seqQ10); focus (walk_at "ve"; done)) | ((with_reducible apply seqQ11); focus (walk_at "ve"; done)) | ((with_reducible apply seqQ12); focus (walk_at "ve"; done)) | ((with_reducible apply seqQ13); focus (walk_at "ve"; done)) | ((with_reducible apply seqQ14); focus (walk_at "ve"; done)) | ((with_reducible apply seqQ15); focus (walk_at "ve"; done)))
local macro_rules | `(tactic| walk_at "es") => `(tactic| first
  | ((with_reducible apply Ev.sT0); focus (walk_at "ve"; done)) | ((with_reducible apply Ev.sT1); focus (walk_at "ve"; done)) | ((with_reducible apply Ev.sT2); focus (walk_at "ve"; done)) | ((with_reducible apply Ev.sT3); focus (walk_at "ve"; done)) | ((with_reducible apply Ev.sT4); focus (walk_at "ve"; done)) | ((with_reducible apply Ev.sT5); focus (walk_at "ve"; done)) | ((with_reducible apply Ev.sT6); focus (walk_at "ve"; done)) | ((with_reducible apply Ev.sT7); focus (walk_at "ve"; done)) | ((with_reducible apply Ev.sT8); focus (walk_at "ve"; done)) | ((with_reducible apply Ev.sT9); focus (walk_at "ve"; done)) | ((with_reducible apply Ev.sT10); focus (walk_at "ve"; done)) | ((with_reducible apply Ev.sT11); focus (walk_at "ve"; done)) | ((with_reducible apply Ev.sT12); focus (walk_at "ve"; done)) | ((with_reducible apply Ev.sT13); focus (walk_at "ve"; done)) | ((with_reducible apply Ev.sT14); focus (walk_at "ve"; done)) | ((with_reducible apply Ev.sT15); focus (walk_at "ve"; done)))
/-! ### drawn numbers -/
structure Nm (ns : List Int) : Prop where
  r : ns.Pairwise (· < ·)
  n : ns ≠ []
  l : ns.length ≤ 16
  z : ∀ a ∈ ns, a ≠ 0 ∧ a.natAbs ≤ 1000
theorem pk {W : Wd} (hw : OkL W) {A K : VS.Env → M D} {ρ : VS.Env} {ns : List Int} (ha : A ρ = VS.ret .bag) (hk : K ρ = VS.ret (.lst (ns.map .int))) (h0 : 0 < ns.length) (h1 : ns.length < 1000) : Ev (callF (phi__law_pick) 2 (consF A (consF K nilF)) ρ) W fun d W' => OkL W' ∧ ∃ x ∈ ns, d = .int x :=
  .rw (callE (ds := [.bag, .lst (ns.map .int)]) (cons_eq ha (cons_eq hk nil_eq)) rfl) (pick_i hw h0 (by omega))
theorem pm_ev {W : Wd} (hw : OkL W) {ρ : VS.Env} (ha : rd 0 ρ = VS.ret .bag) : Ev (callF (phi__law_pick) 2 (consF (rd 0) (consF (lstF (consF (kst (.int 1)) (consF (negV (kst (.int 1))) nilF))) nilF)) ρ) W fun d W' => OkL W' ∧ ∃ x : Int, (x = 1 ∨ x = -1) ∧ d = .int x := by
  refine (pk hw (ns := [1, -1]) ha (lstE (cons_eq rfl (cons_eq (negE' (i := 1) rfl rfl) nil_eq)) (le_rfl_n rfl)) (by decide) (by decide)).mono ?_
  rintro _ W ⟨hw, x, hx, rfl⟩
  exact ⟨hw, x, by simpa using hx, rfl⟩
theorem nm_of {xs : List Int} (nd : xs.Nodup) (hn : xs ≠ []) (hl : xs.length ≤ 16) (hz : ∀ a ∈ xs, a ≠ 0 ∧ a.natAbs ≤ 1000) : Nm (sortI xs) := by
  refine ⟨?_, fun h => hn ?_, by rw [sortI_len]; exact hl, fun a ha => hz a ((sortI_perm _).mem_iff.mp ha)⟩
  · rw [sort_once nd]; exact once_rising _
  · have := sortI_len xs
    rw [h] at this
    exact List.eq_nil_of_length_eq_zero this.symm
theorem some_ev {W : Wd} (hw : OkL W) {many far : Int} (m1 : 1 ≤ many) (m2 : many ≤ 16) (f1 : 1 ≤ far) (f2 : far ≤ 1000) : Ev (phi__law_some [.bag, .int many, .int far]) W fun d W' => OkL W' ∧ ∃ ns, d = .lst (ns.map .int) ∧ Nm ns := by
  let tt : Int → D := fun _ => .bl true
  haveI : Sz 20 many := ⟨by omega⟩
  refine Ev.body (.sT3 (d := dki [] tt) rfl ?_)
  refine .seqS (.forS (.eq (rng1E (j := 3 * many) (op2E rfl rfl (mulD_ok (by decide))) (by omega) (by omega)) ?_))
  refine (Ev.forF (Q := fun o W' => OkL W' ∧ ∃ ms x, o = .nx [some .bag, some (.int many), some (.int far), some (dki ms tt), none, x] ∧ ms.Nodup ∧ ms ≠ [] ∧ (ms.length : Int) ≤ many ∧ ∀ x ∈ ms, x ≠ 0 ∧ x.natAbs ≤ 1000)
    (fun ds ρ W' => OkL W' ∧ ∃ (ms : List Int) (x : Option D), ρ = [some .bag, some (.int many), some (.int far), some (dki ms tt), none, x] ∧ ms.Nodup ∧ (ms ≠ [] ∨ ds ≠ []) ∧ (ms.length : Int) ≤ many ∧ (∀ x ∈ ms, x ≠ 0 ∧ x.natAbs ≤ 1000))
    ?_ ?_ _ _ _ ⟨hw, [], none, rfl, List.nodup_nil, .inr fun h => ?_, by simp; omega, fun x hx => by cases hx⟩).mono ?_
  · rintro ρ W ⟨hw, ms, x, rfl, nd, ne, l, z⟩
    exact ⟨hw, ms, x, rfl, nd, ne.elim id fun h => (h rfl).elim, l, z⟩
  · rintro d r ρ W ⟨hw, ms, x, rfl, nd, ne, l, z⟩
    refine ⟨_, rfl, ?_⟩
    refine .seqS (.setS (.op2F ((drP hw (by decide) rfl rfl (by omega) (by omega)).mono ?_)))
    rintro _ W ⟨hw, a, rfl, a1, a2⟩
    refine (pm_ev hw rfl).mono ?_
    rintro _ W ⟨hw, s, hs, rfl⟩
    haveI : Sz 20 ((a : Nat) : Int) := ⟨by omega⟩
    haveI : Sz 20 s := ⟨by omega⟩
    obtain ⟨i, hi⟩ : ∃ i, i = (a : Int) * s := ⟨_, rfl⟩
    have iz : i ≠ 0 ∧ i.natAbs ≤ 1000 := by
      rcases hs with rfl | rfl
      · omega
      · omega
    refine ⟨.int i, (mulD_ok (by decide)).trans (by rw [hi]), ?_⟩
    have t := testE (ρ := [some .bag, some (.int many), some (.int far), some (dki ms tt), some d, some (.int i)]) (A := biF lenH (consF (rd 3) nilF)) (B := rd 1) (op := ordD fun i j => decide (i < j)) (bi_eq (cons_eq rfl nil_eq) dki_len) rfl (ordD_i _ _ _)
    show Ev (VS.iteS _ _ _ [some .bag, some (.int many), some (.int far), some (dki ms tt), some d, some (.int i)]) W _
    by_cases c : (ms.length : Int) < many
    · rw [decide_eq_true c] at t
      refine .eq ((VS.iteT t).trans (dput_dki (ms := ms) (f := tt) (k := i) (d := .bl true) rfl rfl rfl (by omega))) ?_
      refine ⟨hw, addK ms i, some (.int i), ?_, addK_nodup nd, .inl fun h => ?_, by have := @addK_len ms i; omega, fun x hx => ?_⟩
      · show [_, _, _, some (dki _ _), _, _] = _
        rw [dki_congr (f := fun m => if m = i then D.bl true else tt m) (g := tt) fun m _ => by show (if _ then D.bl true else D.bl true) = D.bl true; split <;> rfl]
      · have := addK_mem (ms := ms) (k := i) (x := i)
        rw [h] at this
        simp at this
      · rcases addK_mem.mp hx with h | rfl
        · exact z x h
        · exact iz
    · rw [decide_eq_false c] at t
      refine .eq ((VS.iteN t).trans rfl) ⟨hw, ms, some (.int i), rfl, nd, .inl fun h => ?_, l, z⟩
      rw [h] at c
      simp at c
      omega
  · have := rng_len 0 (3 * many).toNat
    rw [h] at this
    simp at this
    omega
  rintro _ W ⟨hw, ms, x, rfl, nd, ne, l, z⟩
  refine .eq (retS_eq (bi_eq (cons_eq (keys_ints (ms := ms) (f := tt) rfl (by omega) fun x => ⟨_, rfl, rfl⟩) nil_eq) (sortedH_i _))) ⟨hw, sortI ms, rfl, nm_of nd ne (by omega) z⟩
theorem nd_inj {f : Nat → Int} {n : Nat} (h : ∀ i j, i < j → j < n → f i ≠ f j) : ((List.range n).map f).Nodup := by
  rw [List.nodup_iff_pairwise_ne, List.pairwise_map]
  exact List.pairwise_lt_range.imp_of_mem fun ha hb hlt => h _ _ hlt (List.mem_range.mp hb)
theorem steps_ev {W : Wd} (hw : OkL W) {many : Nat} (m1 : 1 ≤ many) (m2 : many ≤ 16) : Ev (phi__law_steps [.bag, .int (many : Nat)]) W fun d W' => OkL W' ∧ ∃ ns, d = .lst (ns.map .int) ∧ Nm ns := by
  refine Ev.body (.seqS (.par2S ((drP hw (by decide) rfl rfl (by decide) (by decide)).mono ?_)))
  rintro _ W ⟨hw, st, rfl, s1, s2⟩
  refine (pm_ev hw rfl).mono ?_
  rintro _ W ⟨hw, sg, hs, rfl⟩
  refine .seqS (.setS (.callF (.consF (.eq (a := .bag) rfl (.consF (.lstF (.consF (.eq (a := .int (st : Nat)) rfl (.consF ((drP hw (by decide) rfl rfl (by decide) (by decide)).mono ?_))))))))))
  rintro _ W ⟨hw, q, rfl, q1, q2⟩
  refine .nilF ⟨le_rfl_n rfl, .nilF ⟨rfl, (pick_i hw (ns := [(st : Int), (q : Int)]) (by simp) (by simp)).mono ?_⟩⟩
  rintro _ W ⟨hw, fi, hf, rfl⟩
  have hf : 1 ≤ fi ∧ fi ≤ 90 := by
    have : fi = (st : Int) ∨ fi = (q : Int) := by simpa using hf
    omega
  let f : Nat → Int := fun k => sg * (fi + (st : Nat) * (k : Int))
  show Ev (VS.retS _ [some .bag, some (.int (many : Nat)), some (.int (st : Nat)), some (.int sg), some (.int fi), none]) W _
  haveI : Sz 20 ((st : Nat) : Int) := ⟨by omega⟩
  haveI : Sz 20 sg := ⟨by omega⟩
  have mono : ∀ k, k < many → (st : Int) * (k : Int) ≤ 900 ∧ 0 ≤ (st : Int) * (k : Int) := fun k hk => by
    have h1 : st * k ≤ 60 * 15 := Nat.mul_le_mul (by omega) (by omega)
    have h2 : ((st : Nat) : Int) * (k : Int) = ((st * k : Nat) : Int) := by rw [Int.natCast_mul]
    omega
  have fz : ∀ k, k < many → f k ≠ 0 ∧ (f k).natAbs ≤ 1000 := fun k hk => by
    have := mono k hk
    show sg * (fi + (st : Nat) * (k : Int)) ≠ 0 ∧ (sg * (fi + (st : Nat) * (k : Int))).natAbs ≤ 1000
    rcases hs with rfl | rfl
    · omega
    · omega
  refine .eq (retS_eq (bi_eq (cons_eq ((lcS_m (α := Nat) (en := fun k => D.int (k : Nat)) (ge := fun k => D.int (f k)) (List.range many) (rng1N rfl (by omega)) (by rw [List.length_range]; omega) fun k hk => ⟨_, rfl, ?_⟩).trans (congrArg (fun x => VS.ret (D.lst x)) (by rw [List.map_map]; rfl : (List.range many).map (fun k => D.int (f k)) = ((List.range many).map f).map .int))) nil_eq) (sortedH_i _))) ⟨hw, sortI ((List.range many).map f), rfl, nm_of (nd_inj fun i j hij hj => ?_) (fun h => ?_) (by rw [List.length_map, List.length_range]; omega) fun a ha => ?_⟩
  · rw [List.mem_range] at hk
    have := mono k hk
    haveI : Sz 20 ((k : Nat) : Int) := ⟨by omega⟩
    haveI : Sz 20 (fi + (st : Nat) * (k : Int)) := ⟨by omega⟩
    exact bi_eq (cons_eq (op2E rfl (op2E rfl (op2E rfl rfl (mulD_ok (by decide))) (addD_i _ _)) (mulD_ok (by decide))) nil_eq) (int_i _)
  · have h2 : (st : Int) * (i : Int) < (st : Int) * (j : Int) := Int.mul_lt_mul_of_pos_left (by omega) (by omega)
    show sg * (fi + (st : Nat) * (i : Int)) ≠ sg * (fi + (st : Nat) * (j : Int))
    rcases hs with rfl | rfl
    · omega
    · omega
  · have := congrArg List.length h
    rw [List.length_map, List.length_range] at this
    simp at this
    omega
  · obtain ⟨k, hk, rfl⟩ := List.mem_map.mp ha
    exact fz k (List.mem_range.mp hk)
theorem about_ev {W : Wd} (hw : OkL W) {many : Nat} (m1 : 1 ≤ many) (m2 : many ≤ 16) : Ev (phi__law_about [.bag, .int (many : Nat)]) W fun d W' => OkL W' ∧ ∃ ns, d = .lst (ns.map .int) ∧ Nm ns := by
  refine Ev.body (.seqS (.par2S ((dr hw rfl rfl (by omega) (by omega)).mono ?_)))
  rintro _ W ⟨hw, ha, rfl, h1, h2⟩
  refine (drP hw (by decide) rfl rfl (by decide) (by decide)).mono ?_
  rintro _ W ⟨hw, wd, rfl, w1, w2⟩
  let f : Nat → Int := fun k => (2 * (k : Int) - 2 * ha + 1) * (wd : Nat)
  show Ev (VS.retS _ [some .bag, some (.int (many : Nat)), some (.int ha), some (.int (wd : Nat)), none]) W _
  haveI : Sz 20 ha := ⟨by omega⟩
  haveI : Sz 20 ((wd : Nat) : Int) := ⟨by omega⟩
  have fz : ∀ k, k < many → f k ≠ 0 ∧ (f k).natAbs ≤ 1000 := fun k hk => by
    refine ⟨fun e => ?_, ?_⟩
    · rcases Int.mul_eq_zero.mp e with e | e
      · omega
      · omega
    · show ((2 * (k : Int) - 2 * ha + 1) * (wd : Nat)).natAbs ≤ 1000
      rw [Int.natAbs_mul]
      have := Nat.mul_le_mul (show (2 * (k : Int) - 2 * ha + 1).natAbs ≤ 31 by omega) (show ((wd : Nat) : Int).natAbs ≤ 30 by omega)
      omega
  refine .eq (retS_eq (bi_eq (cons_eq ((lcS_m (α := Nat) (en := fun k => D.int (k : Nat)) (ge := fun k => D.int (f k)) (List.range many) (rng1N rfl (by omega)) (by rw [List.length_range]; omega) fun k hk => ⟨_, rfl, ?_⟩).trans (congrArg (fun x => VS.ret (D.lst x)) (by rw [List.map_map]; rfl : (List.range many).map (fun k => D.int (f k)) = ((List.range many).map f).map .int))) nil_eq) (sortedH_i _))) ⟨hw, sortI ((List.range many).map f), rfl, nm_of (nd_inj fun i j hij hj e => ?_) (fun h => ?_) (by rw [List.length_map, List.length_range]; omega) fun a ha => ?_⟩
  · rw [List.mem_range] at hk
    haveI : Sz 20 ((k : Nat) : Int) := ⟨by omega⟩
    haveI : Sz 20 (2 * (k : Int) - 2 * ha + 1) := ⟨by omega⟩
    exact bi_eq (cons_eq (op2E (op2E (op2E (op2E rfl rfl (mulD_ok (by decide))) (op2E rfl rfl (mulD_ok (by decide))) (subD_i _ _)) rfl (addD_i _ _)) rfl (mulD_ok (by decide))) nil_eq) (int_i _)
  · have := Int.eq_of_mul_eq_mul_right (show ((wd : Nat) : Int) ≠ 0 by omega) e
    omega
  · have := congrArg List.length h
    rw [List.length_map, List.length_range] at this
    simp at this
    omega
  · obtain ⟨k, hk, rfl⟩ := List.mem_map.mp ha
    exact fz k (List.mem_range.mp hk)
end Lw
set_option Elab.async false
set_option linter.all false
set_option maxRecDepth 100000
namespace Lw
open PySem VS L2
local macro_rules | `(tactic| walk_at "ve") => `(tactic| repeat' first
  | ((with_reducible apply rdE); exact rfl) | with_reducible exact kstE | with_reducible exact nil_eq
  | with_reducible assumption
  | with_reducible apply op2E | with_reducible apply cons_eq | with_reducible apply bi_eq
  | with_reducible exact addD_i _ _ | with_reducible exact subD_i _ _ | with_reducible exact mulD_ok (by decide) | with_reducible exact ordD_i _ _ _ | with_reducible exact eqO_i _ _ | with_reducible exact neO_i _ _
  | ((with_reducible apply modD_ok); first | decide | omega) | ((with_reducible apply fdivD_ok) <;> first | decide | omega)
  | with_reducible exact max_i _ _ | with_reducible exact min_i _ _ | with_reducible exact max3_i _ _ _ | with_reducible exact min3_i _ _ _ | with_reducible exact int_i _ | with_reducible exact absD_i _ | with_reducible exact len_l _ | with_reducible exact len_t _ | with_reducible exact tupleD_l _ | with_reducible exact tupleD_t _ | with_reducible exact listD_l _ | with_reducible exact listH_l _ | with_reducible exact listH_t _
  | with_reducible apply negE | with_reducible apply testE | with_reducible apply notE | with_reducible apply truE | with_reducible apply tup_eq | with_reducible apply lstE | with_reducible apply ixE
  | with_reducible apply call_eq | exact (rfl : List.length _ = _) | exact le_rfl_n rfl)
local macro_rules | `(tactic| walk_at "st") => `(tactic| first
  | ((with_reducible apply seqQ0); focus (walk_at "ve"; done)) | ((with_reducible apply seqQ1); focus (walk_at "ve"; done)) | ((with_reducible apply seqQ2); focus (walk_at "ve"; done)) | ((with_reducible apply seqQ3); focus (walk_at "ve"; done)) | ((with_reducible apply seqQ4); focus (walk_at "ve"; done)) | ((with_reducible apply seqQ5); focus (walk_at "ve"; done)) | ((with_reducible apply seqQ6); focus (walk_at "ve"; done)) | ((with_reducible apply seqQ7); focus (walk_at "ve"; done)) | ((with_reducible apply seqQ8); focus (walk_at "ve"; done)) | ((with_reducible apply seqQ9); focus (walk_at "ve"; done)) | ((with_reducible apply seqQ10); focus (walk_at "ve"; done)) | ((with_reducible apply seqQ11); focus (walk_at "ve"; done)) | ((with_reducible apply seqQ12); focus (walk_at "ve"; done)) | ((with_reducible apply seqQ13); focus (walk_at "ve"; done)) | ((with_reducible apply seqQ14); focus (walk_at "ve"; done)) | ((with_reducible apply seqQ15); focus (walk_at "ve"; done)))
local macro_rules | `(tactic| walk_at "es") => `(tactic| first
  | ((with_reducible apply Ev.sT0); focus (walk_at "ve"; done)) | ((with_reducible apply Ev.sT1); focus (walk_at "ve"; done)) | ((with_reducible apply Ev.sT2); focus (walk_at "ve"; done)) | ((with_reducible apply Ev.sT3); focus (walk_at "ve"; done)) | ((with_reducible apply Ev.sT4); focus (walk_at "ve"; done)) | ((with_reducible apply Ev.sT5); focus (walk_at "ve"; done)) | ((with_reducible apply Ev.sT6); focus (walk_at "ve"; done)) | ((with_reducible apply Ev.sT7); focus (walk_at "ve"; done)) | ((with_reducible apply Ev.sT8); focus (walk_at "ve"; done)) | ((with_reducible apply Ev.sT9); focus (walk_at "ve"; done)) | ((with_reducible apply Ev.sT10); focus (walk_at "ve"; done)) | ((with_reducible apply Ev.sT11); focus (walk_at "ve"; done)) | ((with_reducible apply Ev.sT12); focus (walk_at "ve"; done)) | ((with_reducible apply Ev.sT13); focus (walk_at "ve"; done)) | ((with_reducible apply Ev.sT14); focus (walk_at "ve"; done)) | ((with_reducible apply Ev.sT15); focus (walk_at "ve"; done)))
theorem p3 {i j k : Nat} {f0 f1 f2 : VS.Env → M D} {ρ : VS.Env} {W : Wd} {Q : Out → Wd → Prop} (e : Ev (f0 ρ) W fun d W' => Ev (f1 ρ) W' fun d' W' => Ev (f2 ρ) W' fun d'' W' => Q (.nx (((ρ.set i (some d)).set j (some d')).set k (some d''))) W') : Ev (VS.par3S i j k f0 f1 f2 ρ) W Q := .bnd (e.mono fun _ _ q => .bnd (q.mono fun _ _ q => .bnd (q.mono fun _ _ q => .ret q)))
def rl (n r : Int) (m : Nat) : List Int := (List.range m).map fun k => n * r ^ k
theorem rl_ok : ∀ n ∈ ([1, 2, 3, 4, 5, 6, 7, 8] : List Int), ∀ r ∈ ([2, 3, 4, 5, -2, -3, -4, -5] : List Int), ∀ m ∈ ([2, 3, 4] : List Nat), (rl n r m).Nodup ∧ rl n r m ≠ [] ∧ (rl n r m).length ≤ 16 ∧ ∀ a ∈ rl n r m, a ≠ 0 ∧ a.natAbs ≤ 1000 := by decide +kernel
theorem pw_ok : ∀ n ∈ ([1, 2, 3, 4, 5, 6, 7, 8] : List Int), ∀ r ∈ ([2, 3, 4, 5, -2, -3, -4, -5] : List Int), ∀ k ∈ ([0, 1, 2, 3] : List Nat), (n * r ^ k).natAbs < 2 ^ 20 := by decide +kernel
theorem ratio_ev {W : Wd} (hw : OkL W) {many : Nat} (hm : many ∈ ([2, 3, 4] : List Nat)) : Ev (phi__law_ratio [.bag, .int (many : Nat)]) W fun d W' => OkL W' ∧ ∃ ns, d = .lst (ns.map .int) ∧ Nm ns := by
  have m4 : many ≤ 4 := by
    have : ∀ m ∈ ([2, 3, 4] : List Nat), m ≤ 4 := by decide
    exact this many hm
  refine Ev.body (.seqS (p3 ((drP hw (by decide) rfl rfl (by decide) (by decide)).mono ?_)))
  rintro _ W ⟨hw, n, rfl, n1, n2⟩
  refine ((pk hw (ns := [2, 3, 4, 5, -2, -3, -4, -5]) rfl (lstE (cons_eq rfl (cons_eq rfl (cons_eq rfl (cons_eq rfl (cons_eq (negE' (i := 2) rfl rfl) (cons_eq (negE' (i := 3) rfl rfl) (cons_eq (negE' (i := 4) rfl rfl) (cons_eq (negE' (i := 5) rfl rfl) nil_eq)))))))) (le_rfl_n rfl)) (by decide) (by decide)).mono ?_)
  rintro _ W ⟨hw, r, hr, rfl⟩
  have hn : (n : Int) ∈ ([1, 2, 3, 4, 5, 6, 7, 8] : List Int) := by
    have : n = 1 ∨ n = 2 ∨ n = 3 ∨ n = 4 ∨ n = 5 ∨ n = 6 ∨ n = 7 ∨ n = 8 := by omega
    rcases this with rfl | rfl | rfl | rfl | rfl | rfl | rfl | rfl <;> decide
  obtain ⟨k1, k2, k3, k4⟩ := rl_ok _ hn r hr many hm
  refine .eq (a := .lst []) rfl ?_
  let R : Nat → VS.Env := fun i => [some .bag, some (.int (many : Nat)), some (.int ((n : Int) * r ^ i)), some (.int r), some (.lst ((rl n r i).map .int)), none]
  have h0 : ∀ {o : Out}, o = .nx (R 0) → o = .nx (R 0) := id
  refine .eq (a := .rt (.lst ((sortI (rl n r many)).map .int))) ?_ (show OkL W ∧ ∃ ns, D.lst ((sortI (rl n r many)).map .int) = D.lst (List.map D.int ns) ∧ Nm ns from ⟨hw, sortI (rl n r many), rfl, nm_of k1 k2 k3 k4⟩)
  show VS.seqS _ _ [some .bag, some (.int (many : Nat)), some (.int (n : Nat)), some (.int r), some (.lst []), none] = _
  refine seqC (ρ1 := R many) ((forS_eq (rng1N rfl (by omega))).trans ((congrArg (fun l => VS.forF _ _ _ l _) (rng_0 many).symm).trans (forR2 (lo := 0) R many (by show [_, _, _, _, _, _] = [_, _, some (D.int ((n : Int) * r ^ 0)), _, _, _]; rw [Int.pow_zero, Int.mul_one]; rfl) (fun i hi => ?_) rfl))) ?_
  · rw [Int.zero_add]
    have hb := pw_ok _ hn r hr i (by
      have : i = 0 ∨ i = 1 ∨ i = 2 ∨ i = 3 := by omega
      rcases this with rfl | rfl | rfl | rfl <;> decide)
    haveI : Sz 20 ((n : Int) * r ^ i) := ⟨hb⟩
    haveI : Sz 20 r := ⟨by
      have : ∀ r ∈ ([2, 3, 4, 5, -2, -3, -4, -5] : List Int), r.natAbs < 2 ^ 20 := by decide
      exact this r hr⟩
    refine ⟨_, rfl, _, seqC (appS_eq (ds := (rl n r i).map .int) (d := .int ((n : Int) * r ^ i)) rfl rfl (by rw [List.length_map]; unfold rl; rw [List.length_map, List.length_range]; omega)) (setS_eq (op2E rfl rfl (mulD_ok (by decide)))), ?_⟩
    show [_, _, some (D.int ((n : Int) * r ^ i * r)), _, some (D.lst ((rl n r i).map .int ++ [D.int ((n : Int) * r ^ i)])), _] = [_, _, some (D.int ((n : Int) * r ^ (i + 1))), _, some (D.lst ((rl n r (i + 1)).map .int)), _]
    rw [Int.pow_succ, ← Int.mul_assoc]
    unfold rl
    rw [List.range_succ, List.map_append, List.map_append]
    rfl
  · exact retS_eq (bi_eq (cons_eq (lcS_m (α := Int) (en := D.int) (ge := D.int) (rl n r many) (seqFl rfl) (by omega) fun x _ => ⟨_, rfl, bi_eq (cons_eq rfl nil_eq) (int_i _)⟩) nil_eq) (sortedH_i _))
theorem nums_ev {W : Wd} (hw : OkL W) : Ev (phi__law_own_numbers [.bag]) W fun d W' => OkL W' ∧ ∃ ns, d = .lst (ns.map .int) ∧ Nm ns := by
  refine Ev.body (.seqS (.par2S ((dr hw rfl rfl (by decide) (by decide)).mono ?_)))
  rintro _ W ⟨hw, way, rfl, _, _⟩
  refine (pk hw (ns := [2, 3, 4, 4]) rfl (lstE rfl (le_rfl_n rfl)) (by decide) (by decide)).mono ?_
  rintro _ W ⟨hw, mz, hmz, rfl⟩
  obtain ⟨many, rfl, hm⟩ : ∃ m : Nat, mz = (m : Int) ∧ m ∈ ([2, 3, 4] : List Nat) := by
    have : mz = 2 ∨ mz = 3 ∨ mz = 4 := by
      have h : mz = 2 ∨ mz = 3 ∨ mz = 4 ∨ mz = 4 := by simpa using hmz
      omega
    rcases this with rfl | rfl | rfl
    · exact ⟨2, rfl, by decide⟩
    · exact ⟨3, rfl, by decide⟩
    · exact ⟨4, rfl, by decide⟩
  have m12 : 1 ≤ many ∧ many ≤ 4 := by
    have : ∀ m ∈ ([2, 3, 4] : List Nat), 1 ≤ m ∧ m ≤ 4 := by decide
    exact this many hm
  clear hmz
  have far_pk : ∀ {W : Wd} {ρ : VS.Env} {fs : List Int} {L : VS.Env → M D} {M1 : VS.Env → M D} {m : Int}, OkL W → rd 0 ρ = VS.ret .bag → M1 ρ = VS.ret (.int m) → 1 ≤ m → m ≤ 16 → L ρ = VS.ret (.lst (fs.map .int)) → 0 < fs.length → fs.length < 1000 → (∀ x ∈ fs, 1 ≤ x ∧ x ≤ 1000) → Ev (callF (phi__law_some) 3 (consF (rd 0) (consF M1 (consF (callF (phi__law_pick) 2 (consF (rd 0) (consF L nilF))) nilF))) ρ) W fun d W' => OkL W' ∧ ∃ ns, d = .lst (ns.map .int) ∧ Nm ns := fun {W ρ fs L M1 m} hw h0 h1 a1 a2 hL l0 l1 hx => by
    refine .callF (.consF (.eq h0 (.consF (.eq h1 (.consF ((pk hw h0 hL l0 l1).mono ?_))))))
    rintro _ W ⟨hw, x, hx2, rfl⟩
    exact .nilF ⟨rfl, some_ev hw a1 a2 (hx x hx2).1 (hx x hx2).2⟩
  show Ev (VS.seqS _ _ [some .bag, some (.int way), some (.int (many : Nat))]) W _
  refine .seqS (.iteS (.eq (testE (k := decide (way < 2)) rfl rfl (ordD_i _ _ _)) ?_))
  cases decide (way < 2) with
  | true => exact .retS (far_pk hw rfl (M1 := rd 2) rfl (by omega) (by omega) (fs := [3, 4, 6]) (lstE rfl (le_rfl_n rfl)) (by decide) (by decide) (by decide))
  | false =>
  rw [cond_false]
  refine .nxS (.seqS (.iteS (.eq (testE (k := decide (way < 4)) rfl rfl (ordD_i _ _ _)) ?_)))
  cases decide (way < 4) with
  | true => exact .retS (.rw (callE (ds := [.bag, .int (many : Nat), .int 1000]) rfl rfl) (some_ev hw (by omega) (by omega) (by decide) (by decide)))
  | false =>
  rw [cond_false]
  refine .nxS (.seqS (.iteS (.eq (testE (k := decide (way = 4)) rfl rfl (eqO_i _ _)) ?_)))
  cases decide (way = 4) with
  | true => exact .retS (.rw (callE (ds := [.bag, .int (many : Nat)]) rfl rfl) (steps_ev hw (by omega) (by omega)))
  | false =>
  rw [cond_false]
  refine .nxS (.seqS (.iteS (.eq (testE (k := decide (way = 5)) rfl rfl (eqO_i _ _)) ?_)))
  cases decide (way = 5) with
  | true => exact .retS (.rw (callE (ds := [.bag, .int (many : Nat)]) rfl rfl) (about_ev hw (by omega) (by omega)))
  | false =>
  rw [cond_false]
  refine .nxS (.seqS (.iteS (.eq (testE (k := decide (way = 6)) rfl rfl (eqO_i _ _)) ?_)))
  cases decide (way = 6) with
  | true => exact .retS (.rw (callE (ds := [.bag, .int (many : Nat)]) rfl rfl) (ratio_ev hw hm))
  | false =>
  rw [cond_false]
  refine .nxS (.seqS (.iteS (.eq (testE (k := decide (way = 7)) rfl rfl (eqO_i _ _)) ?_)))
  cases decide (way = 7) with
  | true =>
    rw [cond_true]
    refine .retS (.callF (.consF (.eq (a := .bag) rfl (.consF ((drP hw (by decide) rfl rfl (by decide) (by decide)).mono ?_)))))
    rintro _ W ⟨hw, m, rfl, a1, a2⟩
    refine .consF ((pk hw (ns := [9, 1000]) rfl (lstE rfl (le_rfl_n rfl)) (by decide) (by decide)).mono ?_)
    rintro _ W ⟨hw, x, hx, rfl⟩
    have hx : x = 9 ∨ x = 1000 := by simpa using hx
    exact .nilF ⟨rfl, some_ev hw (by omega) (by omega) (by omega) (by omega)⟩
  | false =>
  rw [cond_false]
  exact .nxS (.retS (far_pk hw rfl (M1 := kst (.int 1)) rfl (by decide) (by decide) (fs := [3, 1000]) (lstE rfl (le_rfl_n rfl)) (by decide) (by decide) (by decide)))
theorem great_ev {W : Wd} (hw : OkL W) : Ev (phi__law_great_numbers [.bag]) W fun d W' => OkL W' ∧ ∃ ns, d = .lst (ns.map .int) ∧ Nm ns := by
  refine Ev.body (.seqS (.setS ((dr hw rfl rfl (by decide) (by decide)).mono ?_)))
  rintro _ W ⟨hw, way, rfl, _, _⟩
  have sub : ∀ {W : Wd} {ρ : VS.Env}, OkL W → rd 0 ρ = VS.ret .bag → Ev (op2 subD (kst (.int 16)) (callF (phi__law_draw) 2 (consF (rd 0) (consF (kst (.int 2)) nilF))) ρ) W fun d W' => OkL W' ∧ ∃ m : Nat, d = .int (m : Nat) ∧ 1 ≤ m ∧ m ≤ 16 := fun {W ρ} hw h0 => by
    refine .op2F (.eq (a := .int 16) rfl ((dr hw h0 rfl (by decide) (by decide)).mono ?_))
    rintro _ W ⟨hw, z, rfl, z0, z1⟩
    obtain ⟨m, hm⟩ := Int.eq_ofNat_of_zero_le (show 0 ≤ 16 - z by omega)
    exact ⟨.int (m : Nat), by rw [subD_i, hm], hw, m, rfl, by omega, by omega⟩
  show Ev (VS.seqS _ _ [some .bag, some (.int way)]) W _
  refine .seqS (.iteS (.eq (testE (k := decide (way = 0)) rfl rfl (eqO_i _ _)) ?_))
  cases decide (way = 0) with
  | true =>
    rw [cond_true]
    refine .retS (.callF (.consF (.eq (a := .bag) rfl (.consF ((sub hw rfl).mono ?_)))))
    rintro _ W ⟨hw, m, rfl, a1, a2⟩
    exact .nilF ⟨rfl, steps_ev hw a1 a2⟩
  | false =>
  rw [cond_false]
  refine .nxS (.seqS (.iteS (.eq (testE (k := decide (way = 1)) rfl rfl (eqO_i _ _)) ?_)))
  cases decide (way = 1) with
  | true =>
    rw [cond_true]
    refine .retS (.callF (.consF (.eq (a := .bag) rfl (.consF ((sub hw rfl).mono ?_)))))
    rintro _ W ⟨hw, m, rfl, a1, a2⟩
    exact .nilF ⟨rfl, about_ev hw a1 a2⟩
  | false =>
  rw [cond_false]
  refine .nxS (.retS (.callF (.consF (.eq (a := .bag) rfl (.consF ((drP hw (by decide) rfl rfl (by decide) (by decide)).mono ?_))))))
  rintro _ W ⟨hw, m, rfl, a1, a2⟩
  refine .consF ((pk hw (ns := [16, 1000]) rfl (lstE rfl (le_rfl_n rfl)) (by decide) (by decide)).mono ?_)
  rintro _ W ⟨hw, x, hx, rfl⟩
  have hx : x = 16 ∨ x = 1000 := by simpa using hx
  exact .nilF ⟨rfl, some_ev hw (by omega) (by omega) (by omega) (by omega)⟩
end Lw
set_option Elab.async false
set_option linter.all false
set_option maxRecDepth 100000
namespace Lw
open PySem VS L2
local macro_rules | `(tactic| walk_at "ve") => `(tactic| repeat' first
  | ((with_reducible apply rdE); exact rfl) | with_reducible exact kstE | with_reducible exact nil_eq
  | with_reducible assumption
  | with_reducible apply op2E | with_reducible apply cons_eq | with_reducible apply bi_eq
  | with_reducible exact addD_i _ _ | with_reducible exact subD_i _ _ | with_reducible exact mulD_ok (by decide) | with_reducible exact ordD_i _ _ _ | with_reducible exact eqO_i _ _ | with_reducible exact neO_i _ _
  | ((with_reducible apply modD_ok); first | decide | omega) | ((with_reducible apply fdivD_ok) <;> first | decide | omega)
  | with_reducible exact max_i _ _ | with_reducible exact min_i _ _ | with_reducible exact max3_i _ _ _ | with_reducible exact min3_i _ _ _ | with_reducible exact int_i _ | with_reducible exact absD_i _ | with_reducible exact len_l _ | with_reducible exact len_t _ | with_reducible exact tupleD_l _ | with_reducible exact tupleD_t _ | with_reducible exact listD_l _ | with_reducible exact listH_l _ | with_reducible exact listH_t _
  | with_reducible apply negE | with_reducible apply testE | with_reducible apply notE | with_reducible apply truE | with_reducible apply tup_eq | with_reducible apply lstE | with_reducible apply ixE
  | with_reducible apply call_eq | exact (rfl : List.length _ = _) | exact le_rfl_n rfl)
local macro_rules | `(tactic| walk_at "st") => `(tactic| first
  | ((with_reducible apply seqQ0); focus (walk_at "ve"; done)) | ((with_reducible apply seqQ1); focus (walk_at "ve"; done)) | ((with_reducible apply seqQ2); focus (walk_at "ve"; done)) | ((with_reducible apply seqQ3); focus (walk_at "ve"; done)) | ((with_reducible apply seqQ4); focus (walk_at "ve"; done)) | ((with_reducible apply seqQ5); focus (walk_at "ve"; done)) | ((with_reducible apply seqQ6); focus (walk_at "ve"; done)) | ((with_reducible apply seqQ7); focus (walk_at "ve"; done)) | ((with_reducible apply seqQ8); focus (walk_at "ve"; done)) | ((with_reducible apply seqQ9); focus (walk_at "ve"; done)) | ((with_reducible apply seqQ10); focus (walk_at "ve"; done)) | ((with_reducible apply seqQ11); focus (walk_at "ve"; done)) | ((with_reducible apply seqQ12); focus (walk_at "ve"; done)) | ((with_reducible apply seqQ13); focus (walk_at "ve"; done)) | ((with_reducible apply seqQ14); focus (walk_at "ve"; done)) | ((with_reducible apply seqQ15); focus (walk_at "ve"; done)))
local macro_rules | `(tactic| walk_at "es") => `(tactic| first
  | ((with_reducible apply Ev.sT0); focus (walk_at "ve"; done)) | ((with_reducible apply Ev.sT1); focus (walk_at "ve"; done)) | ((with_reducible apply Ev.sT2); focus (walk_at "ve"; done)) | ((with_reducible apply Ev.sT3); focus (walk_at "ve"; done)) | ((with_reducible apply Ev.sT4); focus (walk_at "ve"; done)) | ((with_reducible apply Ev.sT5); focus (walk_at "ve"; done)) | ((with_reducible apply Ev.sT6); focus (walk_at "ve"; done)) | ((with_reducible apply Ev.sT7); focus (walk_at "ve"; done)) | ((with_reducible apply Ev.sT8); focus (walk_at "ve"; done)) | ((with_reducible apply Ev.sT9); focus (walk_at "ve"; done)) | ((with_reducible apply Ev.sT10); focus (walk_at "ve"; done)) | ((with_reducible apply Ev.sT11); focus (walk_at "ve"; done)) | ((with_reducible apply Ev.sT12); focus (walk_at "ve"; done)) | ((with_reducible apply Ev.sT13); focus (walk_at "ve"; done)) | ((with_reducible apply Ev.sT14); focus (walk_at "ve"; done)) | ((with_reducible apply Ev.sT15); focus (walk_at "ve"; done)))
/-! ### lowest terms as pairs -/
def ltP (a b : Int) : Int × Int := (a / (Nat.gcd a.natAbs b.natAbs : Nat), b / (Nat.gcd a.natAbs b.natAbs : Nat))
theorem ltD_P (a b : Int) : ltD a b = prI (ltP a b) := rfl
theorem ltP_one (s : Int) : ltP s 1 = (s, 1) := by
  unfold ltP
  rw [show (1 : Int).natAbs = 1 by rfl, Nat.gcd_one_right]
  show (s / 1, (1 : Int) / 1) = _
  rw [Int.ediv_one]
  rfl
structure Uv (ns : List Int) (u v : Int) : Prop where
  u0 : u ≠ 0
  ub : u.natAbs ≤ 1000
  nu : ∀ n ∈ ns, (n * u).natAbs ≤ 1000
  v1 : 1 ≤ v
  v2 : v ≤ 1000
def ordr {α : Type} (u : Int) (l : List α) : List α := if 0 < u then l else l.reverse
theorem ordr_mem {α : Type} {u : Int} {l : List α} {x : α} : x ∈ ordr u l ↔ x ∈ l := by unfold ordr; split <;> simp
theorem ordr_map {α β : Type} (u : Int) (f : α → β) (l : List α) : (ordr u l).map f = ordr u (l.map f) := by unfold ordr; split <;> simp
theorem ordr_len {α : Type} (u : Int) (l : List α) : (ordr u l).length = l.length := by unfold ordr; split <;> simp
theorem far_nums {ns : List Int} (nm : Nm ns) {u v : Int} (h : Uv ns u v) : ∃ ws L d, Nums ((ordr u ns).map fun n => ltP (n * u) v) ws L ∧ Sc ns ws u d ∧ L * d = v := by
  have v1 := h.v1
  have v2 := h.v2
  have gp : ∀ n : Int, 0 < Nat.gcd n.natAbs v.natAbs := fun n => Nat.gcd_pos_of_pos_right _ (by omega)
  have gdv : ∀ n : Int, ((Nat.gcd n.natAbs v.natAbs : Nat) : Int) ∣ v := fun n => by
    rw [← Int.natAbs_dvd_natAbs, Int.natAbs_natCast]
    exact Nat.gcd_dvd_right _ _
  have gdn : ∀ n : Int, ((Nat.gcd n.natAbs v.natAbs : Nat) : Int) ∣ n := fun n => by
    rw [← Int.natAbs_dvd_natAbs, Int.natAbs_natCast]
    exact Nat.gcd_dvd_left _ _
  let l := (ordr u ns).map fun n => ltP (n * u) v
  have den : ∀ n : Int, 1 ≤ (ltP n v).2 ∧ (ltP n v).2 * ((Nat.gcd n.natAbs v.natAbs : Nat) : Int) = v ∧ (ltP n v).1 * ((Nat.gcd n.natAbs v.natAbs : Nat) : Int) = n := fun n => by
    have g0 := gp n
    have e1 : v / ((Nat.gcd n.natAbs v.natAbs : Nat) : Int) * ((Nat.gcd n.natAbs v.natAbs : Nat) : Int) = v := Int.ediv_mul_cancel (gdv n)
    have e2 : n / ((Nat.gcd n.natAbs v.natAbs : Nat) : Int) * ((Nat.gcd n.natAbs v.natAbs : Nat) : Int) = n := Int.ediv_mul_cancel (gdn n)
    refine ⟨?_, e1, e2⟩
    show 1 ≤ v / ((Nat.gcd n.natAbs v.natAbs : Nat) : Int)
    refine Int.not_lt.mp fun c => ?_
    have : v / ((Nat.gcd n.natAbs v.natAbs : Nat) : Int) * ((Nat.gcd n.natAbs v.natAbs : Nat) : Int) ≤ 0 * ((Nat.gcd n.natAbs v.natAbs : Nat) : Int) := Int.mul_le_mul_of_nonneg_right (by omega) (by omega)
    omega
  have hd : ∀ p ∈ l, 1 ≤ p.2 ∧ p.2.natAbs ∣ v.natAbs := fun p hp => by
    obtain ⟨n, _, rfl⟩ := List.mem_map.mp hp
    have := den (n * u)
    refine ⟨this.1, Int.natAbs_dvd_natAbs.mpr ⟨_, this.2.1.symm⟩⟩
  have hz : ∀ p ∈ l, p.1.natAbs < 2 ^ 40 := fun p hp => by
    obtain ⟨n, hn, rfl⟩ := List.mem_map.mp hp
    have h1 := h.nu n (ordr_mem.mp hn)
    have h2 := (den (n * u)).2.2
    have h3 := gp (n * u)
    have h4 : (ltP (n * u) v).1.natAbs * Nat.gcd (n * u).natAbs v.natAbs = (n * u).natAbs := by
      have := congrArg Int.natAbs h2
      rw [Int.natAbs_mul, Int.natAbs_natCast] at this
      exact this
    have h5 : (ltP (n * u) v).1.natAbs * 1 ≤ (ltP (n * u) v).1.natAbs * Nat.gcd (n * u).natAbs v.natAbs := Nat.mul_le_mul_left _ h3
    omega
  have ll : l.length = ns.length := by show (List.map _ _).length = _; rw [List.length_map, ordr_len]
  have nl := nm.l
  have W := whole_eq (l := l) (B := v.natAbs) (by omega) (by omega) hd hz (by omega)
  have Ld : lcmN l ∣ v.natAbs := lcm_dvd_fold l 1 (Nat.one_dvd _) fun p hp => (hd p hp).2
  have Lp : 0 < lcmN l := Nat.pos_of_dvd_of_pos Ld (by omega)
  have Lle := Nat.le_of_dvd (by omega) Ld
  have fold_dvd : ∀ (l : List (Int × Int)) (s : Nat), s ∣ l.foldl (fun s p => s.lcm p.2.natAbs) s ∧ ∀ p ∈ l, p.2.natAbs ∣ l.foldl (fun s p => s.lcm p.2.natAbs) s := fun l => by
    induction l with
    | nil => intro s; exact ⟨Nat.dvd_refl s, fun p hp => by cases hp⟩
    | cons q r ih =>
      intro s
      obtain ⟨h1, h2⟩ := ih (s.lcm q.2.natAbs)
      refine ⟨Nat.dvd_trans (Nat.dvd_lcm_left ..) h1, fun p hp => ?_⟩
      rcases List.mem_cons.mp hp with rfl | hp
      · exact Nat.dvd_trans (Nat.dvd_lcm_right ..) h1
      · exact h2 p hp
  have pd : ∀ p ∈ l, p.2.natAbs ∣ lcmN l := (fold_dvd l 1).2
  generalize lcmN l = L at *
  obtain ⟨d0, hd0⟩ := Ld
  have hv : (L : Int) * (d0 : Int) = v := by
    rw [← Int.natCast_mul, ← hd0]
    omega
  have dpos : 0 < d0 := Nat.pos_of_ne_zero fun e => by rw [e] at hd0; omega
  have one : ∀ n ∈ ordr u ns, (ltP (n * u) v).1 * ((L : Int) / (ltP (n * u) v).2) * d0 = n * u := fun n hn => by
    obtain ⟨p1, p2, p3⟩ := den (n * u)
    have hp := pd _ (List.mem_map.mpr ⟨n, hn, rfl⟩)
    have hq : (ltP (n * u) v).2 ∣ (L : Int) := by rw [← Int.natAbs_dvd_natAbs, Int.natAbs_natCast]; exact hp
    obtain ⟨k, hk⟩ := hq
    rw [hk, Int.mul_ediv_cancel_left _ (by omega)]
    have h1 : (ltP (n * u) v).2 * (k * (d0 : Int)) = (ltP (n * u) v).2 * ((Nat.gcd (n * u).natAbs v.natAbs : Nat) : Int) := by
      rw [p2, ← Int.mul_assoc, ← hk, hv]
    have h2 := Int.eq_of_mul_eq_mul_left (by omega) h1
    rw [Int.mul_assoc, h2, p3]
  have ew : l.map (fun p : Int × Int => p.1 * ((L : Int) / p.2)) = (ordr u ns).map fun n => n * u / (d0 : Int) := by
    show ((ordr u ns).map fun n => ltP (n * u) v).map _ = _
    rw [List.map_map]
    refine List.map_congr_left fun n hn => ?_
    show (ltP (n * u) v).1 * ((L : Int) / (ltP (n * u) v).2) = n * u / (d0 : Int)
    exact Int.eq_ediv_of_mul_eq_left (by omega) (one n hn)
  rw [ew] at W
  have dvn : ∀ n ∈ ns, (d0 : Int) ∣ n * u := fun n hn => ⟨(ltP (n * u) v).1 * ((L : Int) / (ltP (n * u) v).2), by rw [Int.mul_comm (d0 : Int)]; exact (one n (ordr_mem.mpr hn)).symm⟩
  refine ⟨_, (L : Int), (d0 : Int), ⟨W, by rw [List.length_map, ordr_len]; omega, fun a ha => ?_, by omega, by omega⟩, ⟨h.u0, by omega, dvn, rfl⟩, hv⟩
  obtain ⟨n, hn, rfl⟩ := List.mem_map.mp ha
  have h1 := h.nu n (ordr_mem.mp hn)
  have h2 := fi_mul (dvn n (ordr_mem.mp hn))
  have h3 : (n * u / (d0 : Int)).natAbs * d0 = (n * u).natAbs := by
    have := congrArg Int.natAbs h2
    rw [Int.natAbs_mul, Int.natAbs_natCast] at this
    exact this
  have h5 : (n * u / (d0 : Int)).natAbs * 1 ≤ (n * u / (d0 : Int)).natAbs * d0 := Nat.mul_le_mul_left _ dpos
  omega
/-! ### the judges -/
theorem num_eq {A B : VS.Env → M D} {ρ : VS.Env} {i : Int} (ha : A ρ = VS.ret (.int i)) (hb : B ρ = VS.ret (.int i)) : callF (phi__law_is_number) 2 (consF A (consF B nilF)) ρ = VS.ret (.bl true) := by
  refine call_eq (ds := [.int i, .int i]) (cons_eq ha (cons_eq hb nil_eq)) rfl ?_
  simp (disch := first | decide | simp) only [phi__law_is_number, bodyF, seqS, iteS, retS, setS, tgtS, dropS, par2S, par3S, nxS, bkS, ctS, op2, consF, nilF, tupF, lstF, callF, callK, kst, biF, orB, andB, notB, truF, orV, andV, notV, negV, VS.iteF, asB, yesB, partF, partN, isNonF, notNonF, outD, rd_0, rd_s, bnd_ret, bnd_bnd, bnd_stuck, ofO_s, ofO_n, addD_i, subD_i, ordD_i, eqO_i, neO_i, truth_bl, truth_i, List.map_cons, List.map_nil, List.length_cons, List.length_nil, List.cons_append, List.nil_append, List.append_nil, List.replicate_succ, List.replicate_zero, List.set_cons_zero, List.set_cons_succ, cond_true, cond_false, Bool.cond_decide, if_true, if_false, Nat.reduceAdd, Nat.reduceSub, Nat.reduceLeDiff, Nat.zero_add, Nat.sub_self, Nat.sub_zero, decide_eq_true_eq, Bool.not_true, Bool.not_false, VS.gN, VS.gTup, VS.gCons, VS.gNil, Option.bind, fg, isiF, tyN_i, tyN_b, tyN_n, tyN_t, tyN_l, tyN_s, isTy_1, isTy_2, isTy_3, isTy_4, isTy_5, isTy_6, isTy_7, isTy_8, isTy_9, isTy_10, isTy_11, isTy_12, isBD_i, decide_true, decide_false, ne_eq, not_true_eq_false, not_false_eq_true, items_l, items_s, items_t, reduceCtorEq, Int.reduceEq, Int.reduceNe, Int.reduceLT, Int.reduceLE]
theorem zip_self (l : List (Int × Int)) : zipL (l.map prI) (l.map prI) = l.map fun p => .tup [prI p, prI p] := by
  induction l with
  | nil => rfl
  | cons p r ih => show D.tup [prI p, prI p] :: zipL (r.map prI) (r.map prI) = _; rw [ih]; rfl
theorem row_l (l : List (Int × Int)) : phi__law_is_row [.tup (l.map prI), .lst (l.map prI)] = VS.ret (.bl true) := by
  have hz : zipI2 (consF (rd 0) (consF (rd 1) nilF)) [some (.tup (l.map prI)), some (.lst (l.map prI)), none, none] = VS.ret (l.map fun p => .tup [prI p, prI p]) := by
    show ofO (some (zipL (l.map prI) (l.map prI))) = _
    rw [zip_self]
    rfl
  refine body_eq (seqC ((VS.iteN (orE (notE (k := true) (truE rfl)) (testE (bi_eq (cons_eq rfl nil_eq) (len_t _)) (bi_eq (cons_eq rfl nil_eq) (len_l _)) ((neO_i _ _).trans (by simp))))).trans rfl) ?_)
  refine seqC ((forS_eq (ds := l.map fun p => D.tup [prI p, prI p]) hz).trans (loopL (σ := Unit) (fun _ => [some (.tup (l.map prI)), some (.lst (l.map prI)), none, none]) (fun _ _ => ()) (fun p : Int × Int => D.tup [prI p, prI p]) l () fun _ p _ => ⟨[some (.tup (l.map prI)), some (.lst (l.map prI)), some (prI p), some (prI p)], rfl, [some (.tup (l.map prI)), some (.lst (l.map prI)), some (prI p), some (prI p)], ?_, rfl⟩)) (retS_eq rfl)
  have a0 : ixF (rd 2) (kst (.int 0)) [some (.tup (l.map prI)), some (.lst (l.map prI)), some (prI p), some (prI p)] = VS.ret (.int p.1) := ixE (b := .int 0) (d := .int p.1) rfl rfl rfl
  have a1 : ixF (rd 2) (kst (.int 1)) [some (.tup (l.map prI)), some (.lst (l.map prI)), some (prI p), some (prI p)] = VS.ret (.int p.2) := ixE (b := .int 1) (d := .int p.2) rfl rfl rfl
  have b0 : ixF (rd 3) (kst (.int 0)) [some (.tup (l.map prI)), some (.lst (l.map prI)), some (prI p), some (prI p)] = VS.ret (.int p.1) := ixE (b := .int 0) (d := .int p.1) rfl rfl rfl
  have b1 : ixF (rd 3) (kst (.int 1)) [some (.tup (l.map prI)), some (.lst (l.map prI)), some (prI p), some (prI p)] = VS.ret (.int p.2) := ixE (b := .int 1) (d := .int p.2) rfl rfl rfl
  have tb : ∀ {E : VS.Env → M D} {ρ : VS.Env} {i : Int}, E ρ = VS.ret (.int i) → truF (isiF "bool" E) ρ = VS.ret false := fun h => by
    refine truE ?_
    unfold isiF
    rw [h, bnd_ret]
    rfl
  refine seqC ((VS.iteN (orE (notE (k := true) (truE rfl)) (testE (a := .int 2) (b := .int 2) (bi_eq (ds := [prI p]) (cons_eq rfl nil_eq) rfl) rfl ((neO_i _ _).trans (by simp))))).trans rfl) ?_
  exact (VS.iteN (orE (tb a0) (orE (tb a1) (orE (testE a0 b0 ((neO_i _ _).trans (by simp))) (testE a1 b1 ((neO_i _ _).trans (by simp))))))).trans rfl
theorem sums_far {ns ws : List Int} {u v L d : Int} {l : List (Int × Int)} (N : Nums l ws L) (S : Sc ns ws u d) (e : L * d = v) : phi_sums_of [.tup (l.map prI)] = VS.ret (.tup (((ordr u (sumsOf ns)).map fun s => ltP (s * u) v).map prI)) := by
  rw [sums_of_eq N, S.sums]
  have l1 := N.l1
  refine congrArg (fun x => VS.ret (D.tup x)) ?_
  show ((ordr u (sumsOf ns)).map (fi u d)).map _ = _
  rw [List.map_map, List.map_map]
  refine List.map_congr_left fun s hs => ?_
  show ltD (fi u d s) L = ltD (s * u) v
  exact lt_scale S.d0 (by omega) (fi_mul (S.sum_dv (ordr_mem.mp hs))) e
theorem prods_far {ns ws : List Int} {u v L d : Int} {l : List (Int × Int)} (N : Nums l ws L) (S : Sc ns ws u d) (e : L * d = v) : phi_products_of [.tup (l.map prI)] = VS.ret (.tup (((prodsOf ns).map fun p => ltP (p * u * u) (v * v)).map prI)) := by
  rw [prods_of_eq N, S.prods]
  have l1 := N.l1
  refine congrArg (fun x => VS.ret (D.tup x)) ?_
  rw [List.map_map, List.map_map]
  refine List.map_congr_left fun p hp => ?_
  show ltD (si u d p) (L * L) = ltD (p * u * u) (v * v)
  exact lt_scale (Int.mul_pos S.d0 S.d0) (Int.mul_pos (by omega) (by omega)) (si_mul (S.prod_dv hp)) (by rw [← e]; grind)
end Lw
set_option Elab.async false
set_option linter.all false
set_option maxRecDepth 100000
namespace Lw
open PySem VS L2
local macro_rules | `(tactic| walk_at "ve") => `(tactic| repeat' first
  | ((with_reducible apply rdE); exact rfl) | with_reducible exact kstE | with_reducible exact nil_eq
  | with_reducible assumption
  | with_reducible apply op2E | with_reducible apply cons_eq | with_reducible apply bi_eq
  | with_reducible exact addD_i _ _ | with_reducible exact subD_i _ _ | with_reducible exact mulD_ok (by decide) | with_reducible exact ordD_i _ _ _ | with_reducible exact eqO_i _ _ | with_reducible exact neO_i _ _
  | ((with_reducible apply modD_ok); first | decide | omega) | ((with_reducible apply fdivD_ok) <;> first | decide | omega)
  | with_reducible exact max_i _ _ | with_reducible exact min_i _ _ | with_reducible exact max3_i _ _ _ | with_reducible exact min3_i _ _ _ | with_reducible exact int_i _ | with_reducible exact absD_i _ | with_reducible exact len_l _ | with_reducible exact len_t _ | with_reducible exact tupleD_l _ | with_reducible exact tupleD_t _ | with_reducible exact listD_l _ | with_reducible exact listH_l _ | with_reducible exact listH_t _
  | with_reducible apply negE | with_reducible apply testE | with_reducible apply notE | with_reducible apply truE | with_reducible apply tup_eq | with_reducible apply lstE | with_reducible apply ixE
  | with_reducible apply call_eq | exact (rfl : List.length _ = _) | exact le_rfl_n rfl)
local macro_rules | `(tactic| walk_at "st") => `(tactic| first
  | ((with_reducible apply seqQ0); focus (walk_at "ve"; done)) | ((with_reducible apply seqQ1); focus (walk_at "ve"; done)) | ((with_reducible apply seqQ2); focus (walk_at "ve"; done)) | ((with_reducible apply seqQ3); focus (walk_at "ve"; done)) | ((with_reducible apply seqQ4); focus (walk_at "ve"; done)) | ((with_reducible apply seqQ5); focus (walk_at "ve"; done)) | ((with_reducible apply seqQ6); focus (walk_at "ve"; done)) | ((with_reducible apply seqQ7); focus (walk_at "ve"; done)) | ((with_reducible apply seqQ8); focus (walk_at "ve"; done)) | ((with_reducible apply seqQ9); focus (walk_at "ve"; done)) | ((with_reducible apply seqQ10); focus (walk_at "ve"; done)) | ((with_reducible apply seqQ11); focus (walk_at "ve"; done)) | ((with_reducible apply seqQ12); focus (walk_at "ve"; done)) | ((with_reducible apply seqQ13); focus (walk_at "ve"; done)) | ((with_reducible apply seqQ14); focus (walk_at "ve"; done)) | ((with_reducible apply seqQ15); focus (walk_at "ve"; done)))
local macro_rules | `(tactic| walk_at "es") => `(tactic| first
  | ((with_reducible apply Ev.sT0); focus (walk_at "ve"; done)) | ((with_reducible apply Ev.sT1); focus (walk_at "ve"; done)) | ((with_reducible apply Ev.sT2); focus (walk_at "ve"; done)) | ((with_reducible apply Ev.sT3); focus (walk_at "ve"; done)) | ((with_reducible apply Ev.sT4); focus (walk_at "ve"; done)) | ((with_reducible apply Ev.sT5); focus (walk_at "ve"; done)) | ((with_reducible apply Ev.sT6); focus (walk_at "ve"; done)) | ((with_reducible apply Ev.sT7); focus (walk_at "ve"; done)) | ((with_reducible apply Ev.sT8); focus (walk_at "ve"; done)) | ((with_reducible apply Ev.sT9); focus (walk_at "ve"; done)) | ((with_reducible apply Ev.sT10); focus (walk_at "ve"; done)) | ((with_reducible apply Ev.sT11); focus (walk_at "ve"; done)) | ((with_reducible apply Ev.sT12); focus (walk_at "ve"; done)) | ((with_reducible apply Ev.sT13); focus (walk_at "ve"; done)) | ((with_reducible apply Ev.sT14); focus (walk_at "ve"; done)) | ((with_reducible apply Ev.sT15); focus (walk_at "ve"; done)))
theorem nums_one {ws : List Int} (hl : ws.length ≤ 100) (hz : ∀ a ∈ ws, a.natAbs < 2 ^ 40) : Nums (ws.map fun r => (r, (1 : Int))) ws 1 := by
  have hd : ∀ p ∈ ws.map fun r => (r, (1 : Int)), 1 ≤ p.2 ∧ p.2.natAbs ∣ 1 := fun p hp => by
    obtain ⟨r, _, rfl⟩ := List.mem_map.mp hp
    exact ⟨Int.le_refl 1, Nat.dvd_refl 1⟩
  have hL : lcmN (ws.map fun r => (r, (1 : Int))) = 1 := Nat.dvd_one.mp (lcm_dvd_fold _ 1 (Nat.dvd_refl 1) fun p hp => (hd p hp).2)
  have h := whole_eq (l := ws.map fun r => (r, (1 : Int))) (B := 1) (by decide) (by decide) hd (fun p hp => by
    obtain ⟨r, hr, rfl⟩ := List.mem_map.mp hp
    exact hz r hr) (by rw [List.length_map]; omega)
  rw [hL] at h
  have e : (ws.map fun r => (r, (1 : Int))).map (fun p : Int × Int => p.1 * (((1 : Nat) : Int) / p.2)) = ws := by
    rw [List.map_map]
    exact (List.map_congr_left fun r _ => by show r * (((1 : Nat) : Int) / 1) = r; simp).trans (List.map_id ws)
  rw [e] at h
  exact ⟨h, hl, hz, by decide, by decide⟩
theorem notV_bl {A : VS.Env → M D} {ρ : VS.Env} {k : Bool} (h : A ρ = VS.ret (.bl k)) : notV A ρ = VS.ret (.bl (!k)) := by
  unfold notV
  rw [h]
  rfl
theorem orVT {A B : VS.Env → M D} {ρ : VS.Env} (h : A ρ = ret (.bl true)) : orV A B ρ = ret (.bl true) := by
  show bnd (asB (A ρ)) _ = _
  rw [h, asB_ret, bnd_ret, cond_true]
theorem par3E {A B C : VS.Env → M D} {ρ : VS.Env} {a b c : D} {i j k : Nat} (ha : A ρ = VS.ret a) (hb : B ρ = VS.ret b) (hc : C ρ = VS.ret c) : par3S i j k A B C ρ = VS.ret (.nx (((ρ.set i (some a)).set j (some b)).set k (some c))) := by
  show bnd (A ρ) _ = _
  rw [ha, bnd_ret, hb, bnd_ret, hc, bnd_ret]
theorem rev_l {A : VS.Env → M D} {ρ : VS.Env} {ds : List D} (h : A ρ = VS.ret (.lst ds)) : revF A ρ = VS.ret (.lst ds.reverse) := by
  unfold revF
  rw [h, bnd_ret]
theorem iteBoth {S : VS.Env → M Bool} {A B : VS.Env → M D} {ρ : VS.Env} {k : Bool} {d : D} (h : S ρ = VS.ret k) (ha : A ρ = VS.ret d) (hb : B ρ = VS.ret d) : VS.iteF S A B ρ = VS.ret d := by
  refine (iteFE h).trans ?_
  cases k
  · exact hb
  · exact ha
theorem most_eq {ns : List Int} (nm : Nm ns) : ∃ m, maxLD [.lst ((ns.map fun n => ((n.natAbs : Nat) : Int)).map .int)] = some (.int m) ∧ 1 ≤ m ∧ m ≤ 1000 ∧ ∀ n ∈ ns, (n.natAbs : Int) ≤ m := by
  obtain ⟨r, hr⟩ : ∃ r, (ns.map fun n => ((n.natAbs : Nat) : Int)).max? = some r := by
    cases h : (ns.map fun n => ((n.natAbs : Nat) : Int)).max? with
    | none =>
      have := List.max?_eq_none_iff.mp h
      exact (nm.n (List.map_eq_nil_iff.mp this)).elim
    | some r => exact ⟨r, rfl⟩
  have hm := List.max?_eq_some_iff.mp hr
  refine ⟨r, ?_, ?_, ?_, fun n hn => hm.2 _ (List.mem_map.mpr ⟨n, hn, rfl⟩)⟩
  · show (asInts _).bind _ = _
    rw [asInts_map]
    show (List.max? _).map D.int = _
    rw [hr]
    rfl
  · obtain ⟨n, hn, e⟩ := List.mem_map.mp hm.1
    have := nm.z n hn
    omega
  · obtain ⟨n, hn, e⟩ := List.mem_map.mp hm.1
    have := nm.z n hn
    omega
theorem counts_ev {W : Wd} (hw : OkL W) {ns : List Int} (nm : Nm ns) : Ev (phi__law_are_counts_right [.bag, .lst (ns.map .int)]) W fun d W' => OkL W' ∧ d = .bl true := by
  have nl := nm.l
  have nz : ∀ a ∈ ns, a.natAbs < 2 ^ 40 := fun a ha => by have := (nm.z a ha).2; omega
  have nd := nodup_of_rising nm.r
  obtain ⟨mo, emo, mo1, mo2, mo3⟩ := most_eq nm
  have lS := sumsOf_len (ws := ns) (by omega)
  have lP := prodsOf_len (ws := ns) (by omega)
  have N1 := nums_one (ws := ns) (by omega) nz
  have hSM := SM_many nd
  let A : D := .lst (ns.map .int)
  let B : D := .lst ((sumsOf ns).map .int)
  let C : D := .lst ((prodsOf ns).map .int)
  refine Ev.body (.seqS (.eq (par3E (a := B) (b := C) (c := .int (ns.length : Nat)) (call_eq (ds := [A]) rfl rfl (osums_eq (by omega))) (call_eq (ds := [A]) rfl rfl (oprods_eq (by omega) nz)) (bi_eq (cons_eq rfl nil_eq) ((len_l _).trans (by rw [List.length_map])))) ?_))
  obtain ⟨gr, hgr⟩ : ∃ gr, gr = decide (8 < ((ns.length : Nat) : Int)) := ⟨_, rfl⟩
  refine .seqS (.eq (par2E (a := .int (SM ns)) (b := .bl gr) (call_eq (ds := [A, B, C]) rfl rfl (count_eq (by omega) nz)) (op2E (bi_eq (cons_eq rfl nil_eq) ((len_l _).trans (by rw [List.length_map]))) rfl ((ordD_i _ _ _).trans (by rw [hgr])))) ?_)
  show Ev (VS.seqS _ _ [some .bag, some A, some B, some C, some (.int (ns.length : Nat)), some (.int (SM ns)), some (.bl gr), none, none, none, none, none, none, none, none, none, none, none, none, none]) W _
  refine .sT7 (d := .int mo) (bi_eq (cons_eq ((lcS_m (α := Int) (en := D.int) (ge := fun n => D.int ((n.natAbs : Nat) : Int)) ns (seqFl rfl) (by omega) fun n _ => ⟨_, rfl, bi_eq (cons_eq (bi_eq (cons_eq rfl nil_eq) ((absD_i _).trans (by rw [abs_natV]))) nil_eq) (int_i _)⟩).trans (congrArg (fun x => VS.ret (D.lst x)) (by rw [List.map_map]; rfl : ns.map (fun n => D.int ((n.natAbs : Nat) : Int)) = (ns.map fun n => ((n.natAbs : Nat) : Int)).map .int))) nil_eq) emo) ?_
  have q1 : 1 ≤ 1000 / mo := (Int.le_ediv_iff_mul_le (by omega)).mpr (by omega)
  have q2 : mo * (1000 / mo) ≤ 1000 := Int.mul_ediv_self_le (by omega)
  have q3 : 1000 / mo ≤ 1000 := Int.ediv_le_self _ (by decide)
  refine .seqS (.setS (.op2F ((drP hw (k := 1000 / mo) (by decide) rfl (op2E rfl rfl (fdivD_ok (by omega) (by omega))) (by omega) (by omega)).mono ?_)))
  rintro _ W ⟨hw, t, rfl, t1, t2⟩
  refine (pm_ev hw rfl).mono ?_
  rintro _ W ⟨hw, sg, hs, rfl⟩
  haveI : Sz 20 ((t : Nat) : Int) := ⟨by omega⟩
  haveI : Sz 20 sg := ⟨by omega⟩
  obtain ⟨u, hu⟩ : ∃ u, u = (t : Int) * sg := ⟨_, rfl⟩
  have ua : u ≠ 0 ∧ u.natAbs = t := by
    rcases hs with rfl | rfl
    · omega
    · omega
  refine ⟨.int u, (mulD_ok (by decide)).trans (by rw [hu]), ?_⟩
  refine .seqS (.setS (.op2F (.eq (a := .int 1) rfl (.callF (.consF (.eq (a := .bag) rfl (.consF ((pk hw (ns := [6, 1000]) rfl (lstE rfl (le_rfl_n rfl)) (by decide) (by decide)).mono ?_))))))))
  rintro _ W ⟨hw, x, hx, rfl⟩
  have hx : x = 6 ∨ x = 1000 := by simpa using hx
  refine .nilF ⟨rfl, (draw_ev hw (by omega) (by omega)).mono ?_⟩
  rintro _ W ⟨hw, z, rfl, z0, z1⟩
  obtain ⟨v, hv⟩ : ∃ v, v = 1 + z := ⟨_, rfl⟩
  refine ⟨.int v, (addD_i _ _).trans (by rw [hv]), ?_⟩
  have U : Uv ns u v := ⟨ua.1, by omega, fun n hn => ?_, by omega, by omega⟩
  rotate_left
  · have h1 := mo3 n hn
    rw [Int.natAbs_mul, ua.2]
    have h2 : ((n.natAbs * t : Nat) : Int) ≤ mo * (1000 / mo) := by
      rw [Int.natCast_mul]
      exact Int.mul_le_mul h1 (by omega) (by omega) (by omega)
    omega
  have v1 := U.v1
  have v2 := U.v2
  obtain ⟨ws, L, d, N, S, eL⟩ := far_nums nm U
  have eS := sums_far N S eL
  have eP := prods_far N S eL
  have eM := sums_meet_eq N
  rw [S.sm] at eM
  have eS1 := sums_of_eq N1
  have eP1 := prods_of_eq N1
  have eM1 := sums_meet_eq N1
  let PR : List (Int × Int) → D := fun l => .tup (l.map prI)
  let LR : List (Int × Int) → D := fun l => .lst (l.map prI)
  let F : List (Int × Int) := ns.map fun n => ltP (n * u) v
  let FS : List (Int × Int) := (sumsOf ns).map fun s => ltP (s * u) v
  let FP : List (Int × Int) := (prodsOf ns).map fun p => ltP (p * u * u) (v * v)
  let O : List (Int × Int) := ns.map fun r => (r, (1 : Int))
  let DS : List (Int × Int) := (sumsOf ns).map fun r => (r, (1 : Int))
  let DP : List (Int × Int) := (prodsOf ns).map fun r => (r, (1 : Int))
  have eS1' : phi_sums_of [PR O] = VS.ret (PR DS) := eS1.trans (by
    refine congrArg (fun x => VS.ret (D.tup x)) ?_
    show _ = ((sumsOf ns).map fun r => (r, (1 : Int))).map prI
    rw [List.map_map]
    exact List.map_congr_left fun s _ => by show prI (ltP s 1) = prI (s, 1); rw [ltP_one])
  have eP1' : phi_products_of [PR O] = VS.ret (PR DP) := eP1.trans (by
    refine congrArg (fun x => VS.ret (D.tup x)) ?_
    show _ = ((prodsOf ns).map fun r => (r, (1 : Int))).map prI
    rw [List.map_map]
    exact List.map_congr_left fun s _ => by show prI (ltP s 1) = prI (s, 1); rw [ltP_one])
  have eS2 : phi_sums_of [PR (ordr u F)] = VS.ret (PR (ordr u FS)) := by
    have h := eS
    rw [ordr_map u (fun n => ltP (n * u) v) ns, ordr_map u (fun s => ltP (s * u) v) (sumsOf ns)] at h
    exact h
  have eP2 : phi_products_of [PR (ordr u F)] = VS.ret (PR FP) := by
    have h := eP
    rw [ordr_map u (fun n => ltP (n * u) v) ns] at h
    exact h
  have eM2 : phi_sums_meetings [PR (ordr u F)] = VS.ret (.int (SM ns)) := by
    have h := eM
    rw [ordr_map u (fun n => ltP (n * u) v) ns] at h
    exact h
  have ub := U.ub
  have unat : (u.natAbs : Nat) ≤ 1000 := ub
  have pmul : ∀ p ∈ prodsOf ns, p.natAbs ≤ 1000000 := fun p hp => by
    obtain ⟨a, ha, b, hb, rfl⟩ := mem_prodsOf.mp hp
    rw [Int.natAbs_mul]
    have := Nat.mul_le_mul (nm.z a ha).2 (nm.z b hb).2
    omega
  haveI : Sz 20 u := ⟨by omega⟩
  haveI : Sz 20 v := ⟨by omega⟩
  have vv : 1 ≤ v * v ∧ v * v ≤ 1000 * 1000 := ⟨by have := Int.mul_le_mul v1 v1 (by decide) (by omega); omega, Int.mul_le_mul v2 v2 (by omega) (by decide)⟩
  show Ev (VS.seqS _ _ [some .bag, some A, some B, some C, some (.int (ns.length : Nat)), some (.int (SM ns)), some (.bl gr), some (.int mo), some (.int u), some (.int v), none, none, none, none, none, none, none, none, none, none]) W _
  refine .seqS (.eq (par2E (a := PR O) (b := LR F) (bi_eq (cons_eq (lcS_m (α := Int) (en := D.int) (ge := fun r => prI (r, 1)) ns (seqFl rfl) (by omega) fun r _ => ⟨_, rfl, tup_eq rfl (le_rfl_n rfl)⟩) nil_eq) (by show some (D.tup _) = some (D.tup ((ns.map fun r => (r, (1 : Int))).map prI)); rw [List.map_map]; rfl)) ((lcS_m (α := Int) (en := D.int) (ge := fun n => prI (ltP (n * u) v)) ns (seqFl rfl) (by omega) fun n hn => ⟨_, rfl, call_eq (ds := [.int (n * u), .int v]) (cons_eq (?_ : _ = VS.ret (D.int (n * u))) (cons_eq rfl nil_eq)) rfl (over_eq v1 (by omega))⟩).trans (by show _ = VS.ret (D.lst ((ns.map fun n => ltP (n * u) v).map prI)); rw [List.map_map]; rfl))) ?_)
  · haveI : Sz 20 n := ⟨by have := (nm.z n hn).2; omega⟩
    exact op2E rfl rfl (mulD_ok (by decide))
  show Ev (VS.seqS _ _ [some .bag, some A, some B, some C, some (.int (ns.length : Nat)), some (.int (SM ns)), some (.bl gr), some (.int mo), some (.int u), some (.int v), some (PR O), some (LR F), none, none, none, none, none, none, none, none]) W _
  refine .eq (a := .rt (.bl true)) ?_ (show OkL W ∧ D.bl true = D.bl true from ⟨hw, rfl⟩)
  refine seqQ12 (d := LR FS) ((lcS_m (α := Int) (en := D.int) (ge := fun n => prI (ltP (n * u) v)) (sumsOf ns) (seqFl rfl) (by omega) fun n hn => ⟨_, rfl, call_eq (ds := [.int (n * u), .int v]) (cons_eq (?_ : _ = VS.ret (D.int (n * u))) (cons_eq rfl nil_eq)) rfl (over_eq v1 (by omega))⟩).trans (by show _ = VS.ret (D.lst (((sumsOf ns).map fun n => ltP (n * u) v).map prI)); rw [List.map_map]; rfl)) ?_
  · have := once_sz nz n hn
    haveI : Sz 42 n := ⟨by omega⟩
    exact op2E rfl rfl (mulD_ok (by decide))
  refine seqQ13 (d := LR FP) ((lcS_m (α := Int) (en := D.int) (ge := fun p => prI (ltP (p * u * u) (v * v))) (prodsOf ns) (seqFl rfl) (by omega) fun p hp => ⟨_, rfl, call_eq (ds := [.int (p * u * u), .int (v * v)]) (cons_eq (?_ : _ = VS.ret (D.int (p * u * u))) (cons_eq (op2E rfl rfl (mulD_ok (by decide))) nil_eq)) rfl (over_eq (by omega) (by omega))⟩).trans (by show _ = VS.ret (D.lst (((prodsOf ns).map fun p => ltP (p * u * u) (v * v)).map prI)); rw [List.map_map]; rfl)) ?_
  · have := pmul p hp
    haveI : Sz 20 p := ⟨by omega⟩
    exact op2E (op2E rfl rfl (mulD_ok (by decide))) rfl (mulD_ok (by decide))
  refine seqC (ρ1 := [some .bag, some A, some B, some C, some (.int (ns.length : Nat)), some (.int (SM ns)), some (.bl gr), some (.int mo), some (.int u), some (.int v), some (PR O), some (LR (ordr u F)), some (LR (ordr u FS)), some (LR FP), none, none, none, none, none, none]) ?_ ?_
  · have t := testE (ρ := [some .bag, some A, some B, some C, some (.int (ns.length : Nat)), some (.int (SM ns)), some (.bl gr), some (.int mo), some (.int u), some (.int v), some (PR O), some (LR F), some (LR FS), some (LR FP), none, none, none, none, none, none]) (A := rd 8) (B := kst (.int 0)) (op := ordD fun i j => decide (i < j)) rfl rfl (ordD_i _ _ _)
    by_cases c : u < 0
    · rw [decide_eq_true c] at t
      refine (VS.iteT t).trans ((par2E (a := LR F.reverse) (b := LR FS.reverse) ((rev_l (ds := F.map prI) (bi_eq (cons_eq rfl nil_eq) (listH_l _))).trans (by rw [← List.map_reverse])) ((rev_l (ds := FS.map prI) (bi_eq (cons_eq rfl nil_eq) (listH_l _))).trans (by rw [← List.map_reverse]))).trans ?_)
      unfold ordr
      rw [if_neg (by omega), if_neg (by omega)]
      rfl
    · rw [decide_eq_false c] at t
      refine (VS.iteN t).trans ?_
      unfold ordr
      rw [if_pos (by have := U.u0; omega), if_pos (by have := U.u0; omega)]
      rfl
  refine seqC (ρ1 := [some .bag, some A, some B, some C, some (.int (ns.length : Nat)), some (.int (SM ns)), some (.bl gr), some (.int mo), some (.int u), some (.int v), some (PR O), some (PR (ordr u F)), some (LR (ordr u FS)), some (LR FP), some (LR DS), some (LR DP), none, none, none, none]) (par3E (a := PR (ordr u F)) (b := LR DS) (c := LR DP) (bi_eq (cons_eq rfl nil_eq) (tupleD_l _)) ((lcS_m (α := Int) (en := D.int) (ge := fun r => prI (r, 1)) (sumsOf ns) (seqFl rfl) (by omega) fun r _ => ⟨_, rfl, tup_eq rfl (le_rfl_n rfl)⟩).trans (by show _ = VS.ret (D.lst (((sumsOf ns).map fun r => (r, (1 : Int))).map prI)); rw [List.map_map]; rfl)) ((lcS_m (α := Int) (en := D.int) (ge := fun r => prI (r, 1)) (prodsOf ns) (seqFl rfl) (by omega) fun r _ => ⟨_, rfl, tup_eq rfl (le_rfl_n rfl)⟩).trans (by show _ = VS.ret (D.lst (((prodsOf ns).map fun r => (r, (1 : Int))).map prI)); rw [List.map_map]; rfl))) ?_
  have rw_ : ∀ {E1 E2 : VS.Env → M D} {ρ : VS.Env} {l : List (Int × Int)}, E1 ρ = VS.ret (PR l) → E2 ρ = VS.ret (LR l) → callF (phi__law_is_row) 2 (consF E1 (consF E2 nilF)) ρ = VS.ret (.bl true) := fun {E1 E2 ρ l} h1 h2 => call_eq (ds := [PR l, LR l]) (cons_eq h1 (cons_eq h2 nil_eq)) rfl (row_l l)
  have two : ∀ {E F : VS.Env → M D} {ρ : VS.Env}, E ρ = VS.ret (.bl true) → F ρ = VS.ret (.bl true) → iteS (orB (notB (truF E)) (notB (truF F))) (retS (kst (.bl false))) nxS ρ = VS.ret (.nx ρ) := fun h1 h2 => (VS.iteN (orE (notE (k := true) (truE h1)) (notE (k := true) (truE h2)))).trans rfl
  refine seqC (two (rw_ (l := DS) (call_eq (ds := [PR O]) rfl rfl eS1') rfl) (rw_ (l := DP) (callKE (ds := []) (es := [PR O]) rfl rfl rfl rfl rfl eP1') rfl)) ?_
  refine seqC (two (rw_ (l := ordr u FS) (callKE (ds := []) (es := [PR (ordr u F)]) rfl rfl rfl rfl rfl eS2) rfl) (rw_ (l := FP) (call_eq (ds := [PR (ordr u F)]) rfl rfl eP2) rfl)) ?_
  refine seqC (two (rw_ (l := DS) (callKE (ds := []) (es := [PR O]) rfl rfl rfl rfl rfl eS1') rfl) (rw_ (l := DP) (call_eq (ds := [PR O]) rfl rfl eP1') rfl)) ?_
  refine seqC (setS_eq (d := .int (SM ns)) (call_eq (ds := [PR O]) rfl rfl eM1)) ?_
  haveI : Sz 10 ((ns.length : Nat) : Int) := ⟨by omega⟩
  refine seqC ((VS.iteN (orE (notE (k := true) (truE (num_eq rfl rfl))) (testE rfl (op2E (op2E rfl rfl (mulD_ok (by decide))) rfl (mulD_ok (by decide))) ((ordD_i _ _ _).trans (by rw [decide_eq_false (by omega)]))))).trans rfl) ?_
  refine seqC (guardE (truE (num_eq (callKE (ds := []) (es := [PR (ordr u F)]) rfl rfl rfl rfl rfl eM2) rfl))) ?_
  have fin : (callF (phi__law_is_number) 2 (consF (callK (phi_sums_meetings) 1 0 1 [0] nilF (consF (rd 10) nilF)) (consF (rd 5) nilF))) [some .bag, some A, some B, some C, some (.int (ns.length : Nat)), some (.int (SM ns)), some (.bl gr), some (.int mo), some (.int u), some (.int v), some (PR O), some (PR (ordr u F)), some (LR (ordr u FS)), some (LR FP), some (LR DS), some (LR DP), some (.int (SM ns)), none, none, none] = VS.ret (.bl true) := num_eq (callKE (ds := []) (es := [PR O]) rfl rfl rfl rfl rfl eM1) rfl
  refine retS_eq ?_
  cases gr with
  | true => exact orVT rfl
  | false => exact orVE rfl fin
end Lw
set_option Elab.async false
set_option linter.all false
set_option maxRecDepth 100000
namespace Lw
open PySem VS L2
local macro_rules | `(tactic| walk_at "ve") => `(tactic| repeat' first
  | ((with_reducible apply rdE); exact rfl) | with_reducible exact kstE | with_reducible exact nil_eq
  | with_reducible assumption
  | with_reducible apply op2E | with_reducible apply cons_eq | with_reducible apply bi_eq
  | with_reducible exact addD_i _ _ | with_reducible exact subD_i _ _ | with_reducible exact mulD_ok (by decide) | with_reducible exact ordD_i _ _ _ | with_reducible exact eqO_i _ _ | with_reducible exact neO_i _ _
  | ((with_reducible apply modD_ok); first | decide | omega) | ((with_reducible apply fdivD_ok) <;> first | decide | omega)
  | with_reducible exact max_i _ _ | with_reducible exact min_i _ _ | with_reducible exact max3_i _ _ _ | with_reducible exact min3_i _ _ _ | with_reducible exact int_i _ | with_reducible exact absD_i _ | with_reducible exact len_l _ | with_reducible exact len_t _ | with_reducible exact tupleD_l _ | with_reducible exact tupleD_t _ | with_reducible exact listD_l _ | with_reducible exact listH_l _ | with_reducible exact listH_t _
  | with_reducible apply negE | with_reducible apply testE | with_reducible apply notE | with_reducible apply truE | with_reducible apply tup_eq | with_reducible apply lstE | with_reducible apply ixE
  | with_reducible apply call_eq | exact (rfl : List.length _ = _) | exact le_rfl_n rfl)
local macro_rules | `(tactic| walk_at "st") => `(tactic| first
  | ((with_reducible apply seqQ0); focus (walk_at "ve"; done)) | ((with_reducible apply seqQ1); focus (walk_at "ve"; done)) | ((with_reducible apply seqQ2); focus (walk_at "ve"; done)) | ((with_reducible apply seqQ3); focus (walk_at "ve"; done)) | ((with_reducible apply seqQ4); focus (walk_at "ve"; done)) | ((with_reducible apply seqQ5); focus (walk_at "ve"; done)) | ((with_reducible apply seqQ6); focus (walk_at "ve"; done)) | ((with_reducible apply seqQ7); focus (walk_at "ve"; done)) | ((with_reducible apply seqQ8); focus (walk_at "ve"; done)) | ((with_reducible apply seqQ9); focus (walk_at "ve"; done)) | ((with_reducible apply seqQ10); focus (walk_at "ve"; done)) | ((with_reducible apply seqQ11); focus (walk_at "ve"; done)) | ((with_reducible apply seqQ12); focus (walk_at "ve"; done)) | ((with_reducible apply seqQ13); focus (walk_at "ve"; done)) | ((with_reducible apply seqQ14); focus (walk_at "ve"; done)) | ((with_reducible apply seqQ15); focus (walk_at "ve"; done)))
local macro_rules | `(tactic| walk_at "es") => `(tactic| first
  | ((with_reducible apply Ev.sT0); focus (walk_at "ve"; done)) | ((with_reducible apply Ev.sT1); focus (walk_at "ve"; done)) | ((with_reducible apply Ev.sT2); focus (walk_at "ve"; done)) | ((with_reducible apply Ev.sT3); focus (walk_at "ve"; done)) | ((with_reducible apply Ev.sT4); focus (walk_at "ve"; done)) | ((with_reducible apply Ev.sT5); focus (walk_at "ve"; done)) | ((with_reducible apply Ev.sT6); focus (walk_at "ve"; done)) | ((with_reducible apply Ev.sT7); focus (walk_at "ve"; done)) | ((with_reducible apply Ev.sT8); focus (walk_at "ve"; done)) | ((with_reducible apply Ev.sT9); focus (walk_at "ve"; done)) | ((with_reducible apply Ev.sT10); focus (walk_at "ve"; done)) | ((with_reducible apply Ev.sT11); focus (walk_at "ve"; done)) | ((with_reducible apply Ev.sT12); focus (walk_at "ve"; done)) | ((with_reducible apply Ev.sT13); focus (walk_at "ve"; done)) | ((with_reducible apply Ev.sT14); focus (walk_at "ve"; done)) | ((with_reducible apply Ev.sT15); focus (walk_at "ve"; done)))
/-! ### the lines, by codes -/
def code (t : Int × Int × Int) : Int := (t.1 * 10 + t.2.1 + 1) * 100000000 + t.2.2 + 10000000
structure LnOk (t : Int × Int × Int) : Prop where
  a : 1 ≤ t.1 ∧ t.1 ≤ 1000
  b : t.2.1 = 1 ∨ t.2.1 = -1
  c : t.2.2.natAbs ≤ 1000000
theorem mul_sz2 {a b : Int} {m n : Nat} (ha : a.natAbs ≤ m) (hb : b.natAbs ≤ n) : (a * b).natAbs ≤ m * n := by
  rw [Int.natAbs_mul]
  exact Nat.mul_le_mul ha hb
theorem ln_ok {a b : Int} (ha : a ≠ 0 ∧ a.natAbs ≤ 1000) (hb : b.natAbs ≤ 1000) : LnOk (ln a b) := by
  have m := mul_sz2 ha.2 hb
  unfold ln
  by_cases c : 0 < a
  · rw [if_pos c]
    exact ⟨⟨show 1 ≤ a by omega, show a ≤ 1000 by omega⟩, .inr rfl, show (a * b).natAbs ≤ _ by omega⟩
  · rw [if_neg c]
    refine ⟨⟨show 1 ≤ -a by omega, show -a ≤ 1000 by omega⟩, .inl rfl, show (-a * b).natAbs ≤ _ from ?_⟩
    rw [Int.neg_mul]
    omega
theorem code_inj {t s : Int × Int × Int} (ht : LnOk t) (hs : LnOk s) (h : code t = code s) : t = s := by
  obtain ⟨t1, t2, t3⟩ := t
  obtain ⟨s1, s2, s3⟩ := s
  have a := ht.a
  have b := ht.b
  have c := ht.c
  have a' := hs.a
  have b' := hs.b
  have c' := hs.c
  unfold code at h
  simp only at a b c a' b' c' h
  have e1 : t1 = s1 := by omega
  have e2 : t2 = s2 := by omega
  have e3 : t3 = s3 := by omega
  rw [e1, e2, e3]
theorem ln_inj {a b a' b' : Int} (ha : a ≠ 0) (ha' : a' ≠ 0) (h : ln a b = ln a' b') : a = a' ∧ b = b' := by
  unfold ln at h
  by_cases c : 0 < a
  · rw [if_pos c] at h
    by_cases c' : 0 < a'
    · rw [if_pos c'] at h
      have e1 : a = a' := congrArg (fun t => t.1) h
      have e2 : a * b = a' * b' := congrArg (fun t => t.2.2) h
      subst e1
      exact ⟨rfl, Int.eq_of_mul_eq_mul_left ha e2⟩
    · rw [if_neg c'] at h
      have e1 : (-1 : Int) = 1 := congrArg (fun t => t.2.1) h
      cases e1
  · rw [if_neg c] at h
    by_cases c' : 0 < a'
    · rw [if_pos c'] at h
      have e1 : (1 : Int) = -1 := congrArg (fun t => t.2.1) h
      cases e1
    · rw [if_neg c'] at h
      have e0 : -a = -a' := congrArg (fun t => t.1) h
      have e1 : a = a' := by omega
      have e2 : -a * b = -a' * b' := congrArg (fun t => t.2.2) h
      subst e1
      exact ⟨rfl, Int.eq_of_mul_eq_mul_left (show -a ≠ 0 by omega) e2⟩
theorem lns_nd {ns : List Int} (nd : ns.Nodup) (hz : ∀ a ∈ ns, a ≠ 0) : (lnsOf ns).Nodup := by
  unfold lnsOf
  have : ∀ l : List Int, l.Nodup → (∀ a ∈ l, a ≠ 0) → (l.flatMap fun a => ns.map fun b => ln a b).Nodup := fun l => by
    induction l with
    | nil => intro _ _; exact List.nodup_nil
    | cons x r ih =>
      intro hn hz
      rw [List.nodup_cons] at hn
      have hx := hz x (List.mem_cons_self ..)
      rw [List.flatMap_cons, List.nodup_append]
      refine ⟨?_, ih hn.2 fun a ha => hz a (List.mem_cons_of_mem _ ha), fun t ht s hs e => ?_⟩
      · rw [List.nodup_iff_pairwise_ne, List.pairwise_map]
        exact (List.nodup_iff_pairwise_ne.mp nd).imp fun a e => a (ln_inj hx hx e).2
      · subst e
        obtain ⟨b, hb, rfl⟩ := List.mem_map.mp ht
        obtain ⟨a, ha, hs⟩ := List.mem_flatMap.mp hs
        obtain ⟨b', hb', e⟩ := List.mem_map.mp hs
        exact hn.1 ((ln_inj (hz a (List.mem_cons_of_mem _ ha)) hx e).1 ▸ ha)
  exact this ns nd hz
def gLn (ns : List Int) (c : Int) : Int × Int × Int := ((lnsOf ns).find? fun t => decide (code t = c)).getD (0, 0, 0)
theorem gLn_eq {ns : List Int} (hok : ∀ t ∈ lnsOf ns, LnOk t) {t : Int × Int × Int} (ht : t ∈ lnsOf ns) : gLn ns (code t) = t := by
  unfold gLn
  cases h : (lnsOf ns).find? fun s => decide (code s = code t) with
  | none =>
    have := List.find?_eq_none.mp h t ht
    simp at this
  | some s =>
    have h1 := List.mem_of_find?_eq_some h
    have h2 := List.find?_some h
    exact code_inj (hok s h1) (hok t ht) (of_decide_eq_true h2)
theorem dki_ix {F A : VS.Env → M D} {ρ : VS.Env} {ms : List Int} {f : Int → D} {k : Int} (hF : F ρ = VS.ret (dki ms f)) (hA : A ρ = VS.ret (.int k)) (h : k ∈ ms) : dixF F A ρ = VS.ret (f k) := by
  unfold dixF
  rw [hF, bnd_ret, hA, bnd_ret, dki_get, if_pos h]
  rfl
theorem olines_eq {ns : List Int} (nm : Nm ns) : ∃ us : List (Int × Int × Int), phi__law_lines [.lst (ns.map .int)] = VS.ret (.tup (us.map trI)) ∧ us.Perm (lnsOf ns) := by
  have nl := nm.l
  have hok : ∀ t ∈ lnsOf ns, LnOk t := fun t ht => by
    unfold lnsOf at ht
    obtain ⟨a, ha, ht⟩ := List.mem_flatMap.mp ht
    obtain ⟨b, hb, rfl⟩ := List.mem_map.mp ht
    exact ln_ok (nm.z a ha) (nm.z b hb).2
  have hmem : ∀ a ∈ ns, ∀ b ∈ ns, ln a b ∈ lnsOf ns := fun a ha b hb => List.mem_flatMap.mpr ⟨a, ha, List.mem_map.mpr ⟨b, hb, rfl⟩⟩
  let f : Int → D := fun c => trI (gLn ns c)
  let A : D := .lst (ns.map .int)
  let cs : List Int := (lnsOf ns).map code
  have lc : cs.length ≤ 256 := by
    show ((lnsOf ns).map code).length ≤ 256
    rw [List.length_map, lns_len]
    exact Nat.mul_le_mul nl nl
  have p7 : powD (.int 10) (.int 7) = some (.int 10000000) := powD_k (by decide)
  have p8 : powD (.int 10) (.int 8) = some (.int 100000000) := powD_k (by decide)
  have fm : ∀ (l : List Int) (ms : List Int), l.foldl (fun ms a => (ns.map fun b => code (ln a b)).foldl addK ms) ms = (l.flatMap fun a => ns.map fun b => code (ln a b)).foldl addK ms := fun l => by
    induction l with
    | nil => intro ms; rfl
    | cons x r ih => intro ms; rw [List.foldl_cons, ih, List.flatMap_cons, List.foldl_append]
  have ecs : (ns.flatMap fun a => ns.map fun b => code (ln a b)) = cs := by
    show _ = (ns.flatMap fun a => ns.map fun b => ln a b).map code
    rw [List.map_flatMap]
    refine congrArg (fun g => ns.flatMap g) (funext fun a => ?_)
    rw [List.map_map]
    rfl
  have am : ∀ (a : Int) (l ms : List Int), l.foldl (fun ms b => addK ms (code (ln a b))) ms = (l.map fun b => code (ln a b)).foldl addK ms := fun a l => by
    induction l with
    | nil => intro ms; rfl
    | cons x r ih => intro ms; rw [List.foldl_cons, List.map_cons, List.foldl_cons, ih]
  let R : List Int → VS.Env := fun ms => [some A, some (dki ms f), none, none, none, none]
  have step : phi__law_lines [A] = VS.ret (.tup ((sortI (cs.foldl addK [])).map f)) := by
    refine body_eq (seqQ1 (d := dki [] f) rfl (seqC (ρ1 := R (cs.foldl addK [])) ((forS_eq (ds := ns.map .int) (seqFl rfl)).trans ((loopI R (fun ms a => (ns.map fun b => code (ln a b)).foldl addK ms) (fun ms n => ms.length + n * 16 ≤ 300) D.int ns [] (by simp; omega) fun ms a ha n hn => ?_).trans (by rw [fm, ecs]))) ?_))
    · refine ⟨by have := foldK_len (ns.map fun b => code (ln a b)) (ms := ms); rw [List.length_map] at this; omega, [some A, some (dki ms f), some (.int a), none, none, none], rfl, [some A, some (dki ((ns.map fun b => code (ln a b)).foldl addK ms) f), some (.int a), none, none, none], ?_, rfl⟩
      refine (forS_eq (ds := ns.map .int) (seqFl rfl)).trans ((loopI (fun ms : List Int => [some A, some (dki ms f), some (.int a), none, none, none]) (fun ms b => addK ms (code (ln a b))) (fun ms n => ms.length + n ≤ 1000) D.int ns ms (by omega) fun ms b hb n hn => ?_).trans (by rw [am]))
      have za := nm.z a ha
      have zb := nm.z b hb
      have lk := hok _ (hmem a ha b hb)
      have ef : f (code (ln a b)) = trI (ln a b) := by show trI (gLn ns (code (ln a b))) = _; rw [gLn_eq hok (hmem a ha b hb)]
      haveI : Sz 40 a := ⟨by omega⟩
      haveI : Sz 40 b := ⟨by omega⟩
      haveI : Sz 40 (-a) := ⟨by omega⟩
      have e4 : VS.iteF (fun ρ => asB ((op2 (ordD fun i j => decide (j < i)) (rd 2) (kst (.int 0))) ρ)) (tupF (consF (rd 2) (consF (negV (kst (.int 1))) (consF (op2 mulD (rd 2) (rd 3)) nilF)))) (tupF (consF (negV (rd 2)) (consF (kst (.int 1)) (consF (op2 mulD (negV (rd 2)) (rd 3)) nilF)))) [some A, some (dki ms f), some (.int a), some (.int b), none, none] = VS.ret (trI (ln a b)) := by
        refine (iteFE (testE (k := decide (0 < a)) rfl rfl (ordD_i _ _ _))).trans ?_
        unfold ln
        by_cases c : 0 < a
        · rw [decide_eq_true c, if_pos c]
          exact tup_eq (cons_eq rfl (cons_eq (negE' (i := 1) rfl rfl) (cons_eq (op2E rfl rfl (mulD_ok (by decide))) nil_eq))) (le_rfl_n rfl)
        · rw [decide_eq_false c, if_neg c]
          exact tup_eq (cons_eq (negE rfl) (cons_eq rfl (cons_eq (op2E (negE rfl) rfl (mulD_ok (by decide))) nil_eq))) (le_rfl_n rfl)
      generalize ln a b = t at *
      have ta := lk.a
      have tb := lk.b
      haveI : Sz 20 t.1 := ⟨by omega⟩
      haveI : Sz 20 (t.1 * 10 + t.2.1 + 1) := ⟨by omega⟩
      refine ⟨by have := @addK_len ms (code t); omega, _, rfl, _, seqC (setS_eq e4) (dput_dki (ms := ms) (f := f) (k := code t) (d := trI t) rfl rfl (op2E (op2E (op2E (op2E (op2E (op2E (ixE (b := .int 0) (d := .int t.1) rfl rfl rfl) rfl (mulD_ok (by decide))) (ixE (b := .int 1) (d := .int t.2.1) rfl rfl rfl) (addD_i _ _)) rfl (addD_i _ _)) (op2E rfl rfl p8) (mulD_ok (by decide))) (ixE (b := .int 2) (d := .int t.2.2) rfl rfl rfl) (addD_i _ _)) (op2E rfl rfl p7) (addD_i _ _)) (by omega)), ?_⟩
      show [_, some (dki _ _), _, _, _, _] = _
      rw [dki_congr (f := fun m => if m = code t then trI t else f m) (g := f) fun m _ => by
        show (if m = code t then trI t else f m) = f m
        by_cases c : m = code t
        · rw [if_pos c, c, ef]
        · rw [if_neg c]]
    · have hk := foldK_len cs (ms := [])
      simp only [List.length_nil] at hk
      have es : biF sortedH (consF (lcS [5] (keysI (rd 1)) (VS.gN 5) yesB (biF intD (consF (rd 5) nilF))) nilF) (R (cs.foldl addK [])) = VS.ret (.lst ((sortI (cs.foldl addK [])).map .int)) := bi_eq (cons_eq (keys_ints (ms := cs.foldl addK []) (f := f) rfl (by omega) fun x => ⟨_, rfl, rfl⟩) nil_eq) (sortedH_i _)
      exact retS_eq (bi_eq (cons_eq (lcS_m (α := Int) (en := D.int) (ge := f) (sortI (cs.foldl addK [])) (seqFl es) (by rw [sortI_len]; omega) fun c hc => ⟨_, rfl, dki_ix rfl rfl ((sortI_perm _).mem_iff.mp hc)⟩) nil_eq) (tupleD_l _))
  refine ⟨(sortI (cs.foldl addK [])).map (gLn ns), step.trans (by rw [List.map_map]; rfl), ?_⟩
  have nd := lns_nd (nodup_of_rising nm.r) fun a ha => (nm.z a ha).1
  have ndc : cs.Nodup := by
    show ((lnsOf ns).map code).Nodup
    rw [List.nodup_iff_pairwise_ne, List.pairwise_map]
    exact (List.nodup_iff_pairwise_ne.mp nd).imp_of_mem fun ha hb hne e => hne (code_inj (hok _ ha) (hok _ hb) e)
  have p1 : (sortI (cs.foldl addK [])).Perm cs := (sortI_perm _).trans ((List.perm_ext_iff_of_nodup (foldK_nodup _ List.nodup_nil) ndc).mpr fun x => (foldK_mem _ _).trans (by simp))
  refine (p1.map _).trans ?_
  show (((lnsOf ns).map code).map (gLn ns)).Perm _
  rw [List.map_map]
  have e : (lnsOf ns).map (gLn ns ∘ code) = lnsOf ns := (List.map_congr_left fun t ht => gLn_eq hok ht).trans (List.map_id _)
  rw [e]
end Lw
set_option Elab.async false
set_option linter.all false
set_option maxRecDepth 100000
namespace Lw
open PySem VS L2
local macro_rules | `(tactic| walk_at "ve") => `(tactic| repeat' first
  | ((with_reducible apply rdE); exact rfl) | with_reducible exact kstE | with_reducible exact nil_eq
  | with_reducible assumption
  | with_reducible apply op2E | with_reducible apply cons_eq | with_reducible apply bi_eq
  | with_reducible exact addD_i _ _ | with_reducible exact subD_i _ _ | with_reducible exact mulD_ok (by decide) | with_reducible exact ordD_i _ _ _ | with_reducible exact eqO_i _ _ | with_reducible exact neO_i _ _
  | ((with_reducible apply modD_ok); first | decide | omega) | ((with_reducible apply fdivD_ok) <;> first | decide | omega)
  | with_reducible exact max_i _ _ | with_reducible exact min_i _ _ | with_reducible exact max3_i _ _ _ | with_reducible exact min3_i _ _ _ | with_reducible exact int_i _ | with_reducible exact absD_i _ | with_reducible exact len_l _ | with_reducible exact len_t _ | with_reducible exact tupleD_l _ | with_reducible exact tupleD_t _ | with_reducible exact listD_l _ | with_reducible exact listH_l _ | with_reducible exact listH_t _
  | with_reducible apply negE | with_reducible apply testE | with_reducible apply notE | with_reducible apply truE | with_reducible apply tup_eq | with_reducible apply lstE | with_reducible apply ixE
  | with_reducible apply call_eq | exact (rfl : List.length _ = _) | exact le_rfl_n rfl)
local macro_rules | `(tactic| walk_at "st") => `(tactic| first
  | ((with_reducible apply seqQ0); focus (walk_at "ve"; done)) | ((with_reducible apply seqQ1); focus (walk_at "ve"; done)) | ((with_reducible apply seqQ2); focus (walk_at "ve"; done)) | ((with_reducible apply seqQ3); focus (walk_at "ve"; done)) | ((with_reducible apply seqQ4); focus (walk_at "ve"; done)) | ((with_reducible apply seqQ5); focus (walk_at "ve"; done)) | ((with_reducible apply seqQ6); focus (walk_at "ve"; done)) | ((with_reducible apply seqQ7); focus (walk_at "ve"; done)) | ((with_reducible apply seqQ8); focus (walk_at "ve"; done)) | ((with_reducible apply seqQ9); focus (walk_at "ve"; done)) | ((with_reducible apply seqQ10); focus (walk_at "ve"; done)) | ((with_reducible apply seqQ11); focus (walk_at "ve"; done)) | ((with_reducible apply seqQ12); focus (walk_at "ve"; done)) | ((with_reducible apply seqQ13); focus (walk_at "ve"; done)) | ((with_reducible apply seqQ14); focus (walk_at "ve"; done)) | ((with_reducible apply seqQ15); focus (walk_at "ve"; done)))
local macro_rules | `(tactic| walk_at "es") => `(tactic| first
  | ((with_reducible apply Ev.sT0); focus (walk_at "ve"; done)) | ((with_reducible apply Ev.sT1); focus (walk_at "ve"; done)) | ((with_reducible apply Ev.sT2); focus (walk_at "ve"; done)) | ((with_reducible apply Ev.sT3); focus (walk_at "ve"; done)) | ((with_reducible apply Ev.sT4); focus (walk_at "ve"; done)) | ((with_reducible apply Ev.sT5); focus (walk_at "ve"; done)) | ((with_reducible apply Ev.sT6); focus (walk_at "ve"; done)) | ((with_reducible apply Ev.sT7); focus (walk_at "ve"; done)) | ((with_reducible apply Ev.sT8); focus (walk_at "ve"; done)) | ((with_reducible apply Ev.sT9); focus (walk_at "ve"; done)) | ((with_reducible apply Ev.sT10); focus (walk_at "ve"; done)) | ((with_reducible apply Ev.sT11); focus (walk_at "ve"; done)) | ((with_reducible apply Ev.sT12); focus (walk_at "ve"; done)) | ((with_reducible apply Ev.sT13); focus (walk_at "ve"; done)) | ((with_reducible apply Ev.sT14); focus (walk_at "ve"; done)) | ((with_reducible apply Ev.sT15); focus (walk_at "ve"; done)))
/-! ### points held -/
def pk2 (p : Int × Int) : List Key := [.inl p.1, .inl p.2]
theorem pk2_inj {p q : Int × Int} (h : pk2 p = pk2 q) : p = q := by
  unfold pk2 at h
  injection h with h1 h2
  injection h2 with h2 _
  exact Prod.ext (Sum.inl.inj h1) (Sum.inl.inj h2)
def dkp (l : List (Int × Int)) : D := .dt (l.map pk2) (l.map fun _ => .bl true)
theorem pk2_mem {p : Int × Int} {l : List (Int × Int)} : pk2 p ∈ l.map pk2 ↔ p ∈ l := by
  rw [List.mem_map]
  exact ⟨fun ⟨q, hq, e⟩ => pk2_inj e ▸ hq, fun h => ⟨p, h, rfl⟩⟩
theorem look_p (p : Int × Int) : ∀ l : List (Int × Int), dLook (l.map pk2) (l.map fun _ => D.bl true) (pk2 p) = if p ∈ l then some (D.bl true) else none
  | [] => rfl
  | q :: r => by
    show (if pk2 q = pk2 p then some (D.bl true) else dLook (r.map pk2) (r.map fun _ => D.bl true) (pk2 p)) = _
    by_cases c : pk2 q = pk2 p
    · rw [if_pos c, if_pos (by rw [pk2_inj c]; exact List.mem_cons_self ..)]
    · rw [if_neg c, look_p p r]
      have : p ∈ q :: r ↔ p ∈ r := by
        rw [List.mem_cons]
        exact ⟨fun h => h.elim (fun e => (c (by rw [e])).elim) id, .inr⟩
      by_cases c2 : p ∈ r
      · rw [if_pos c2, if_pos (this.mpr c2)]
      · rw [if_neg c2, if_neg fun h => c2 (this.mp h)]
theorem dkp_in {p : Int × Int} {l : List (Int × Int)} : inG (prI p) (dkp l) = some (.bl (decide (p ∈ l))) := by
  show Option.map (fun o : Option D => D.bl o.isSome) (some (dLook (l.map pk2) (l.map fun _ => D.bl true) (pk2 p))) = _
  rw [look_p]
  by_cases c : p ∈ l
  · rw [if_pos c, decide_eq_true c]; rfl
  · rw [if_neg c, decide_eq_false c]; rfl
theorem dkp_put {i : Nat} {fk fv : VS.Env → M D} {ρ : VS.Env} {l : List (Int × Int)} {p : Int × Int} (h : ρ[i]? = some (some (dkp l))) (ev : fv ρ = VS.ret (.bl true)) (ek : fk ρ = VS.ret (prI p)) (hn : p ∉ l) (hl : l.length < 16777216) : dputS i fk fv ρ = VS.ret (.nx (ρ.set i (some (dkp (l ++ [p]))))) := by
  have e : dSet (dkp l) (prI p) (.bl true) = some (dkp (l ++ [p])) := by
    show (if (l.map pk2).length < 16777216 then some (D.dt (dPutK (l.map pk2) (pk2 p)) (dPutV (l.map pk2) (l.map fun _ => D.bl true) (pk2 p) (.bl true))) else none) = _
    rw [if_pos (by rw [List.length_map]; exact hl)]
    unfold dPutK dPutV dkp
    rw [if_neg fun h => hn (pk2_mem.mp h), if_neg fun h => hn (pk2_mem.mp h), List.map_append, List.map_append]
    rfl
  unfold dputS
  rw [ev, bnd_ret, ek, bnd_ret, h]
  show bnd (ofO (dSet (dkp l) (prI p) (.bl true))) _ = _
  rw [e, ofO_s, bnd_ret]
theorem meet_len {S : List Int} (hS : S.Nodup) {lot : List (Int × Int)} (hl : lot.Nodup) (hs : ∀ p ∈ lot, p.1 ∈ S) {t : Int × Int × Int} (ht : t.2.1 = 1 ∨ t.2.1 = -1) :
    (((S.filter fun s => decide ((s, t.2.1 * (t.2.2 - t.1 * s)) ∈ lot)).length : Nat) : Int) = metN lot t := by
  have key : ∀ x y : Int, t.1 * x + t.2.1 * y = t.2.2 ↔ y = t.2.1 * (t.2.2 - t.1 * x) := fun x y => by
    generalize t.1 * x = w
    rcases ht with h | h
    · rw [h]; omega
    · rw [h]; omega
  let φ : Int → Int × Int := fun s => (s, t.2.1 * (t.2.2 - t.1 * s))
  have n1 : ((S.filter fun s => decide (φ s ∈ lot)).map φ).Nodup := by
    rw [List.nodup_iff_pairwise_ne, List.pairwise_map]
    exact (List.nodup_iff_pairwise_ne.mp (hS.filter _)).imp fun a e => a (congrArg (fun p : Int × Int => p.1) e)
  have n2 : (lot.filter (meets t)).Nodup := hl.filter _
  have pm : ((S.filter fun s => decide (φ s ∈ lot)).map φ).Perm (lot.filter (meets t)) := (List.perm_ext_iff_of_nodup n1 n2).mpr fun p => by
    rw [List.mem_map, List.mem_filter]
    constructor
    · rintro ⟨s, h, rfl⟩
      have h := List.mem_filter.mp h
      refine ⟨of_decide_eq_true h.2, ?_⟩
      unfold meets
      exact decide_eq_true ((key s _).mpr rfl)
    · rintro ⟨h1, h2⟩
      unfold meets at h2
      have h3 := (key p.1 p.2).mp (of_decide_eq_true h2)
      have e : φ p.1 = p := Prod.ext rfl h3.symm
      refine ⟨p.1, List.mem_filter.mpr ⟨hs p h1, ?_⟩, e⟩
      rw [decide_eq_true_eq, e]
      exact h1
  have := pm.length_eq
  rw [List.length_map] at this
  unfold metN
  rw [← this]
theorem omeet_eq {S : List Int} (hS : S.Nodup) (lS : S.length ≤ 1000) {lot : List (Int × Int)} (hl : lot.Nodup) (hs : ∀ p ∈ lot, p.1 ∈ S) {t : Int × Int × Int} (ht : LnOk t) (hz : ∀ s ∈ S, s.natAbs ≤ 2000) : phi__law_own_meet [dkp lot, .lst (S.map .int), trI t] = VS.ret (.int (metN lot t)) := by
  have ta := ht.a
  have tb := ht.b
  have tc := ht.c
  refine body_eq (retS_eq (bi_eq (cons_eq (lcS_f (α := Int) (en := D.int) (ge := D.int) (t := fun s => decide ((s, t.2.1 * (t.2.2 - t.1 * s)) ∈ lot)) S (seqFl rfl) (by omega) fun s hs' => ⟨_, rfl, ?_, rfl⟩) nil_eq) ((len_l _).trans (by rw [List.length_map, meet_len hS hl hs tb]))))
  have zs := hz s hs'
  have m := mul_sz2 (a := t.1) (b := s) (m := 1000) (n := 2000) (by omega) zs
  haveI : Sz 20 t.1 := ⟨by omega⟩
  haveI : Sz 20 t.2.1 := ⟨by omega⟩
  haveI : Sz 20 s := ⟨by omega⟩
  haveI : Sz 30 (t.2.2 - t.1 * s) := ⟨by omega⟩
  exact testE (a := prI (s, t.2.1 * (t.2.2 - t.1 * s))) (tup_eq (cons_eq rfl (cons_eq (op2E (ixE (b := .int 1) (d := .int t.2.1) rfl rfl rfl) (op2E (ixE (b := .int 2) (d := .int t.2.2) rfl rfl rfl) (op2E (ixE (b := .int 0) (d := .int t.1) rfl rfl rfl) rfl (mulD_ok (by decide))) (subD_i _ _)) (mulD_ok (by decide))) nil_eq)) (le_rfl_n rfl)) rfl dkp_in
/-! ### lots -/
structure LO (pts : List (Int × Int)) (lots : List (List (Int × Int))) : Prop where
  s : ∀ l ∈ lots, l.Nodup ∧ (∀ p ∈ l, p ∈ pts) ∧ 0 < l.length
  m : lots.length ≤ 2
  t : (ls lots fun l => ((l.length : Nat) : Int)) = (pts.length : Nat) → ∀ us, (ls lots fun l => ls us (metN l)) = ls us (metN pts)
theorem pts_nd {S P : List Int} (hS : S.Nodup) (hP : P.Nodup) : (ptsOf S P).Nodup := by
  unfold ptsOf
  induction S with
  | nil => exact List.nodup_nil
  | cons x r ih =>
    rw [List.nodup_cons] at hS
    rw [List.flatMap_cons, List.nodup_append]
    refine ⟨?_, ih hS.2, fun p hp q hq e => ?_⟩
    · rw [List.nodup_iff_pairwise_ne, List.pairwise_map]
      exact (List.nodup_iff_pairwise_ne.mp hP).imp fun a e => a (congrArg (fun p : Int × Int => p.2) e)
    · subst e
      obtain ⟨a, ha, rfl⟩ := List.mem_map.mp hp
      obtain ⟨y, hy, hq⟩ := List.mem_flatMap.mp hq
      obtain ⟨b, hb, e⟩ := List.mem_map.mp hq
      have : y = x := congrArg (fun p : Int × Int => p.1) e
      exact hS.1 (this ▸ hy)
theorem lo_one {pts : List (Int × Int)} (nd : pts.Nodup) (h0 : 0 < pts.length) : LO pts [pts] :=
  ⟨fun l hl => by rw [List.mem_singleton] at hl; subst hl; exact ⟨nd, fun p hp => hp, h0⟩, by simp, fun _ us => by rw [ls_cons, ls_nil, Int.add_zero]⟩
theorem lo_two {pts : List (Int × Int)} (nd : pts.Nodup) {c : Nat} (h0 : 0 < c) (h1 : c < pts.length) : LO pts [pts.take c, pts.drop c] := by
  refine ⟨fun l hl => ?_, by simp, fun _ us => ?_⟩
  · have hl : l = pts.take c ∨ l = pts.drop c := by simpa using hl
    rcases hl with rfl | rfl
    · exact ⟨nd.sublist (List.take_sublist ..), fun p hp => List.mem_of_mem_take hp, by rw [List.length_take]; omega⟩
    · exact ⟨nd.sublist (List.drop_sublist ..), fun p hp => List.mem_of_mem_drop hp, by rw [List.length_drop]; omega⟩
  · rw [ls_cons, ls_cons, ls_nil, Int.add_zero, ← ls_add]
    refine ls_congr fun t _ => ?_
    rw [← metN_app, List.take_append_drop]
theorem lo_part {pts l : List (Int × Int)} (hl : l.Nodup) (hs : ∀ p ∈ l, p ∈ pts) (h0 : 0 < l.length) (h1 : l.length < pts.length) : LO pts [l] :=
  ⟨fun k hk => by rw [List.mem_singleton] at hk; subst hk; exact ⟨hl, hs, h0⟩, by simp, fun h us => by rw [ls_cons, ls_nil] at h; omega⟩
theorem pick_step {pts : List (Int × Int)} (nd : pts.Nodup) {a st : Nat} (s1 : 1 ≤ st) (ha : a < pts.length) : (pickL pts (some (a : Int)) none (some (st : Int))).Nodup ∧ (∀ p ∈ pickL pts (some (a : Int)) none (some (st : Int)), p ∈ pts) ∧ 0 < (pickL pts (some (a : Int)) none (some (st : Int))).length := by
  have hb : sliceBounds (some (a : Int)) none (some (st : Int)) pts.length = ((a : Int), ((pts.length : Nat) : Int), (st : Int)) := by
    unfold sliceBounds
    simp only [Option.getD_some]
    rw [if_pos (show (st : Int) > 0 by omega), if_pos (show (st : Int) > 0 by omega), if_neg (show ¬ (a : Int) < 0 by omega)]
    simp only [Prod.mk.injEq, and_true]
    omega
  unfold pickL
  rw [hb]
  unfold sliceRange
  simp only
  rw [if_pos (show (st : Int) > 0 by omega), if_pos (show (a : Int) < ((pts.length : Nat) : Int) by omega)]
  have cnt : 0 < (((pts.length : Nat) : Int) - (a : Int) + (st : Int) - 1) / (st : Int) := (Int.le_ediv_iff_mul_le (by omega)).mpr (by omega)
  generalize (((pts.length : Nat) : Int) - (a : Int) + (st : Int) - 1) / (st : Int) = n at *
  obtain ⟨m, rfl⟩ : ∃ m : Nat, n = (m : Int) + 1 := ⟨(n - 1).toNat, by omega⟩
  refine ⟨?_, fun p hp => ?_, ?_⟩
  · rw [List.filterMap_map]
    refine List.Pairwise.filterMap _ (fun i j hij p hp q hq e => ?_) List.pairwise_lt_range
    subst e
    have h1 : ((a : Int) + (st : Int) * (i : Int)).toNat < pts.length := (List.getElem?_eq_some_iff.mp hp).1
    have h2 : ((a : Int) + (st : Int) * (j : Int)).toNat < pts.length := (List.getElem?_eq_some_iff.mp hq).1
    have h3 := (List.getElem?_inj h1 nd).mp ((show pts[((a : Int) + (st : Int) * (i : Int)).toNat]? = _ from hp).trans (show pts[((a : Int) + (st : Int) * (j : Int)).toNat]? = _ from hq).symm)
    have h4 : (st : Int) * (i : Int) < (st : Int) * (j : Int) := Int.mul_lt_mul_of_pos_left (by omega) (by omega)
    have h5 : 0 ≤ (st : Int) * (i : Int) := Int.mul_nonneg (by omega) (by omega)
    omega
  · obtain ⟨i, _, h⟩ := List.mem_filterMap.mp hp
    exact List.mem_of_getElem? h
  · refine List.length_pos_of_mem (a := pts[a]) (List.mem_filterMap.mpr ⟨a, List.mem_map.mpr ⟨0, List.mem_range.mpr (by omega), by simp⟩, List.getElem?_eq_getElem ha⟩)
end Lw
set_option Elab.async false
set_option linter.all false
set_option maxRecDepth 100000
namespace Lw
open PySem VS L2
local macro_rules | `(tactic| walk_at "ve") => `(tactic| repeat' first
  | ((with_reducible apply rdE); exact rfl) | with_reducible exact kstE | with_reducible exact nil_eq
  | with_reducible assumption
  | with_reducible apply op2E | with_reducible apply cons_eq | with_reducible apply bi_eq
  | with_reducible exact addD_i _ _ | with_reducible exact subD_i _ _ | with_reducible exact mulD_ok (by decide) | with_reducible exact ordD_i _ _ _ | with_reducible exact eqO_i _ _ | with_reducible exact neO_i _ _
  | ((with_reducible apply modD_ok); first | decide | omega) | ((with_reducible apply fdivD_ok) <;> first | decide | omega)
  | with_reducible exact max_i _ _ | with_reducible exact min_i _ _ | with_reducible exact max3_i _ _ _ | with_reducible exact min3_i _ _ _ | with_reducible exact int_i _ | with_reducible exact absD_i _ | with_reducible exact len_l _ | with_reducible exact len_t _ | with_reducible exact tupleD_l _ | with_reducible exact tupleD_t _ | with_reducible exact listD_l _ | with_reducible exact listH_l _ | with_reducible exact listH_t _
  | with_reducible apply negE | with_reducible apply testE | with_reducible apply notE | with_reducible apply truE | with_reducible apply tup_eq | with_reducible apply lstE | with_reducible apply ixE
  | with_reducible apply call_eq | exact (rfl : List.length _ = _) | exact le_rfl_n rfl)
local macro_rules | `(tactic| walk_at "st") => `(tactic| first
  | ((with_reducible apply seqQ0); focus (walk_at "ve"; done)) | ((with_reducible apply seqQ1); focus (walk_at "ve"; done)) | ((with_reducible apply seqQ2); focus (walk_at "ve"; done)) | ((with_reducible apply seqQ3); focus (walk_at "ve"; done)) | ((with_reducible apply seqQ4); focus (walk_at "ve"; done)) | ((with_reducible apply seqQ5); focus (walk_at "ve"; done)) | ((with_reducible apply seqQ6); focus (walk_at "ve"; done)) | ((with_reducible apply seqQ7); focus (walk_at "ve"; done)) | ((with_reducible apply seqQ8); focus (walk_at "ve"; done)) | ((with_reducible apply seqQ9); focus (walk_at "ve"; done)) | ((with_reducible apply seqQ10); focus (walk_at "ve"; done)) | ((with_reducible apply seqQ11); focus (walk_at "ve"; done)) | ((with_reducible apply seqQ12); focus (walk_at "ve"; done)) | ((with_reducible apply seqQ13); focus (walk_at "ve"; done)) | ((with_reducible apply seqQ14); focus (walk_at "ve"; done)) | ((with_reducible apply seqQ15); focus (walk_at "ve"; done)))
local macro_rules | `(tactic| walk_at "es") => `(tactic| first
  | ((with_reducible apply Ev.sT0); focus (walk_at "ve"; done)) | ((with_reducible apply Ev.sT1); focus (walk_at "ve"; done)) | ((with_reducible apply Ev.sT2); focus (walk_at "ve"; done)) | ((with_reducible apply Ev.sT3); focus (walk_at "ve"; done)) | ((with_reducible apply Ev.sT4); focus (walk_at "ve"; done)) | ((with_reducible apply Ev.sT5); focus (walk_at "ve"; done)) | ((with_reducible apply Ev.sT6); focus (walk_at "ve"; done)) | ((with_reducible apply Ev.sT7); focus (walk_at "ve"; done)) | ((with_reducible apply Ev.sT8); focus (walk_at "ve"; done)) | ((with_reducible apply Ev.sT9); focus (walk_at "ve"; done)) | ((with_reducible apply Ev.sT10); focus (walk_at "ve"; done)) | ((with_reducible apply Ev.sT11); focus (walk_at "ve"; done)) | ((with_reducible apply Ev.sT12); focus (walk_at "ve"; done)) | ((with_reducible apply Ev.sT13); focus (walk_at "ve"; done)) | ((with_reducible apply Ev.sT14); focus (walk_at "ve"; done)) | ((with_reducible apply Ev.sT15); focus (walk_at "ve"; done)))
abbrev pL (l : List (Int × Int)) : D := .lst (l.map prI)
theorem slS_eq {A L K : VS.Env → M D} {ρ : VS.Env} {ds : List D} {i k : Int} (ha : A ρ = VS.ret (.lst ds)) (hl : L ρ = VS.ret (.int i)) (hk : K ρ = VS.ret (.int k)) (h : k ≠ 0) : slS A (partF L) partN (partF K) ρ = VS.ret (.lst (pickL ds (some i) none (some k))) := by
  unfold slS partF partN
  rw [ha, bnd_ret, hl, bnd_ret, bnd_ret, bnd_ret, hk, bnd_ret, bnd_ret]
  exact if_pos fun e => h (Option.some.inj e)
theorem pick_map {α β : Type} (f : α → β) (xs : List α) (a b c : Option Int) : pickL (xs.map f) a b c = (pickL xs a b c).map f := by
  unfold pickL
  rw [List.length_map, List.map_filterMap]
  refine congrArg (fun g => List.filterMap g _) (funext fun i => ?_)
  rw [List.getElem?_map]
theorem sl_to {A K : VS.Env → M D} {ρ : VS.Env} {ps : List (Int × Int)} {k : Nat} (h : A ρ = VS.ret (pL ps)) (hk : K ρ = VS.ret (.int (k : Nat))) : slL A partN (partF K) ρ = VS.ret (pL (ps.take k)) := by
  unfold slL partF partN
  rw [h, bnd_ret, bnd_ret, hk, bnd_ret, bnd_ret]
  show VS.ret (D.lst (cut (ps.map prI) none (some (k : Int)))) = VS.ret (D.lst ((ps.take k).map prI))
  rw [cut_toV, List.map_take]
theorem sl_from {A K : VS.Env → M D} {ρ : VS.Env} {ps : List (Int × Int)} {k : Nat} (h : A ρ = VS.ret (pL ps)) (hk : K ρ = VS.ret (.int (k : Nat))) : slL A (partF K) partN ρ = VS.ret (pL (ps.drop k)) := by
  unfold slL partF partN
  rw [h, bnd_ret, hk, bnd_ret, bnd_ret, bnd_ret]
  show VS.ret (D.lst (cut (ps.map prI) (some (k : Int)) none)) = VS.ret (D.lst ((ps.drop k).map prI))
  rw [cut_fromV, List.map_drop]
theorem few_len {ns : List Int} (h : ns.length ≤ 4) (op : Int → Int → Int) (hc : ∀ a b, op a b = op b a) : (once (ns.flatMap fun a => ns.map fun b => op a b)).length ≤ 10 := by
  have e : once (ns.flatMap fun a => ns.map fun b => op a b) = once (pr ns op ns.length) := once_congr fun z => by
    rw [pr_mem hc, List.mem_flatMap]
    exact ⟨fun ⟨a, ha, h⟩ => by obtain ⟨b, hb, rfl⟩ := List.mem_map.mp h; exact ⟨a, ha, b, hb, rfl⟩, fun ⟨a, ha, b, hb, e⟩ => ⟨a, ha, List.mem_map.mpr ⟨b, hb, e.symm⟩⟩⟩
  rw [e]
  refine Nat.le_trans (len_once _) ?_
  match ns, h with
  | [], _ => exact Nat.le_of_ble_eq_true rfl
  | [a], _ => exact Nat.le_of_ble_eq_true rfl
  | [a, b], _ => exact Nat.le_of_ble_eq_true rfl
  | [a, b, c], _ => exact Nat.le_of_ble_eq_true rfl
  | [a, b, c, d], _ => exact Nat.le_of_ble_eq_true rfl
theorem lots_ev {W : Wd} (hw : OkL W) {S P : List Int} (hS : S.Nodup) (hP : P.Nodup) (s0 : 0 < S.length) (p0 : 0 < P.length) (lS : S.length ≤ 256) (lP : P.length ≤ 256) {many : Nat} (hf : many < 5 → S.length ≤ 10 ∧ P.length ≤ 10) :
    Ev (phi__law_lots [.bag, .lst (S.map .int), .lst (P.map .int), .int (many : Nat)]) W fun d W' => OkL W' ∧ ∃ lots, d = .lst (lots.map pL) ∧ LO (ptsOf S P) lots := by
  have hp := pts_len S P
  have hp2 := Nat.mul_le_mul lS lP
  have hp1 : 0 < (ptsOf S P).length := by rw [hp]; exact Nat.mul_pos s0 p0
  have nd := pts_nd hS hP
  let A : D := .lst (S.map .int)
  let B : D := .lst (P.map .int)
  have pts : (seqS (setS 4 (lstF nilF)) (forS [5] (seqF (rd 1)) (VS.gN 5) (extS 4 (lcS [9] (seqF (rd 2)) (VS.gN 9) yesB (tupF (consF (rd 5) (consF (rd 9) nilF))))))) [some .bag, some A, some B, some (.int (many : Nat)), none, none, none, none, none, none] = VS.ret (.nx [some .bag, some A, some B, some (.int (many : Nat)), some (pL (ptsOf S P)), none, none, none, none, none]) := by
    refine seqQ4 (d := .lst (([] : List (Int × Int)).map prI)) rfl ((forS_eq (ds := S.map .int) (seqFl rfl)).trans ((loopI (fun ts : List (Int × Int) => [some .bag, some A, some B, some (.int (many : Nat)), some (pL ts), none, none, none, none, none]) (fun ts s => ts ++ P.map fun p => (s, p)) (fun ts n => ts.length + n * 256 ≤ 70000) D.int S [] (by simp; omega) fun ts s hs n hn => ?_).trans (by rw [foldMore, List.nil_append]; rfl)))
    refine ⟨by rw [List.length_append, List.length_map]; omega, _, rfl, _, extS_eq (ds := ts.map prI) (es := (P.map fun p => (s, p)).map prI) rfl ((lcS_m (α := Int) (en := D.int) (ge := fun p => prI (s, p)) P (seqFl rfl) (by omega) fun p hp => ⟨_, rfl, tup_eq rfl (le_rfl_n rfl)⟩).trans (by rw [List.map_map]; rfl)) (by rw [List.length_map, List.length_map, List.length_map]; omega), by rw [← List.map_append]; rfl⟩
  have start : ∀ {h : VS.Env → M Out} {W : Wd} {Q : Out → Wd → Prop}, Ev (h [some .bag, some A, some B, some (.int (many : Nat)), some (pL (ptsOf S P)), none, none, none, none, none]) W Q → Ev (VS.seqS (setS 4 (lstF nilF)) (VS.seqS (forS [5] (seqF (rd 1)) (VS.gN 5) (extS 4 (lcS [9] (seqF (rd 2)) (VS.gN 9) yesB (tupF (consF (rd 5) (consF (rd 9) nilF)))))) h) [some .bag, some A, some B, some (.int (many : Nat)), none, none, none, none, none, none]) W Q := fun {h W Q} q => by
    obtain ⟨x, e1, e2⟩ : ∃ ρ1, setS 4 (lstF nilF) [some .bag, some A, some B, some (.int (many : Nat)), none, none, none, none, none, none] = VS.ret (.nx ρ1) ∧ (forS [5] (seqF (rd 1)) (VS.gN 5) (extS 4 (lcS [9] (seqF (rd 2)) (VS.gN 9) yesB (tupF (consF (rd 5) (consF (rd 9) nilF)))))) ρ1 = VS.ret (.nx [some .bag, some A, some B, some (.int (many : Nat)), some (pL (ptsOf S P)), none, none, none, none, none]) := by
      refine ⟨[some .bag, some A, some B, some (.int (many : Nat)), some (.lst []), none, none, none, none, none], rfl, ?_⟩
      exact (seqS_eq (h := (forS [5] (seqF (rd 1)) (VS.gN 5) (extS 4 (lcS [9] (seqF (rd 2)) (VS.gN 9) yesB (tupF (consF (rd 5) (consF (rd 9) nilF))))))) (rfl : setS 4 (lstF nilF) [some .bag, some A, some B, some (.int (many : Nat)), none, none, none, none, none, none] = VS.ret (.nx [some .bag, some A, some B, some (.int (many : Nat)), some (.lst []), none, none, none, none, none]))).symm.trans pts
    exact .rw (seqS_eq e1) (.rw (seqS_eq e2) q)
  refine Ev.body (start ?_)
  generalize ptsOf S P = pt at *
  have hlen : ∀ {ρ : VS.Env}, ρ[4]? = some (some (pL pt)) → biF lenD (consF (rd 4) nilF) ρ = VS.ret (.int (pt.length : Nat)) := fun h => bi_eq (cons_eq (rd_at h) nil_eq) ((len_l _).trans (by rw [List.length_map]))
  refine .seqS (.iteS (.eq (testE (k := decide (((pt.length : Nat) : Int) ≤ 64)) (hlen rfl) rfl (ordD_i _ _ _)) ?_))
  by_cases c : ((pt.length : Nat) : Int) ≤ 64
  · rw [decide_eq_true c, cond_true]
    exact .eq (retS_eq (d := .lst ([pt].map pL)) (lstE (cons_eq rfl nil_eq) (le_rfl_n rfl))) (show OkL W ∧ ∃ lots, D.lst ([pt].map pL) = .lst (lots.map pL) ∧ LO pt lots from ⟨hw, [pt], rfl, lo_one nd hp1⟩)
  rw [decide_eq_false c, cond_false]
  refine .nxS (.seqS (.iteS (.eq (testE (k := decide (((many : Nat) : Int) < 5)) rfl rfl (ordD_i _ _ _)) ?_)))
  by_cases c5 : ((many : Nat) : Int) < 5
  · rw [decide_eq_true c5, cond_true]
    have hf := hf (by omega)
    have h10 := Nat.mul_le_mul hf.1 hf.2
    refine .seqS (.setS (.op2F (.eq (op2E (hlen rfl) rfl (subD_i _ _)) ((dr hw (k := 129 - ((pt.length : Nat) : Int)) rfl (op2E rfl (hlen rfl) (subD_i _ _)) (by omega) (by omega)).mono ?_))))
    rintro _ W ⟨hw, z, rfl, z0, z1⟩
    obtain ⟨k, hk⟩ := Int.eq_ofNat_of_zero_le (show 0 ≤ ((pt.length : Nat) : Int) - 64 + z by omega)
    refine ⟨.int (k : Nat), by rw [addD_i, hk], ?_⟩
    exact .eq (retS_eq (d := .lst ([pt.take k, pt.drop k].map pL)) (lstE (cons_eq (sl_to rfl rfl) (cons_eq (sl_from rfl rfl) nil_eq)) (le_rfl_n rfl))) (show OkL W ∧ ∃ lots, D.lst ([pt.take k, pt.drop k].map pL) = .lst (lots.map pL) ∧ LO pt lots from ⟨hw, _, rfl, lo_two nd (by omega) (by omega)⟩)
  rw [decide_eq_false c5, cond_false]
  have m1 : max 1 (((pt.length : Nat) : Int) / 64) = ((pt.length : Nat) : Int) / 64 := by omega
  refine .nxS (.seqS (.setS ((drP hw (k := ((pt.length : Nat) : Int) / 64) (by decide) rfl (bi_eq (cons_eq rfl (cons_eq (op2E (hlen rfl) rfl (fdivD_ok (by decide) (by decide))) nil_eq)) ((max_i _ _).trans (by rw [m1]))) (by omega) (by omega)).mono ?_)))
  rintro _ W ⟨hw, st, rfl, s1, s2⟩
  haveI : Sz 20 ((st : Nat) : Int) := ⟨by omega⟩
  refine .seqS (.setS ((dr hw (k := max 1 (((pt.length : Nat) : Int) - 64 * (st : Nat) + 1)) rfl (bi_eq (cons_eq rfl (cons_eq (op2E (op2E (hlen rfl) (op2E rfl rfl (mulD_ok (by decide))) (subD_i _ _)) rfl (addD_i _ _)) nil_eq)) (max_i _ _)) (by omega) (by omega)).mono ?_))
  rintro _ W ⟨hw, z, rfl, z0, z1⟩
  obtain ⟨a, rfl⟩ := Int.eq_ofNat_of_zero_le z0
  have pk := pick_step nd (a := a) (st := st) (by omega) (by omega)
  refine .eq (retS_eq (d := .lst ([(pickL pt (some (a : Int)) none (some (st : Int))).take 64].map pL)) (lstE (cons_eq (sl_to (k := 64) ((slS_eq (i := (a : Int)) (k := (st : Int)) rfl rfl rfl (by omega)).trans (by rw [pick_map])) rfl) nil_eq) (le_rfl_n rfl))) (show OkL W ∧ ∃ lots, D.lst ([(pickL pt (some (a : Int)) none (some (st : Int))).take 64].map pL) = .lst (lots.map pL) ∧ LO pt lots from ⟨hw, _, rfl, lo_part (pk.1.sublist (List.take_sublist ..)) (fun p hp => pk.2.1 p (List.mem_of_mem_take hp)) (by rw [List.length_take]; have := pk.2.2; omega) (by rw [List.length_take]; omega)⟩)
end Lw
set_option Elab.async false
set_option linter.all false
set_option maxRecDepth 100000
namespace Lw
open PySem VS L2
local macro_rules | `(tactic| walk_at "ve") => `(tactic| repeat' first
  | ((with_reducible apply rdE); exact rfl) | with_reducible exact kstE | with_reducible exact nil_eq
  | with_reducible assumption
  | with_reducible apply op2E | with_reducible apply cons_eq | with_reducible apply bi_eq
  | with_reducible exact addD_i _ _ | with_reducible exact subD_i _ _ | with_reducible exact mulD_ok (by decide) | with_reducible exact ordD_i _ _ _ | with_reducible exact eqO_i _ _ | with_reducible exact neO_i _ _
  | ((with_reducible apply modD_ok); first | decide | omega) | ((with_reducible apply fdivD_ok) <;> first | decide | omega)
  | with_reducible exact max_i _ _ | with_reducible exact min_i _ _ | with_reducible exact max3_i _ _ _ | with_reducible exact min3_i _ _ _ | with_reducible exact int_i _ | with_reducible exact absD_i _ | with_reducible exact len_l _ | with_reducible exact len_t _ | with_reducible exact tupleD_l _ | with_reducible exact tupleD_t _ | with_reducible exact listD_l _ | with_reducible exact listH_l _ | with_reducible exact listH_t _
  | with_reducible apply negE | with_reducible apply testE | with_reducible apply notE | with_reducible apply truE | with_reducible apply tup_eq | with_reducible apply lstE | with_reducible apply ixE
  | with_reducible apply call_eq | exact (rfl : List.length _ = _) | exact le_rfl_n rfl)
local macro_rules | `(tactic| walk_at "st") => `(tactic| first
  | ((with_reducible apply seqQ0); focus (walk_at "ve"; done)) | ((with_reducible apply seqQ1); focus (walk_at "ve"; done)) | ((with_reducible apply seqQ2); focus (walk_at "ve"; done)) | ((with_reducible apply seqQ3); focus (walk_at "ve"; done)) | ((with_reducible apply seqQ4); focus (walk_at "ve"; done)) | ((with_reducible apply seqQ5); focus (walk_at "ve"; done)) | ((with_reducible apply seqQ6); focus (walk_at "ve"; done)) | ((with_reducible apply seqQ7); focus (walk_at "ve"; done)) | ((with_reducible apply seqQ8); focus (walk_at "ve"; done)) | ((with_reducible apply seqQ9); focus (walk_at "ve"; done)) | ((with_reducible apply seqQ10); focus (walk_at "ve"; done)) | ((with_reducible apply seqQ11); focus (walk_at "ve"; done)) | ((with_reducible apply seqQ12); focus (walk_at "ve"; done)) | ((with_reducible apply seqQ13); focus (walk_at "ve"; done)) | ((with_reducible apply seqQ14); focus (walk_at "ve"; done)) | ((with_reducible apply seqQ15); focus (walk_at "ve"; done)))
local macro_rules | `(tactic| walk_at "es") => `(tactic| first
  | ((with_reducible apply Ev.sT0); focus (walk_at "ve"; done)) | ((with_reducible apply Ev.sT1); focus (walk_at "ve"; done)) | ((with_reducible apply Ev.sT2); focus (walk_at "ve"; done)) | ((with_reducible apply Ev.sT3); focus (walk_at "ve"; done)) | ((with_reducible apply Ev.sT4); focus (walk_at "ve"; done)) | ((with_reducible apply Ev.sT5); focus (walk_at "ve"; done)) | ((with_reducible apply Ev.sT6); focus (walk_at "ve"; done)) | ((with_reducible apply Ev.sT7); focus (walk_at "ve"; done)) | ((with_reducible apply Ev.sT8); focus (walk_at "ve"; done)) | ((with_reducible apply Ev.sT9); focus (walk_at "ve"; done)) | ((with_reducible apply Ev.sT10); focus (walk_at "ve"; done)) | ((with_reducible apply Ev.sT11); focus (walk_at "ve"; done)) | ((with_reducible apply Ev.sT12); focus (walk_at "ve"; done)) | ((with_reducible apply Ev.sT13); focus (walk_at "ve"; done)) | ((with_reducible apply Ev.sT14); focus (walk_at "ve"; done)) | ((with_reducible apply Ev.sT15); focus (walk_at "ve"; done)))
theorem meets_ev {W : Wd} (hw : OkL W) {ns : List Int} (nm : Nm ns) : Ev (phi__law_are_meetings_right [.bag, .lst (ns.map .int)]) W fun d W' => OkL W' ∧ d = .bl true := by
  have nl := nm.l
  have nz : ∀ a ∈ ns, a.natAbs < 2 ^ 40 := fun a ha => by have := (nm.z a ha).2; omega
  have nd := nodup_of_rising nm.r
  have nS : (sumsOf ns).Nodup := nodup_of_rising (once_rising _)
  have nP : (prodsOf ns).Nodup := nodup_of_rising (once_rising _)
  have lS : (sumsOf ns).length ≤ 256 := by
    refine Nat.le_trans (len_once _) ?_
    rw [flat_len2]
    exact Nat.mul_le_mul nl nl
  have lP : (prodsOf ns).length ≤ 256 := by
    refine Nat.le_trans (len_once _) ?_
    rw [flat_len2]
    exact Nat.mul_le_mul nl nl
  obtain ⟨x0, r0, hx0⟩ := List.exists_cons_of_ne_nil nm.n
  have x0m : x0 ∈ ns := by rw [hx0]; exact List.mem_cons_self ..
  have sS : 0 < (sumsOf ns).length := List.length_pos_of_mem (mem_sumsOf.mpr ⟨x0, x0m, x0, x0m, rfl⟩)
  have sP : 0 < (prodsOf ns).length := List.length_pos_of_mem (mem_prodsOf.mpr ⟨x0, x0m, x0, x0m, rfl⟩)
  have hSM := SM_many nd
  have zS : ∀ s ∈ sumsOf ns, s.natAbs ≤ 2000 := fun s hs => by
    obtain ⟨a, ha, b, hb, rfl⟩ := mem_sumsOf.mp hs
    have := (nm.z a ha).2
    have := (nm.z b hb).2
    omega
  have zP : ∀ s ∈ prodsOf ns, s.natAbs ≤ 1000000 := fun s hs => by
    obtain ⟨a, ha, b, hb, rfl⟩ := mem_prodsOf.mp hs
    exact mul_sz2 (nm.z a ha).2 (nm.z b hb).2
  obtain ⟨us, eu, pu⟩ := olines_eq nm
  have hok : ∀ t ∈ us, LnOk t := fun t ht => by
    have ht := pu.mem_iff.mp ht
    unfold lnsOf at ht
    obtain ⟨a, ha, ht⟩ := List.mem_flatMap.mp ht
    obtain ⟨b, hb, rfl⟩ := List.mem_map.mp ht
    exact ln_ok (nm.z a ha) (nm.z b hb).2
  have ul : us.length ≤ 256 := by
    rw [pu.length_eq, lns_len]
    exact Nat.mul_le_mul nl nl
  have u0 : 0 < us.length := by
    rw [pu.length_eq, lns_len, hx0]
    exact Nat.mul_pos (Nat.succ_pos _) (Nat.succ_pos _)
  have total : ls us (metN (ptsOf (sumsOf ns) (prodsOf ns))) = SM ns := by
    rw [ls_perm pu]
    unfold lnsOf SM
    rw [ls_flat]
    refine ls_congr fun a _ => ?_
    rw [ls_map]
    exact ls_congr fun b _ => met_hit (ws := ns) _ _ nP a b
  let A : D := .lst (ns.map .int)
  let B : D := .lst ((sumsOf ns).map .int)
  let C : D := .lst ((prodsOf ns).map .int)
  let LT : D := .tup (us.map trI)
  refine Ev.body (.seqS (.eq (par3E (a := B) (b := C) (c := .int (ns.length : Nat)) (call_eq (ds := [A]) rfl rfl (osums_eq (by omega))) (call_eq (ds := [A]) rfl rfl (oprods_eq (by omega) nz)) (bi_eq (cons_eq rfl nil_eq) ((len_l _).trans (by rw [List.length_map])))) ?_))
  refine .seqS (.par2S (.eq (call_eq (ds := [A]) rfl rfl eu) (.rw (callE (ds := [.bag, B, C, .int (ns.length : Nat)]) (cons_eq rfl (cons_eq rfl (cons_eq rfl (cons_eq (bi_eq (cons_eq rfl nil_eq) ((len_l _).trans (by rw [List.length_map]))) nil_eq)))) rfl) ((lots_ev hw nS nP sS sP lS lP (many := ns.length) fun h => ⟨few_len (by omega) (fun a b => a + b) Int.add_comm, few_len (by omega) (fun a b => a * b) Int.mul_comm⟩).mono ?_))))
  rintro _ W ⟨hw, lots, rfl, lo⟩
  let LO_ : D := .lst (lots.map pL)
  show Ev (VS.seqS _ _ [some .bag, some A, some B, some C, some (.int (ns.length : Nat)), some LT, some LO_, none, none, none, none, none, none, none, none, none, none, none, none, none, none, none, none]) W _
  refine .seqS (.eq (par3E (a := .int (SM ns)) (b := .int 0) (c := .bl false) (call_eq (ds := [A, B, C]) rfl rfl (count_eq (by omega) nz)) rfl rfl) ?_)
  refine .seqS (.par2S ((dr hw (k := (us.length : Nat)) rfl (bi_eq (cons_eq rfl nil_eq) ((len_t _).trans (by rw [List.length_map]))) (by omega) (by omega)).mono ?_))
  rintro _ W ⟨hw, pz, rfl, p1, p2⟩
  obtain ⟨pl, rfl⟩ := Int.eq_ofNat_of_zero_le p1
  refine (dr hw rfl rfl (by decide) (by decide)).mono ?_
  rintro _ W ⟨hw, sp, rfl, _, _⟩
  show Ev (VS.seqS _ _ [some .bag, some A, some B, some C, some (.int (ns.length : Nat)), some LT, some LO_, some (.int (SM ns)), some (.int 0), some (.bl false), some (.int (pl : Nat)), some (.int sp), none, none, none, none, none, none, none, none, none, none, none]) W _
  refine .eq (a := .rt (.bl true)) ?_ (show OkL W ∧ D.bl true = D.bl true from ⟨hw, rfl⟩)
  let R : Int × Option D → VS.Env := fun x => [some .bag, some A, some B, some C, some (.int (ns.length : Nat)), some LT, some LO_, some (.int (SM ns)), some (.int x.1), some (.bl false), some (.int (pl : Nat)), some (.int sp), x.2, none, none, none, none, none, none, none, none, none, none]
  have lo1 := lo.m
  have hplt : ixM LT (.int (pl : Nat)) = VS.ret (trI us[pl]) := by
    have : pl < us.length := by omega
    exact ixTV this
  have pok := hok _ (List.getElem_mem (show pl < us.length by omega))
  have held : ∀ (r acc : List (Int × Int)) (t8 : Int) (l : List (Int × Int)), (acc ++ r).Nodup → (acc ++ r).length ≤ 70000 → VS.forF (VS.gN 14) (dputS 13 (rd 14) (kst (.bl true))) [14] (r.map prI) [some .bag, some A, some B, some C, some (.int (ns.length : Nat)), some LT, some LO_, some (.int (SM ns)), some (.int t8), some (.bl false), some (.int (pl : Nat)), some (.int sp), some (pL l), some (dkp acc), none, none, none, none, none, none, none, none, none] = VS.ret (.nx [some .bag, some A, some B, some C, some (.int (ns.length : Nat)), some LT, some LO_, some (.int (SM ns)), some (.int t8), some (.bl false), some (.int (pl : Nat)), some (.int sp), some (pL l), some (dkp (acc ++ r)), none, none, none, none, none, none, none, none, none]) := fun r => by
    induction r with
    | nil => intro acc t8 l _ _; rw [List.append_nil]; rfl
    | cons p r ih =>
      intro acc t8 l hn hl
      have hp : p ∉ acc := fun h => by
        rw [List.nodup_append] at hn
        exact hn.2.2 p h p (List.mem_cons_self ..) rfl
      have e : acc ++ p :: r = (acc ++ [p]) ++ r := by simp
      rw [e] at hn hl ⊢
      have al : acc.length < 16777216 := by rw [List.length_append, List.length_append] at hl; omega
      show bnd (ofO (some ([some .bag, some A, some B, some C, some (.int (ns.length : Nat)), some LT, some LO_, some (.int (SM ns)), some (.int t8), some (.bl false), some (.int (pl : Nat)), some (.int sp), some (pL l), some (dkp acc), some (prI p), none, none, none, none, none, none, none, none] : VS.Env))) _ = _
      rw [ofO_s, bnd_ret, dkp_put (l := acc) (p := p) rfl rfl rfl hp al, bnd_ret]
      exact ih (acc ++ [p]) t8 l hn hl
  have hpts := pts_len (sumsOf ns) (prodsOf ns)
  have hpts2 := Nat.mul_le_mul lS lP
  refine seqC (ρ1 := R (lots.foldl (fun x l => (x.1 + ls us (metN l), some (pL l))) (0, none))) ((forS_eq (ds := lots.map pL) (seqFl rfl)).trans (loopL (σ := Int × Option D) R (fun x l => (x.1 + ls us (metN l), some (pL l))) pL lots (0, none) fun x l hl => ?_)) ?_
  · obtain ⟨h1, h2, h3⟩ := lo.s l hl
    obtain ⟨t8, o12⟩ := x
    have ll : l.length ≤ 65536 := by
      have : l.length ≤ (ptsOf (sumsOf ns) (prodsOf ns)).length := h1.length_le_of_subset h2
      omega
    have hfst : ∀ p ∈ l, p.1 ∈ sumsOf ns ∧ p.2 ∈ prodsOf ns := fun p hp => by
      have h := h2 p hp
      unfold ptsOf at h
      obtain ⟨s, hs, h⟩ := List.mem_flatMap.mp h
      obtain ⟨q, hq, rfl⟩ := List.mem_map.mp h
      exact ⟨hs, hq⟩
    have pz : ∀ p ∈ l, p.1.natAbs < 2 ^ 64 ∧ p.2.natAbs < 2 ^ 64 := fun p hp => by
      have a := zS _ (hfst p hp).1
      have b := zP _ (hfst p hp).2
      omega
    have tz : ∀ t ∈ us, t.1.natAbs < 2 ^ 64 ∧ t.2.1.natAbs < 2 ^ 64 := fun t ht => by
      have a := (hok t ht).a
      have b := (hok t ht).b
      omega
    have sm : Sml l us := ⟨pz, tz, by omega, by omega⟩
    have hsp0 : 0 ≤ sp % ((l.length : Nat) : Int) := Int.emod_nonneg _ (by omega)
    have hsp1 : sp % ((l.length : Nat) : Int) < ((l.length : Nat) : Int) := Int.emod_lt_of_pos _ (by omega)
    obtain ⟨k, hk⟩ := Int.eq_ofNat_of_zero_le hsp0
    have kl : k < l.length := by omega
    obtain ⟨q, hq⟩ : ∃ q, q = l[k] := ⟨_, rfl⟩
    have qm : q ∈ l := by rw [hq]; exact List.getElem_mem kl
    have eq_ : ixM (pL l) (.int (k : Nat)) = VS.ret (prI q) := by rw [hq]; exact ixAV kl
    let M : Int := ls us (metN l)
    let RI : D := .lst ((us.map (metN l)).map .int)
    let FE : Int := ((us.filter fun t => meets t q).length : Nat)
    have em := meetings_eq sm
    have em1 : phi_meetings [.tup (l.map prI), .tup ([us[pl]].map trI)] = VS.ret (.int (metN l us[pl])) := (meetings_eq (ps := l) (ts := [us[pl]]) ⟨pz, fun t ht => by rw [List.mem_singleton] at ht; subst ht; exact tz _ (List.getElem_mem _), by omega, by simp⟩).trans (by rw [ls_cons, ls_nil, Int.add_zero])
    have em2 : phi_meetings [.tup ([q].map prI), .tup (us.map trI)] = VS.ret (.int FE) := (meetings_eq (ps := [q]) (ts := us) ⟨fun p hp => by rw [List.mem_singleton] at hp; subst hp; exact pz _ qm, tz, by simp, by omega⟩).trans (by
      refine congrArg (fun x => VS.ret (D.int x)) ?_
      show _ = (((us.filter fun t => meets t q).length : Nat) : Int)
      rw [flen]
      refine ls_congr fun t _ => ?_
      unfold metN
      rw [List.filter_cons]
      by_cases c : meets t q = true
      · rw [if_pos c, if_pos c]; rfl
      · rw [if_neg c, if_neg c]; rfl)
    let E : Option D → Option D → Option D → Option D → Option D → Option D → Option D → VS.Env := fun a14 a15 a16 a17 a18 a19 a20 => [some .bag, some A, some B, some C, some (.int (ns.length : Nat)), some LT, some LO_, some (.int (SM ns)), some (.int t8), some (.bl false), some (.int (pl : Nat)), some (.int sp), some (pL l), some (dkp l), a14, a15, a16, a17, a18, a19, a20, none, none]
    refine ⟨[some .bag, some A, some B, some C, some (.int (ns.length : Nat)), some LT, some LO_, some (.int (SM ns)), some (.int t8), some (.bl false), some (.int (pl : Nat)), some (.int sp), some (pL l), none, none, none, none, none, none, none, none, none, none], rfl, [some .bag, some A, some B, some C, some (.int (ns.length : Nat)), some LT, some LO_, some (.int (SM ns)), some (.int (t8 + M)), some (.bl false), some (.int (pl : Nat)), some (.int sp), some (pL l), some (dkp l), some (prI q), some RI, some (.int M), some (.int (metN l us[pl])), some (.tup (l.map prI)), some (.int FE), some (.int M), none, none], ?_, rfl⟩
    refine seqQ13 (d := dkp []) rfl ?_
    refine seqC (ρ1 := E none none none none none none none) ((forS_eq (ds := l.map prI) (seqFl rfl)).trans (held l [] t8 l (by simpa using h1) (by simpa using (by omega : l.length ≤ 70000)))) ?_
    refine seqQ15 (d := RI) ((lcS_m (α := Int × Int × Int) (en := trI) (ge := fun t => D.int (metN l t)) us (seqFt rfl) (by omega) fun t ht => ⟨_, rfl, call_eq (ds := [dkp l, B, trI t]) rfl rfl (omeet_eq nS (by omega) h1 (fun p hp => (hfst p hp).1) (hok t ht) zS)⟩).trans (congrArg (fun x => VS.ret (D.lst x)) (by rw [List.map_map]; rfl : us.map (fun t => D.int (metN l t)) = (us.map (metN l)).map .int))) ?_
    refine seqC (ρ1 := E none (some RI) (some (.int M)) (some (.int (metN l us[pl]))) (some (.tup (l.map prI))) none none) (par3E (a := .int M) (b := .int (metN l us[pl])) (c := .tup (l.map prI)) (bi_eq (cons_eq (lcS_m (α := Int) (en := D.int) (ge := D.int) (us.map (metN l)) (seqFl rfl) (by rw [List.length_map]; omega) fun x _ => ⟨_, rfl, bi_eq (cons_eq rfl nil_eq) (int_i _)⟩) nil_eq) (by
      show (asInts ((us.map (metN l)).map .int)).bind _ = _
      rw [asInts_map]
      rfl)) (ixE rfl rfl ((ixAV (en := D.int) (xs := us.map (metN l)) (i := pl) (by rw [List.length_map]; omega)).trans (by rw [List.getElem_map]))) (bi_eq (cons_eq rfl nil_eq) (tupleD_l _))) ?_
    refine seqQ14 (d := prI q) (ixE (b := .int (k : Nat)) rfl (op2E (bi_eq (cons_eq rfl nil_eq) (int_i _)) (bi_eq (cons_eq rfl nil_eq) ((len_l _).trans (by rw [List.length_map]))) ((modD_ok (by omega)).trans (by rw [hk]))) eq_) ?_
    have qz := pz q qm
    refine seqC (ρ1 := E (some (prI q)) (some RI) (some (.int M)) (some (.int (metN l us[pl]))) (some (.tup (l.map prI))) (some (.int FE)) none) (setS_eq (d := .int FE) (bi_eq (cons_eq (lcS_f (α := Int × Int × Int) (en := trI) (ge := trI) (t := fun t => meets t q) us (seqFt rfl) (by omega) fun t ht => ⟨_, rfl, ?_, rfl⟩) nil_eq) ((len_l _).trans (by rw [List.length_map])))) ?_
    · have tz' := tz t ht
      haveI : Sz 64 t.1 := ⟨tz'.1⟩
      haveI : Sz 64 t.2.1 := ⟨tz'.2⟩
      haveI : Sz 64 q.1 := ⟨qz.1⟩
      haveI : Sz 64 q.2 := ⟨qz.2⟩
      exact testE (op2E (op2E (ixE (b := .int 0) (d := .int t.1) rfl rfl rfl) (ixE (b := .int 0) (d := .int q.1) rfl rfl rfl) (mulD_ok (by decide))) (op2E (ixE (b := .int 1) (d := .int t.2.1) rfl rfl rfl) (ixE (b := .int 1) (d := .int q.2) rfl rfl rfl) (mulD_ok (by decide))) (addD_i _ _)) (ixE (b := .int 2) (d := .int t.2.2) rfl rfl rfl) (eqO_i _ _)
    refine seqC (ρ1 := E (some (prI q)) (some RI) (some (.int M)) (some (.int (metN l us[pl]))) (some (.tup (l.map prI))) (some (.int FE)) (some (.int M))) (setS_eq (d := .int M) (call_eq (ds := [.tup (l.map prI), LT]) rfl rfl em)) ?_
    refine seqC ((VS.iteN (orE (notE (k := true) (truE (num_eq rfl rfl))) (notE (k := true) (truE (num_eq (call_eq (ds := [.tup (l.map prI), .tup ([us[pl]].map trI)]) (cons_eq rfl (cons_eq (tup_eq (cons_eq (ixE rfl rfl hplt) nil_eq) (le_rfl_n rfl)) nil_eq)) rfl em1) rfl))))).trans rfl) ?_
    refine seqC (guardE (truE (num_eq (callKE (ds := []) (es := [LT, .tup ([q].map prI)]) rfl (cons_eq rfl (cons_eq (tup_eq rfl (le_rfl_n rfl)) nil_eq)) rfl rfl rfl em2) rfl))) ?_
    refine seqC (guardE (truE (num_eq (callKE (ds := []) (es := [.tup (l.map prI), LT]) rfl rfl rfl rfl rfl em) rfl))) ?_
    exact setS_eq (op2E rfl rfl (addD_i _ _))
  have fst : ∀ (ls' : List (List (Int × Int))) (x : Int × Option D), (ls'.foldl (fun x l => (x.1 + ls us (metN l), some (pL l))) x).1 = x.1 + ls ls' fun l => ls us (metN l) := fun ls' => by
    induction ls' with
    | nil => intro x; rw [ls_nil]; show x.1 = x.1 + 0; omega
    | cons l r ih => intro x; rw [List.foldl_cons, ih, ls_cons]; show x.1 + ls us (metN l) + _ = _; omega
  have ft := fst lots (0, none)
  generalize lots.foldl (fun x l => (x.1 + ls us (metN l), some (pL l))) ((0 : Int), (none : Option D)) = T at *
  obtain ⟨t8, o12⟩ := T
  have ft : t8 = 0 + ls lots fun l => ls us (metN l) := ft
  obtain ⟨al, hal⟩ : ∃ al, al = decide ((ls lots fun l => ((l.length : Nat) : Int)) = ((sumsOf ns).length : Int) * ((prodsOf ns).length : Int)) := ⟨_, rfl⟩
  haveI : Sz 20 (((sumsOf ns).length : Nat) : Int) := ⟨by omega⟩
  haveI : Sz 20 (((prodsOf ns).length : Nat) : Int) := ⟨by omega⟩
  haveI : Sz 20 ((ns.length : Nat) : Int) := ⟨by omega⟩
  refine seqC (setS_eq (d := .bl al) (op2E (a := .int (ls lots fun l => ((l.length : Nat) : Int))) (bi_eq (cons_eq (lcS_m (α := List (Int × Int)) (en := pL) (ge := fun l => D.int ((l.length : Nat) : Int)) lots (seqFl rfl) (by omega) fun l _ => ⟨_, rfl, bi_eq (cons_eq rfl nil_eq) ((len_l _).trans (by rw [List.length_map]))⟩) nil_eq) (by
    have e : lots.map (fun l => D.int ((l.length : Nat) : Int)) = (lots.map fun l => ((l.length : Nat) : Int)).map .int := by rw [List.map_map]; rfl
    rw [e]
    show (asInts _).bind _ = _
    rw [asInts_map]
    rfl)) (op2E (a := .int ((sumsOf ns).length : Nat)) (b := .int ((prodsOf ns).length : Nat)) (bi_eq (cons_eq rfl nil_eq) ((len_l _).trans (by rw [List.length_map]))) (bi_eq (cons_eq rfl nil_eq) ((len_l _).trans (by rw [List.length_map]))) (mulD_ok (by decide))) ((eqO_i _ _).trans (by rw [hal])))) (retS_eq ?_)
  cases al with
  | false => exact orVT (notV_bl (k := false) rfl)
  | true =>
    have ha : (ls lots fun l => ((l.length : Nat) : Int)) = ((sumsOf ns).length : Int) * ((prodsOf ns).length : Int) := of_decide_eq_true hal.symm
    have ht := lo.t (by rw [ha, hpts, Int.natCast_mul]) us
    rw [total] at ht
    rw [ht] at ft
    have ft : t8 = SM ns := by omega
    subst ft
    refine orVE (notV_bl (k := true) rfl) (andVE (op2E rfl rfl ((eqO_i _ _).trans (by simp))) (op2E rfl (op2E (op2E rfl rfl (mulD_ok (by decide))) rfl (mulD_ok (by decide))) ((ordD_i _ _ _).trans (by rw [decide_eq_true (by omega)]))))
theorem all_ev {W : Wd} (hw : OkL W) : Ev (phi__law_all [.bag]) W fun d W' => d = .bl true := by
  refine Ev.body (.seqS (.setS (.rw (callE (ds := [.bag]) rfl rfl) ((nums_ev hw).mono ?_))))
  rintro _ W ⟨hw, ns, rfl, nm⟩
  refine .seqS (.iteS (.orB (.notB (.truF (.rw (callE (ds := [.bag, .lst (ns.map .int)]) rfl rfl) ((counts_ev hw nm).mono ?_))))))
  rintro _ W ⟨hw, rfl⟩
  refine ⟨true, rfl, ?_⟩
  show Ev (VS.notB _ _) W _
  refine .notB (.truF (.rw (callE (ds := [.bag, .lst (ns.map .int)]) rfl rfl) ((meets_ev hw nm).mono ?_)))
  rintro _ W ⟨hw, rfl⟩
  refine ⟨true, rfl, ?_⟩
  show Ev (VS.nxS _) W _
  refine .nxS (.retS ?_)
  refine .bnd (.bnd (.op2F ((dr hw rfl rfl (by decide) (by decide)).mono ?_)))
  rintro _ W ⟨hw, z, rfl, _, _⟩
  refine .eq (a := .int 0) rfl ⟨_, ordD_i _ _ _, .eq (a := decide (0 < z)) rfl ?_⟩
  cases decide (0 < z) with
  | true => exact .eq (a := .bl true) rfl rfl
  | false =>
    refine .callF (.consF (.eq (a := .bag) rfl (.consF (.rw (callE (ds := [.bag]) rfl rfl) ((great_ev hw).mono ?_)))))
    rintro _ W ⟨hw, qs, rfl, nq⟩
    refine .nilF ⟨rfl, (counts_ev hw nq).mono ?_⟩
    rintro _ W ⟨_, rfl⟩
    rfl
theorem law_ev {ns : List Int} (hl : ns.length ≤ 63) : Ev (phi_law [.scr ns]) none fun d W' => d = .bl true := by
  refine Ev.body (.retS (.callF (.consF (.rw (callE (ds := [.scr ns]) rfl rfl) ((bag_ev hl).mono ?_)))))
  rintro _ W ⟨rfl, hw⟩
  exact .nilF ⟨rfl, all_ev hw⟩
theorem law_true : ∀ ns : List Int, ns.length ≤ 63 → (∀ z ∈ ns, Builtin.Int.intBits z ≤ 1048576) → ∃ W, phi_law [.scr ns] none = some (.bl true, W) := fun ns h _ => by
  obtain ⟨d, W, e, rfl⟩ := law_ev h
  exact ⟨W, e⟩
end Lw
set_option Elab.async false
set_option maxRecDepth 100000
namespace Lw
open PySem PySem.Spec PyProof.Rows L2 VS
theorem all_mk {l : PySem.W.OpenLaw} {w : World} {K : PySem.W.Frag} {h : Heap} {mg : Str → Option Value} {fa : Addr} (X : K.In h) (G : h.Ns mainGlobals mg) (hfa : mg "law" = some (.ref fa))
  {f4 : Addr} {od4 an4 : Option Addr} {sl4 : Array (Option Value)} {oc4 kV4 dc4 pm4 cd4 ct4 : Value}
  {f6 : Addr} {od6 an6 : Option Addr} {sl6 : Array (Option Value)} {oc6 kV6 dc6 pm6 cd6 ct6 : Value}
  {f7 : Addr} {od7 an7 : Option Addr} {sl7 : Array (Option Value)} {oc7 kV7 dc7 pm7 cd7 ct7 : Value}
  {f9 : Addr} {od9 an9 : Option Addr} {sl9 : Array (Option Value)} {oc9 kV9 dc9 pm9 cd9 ct9 : Value}
  {f11 : Addr} {od11 an11 : Option Addr} {sl11 : Array (Option Value)} {oc11 kV11 dc11 pm11 cd11 ct11 : Value}
  {f12 : Addr} {od12 an12 : Option Addr} {sl12 : Array (Option Value)} {oc12 kV12 dc12 pm12 cd12 ct12 : Value}
  {f13 : Addr} {od13 an13 : Option Addr} {sl13 : Array (Option Value)} {oc13 kV13 dc13 pm13 cd13 ct13 : Value}
  {f14 : Addr} {od14 an14 : Option Addr} {sl14 : Array (Option Value)} {oc14 kV14 dc14 pm14 cd14 ct14 : Value}
  {f15 : Addr} {od15 an15 : Option Addr} {sl15 : Array (Option Value)} {oc15 kV15 dc15 pm15 cd15 ct15 : Value}
  {f16 : Addr} {od16 an16 : Option Addr} {sl16 : Array (Option Value)} {oc16 kV16 dc16 pm16 cd16 ct16 : Value}
  {f17 : Addr} {od17 an17 : Option Addr} {sl17 : Array (Option Value)} {oc17 kV17 dc17 pm17 cd17 ct17 : Value}
  {f19 : Addr} {od19 an19 : Option Addr} {sl19 : Array (Option Value)} {oc19 kV19 dc19 pm19 cd19 ct19 : Value}
  {f20 : Addr} {od20 an20 : Option Addr} {sl20 : Array (Option Value)} {oc20 kV20 dc20 pm20 cd20 ct20 : Value}
  {f21 : Addr} {od21 an21 : Option Addr} {sl21 : Array (Option Value)} {oc21 kV21 dc21 pm21 cd21 ct21 : Value}
  {f22 : Addr} {od22 an22 : Option Addr} {sl22 : Array (Option Value)} {oc22 kV22 dc22 pm22 cd22 ct22 : Value}
  {f23 : Addr} {od23 an23 : Option Addr} {sl23 : Array (Option Value)} {oc23 kV23 dc23 pm23 cd23 ct23 : Value}
  {f24 : Addr} {od24 an24 : Option Addr} {sl24 : Array (Option Value)} {oc24 kV24 dc24 pm24 cd24 ct24 : Value}
  {f25 : Addr} {od25 an25 : Option Addr} {sl25 : Array (Option Value)} {oc25 kV25 dc25 pm25 cd25 ct25 : Value}
  {f26 : Addr} {od26 an26 : Option Addr} {sl26 : Array (Option Value)} {oc26 kV26 dc26 pm26 cd26 ct26 : Value}
  {f27 : Addr} {od27 an27 : Option Addr} {sl27 : Array (Option Value)} {oc27 kV27 dc27 pm27 cd27 ct27 : Value}
  {f28 : Addr} {od28 an28 : Option Addr} {sl28 : Array (Option Value)} {oc28 kV28 dc28 pm28 cd28 ct28 : Value}
  {f29 : Addr} {od29 an29 : Option Addr} {sl29 : Array (Option Value)} {oc29 kV29 dc29 pm29 cd29 ct29 : Value}
  {f30 : Addr} {od30 an30 : Option Addr} {sl30 : Array (Option Value)} {oc30 kV30 dc30 pm30 cd30 ct30 : Value}
  {f31 : Addr} {od31 an31 : Option Addr} {sl31 : Array (Option Value)} {oc31 kV31 dc31 pm31 cd31 ct31 : Value}
  {f32 : Addr} {od32 an32 : Option Addr} {sl32 : Array (Option Value)} {oc32 kV32 dc32 pm32 cd32 ct32 : Value}
  {f33 : Addr} {od33 an33 : Option Addr} {sl33 : Array (Option Value)} {oc33 kV33 dc33 pm33 cd33 ct33 : Value}
  {f34 : Addr} {od34 an34 : Option Addr} {sl34 : Array (Option Value)} {oc34 kV34 dc34 pm34 cd34 ct34 : Value}
  {f35 : Addr} {od35 an35 : Option Addr} {sl35 : Array (Option Value)} {oc35 kV35 dc35 pm35 cd35 ct35 : Value}
  {f36 : Addr} {od36 an36 : Option Addr} {sl36 : Array (Option Value)} {oc36 kV36 dc36 pm36 cd36 ct36 : Value}
  {f37 : Addr} {od37 an37 : Option Addr} {sl37 : Array (Option Value)} {oc37 kV37 dc37 pm37 cd37 ct37 : Value}
  {f38 : Addr} {od38 an38 : Option Addr} {sl38 : Array (Option Value)} {oc38 kV38 dc38 pm38 cd38 ct38 : Value}
  {f39 : Addr} {od39 an39 : Option Addr} {sl39 : Array (Option Value)} {oc39 kV39 dc39 pm39 cd39 ct39 : Value}
  {f40 : Addr} {od40 an40 : Option Addr} {sl40 : Array (Option Value)} {oc40 kV40 dc40 pm40 cd40 ct40 : Value}
  (a4 : PySem.W.nsIn K mainGlobals "does_meet" = some (some (.ref f4))) (l4 : K.lookup f4 = some ⟨oc4, od4, .func (PySem.W.fnOf "does_meet" "does_meet" (defArgs (topS 4)) (defBody (topS 4)) (defScope (topS 4)) .none kV4 dc4 pm4 an4 cd4 ct4), sl4⟩) (c4 : PySem.W.codeIn K cd4 "does_meet" = true) (k4 : PySem.W.keepIn K (.ref f4) = true)
  (a6 : PySem.W.nsIn K mainGlobals "met_by" = some (some (.ref f6))) (l6 : K.lookup f6 = some ⟨oc6, od6, .func (PySem.W.fnOf "met_by" "met_by" (defArgs (topS 6)) (defBody (topS 6)) (defScope (topS 6)) .none kV6 dc6 pm6 an6 cd6 ct6), sl6⟩) (c6 : PySem.W.codeIn K cd6 "met_by" = true) (k6 : PySem.W.keepIn K (.ref f6) = true)
  (a7 : PySem.W.nsIn K mainGlobals "meetings" = some (some (.ref f7))) (l7 : K.lookup f7 = some ⟨oc7, od7, .func (PySem.W.fnOf "meetings" "meetings" (defArgs (topS 7)) (defBody (topS 7)) (defScope (topS 7)) .none kV7 dc7 pm7 an7 cd7 ct7), sl7⟩) (c7 : PySem.W.codeIn K cd7 "meetings" = true) (k7 : PySem.W.keepIn K (.ref f7) = true)
  (a9 : PySem.W.nsIn K mainGlobals "each_once" = some (some (.ref f9))) (l9 : K.lookup f9 = some ⟨oc9, od9, .func (PySem.W.fnOf "each_once" "each_once" (defArgs (topS 9)) (defBody (topS 9)) (defScope (topS 9)) .none kV9 dc9 pm9 an9 cd9 ct9), sl9⟩) (c9 : PySem.W.codeIn K cd9 "each_once" = true) (k9 : PySem.W.keepIn K (.ref f9) = true)
  (a11 : PySem.W.nsIn K mainGlobals "least_terms" = some (some (.ref f11))) (l11 : K.lookup f11 = some ⟨oc11, od11, .func (PySem.W.fnOf "least_terms" "least_terms" (defArgs (topS 11)) (defBody (topS 11)) (defScope (topS 11)) .none kV11 dc11 pm11 an11 cd11 ct11), sl11⟩) (c11 : PySem.W.codeIn K cd11 "least_terms" = true) (k11 : PySem.W.keepIn K (.ref f11) = true)
  (a12 : PySem.W.nsIn K mainGlobals "whole_numbers" = some (some (.ref f12))) (l12 : K.lookup f12 = some ⟨oc12, od12, .func (PySem.W.fnOf "whole_numbers" "whole_numbers" (defArgs (topS 12)) (defBody (topS 12)) (defScope (topS 12)) .none kV12 dc12 pm12 an12 cd12 ct12), sl12⟩) (c12 : PySem.W.codeIn K cd12 "whole_numbers" = true) (k12 : PySem.W.keepIn K (.ref f12) = true)
  (a13 : PySem.W.nsIn K mainGlobals "whole_sums" = some (some (.ref f13))) (l13 : K.lookup f13 = some ⟨oc13, od13, .func (PySem.W.fnOf "whole_sums" "whole_sums" (defArgs (topS 13)) (defBody (topS 13)) (defScope (topS 13)) .none kV13 dc13 pm13 an13 cd13 ct13), sl13⟩) (c13 : PySem.W.codeIn K cd13 "whole_sums" = true) (k13 : PySem.W.keepIn K (.ref f13) = true)
  (a14 : PySem.W.nsIn K mainGlobals "whole_products" = some (some (.ref f14))) (l14 : K.lookup f14 = some ⟨oc14, od14, .func (PySem.W.fnOf "whole_products" "whole_products" (defArgs (topS 14)) (defBody (topS 14)) (defScope (topS 14)) .none kV14 dc14 pm14 an14 cd14 ct14), sl14⟩) (c14 : PySem.W.codeIn K cd14 "whole_products" = true) (k14 : PySem.W.keepIn K (.ref f14) = true)
  (a15 : PySem.W.nsIn K mainGlobals "sums_of" = some (some (.ref f15))) (l15 : K.lookup f15 = some ⟨oc15, od15, .func (PySem.W.fnOf "sums_of" "sums_of" (defArgs (topS 15)) (defBody (topS 15)) (defScope (topS 15)) .none kV15 dc15 pm15 an15 cd15 ct15), sl15⟩) (c15 : PySem.W.codeIn K cd15 "sums_of" = true) (k15 : PySem.W.keepIn K (.ref f15) = true)
  (a16 : PySem.W.nsIn K mainGlobals "products_of" = some (some (.ref f16))) (l16 : K.lookup f16 = some ⟨oc16, od16, .func (PySem.W.fnOf "products_of" "products_of" (defArgs (topS 16)) (defBody (topS 16)) (defScope (topS 16)) .none kV16 dc16 pm16 an16 cd16 ct16), sl16⟩) (c16 : PySem.W.codeIn K cd16 "products_of" = true) (k16 : PySem.W.keepIn K (.ref f16) = true)
  (a17 : PySem.W.nsIn K mainGlobals "sums_meetings" = some (some (.ref f17))) (l17 : K.lookup f17 = some ⟨oc17, od17, .func (PySem.W.fnOf "sums_meetings" "sums_meetings" (defArgs (topS 17)) (defBody (topS 17)) (defScope (topS 17)) .none kV17 dc17 pm17 an17 cd17 ct17), sl17⟩) (c17 : PySem.W.codeIn K cd17 "sums_meetings" = true) (k17 : PySem.W.keepIn K (.ref f17) = true)
  (a19 : PySem.W.nsIn K mainGlobals "_law_own_bag" = some (some (.ref f19))) (l19 : K.lookup f19 = some ⟨oc19, od19, .func (PySem.W.fnOf "_law_own_bag" "_law_own_bag" (defArgs (topS 19)) (defBody (topS 19)) (defScope (topS 19)) .none kV19 dc19 pm19 an19 cd19 ct19), sl19⟩) (c19 : PySem.W.codeIn K cd19 "_law_own_bag" = true) (k19 : PySem.W.keepIn K (.ref f19) = true)
  (a20 : PySem.W.nsIn K mainGlobals "_law_draw" = some (some (.ref f20))) (l20 : K.lookup f20 = some ⟨oc20, od20, .func (PySem.W.fnOf "_law_draw" "_law_draw" (defArgs (topS 20)) (defBody (topS 20)) (defScope (topS 20)) .none kV20 dc20 pm20 an20 cd20 ct20), sl20⟩) (c20 : PySem.W.codeIn K cd20 "_law_draw" = true) (k20 : PySem.W.keepIn K (.ref f20) = true)
  (a21 : PySem.W.nsIn K mainGlobals "_law_pick" = some (some (.ref f21))) (l21 : K.lookup f21 = some ⟨oc21, od21, .func (PySem.W.fnOf "_law_pick" "_law_pick" (defArgs (topS 21)) (defBody (topS 21)) (defScope (topS 21)) .none kV21 dc21 pm21 an21 cd21 ct21), sl21⟩) (c21 : PySem.W.codeIn K cd21 "_law_pick" = true) (k21 : PySem.W.keepIn K (.ref f21) = true)
  (a22 : PySem.W.nsIn K mainGlobals "_law_over" = some (some (.ref f22))) (l22 : K.lookup f22 = some ⟨oc22, od22, .func (PySem.W.fnOf "_law_over" "_law_over" (defArgs (topS 22)) (defBody (topS 22)) (defScope (topS 22)) .none kV22 dc22 pm22 an22 cd22 ct22), sl22⟩) (c22 : PySem.W.codeIn K cd22 "_law_over" = true) (k22 : PySem.W.keepIn K (.ref f22) = true)
  (a23 : PySem.W.nsIn K mainGlobals "_law_is_number" = some (some (.ref f23))) (l23 : K.lookup f23 = some ⟨oc23, od23, .func (PySem.W.fnOf "_law_is_number" "_law_is_number" (defArgs (topS 23)) (defBody (topS 23)) (defScope (topS 23)) .none kV23 dc23 pm23 an23 cd23 ct23), sl23⟩) (c23 : PySem.W.codeIn K cd23 "_law_is_number" = true) (k23 : PySem.W.keepIn K (.ref f23) = true)
  (a24 : PySem.W.nsIn K mainGlobals "_law_is_row" = some (some (.ref f24))) (l24 : K.lookup f24 = some ⟨oc24, od24, .func (PySem.W.fnOf "_law_is_row" "_law_is_row" (defArgs (topS 24)) (defBody (topS 24)) (defScope (topS 24)) .none kV24 dc24 pm24 an24 cd24 ct24), sl24⟩) (c24 : PySem.W.codeIn K cd24 "_law_is_row" = true) (k24 : PySem.W.keepIn K (.ref f24) = true)
  (a25 : PySem.W.nsIn K mainGlobals "_law_some" = some (some (.ref f25))) (l25 : K.lookup f25 = some ⟨oc25, od25, .func (PySem.W.fnOf "_law_some" "_law_some" (defArgs (topS 25)) (defBody (topS 25)) (defScope (topS 25)) .none kV25 dc25 pm25 an25 cd25 ct25), sl25⟩) (c25 : PySem.W.codeIn K cd25 "_law_some" = true) (k25 : PySem.W.keepIn K (.ref f25) = true)
  (a26 : PySem.W.nsIn K mainGlobals "_law_steps" = some (some (.ref f26))) (l26 : K.lookup f26 = some ⟨oc26, od26, .func (PySem.W.fnOf "_law_steps" "_law_steps" (defArgs (topS 26)) (defBody (topS 26)) (defScope (topS 26)) .none kV26 dc26 pm26 an26 cd26 ct26), sl26⟩) (c26 : PySem.W.codeIn K cd26 "_law_steps" = true) (k26 : PySem.W.keepIn K (.ref f26) = true)
  (a27 : PySem.W.nsIn K mainGlobals "_law_about" = some (some (.ref f27))) (l27 : K.lookup f27 = some ⟨oc27, od27, .func (PySem.W.fnOf "_law_about" "_law_about" (defArgs (topS 27)) (defBody (topS 27)) (defScope (topS 27)) .none kV27 dc27 pm27 an27 cd27 ct27), sl27⟩) (c27 : PySem.W.codeIn K cd27 "_law_about" = true) (k27 : PySem.W.keepIn K (.ref f27) = true)
  (a28 : PySem.W.nsIn K mainGlobals "_law_ratio" = some (some (.ref f28))) (l28 : K.lookup f28 = some ⟨oc28, od28, .func (PySem.W.fnOf "_law_ratio" "_law_ratio" (defArgs (topS 28)) (defBody (topS 28)) (defScope (topS 28)) .none kV28 dc28 pm28 an28 cd28 ct28), sl28⟩) (c28 : PySem.W.codeIn K cd28 "_law_ratio" = true) (k28 : PySem.W.keepIn K (.ref f28) = true)
  (a29 : PySem.W.nsIn K mainGlobals "_law_own_numbers" = some (some (.ref f29))) (l29 : K.lookup f29 = some ⟨oc29, od29, .func (PySem.W.fnOf "_law_own_numbers" "_law_own_numbers" (defArgs (topS 29)) (defBody (topS 29)) (defScope (topS 29)) .none kV29 dc29 pm29 an29 cd29 ct29), sl29⟩) (c29 : PySem.W.codeIn K cd29 "_law_own_numbers" = true) (k29 : PySem.W.keepIn K (.ref f29) = true)
  (a30 : PySem.W.nsIn K mainGlobals "_law_great_numbers" = some (some (.ref f30))) (l30 : K.lookup f30 = some ⟨oc30, od30, .func (PySem.W.fnOf "_law_great_numbers" "_law_great_numbers" (defArgs (topS 30)) (defBody (topS 30)) (defScope (topS 30)) .none kV30 dc30 pm30 an30 cd30 ct30), sl30⟩) (c30 : PySem.W.codeIn K cd30 "_law_great_numbers" = true) (k30 : PySem.W.keepIn K (.ref f30) = true)
  (a31 : PySem.W.nsIn K mainGlobals "_law_sums" = some (some (.ref f31))) (l31 : K.lookup f31 = some ⟨oc31, od31, .func (PySem.W.fnOf "_law_sums" "_law_sums" (defArgs (topS 31)) (defBody (topS 31)) (defScope (topS 31)) .none kV31 dc31 pm31 an31 cd31 ct31), sl31⟩) (c31 : PySem.W.codeIn K cd31 "_law_sums" = true) (k31 : PySem.W.keepIn K (.ref f31) = true)
  (a32 : PySem.W.nsIn K mainGlobals "_law_products" = some (some (.ref f32))) (l32 : K.lookup f32 = some ⟨oc32, od32, .func (PySem.W.fnOf "_law_products" "_law_products" (defArgs (topS 32)) (defBody (topS 32)) (defScope (topS 32)) .none kV32 dc32 pm32 an32 cd32 ct32), sl32⟩) (c32 : PySem.W.codeIn K cd32 "_law_products" = true) (k32 : PySem.W.keepIn K (.ref f32) = true)
  (a33 : PySem.W.nsIn K mainGlobals "_law_count" = some (some (.ref f33))) (l33 : K.lookup f33 = some ⟨oc33, od33, .func (PySem.W.fnOf "_law_count" "_law_count" (defArgs (topS 33)) (defBody (topS 33)) (defScope (topS 33)) .none kV33 dc33 pm33 an33 cd33 ct33), sl33⟩) (c33 : PySem.W.codeIn K cd33 "_law_count" = true) (k33 : PySem.W.keepIn K (.ref f33) = true)
  (a34 : PySem.W.nsIn K mainGlobals "_law_are_counts_right" = some (some (.ref f34))) (l34 : K.lookup f34 = some ⟨oc34, od34, .func (PySem.W.fnOf "_law_are_counts_right" "_law_are_counts_right" (defArgs (topS 34)) (defBody (topS 34)) (defScope (topS 34)) .none kV34 dc34 pm34 an34 cd34 ct34), sl34⟩) (c34 : PySem.W.codeIn K cd34 "_law_are_counts_right" = true) (k34 : PySem.W.keepIn K (.ref f34) = true)
  (a35 : PySem.W.nsIn K mainGlobals "_law_lines" = some (some (.ref f35))) (l35 : K.lookup f35 = some ⟨oc35, od35, .func (PySem.W.fnOf "_law_lines" "_law_lines" (defArgs (topS 35)) (defBody (topS 35)) (defScope (topS 35)) .none kV35 dc35 pm35 an35 cd35 ct35), sl35⟩) (c35 : PySem.W.codeIn K cd35 "_law_lines" = true) (k35 : PySem.W.keepIn K (.ref f35) = true)
  (a36 : PySem.W.nsIn K mainGlobals "_law_lots" = some (some (.ref f36))) (l36 : K.lookup f36 = some ⟨oc36, od36, .func (PySem.W.fnOf "_law_lots" "_law_lots" (defArgs (topS 36)) (defBody (topS 36)) (defScope (topS 36)) .none kV36 dc36 pm36 an36 cd36 ct36), sl36⟩) (c36 : PySem.W.codeIn K cd36 "_law_lots" = true) (k36 : PySem.W.keepIn K (.ref f36) = true)
  (a37 : PySem.W.nsIn K mainGlobals "_law_own_meet" = some (some (.ref f37))) (l37 : K.lookup f37 = some ⟨oc37, od37, .func (PySem.W.fnOf "_law_own_meet" "_law_own_meet" (defArgs (topS 37)) (defBody (topS 37)) (defScope (topS 37)) .none kV37 dc37 pm37 an37 cd37 ct37), sl37⟩) (c37 : PySem.W.codeIn K cd37 "_law_own_meet" = true) (k37 : PySem.W.keepIn K (.ref f37) = true)
  (a38 : PySem.W.nsIn K mainGlobals "_law_are_meetings_right" = some (some (.ref f38))) (l38 : K.lookup f38 = some ⟨oc38, od38, .func (PySem.W.fnOf "_law_are_meetings_right" "_law_are_meetings_right" (defArgs (topS 38)) (defBody (topS 38)) (defScope (topS 38)) .none kV38 dc38 pm38 an38 cd38 ct38), sl38⟩) (c38 : PySem.W.codeIn K cd38 "_law_are_meetings_right" = true) (k38 : PySem.W.keepIn K (.ref f38) = true)
  (a39 : PySem.W.nsIn K mainGlobals "_law_all" = some (some (.ref f39))) (l39 : K.lookup f39 = some ⟨oc39, od39, .func (PySem.W.fnOf "_law_all" "_law_all" (defArgs (topS 39)) (defBody (topS 39)) (defScope (topS 39)) .none kV39 dc39 pm39 an39 cd39 ct39), sl39⟩) (c39 : PySem.W.codeIn K cd39 "_law_all" = true) (k39 : PySem.W.keepIn K (.ref f39) = true)
  (a40 : PySem.W.nsIn K mainGlobals "law" = some (some (.ref f40))) (l40 : K.lookup f40 = some ⟨oc40, od40, .func (PySem.W.fnOf "law" "law" (defArgs (topS 40)) (defBody (topS 40)) (defScope (topS 40)) .none kV40 dc40 pm40 an40 cd40 ct40), sl40⟩) (c40 : PySem.W.codeIn K cd40 "law" = true) (k40 : PySem.W.keepIn K (.ref f40) = true)
  (zm_gcd : PySem.W.nsIn K mainGlobals "gcd" = some (some (.builtin "math.gcd")))
  (zm_lcm : PySem.W.nsIn K mainGlobals "lcm" = some (some (.builtin "math.lcm")))
  (z_abs : PySem.W.nsIn K mainGlobals "abs" = some none)
  (z_bool : PySem.W.nsIn K mainGlobals "bool" = some none)
  (z_dict : PySem.W.nsIn K mainGlobals "dict" = some none)
  (z_enumerate : PySem.W.nsIn K mainGlobals "enumerate" = some none)
  (z_int : PySem.W.nsIn K mainGlobals "int" = some none)
  (z_isinstance : PySem.W.nsIn K mainGlobals "isinstance" = some none)
  (z_len : PySem.W.nsIn K mainGlobals "len" = some none)
  (z_list : PySem.W.nsIn K mainGlobals "list" = some none)
  (z_max : PySem.W.nsIn K mainGlobals "max" = some none)
  (z_range : PySem.W.nsIn K mainGlobals "range" = some none)
  (z_reversed : PySem.W.nsIn K mainGlobals "reversed" = some none)
  (z_sorted : PySem.W.nsIn K mainGlobals "sorted" = some none)
  (z_sum : PySem.W.nsIn K mainGlobals "sum" = some none)
  (z_tuple : PySem.W.nsIn K mainGlobals "tuple" = some none)
  (z_zip : PySem.W.nsIn K mainGlobals "zip" = some none) :
  ∃ fd : FuncData, (∀ (s : Shared) (v : Value), BindsTo s fd ⟨[v], []⟩ [("script", v)]) ∧ ∀ base : Heap, K.In base → base.Ns mainGlobals mg → FnOk l.prog w K mg base CX0 6 fa fd ["script"] (spF K false 1 phi_law) := by
  have e := hfa.symm.trans (PySem.W.mg_of X G a40)
  cases e
  refine ⟨_, fun s v => ?_, fun base _ _ => (ok_law (A := ⟨fun i => if i = 4 then f4 else if i = 6 then f6 else if i = 7 then f7 else if i = 9 then f9 else if i = 11 then f11 else if i = 12 then f12 else if i = 13 then f13 else if i = 14 then f14 else if i = 15 then f15 else if i = 16 then f16 else if i = 17 then f17 else if i = 19 then f19 else if i = 20 then f20 else if i = 21 then f21 else if i = 22 then f22 else if i = 23 then f23 else if i = 24 then f24 else if i = 25 then f25 else if i = 26 then f26 else if i = 27 then f27 else if i = 28 then f28 else if i = 29 then f29 else if i = 30 then f30 else if i = 31 then f31 else if i = 32 then f32 else if i = 33 then f33 else if i = 34 then f34 else if i = 35 then f35 else if i = 36 then f36 else if i = 37 then f37 else if i = 38 then f38 else if i = 39 then f39 else if i = 40 then fa else 0, fun i => if i = 4 then PySem.W.fnOf "does_meet" "does_meet" (defArgs (topS 4)) (defBody (topS 4)) (defScope (topS 4)) .none kV4 dc4 pm4 an4 cd4 ct4 else if i = 6 then PySem.W.fnOf "met_by" "met_by" (defArgs (topS 6)) (defBody (topS 6)) (defScope (topS 6)) .none kV6 dc6 pm6 an6 cd6 ct6 else if i = 7 then PySem.W.fnOf "meetings" "meetings" (defArgs (topS 7)) (defBody (topS 7)) (defScope (topS 7)) .none kV7 dc7 pm7 an7 cd7 ct7 else if i = 9 then PySem.W.fnOf "each_once" "each_once" (defArgs (topS 9)) (defBody (topS 9)) (defScope (topS 9)) .none kV9 dc9 pm9 an9 cd9 ct9 else if i = 11 then PySem.W.fnOf "least_terms" "least_terms" (defArgs (topS 11)) (defBody (topS 11)) (defScope (topS 11)) .none kV11 dc11 pm11 an11 cd11 ct11 else if i = 12 then PySem.W.fnOf "whole_numbers" "whole_numbers" (defArgs (topS 12)) (defBody (topS 12)) (defScope (topS 12)) .none kV12 dc12 pm12 an12 cd12 ct12 else if i = 13 then PySem.W.fnOf "whole_sums" "whole_sums" (defArgs (topS 13)) (defBody (topS 13)) (defScope (topS 13)) .none kV13 dc13 pm13 an13 cd13 ct13 else if i = 14 then PySem.W.fnOf "whole_products" "whole_products" (defArgs (topS 14)) (defBody (topS 14)) (defScope (topS 14)) .none kV14 dc14 pm14 an14 cd14 ct14 else if i = 15 then PySem.W.fnOf "sums_of" "sums_of" (defArgs (topS 15)) (defBody (topS 15)) (defScope (topS 15)) .none kV15 dc15 pm15 an15 cd15 ct15 else if i = 16 then PySem.W.fnOf "products_of" "products_of" (defArgs (topS 16)) (defBody (topS 16)) (defScope (topS 16)) .none kV16 dc16 pm16 an16 cd16 ct16 else if i = 17 then PySem.W.fnOf "sums_meetings" "sums_meetings" (defArgs (topS 17)) (defBody (topS 17)) (defScope (topS 17)) .none kV17 dc17 pm17 an17 cd17 ct17 else if i = 19 then PySem.W.fnOf "_law_own_bag" "_law_own_bag" (defArgs (topS 19)) (defBody (topS 19)) (defScope (topS 19)) .none kV19 dc19 pm19 an19 cd19 ct19 else if i = 20 then PySem.W.fnOf "_law_draw" "_law_draw" (defArgs (topS 20)) (defBody (topS 20)) (defScope (topS 20)) .none kV20 dc20 pm20 an20 cd20 ct20 else if i = 21 then PySem.W.fnOf "_law_pick" "_law_pick" (defArgs (topS 21)) (defBody (topS 21)) (defScope (topS 21)) .none kV21 dc21 pm21 an21 cd21 ct21 else if i = 22 then PySem.W.fnOf "_law_over" "_law_over" (defArgs (topS 22)) (defBody (topS 22)) (defScope (topS 22)) .none kV22 dc22 pm22 an22 cd22 ct22 else if i = 23 then PySem.W.fnOf "_law_is_number" "_law_is_number" (defArgs (topS 23)) (defBody (topS 23)) (defScope (topS 23)) .none kV23 dc23 pm23 an23 cd23 ct23 else if i = 24 then PySem.W.fnOf "_law_is_row" "_law_is_row" (defArgs (topS 24)) (defBody (topS 24)) (defScope (topS 24)) .none kV24 dc24 pm24 an24 cd24 ct24 else if i = 25 then PySem.W.fnOf "_law_some" "_law_some" (defArgs (topS 25)) (defBody (topS 25)) (defScope (topS 25)) .none kV25 dc25 pm25 an25 cd25 ct25 else if i = 26 then PySem.W.fnOf "_law_steps" "_law_steps" (defArgs (topS 26)) (defBody (topS 26)) (defScope (topS 26)) .none kV26 dc26 pm26 an26 cd26 ct26 else if i = 27 then PySem.W.fnOf "_law_about" "_law_about" (defArgs (topS 27)) (defBody (topS 27)) (defScope (topS 27)) .none kV27 dc27 pm27 an27 cd27 ct27 else if i = 28 then PySem.W.fnOf "_law_ratio" "_law_ratio" (defArgs (topS 28)) (defBody (topS 28)) (defScope (topS 28)) .none kV28 dc28 pm28 an28 cd28 ct28 else if i = 29 then PySem.W.fnOf "_law_own_numbers" "_law_own_numbers" (defArgs (topS 29)) (defBody (topS 29)) (defScope (topS 29)) .none kV29 dc29 pm29 an29 cd29 ct29 else if i = 30 then PySem.W.fnOf "_law_great_numbers" "_law_great_numbers" (defArgs (topS 30)) (defBody (topS 30)) (defScope (topS 30)) .none kV30 dc30 pm30 an30 cd30 ct30 else if i = 31 then PySem.W.fnOf "_law_sums" "_law_sums" (defArgs (topS 31)) (defBody (topS 31)) (defScope (topS 31)) .none kV31 dc31 pm31 an31 cd31 ct31 else if i = 32 then PySem.W.fnOf "_law_products" "_law_products" (defArgs (topS 32)) (defBody (topS 32)) (defScope (topS 32)) .none kV32 dc32 pm32 an32 cd32 ct32 else if i = 33 then PySem.W.fnOf "_law_count" "_law_count" (defArgs (topS 33)) (defBody (topS 33)) (defScope (topS 33)) .none kV33 dc33 pm33 an33 cd33 ct33 else if i = 34 then PySem.W.fnOf "_law_are_counts_right" "_law_are_counts_right" (defArgs (topS 34)) (defBody (topS 34)) (defScope (topS 34)) .none kV34 dc34 pm34 an34 cd34 ct34 else if i = 35 then PySem.W.fnOf "_law_lines" "_law_lines" (defArgs (topS 35)) (defBody (topS 35)) (defScope (topS 35)) .none kV35 dc35 pm35 an35 cd35 ct35 else if i = 36 then PySem.W.fnOf "_law_lots" "_law_lots" (defArgs (topS 36)) (defBody (topS 36)) (defScope (topS 36)) .none kV36 dc36 pm36 an36 cd36 ct36 else if i = 37 then PySem.W.fnOf "_law_own_meet" "_law_own_meet" (defArgs (topS 37)) (defBody (topS 37)) (defScope (topS 37)) .none kV37 dc37 pm37 an37 cd37 ct37 else if i = 38 then PySem.W.fnOf "_law_are_meetings_right" "_law_are_meetings_right" (defArgs (topS 38)) (defBody (topS 38)) (defScope (topS 38)) .none kV38 dc38 pm38 an38 cd38 ct38 else if i = 39 then PySem.W.fnOf "_law_all" "_law_all" (defArgs (topS 39)) (defBody (topS 39)) (defScope (topS 39)) .none kV39 dc39 pm39 an39 cd39 ct39 else if i = 40 then PySem.W.fnOf "law" "law" (defArgs (topS 40)) (defBody (topS 40)) (defScope (topS 40)) .none kV40 dc40 pm40 an40 cd40 ct40 else PySem.W.fnOf "law" "law" (defArgs (topS 40)) (defBody (topS 40)) (defScope (topS 40)) .none kV40 dc40 pm40 an40 cd40 ct40⟩) ?_).ok⟩
  · exact .of_eq rfl
  · exact {
      f_does_meet := fun_mk (st := topS 4) l4 c4 k4
      m_does_meet := PySem.W.mg_of X G a4
      f_met_by := fun_mk (st := topS 6) l6 c6 k6
      m_met_by := PySem.W.mg_of X G a6
      f_meetings := fun_mk (st := topS 7) l7 c7 k7
      m_meetings := PySem.W.mg_of X G a7
      f_each_once := fun_mk (st := topS 9) l9 c9 k9
      m_each_once := PySem.W.mg_of X G a9
      f_least_terms := fun_mk (st := topS 11) l11 c11 k11
      m_least_terms := PySem.W.mg_of X G a11
      f_whole_numbers := fun_mk (st := topS 12) l12 c12 k12
      m_whole_numbers := PySem.W.mg_of X G a12
      f_whole_sums := fun_mk (st := topS 13) l13 c13 k13
      m_whole_sums := PySem.W.mg_of X G a13
      f_whole_products := fun_mk (st := topS 14) l14 c14 k14
      m_whole_products := PySem.W.mg_of X G a14
      f_sums_of := fun_mk (st := topS 15) l15 c15 k15
      m_sums_of := PySem.W.mg_of X G a15
      f_products_of := fun_mk (st := topS 16) l16 c16 k16
      m_products_of := PySem.W.mg_of X G a16
      f_sums_meetings := fun_mk (st := topS 17) l17 c17 k17
      m_sums_meetings := PySem.W.mg_of X G a17
      f__law_own_bag := fun_mk (st := topS 19) l19 c19 k19
      m__law_own_bag := PySem.W.mg_of X G a19
      f__law_draw := fun_mk (st := topS 20) l20 c20 k20
      m__law_draw := PySem.W.mg_of X G a20
      f__law_pick := fun_mk (st := topS 21) l21 c21 k21
      m__law_pick := PySem.W.mg_of X G a21
      f__law_over := fun_mk (st := topS 22) l22 c22 k22
      m__law_over := PySem.W.mg_of X G a22
      f__law_is_number := fun_mk (st := topS 23) l23 c23 k23
      m__law_is_number := PySem.W.mg_of X G a23
      f__law_is_row := fun_mk (st := topS 24) l24 c24 k24
      m__law_is_row := PySem.W.mg_of X G a24
      f__law_some := fun_mk (st := topS 25) l25 c25 k25
      m__law_some := PySem.W.mg_of X G a25
      f__law_steps := fun_mk (st := topS 26) l26 c26 k26
      m__law_steps := PySem.W.mg_of X G a26
      f__law_about := fun_mk (st := topS 27) l27 c27 k27
      m__law_about := PySem.W.mg_of X G a27
      f__law_ratio := fun_mk (st := topS 28) l28 c28 k28
      m__law_ratio := PySem.W.mg_of X G a28
      f__law_own_numbers := fun_mk (st := topS 29) l29 c29 k29
      m__law_own_numbers := PySem.W.mg_of X G a29
      f__law_great_numbers := fun_mk (st := topS 30) l30 c30 k30
      m__law_great_numbers := PySem.W.mg_of X G a30
      f__law_sums := fun_mk (st := topS 31) l31 c31 k31
      m__law_sums := PySem.W.mg_of X G a31
      f__law_products := fun_mk (st := topS 32) l32 c32 k32
      m__law_products := PySem.W.mg_of X G a32
      f__law_count := fun_mk (st := topS 33) l33 c33 k33
      m__law_count := PySem.W.mg_of X G a33
      f__law_are_counts_right := fun_mk (st := topS 34) l34 c34 k34
      m__law_are_counts_right := PySem.W.mg_of X G a34
      f__law_lines := fun_mk (st := topS 35) l35 c35 k35
      m__law_lines := PySem.W.mg_of X G a35
      f__law_lots := fun_mk (st := topS 36) l36 c36 k36
      m__law_lots := PySem.W.mg_of X G a36
      f__law_own_meet := fun_mk (st := topS 37) l37 c37 k37
      m__law_own_meet := PySem.W.mg_of X G a37
      f__law_are_meetings_right := fun_mk (st := topS 38) l38 c38 k38
      m__law_are_meetings_right := PySem.W.mg_of X G a38
      f__law_all := fun_mk (st := topS 39) l39 c39 k39
      m__law_all := PySem.W.mg_of X G a39
      f_law := fun_mk (st := topS 40) l40 c40 k40
      m_law := PySem.W.mg_of X G a40
      m_gcd := PySem.W.mg_of X G zm_gcd
      m_lcm := PySem.W.mg_of X G zm_lcm
      b_abs := PySem.W.mg_none_of X G z_abs
      b_bool := PySem.W.mg_none_of X G z_bool
      b_dict := PySem.W.mg_none_of X G z_dict
      b_enumerate := PySem.W.mg_none_of X G z_enumerate
      b_int := PySem.W.mg_none_of X G z_int
      b_isinstance := PySem.W.mg_none_of X G z_isinstance
      b_len := PySem.W.mg_none_of X G z_len
      b_list := PySem.W.mg_none_of X G z_list
      b_max := PySem.W.mg_none_of X G z_max
      b_range := PySem.W.mg_none_of X G z_range
      b_reversed := PySem.W.mg_none_of X G z_reversed
      b_sorted := PySem.W.mg_none_of X G z_sorted
      b_sum := PySem.W.mg_none_of X G z_sum
      b_tuple := PySem.W.mg_none_of X G z_tuple
      b_zip := PySem.W.mg_none_of X G z_zip
    }
theorem walk {l : PySem.W.OpenLaw} {q : Program} {loose : List Str} {XP : (Str → Option Value) → Heap → Prop} {YP : World → Heap → Prop} {d : DefRec} {K : Params → PySem.W.Frag} (hn : l.most = some 63) (hdf : d.params.defaults = [])
    (hlaw : ∀ ns : List Int, ns.length ≤ 63 → (∀ z ∈ ns, Builtin.Int.intBits z ≤ 1048576) → ∃ W, phi_law [.scr ns] none = some (.bl true, W)) (hY : ∀ (w : World) (h : Heap), YP w h → (K w.params).In h)
    (F : ∀ (w : World) (mg : Str → Option Value) (fa : Addr) (h : Heap), (K w.params).In h → h.Ns mainGlobals mg → mg d.name = some (.ref fa) →
      ∃ fd : FuncData, (∀ (s : Shared) (u : Value), BindsTo s fd ⟨[u], []⟩ [("script", u)]) ∧ ∀ base : Heap, (K w.params).In base → base.Ns mainGlobals mg → FnOk l.prog w (K w.params) mg base CX0 6 fa fd ["script"] (spF (K w.params) false 1 phi_law)) :
    PySem.W.WalkO q loose XP YP l.row.toRowW d [] (fun f vs => PySem.call f vs) :=
  L2.walk_ofB (n := 63) (k := 6) (x := "script") (CX := fun _ => CX0) (sp := fun w => spF (K w.params) false 1 phi_law) hn (by decide) hdf ⟨rfl, by decide, by decide⟩ hY F (fun w H a ns hl hb _ hS => spF_start hS (hlaw ns hl hb)) fun _ _ _ _ _ z => z
end Lw
open PySem PySem.W PyProof.Rows
set_option maxRecDepth 100000 in
set_option maxHeartbeats 0 in
theorem PySem.Challenge.cw_howoftenmet_k77_whole_sums_as_meetings_holds : PySem.Challenge.rw_howoftenmet_k77_whole_sums_as_meetings.Holds := by
  w_on; o_law; k_head; (case hw => w_witness2)
  k_fill
  refine Lw.walk (l := PySem.Challenge.rw_howoftenmet_k77_whole_sums_as_meetings) rfl rfl Lw.law_true (fun w h Y => PySem.W.kIn_of Y) ?F
  case F =>
    intro w mg fa h KX G hmg
    refine' Lw.all_mk KX G hmg ?a4 ?l4 ?c4 ?k4 ?a6 ?l6 ?c6 ?k6 ?a7 ?l7 ?c7 ?k7 ?a9 ?l9 ?c9 ?k9 ?a11 ?l11 ?c11 ?k11 ?a12 ?l12 ?c12 ?k12 ?a13 ?l13 ?c13 ?k13 ?a14 ?l14 ?c14 ?k14 ?a15 ?l15 ?c15 ?k15 ?a16 ?l16 ?c16 ?k16 ?a17 ?l17 ?c17 ?k17 ?a19 ?l19 ?c19 ?k19 ?a20 ?l20 ?c20 ?k20 ?a21 ?l21 ?c21 ?k21 ?a22 ?l22 ?c22 ?k22 ?a23 ?l23 ?c23 ?k23 ?a24 ?l24 ?c24 ?k24 ?a25 ?l25 ?c25 ?k25 ?a26 ?l26 ?c26 ?k26 ?a27 ?l27 ?c27 ?k27 ?a28 ?l28 ?c28 ?k28 ?a29 ?l29 ?c29 ?k29 ?a30 ?l30 ?c30 ?k30 ?a31 ?l31 ?c31 ?k31 ?a32 ?l32 ?c32 ?k32 ?a33 ?l33 ?c33 ?k33 ?a34 ?l34 ?c34 ?k34 ?a35 ?l35 ?c35 ?k35 ?a36 ?l36 ?c36 ?k36 ?a37 ?l37 ?c37 ?k37 ?a38 ?l38 ?c38 ?k38 ?a39 ?l39 ?c39 ?k39 ?a40 ?l40 ?c40 ?k40 ?zm_gcd ?zm_lcm ?z_abs ?z_bool ?z_dict ?z_enumerate ?z_int ?z_isinstance ?z_len ?z_list ?z_max ?z_range ?z_reversed ?z_sorted ?z_sum ?z_tuple ?z_zip
    (case a4 => k_is)
    (case l4 => k_is)
    (case c4 => k_is)
    (case k4 => k_is)
    (case a6 => k_is)
    (case l6 => k_is)
    (case c6 => k_is)
    (case k6 => k_is)
    (case a7 => k_is)
    (case l7 => k_is)
    (case c7 => k_is)
    (case k7 => k_is)
    (case a9 => k_is)
    (case l9 => k_is)
    (case c9 => k_is)
    (case k9 => k_is)
    (case a11 => k_is)
    (case l11 => k_is)
    (case c11 => k_is)
    (case k11 => k_is)
    (case a12 => k_is)
    (case l12 => k_is)
    (case c12 => k_is)
    (case k12 => k_is)
    (case a13 => k_is)
    (case l13 => k_is)
    (case c13 => k_is)
    (case k13 => k_is)
    (case a14 => k_is)
    (case l14 => k_is)
    (case c14 => k_is)
    (case k14 => k_is)
    (case a15 => k_is)
    (case l15 => k_is)
    (case c15 => k_is)
    (case k15 => k_is)
    (case a16 => k_is)
    (case l16 => k_is)
    (case c16 => k_is)
    (case k16 => k_is)
    (case a17 => k_is)
    (case l17 => k_is)
    (case c17 => k_is)
    (case k17 => k_is)
    (case a19 => k_is)
    (case l19 => k_is)
    (case c19 => k_is)
    (case k19 => k_is)
    (case a20 => k_is)
    (case l20 => k_is)
    (case c20 => k_is)
    (case k20 => k_is)
    (case a21 => k_is)
    (case l21 => k_is)
    (case c21 => k_is)
    (case k21 => k_is)
    (case a22 => k_is)
    (case l22 => k_is)
    (case c22 => k_is)
    (case k22 => k_is)
    (case a23 => k_is)
    (case l23 => k_is)
    (case c23 => k_is)
    (case k23 => k_is)
    (case a24 => k_is)
    (case l24 => k_is)
    (case c24 => k_is)
    (case k24 => k_is)
    (case a25 => k_is)
    (case l25 => k_is)
    (case c25 => k_is)
    (case k25 => k_is)
    (case a26 => k_is)
    (case l26 => k_is)
    (case c26 => k_is)
    (case k26 => k_is)
    (case a27 => k_is)
    (case l27 => k_is)
    (case c27 => k_is)
    (case k27 => k_is)
    (case a28 => k_is)
    (case l28 => k_is)
    (case c28 => k_is)
    (case k28 => k_is)
    (case a29 => k_is)
    (case l29 => k_is)
    (case c29 => k_is)
    (case k29 => k_is)
    (case a30 => k_is)
    (case l30 => k_is)
    (case c30 => k_is)
    (case k30 => k_is)
    (case a31 => k_is)
    (case l31 => k_is)
    (case c31 => k_is)
    (case k31 => k_is)
    (case a32 => k_is)
    (case l32 => k_is)
    (case c32 => k_is)
    (case k32 => k_is)
    (case a33 => k_is)
    (case l33 => k_is)
    (case c33 => k_is)
    (case k33 => k_is)
    (case a34 => k_is)
    (case l34 => k_is)
    (case c34 => k_is)
    (case k34 => k_is)
    (case a35 => k_is)
    (case l35 => k_is)
    (case c35 => k_is)
    (case k35 => k_is)
    (case a36 => k_is)
    (case l36 => k_is)
    (case c36 => k_is)
    (case k36 => k_is)
    (case a37 => k_is)
    (case l37 => k_is)
    (case c37 => k_is)
    (case k37 => k_is)
    (case a38 => k_is)
    (case l38 => k_is)
    (case c38 => k_is)
    (case k38 => k_is)
    (case a39 => k_is)
    (case l39 => k_is)
    (case c39 => k_is)
    (case k39 => k_is)
    (case a40 => k_is)
    (case l40 => k_is)
    (case c40 => k_is)
    (case k40 => k_is)
    (case zm_gcd => k_is)
    (case zm_lcm => k_is)
    (case z_abs => k_is)
    (case z_bool => k_is)
    (case z_dict => k_is)
    (case z_enumerate => k_is)
    (case z_int => k_is)
    (case z_isinstance => k_is)
    (case z_len => k_is)
    (case z_list => k_is)
    (case z_max => k_is)
    (case z_range => k_is)
    (case z_reversed => k_is)
    (case z_sorted => k_is)
    (case z_sum => k_is)
    (case z_tuple => k_is)
    (case z_zip => k_is)
